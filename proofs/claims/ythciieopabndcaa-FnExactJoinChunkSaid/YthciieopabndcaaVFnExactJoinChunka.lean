/- Walks: what the functions compute. Printed by gen.py; no condition. -/
import Derived.Test.YthciieopabndcaaProg
import Derived.Test.YthciieopabndcaaSB
namespace Go.Proofs.Ythciieopabndcaa.K
open Go Go.RowKit
set_option linter.unusedVariables false
set_option linter.unusedSimpArgs false
structure S64 where
  f0 : Int
  f1 : Int
  f2 : Int
def z64 : S64 := ⟨0, 0, 0⟩
def k64 : Kd S64 := .iso (fun p => ⟨p.1, p.2.1, p.2.2⟩) (fun x => (x.f0, x.f1, x.f2)) (fun _ => rfl) (.pair (.int .i64) (.pair (.int .i64) (.int .i64)))
def rd_T64 (xs : List S64) (i : Int) : S64 := xs.getD i.toNat z64
structure S33 where
  f0 : Int
  f1 : List S64
  f2 : List S64
  f3 : List Bool
  f4 : Int
def z33 : S33 := ⟨0, [], [], [], 0⟩
def k33 : Kd S33 := .iso (fun p => ⟨p.1, p.2.1, p.2.2.1, p.2.2.2.1, p.2.2.2.2⟩) (fun x => (x.f0, x.f1, x.f2, x.f3, x.f4)) (fun _ => rfl) (.pair (.int .i64) (.pair (.slice k64) (.pair (.slice k64) (.pair (.slice .bool) (.int .i64)))))
def rd_T33 (xs : List S33) (i : Int) : S33 := xs.getD i.toNat z33
structure S62 where
  f0 : Int
  f1 : Int
  f2 : Int
def z62 : S62 := ⟨0, 0, 0⟩
def k62 : Kd S62 := .iso (fun p => ⟨p.1, p.2.1, p.2.2⟩) (fun x => (x.f0, x.f1, x.f2)) (fun _ => rfl) (.pair (.int .i64) (.pair (.int .i64) (.int .i64)))
def rd_T62 (xs : List S62) (i : Int) : S62 := xs.getD i.toNat z62
structure S37 where
  f0 : Int
  f1 : List S62
  f2 : List S62
  f3 : List Bool
  f4 : Int
def z37 : S37 := ⟨0, [], [], [], 0⟩
def k37 : Kd S37 := .iso (fun p => ⟨p.1, p.2.1, p.2.2.1, p.2.2.2.1, p.2.2.2.2⟩) (fun x => (x.f0, x.f1, x.f2, x.f3, x.f4)) (fun _ => rfl) (.pair (.int .i64) (.pair (.slice k62) (.pair (.slice k62) (.pair (.slice .bool) (.int .i64)))))
def rd_T37 (xs : List S37) (i : Int) : S37 := xs.getD i.toNat z37
structure S75 where
  f0 : S62
  f1 : S62
  f2 : Bool
def z75 : S75 := ⟨z62, z62, false⟩
def k75 : Kd S75 := .iso (fun p => ⟨p.1, p.2.1, p.2.2⟩) (fun x => (x.f0, x.f1, x.f2)) (fun _ => rfl) (.pair k62 (.pair k62 .bool))
def rd_T75 (xs : List S75) (i : Int) : S75 := xs.getD i.toNat z75
theorem eqD62 (d : Nat) (w : World) (x0 y0 : Int) (x1 y1 : Int) (x2 y2 : Int) : (Op.equalIn (d + 2) 62 (.agg #[.int .i64 x0, .int .i64 x1, .int .i64 x2]) (.agg #[.int .i64 y0, .int .i64 y1, .int .i64 y2])).run Try.prog w = .ok (x0 == y0 && (x1 == y1 && (x2 == y2))) w := by
  refine eq_of (d := d + 1) Try.underlying62 (by kernel_rfl) ?_
  refine eq_cons (by rfl) (by first | (go_simp; done) | (go_simp; rfl)) (by first | (go_simp; done) | (go_simp; rfl)) (by go_simp) ?_
  refine eq_cons (by rfl) (by first | (go_simp; done) | (go_simp; rfl)) (by first | (go_simp; done) | (go_simp; rfl)) (by go_simp) ?_
  exact eq_last (by rfl) (by first | (go_simp; done) | (go_simp; rfl)) (by first | (go_simp; done) | (go_simp; rfl)) (by go_simp)
theorem eq62 (d : Nat) (w : World) (x0 y0 : Int) (x1 y1 : Int) (x2 y2 : Int) : (Op.equalIn (d + 20) 62 (.agg #[.int .i64 x0, .int .i64 x1, .int .i64 x2]) (.agg #[.int .i64 y0, .int .i64 y1, .int .i64 y2])).run Try.prog w = .ok (x0 == y0 && (x1 == y1 && (x2 == y2))) w := eqD62 (d + 18) w x0 y0 x1 y1 x2 y2
theorem mk24 : ∀ (zz : Value) (e : TypeId) (i : TypeInfo), Try.prog.underlying 24 = some (.slice e) → Try.prog.info? e = some i → i.zero = some zz → ∀ w, Kd.rep k62 1 w zz.cells.toList z62 [] := by
  intro zz e i hu hi hz w
  have h1 : (Try.prog.underlying 24).bind (fun d => match d with | .slice e => (Try.prog.info? e).bind (fun i => i.zero) | _ => none) = some (.agg #[.int .i64 0, .int .i64 0, .int .i64 0]) := by kernel_rfl
  rw [hu] at h1
  simp only [Option.bind_some, hi, hz, Option.some.injEq] at h1
  subst h1
  exact Kd.closed k62 (o := 1) (w := w) (x := z62) (hs := []) (bs := []) 0 false (Nat.le_refl 1) rfl .nil
theorem mk31 : ∀ (zz : Value) (e : TypeId) (i : TypeInfo), Try.prog.underlying 31 = some (.slice e) → Try.prog.info? e = some i → i.zero = some zz → ∀ w, Kd.rep .bool 1 w zz.cells.toList false [] := by
  intro zz e i hu hi hz w
  have h1 : (Try.prog.underlying 31).bind (fun d => match d with | .slice e => (Try.prog.info? e).bind (fun i => i.zero) | _ => none) = some (.bool false) := by kernel_rfl
  rw [hu] at h1
  simp only [Option.bind_some, hi, hz, Option.some.injEq] at h1
  subst h1
  exact Kd.closed .bool (o := 1) (w := w) (x := false) (hs := []) (bs := []) 0 false (Nat.le_refl 1) rfl .nil
end Go.Proofs.Ythciieopabndcaa.K
namespace Go.Proofs.Ythciieopabndcaa.K
open Go Go.RowKit
set_option linter.unusedVariables false
set_option linter.unusedSimpArgs false
def good64 (x : S64) : Prop := ((Lit.int .i64 x.f0).wf = true) ∧ ((Lit.int .i64 x.f1).wf = true) ∧ ((Lit.int .i64 x.f2).wf = true)
theorem open64 : Opens Try.prog 64 k64 good64 := opens_struct Try.underlying64 (by kernel_rfl) (.cons rfl (opens_int Try.underlying3 (by kernel_rfl)) (.cons rfl (opens_int Try.underlying3 (by kernel_rfl)) (.one rfl (opens_int Try.underlying3 (by kernel_rfl))))) (fun _ => rfl) (fun _ h => h)
def good33 (x : S33) : Prop := ((Lit.int .i64 x.f0).wf = true) ∧ ((x.f1.length ≤ maxLen ∧ ∀ y ∈ x.f1, good64 y)) ∧ ((x.f2.length ≤ maxLen ∧ ∀ y ∈ x.f2, good64 y)) ∧ ((x.f3.length ≤ maxLen ∧ ∀ y ∈ x.f3, True)) ∧ ((Lit.int .i64 x.f4).wf = true)
theorem open33 : Opens Try.prog 33 k33 good33 := opens_struct Try.underlying33 (by kernel_rfl) (.cons rfl (opens_int Try.underlying3 (by kernel_rfl)) (.cons rfl (opens_slice Try.underlying22 (by kernel_rfl) (by kernel_rfl) open64) (.cons rfl (opens_slice Try.underlying22 (by kernel_rfl) (by kernel_rfl) open64) (.cons rfl (opens_slice Try.underlying31 (by kernel_rfl) (by kernel_rfl) (opens_bool Try.underlying4 (by kernel_rfl))) (.one rfl (opens_int Try.underlying3 (by kernel_rfl))))))) (fun _ => rfl) (fun _ h => h)
end Go.Proofs.Ythciieopabndcaa.K
namespace Go.Proofs.Ythciieopabndcaa.K
open Go Go.RowKit
set_option linter.unusedVariables false
set_option linter.unusedSimpArgs false
def laws_szRowS.f (l0 : List S64) (a1 : Int) : Option (Int) := if (wrap64 (a1 - (l0.length : Int))) < 0 then (some (-1)) else (some (wrap64 (a1 - (l0.length : Int))))
set_option maxHeartbeats 4000000 in
set_option maxRecDepth 100000 in
theorem laws_szRowS.ok (l0 : List S64) (Al0 : Option Addr) (cl0 : Nat) (a1 : Int) (r0 : Int) (H : laws_szRowS.f l0 a1 = some r0) : Fn Try.prog 15 [.slice Al0 l0.length cl0, .int .i64 a1] [] [.sl 0 k64 Al0 cl0 l0 0 false] (fun v bx en => v = .int .i64 r0 ∧ bx = [] ∧ en = []) := by
 refine fn_ 12 Try.func15 rfl rfl rfl (fun base T w0 => ?_)
 rw [laws_szRowS.f] at H
 refine gs (rg (sv (EV.as rfl) rfl (re (gs (rg (sv (EV.mv rfl) rfl (sv (EV.mv rfl) rfl (sv (EV.ln rfl) rfl (sv (EV.sub rfl rfl) rfl (sv (EV.as rfl) rfl (re (pr [1] [] [] rfl rfl rfl rfl (gs (gs (rg (sv (EV.mv rfl) rfl (sv (EV.lss rfl rfl) rfl (re ?_))))))))))))))))))
 revert H; refine ifsI ?_ ?_ <;> intro c1 H
 ·
  refine gt rfl (dT c1) (gs (rg (sv (EV.as rfl) rfl (re ?_))))
  cases H
  exact rt Try.func15 rfl (.tmp rfl .nil) rfl [] [] rfl rfl rfl rfl rfl ⟨rfl, rfl, rfl⟩
 ·
  refine gf rfl (dF c1) (gk (gs (rg (sv (EV.mv rfl) rfl (sv (EV.as rfl) rfl (re ?_))))))
  cases H
  exact rt Try.func15 rfl (.tmp rfl .nil) rfl [] [] rfl rfl rfl rfl rfl ⟨rfl, rfl, rfl⟩
end Go.Proofs.Ythciieopabndcaa.K
namespace Go.Proofs.Ythciieopabndcaa.K
open Go Go.RowKit
set_option linter.unusedVariables false
set_option linter.unusedSimpArgs false
def laws_toRow.f (a0_0 : Int) (a0_1 : Int) (a0_2 : Int) : Option (Int × Int × Int) := some (a0_0, a0_1, a0_2)
set_option maxHeartbeats 4000000 in
set_option maxRecDepth 100000 in
theorem laws_toRow.ok (a0_0 : Int) (a0_1 : Int) (a0_2 : Int) (r0 : Int) (r1 : Int) (r2 : Int) (H : laws_toRow.f a0_0 a0_1 a0_2 = some (r0, r1, r2)) : Fn Try.prog 53 [.agg #[.int .i64 a0_0, .int .i64 a0_1, .int .i64 a0_2]] [] [] (fun v bx en => v = .agg #[.int .i64 r0, .int .i64 r1, .int .i64 r2] ∧ bx = [] ∧ en = []) := by
 refine fn_ 14 Try.func53 rfl rfl rfl (fun base T w0 => ?_)
 rw [laws_toRow.f] at H
 refine gs (rg (so rfl (op_box (cs := [.int .i64 a0_0, .int .i64 a0_1, .int .i64 a0_2]) rfl rfl rfl fun b1 => (so rfl (op_alloc (cs := [.int .i64 0, .int .i64 0, .int .i64 0]) (by kernel_rfl) rfl fun b2 => (re (gs (rg (so rfl (op_alloc (cs := [.int .i64 0, .int .i64 0, .int .i64 0]) (by kernel_rfl) rfl fun b3 => (re (gs (rg (sv (EV.fa 0 rfl) rfl (sv (EV.ld 0 none rfl rfl rfl) rfl (sv (EV.fa 0 rfl) rfl (so rfl (op_st (cs' := [.int .i64 a0_0, .int .i64 0, .int .i64 0]) 2 rfl rfl rfl rfl rfl rfl (re (gs (rg (sv (EV.fa 1 rfl) rfl (sv (EV.ld 0 none rfl rfl rfl) rfl (sv (EV.fa 1 rfl) rfl (so rfl (op_st (cs' := [.int .i64 a0_0, .int .i64 a0_1, .int .i64 0]) 2 rfl rfl rfl rfl rfl rfl (re (pr [1, 2, 3] [0, 1, 2] [] rfl rfl rfl rfl (gs ?_)))))))))))))))))))))))))))))
 refine rg (sv (EV.fa 2 rfl) rfl (sv (EV.ld 0 none rfl rfl rfl) rfl (sv (EV.fa 2 rfl) rfl (so rfl (op_st (cs' := [.int .i64 a0_0, .int .i64 a0_1, .int .i64 a0_2]) 2 rfl rfl rfl rfl rfl rfl (re (gs (rg (sv (EV.ld (v := .agg #[.int .i64 a0_0, .int .i64 a0_1, .int .i64 a0_2]) 2 (some 3) rfl rfl rfl) rfl (so rfl (op_st (cs' := [.int .i64 a0_0, .int .i64 a0_1, .int .i64 a0_2]) 1 rfl rfl rfl rfl rfl rfl (re (pr [2] [1] [] rfl rfl rfl rfl ?_)))))))))))))
 cases H
 exact rt Try.func53 rfl (.cell 0 (some 3) rfl rfl rfl .nil) rfl [] [] rfl rfl rfl rfl rfl ⟨rfl, rfl, rfl⟩
end Go.Proofs.Ythciieopabndcaa.K
namespace Go.Proofs.Ythciieopabndcaa.K
open Go Go.RowKit
set_option linter.unusedVariables false
set_option linter.unusedSimpArgs false
def laws_toRowS.l0 : Nat → (List S62) → Int → (List S64) → Option ((List S62))
 | 0, _, _, _ => none
 | k + 1, x2_3, x2_4, l0 => if x2_4 < (l0.length : Int) then (if 0 ≤ x2_4 then ((laws_toRow.f ((rd_T64 l0 x2_4).f0) ((rd_T64 l0 x2_4).f1) ((rd_T64 l0 x2_4).f2)).bind fun bt6 => (if x2_4 < (x2_3.length : Int) then ((some (x2_3.set x2_4.toNat (⟨bt6.1, bt6.2.1, bt6.2.2⟩ : S62))).bind fun s8 => (laws_toRowS.l0 k s8 (wrap64 (x2_4 + 1)) l0)) else none)) else none) else (some x2_3)
def laws_toRowS.f (k : Nat) (l0 : List S64) : Option ((List S62)) := if 0 ≤ (l0.length : Int) then (if (l0.length : Int).toNat ≤ 5864062014805 then (laws_toRowS.l0 k (List.replicate (l0.length : Int).toNat z62) 0 l0) else none) else none
set_option maxHeartbeats 4000000 in
set_option maxRecDepth 100000 in
theorem laws_toRowS.ok (k : Nat) (l0 : List S64) (Al0 : Option Addr) (cl0 : Nat) (r0 : List S62) (H : laws_toRowS.f k l0 = some r0) : Fn Try.prog 17 [.slice Al0 l0.length cl0] [] [.sl 0 k64 Al0 cl0 l0 0 false] (fun v bx en => ∃ A0 c0, v = .slice A0 r0.length c0 ∧ bx = [] ∧ en = [.sl 2 k62 A0 c0 r0 1 true]) := by
 refine fn_ 23 Try.func17 rfl rfl rfl (fun base T w0 => ?_)
 rw [laws_toRowS.f] at H
 refine gs (rg (sv (EV.as rfl) rfl (re (gs (rg (sv (EV.mv rfl) rfl (sv (EV.ln rfl) rfl ?_)))))))
 revert H; refine ggI ?_; intro g1 H
 revert H; refine ggI ?_; intro g2 H
 refine so rfl (op_mk (s := 3) (by_ := 24) k62 z62 1 rfl rfl g1 (mk1 g2 dq) (mk2 g2 dq) mk24 rfl rfl dq rfl fun A7_3 c7_3 => (sv (EV.as rfl) rfl (re (gs (gs (rg (sv (EV.as rfl) rfl (re (gb ?_)))))))))
 refine lo (fun kk S => ∃ (x2_3 : List S62) (Ax2_3 : Option Addr) (cx2_3 : Nat) (x2_4 : Int), laws_toRowS.l0 kk x2_3 x2_4 l0 = some r0 ∧ S = ⟨[(0, .slice Al0 l0.length cl0), (3, .slice Ax2_3 x2_3.length cx2_3), (4, .int .i64 x2_4)], [], [.sl 2 k62 Ax2_3 cx2_3 x2_3 1 true, .sl 0 k64 Al0 cl0 l0 0 false]⟩) (fun S hS => ?_) (fun n0 ih0 S hS => ?_) ⟨List.replicate (l0.length : Int).toNat z62, A7_3, c7_3, 0, H, rfl⟩ (fun h => wk [0, 3, 4] [] [⟨1, 2, 1, true⟩, ⟨0, 0, 0, false⟩] h)
 · clear H; obtain ⟨_, _, _, _, H, _⟩ := hS; rw [laws_toRowS.l0] at H; cases H
 clear H
 obtain ⟨x2_3, Ax2_3, cx2_3, x2_4, H, rfl⟩ := hS
 rw [laws_toRowS.l0] at H
 refine gs (gs (rg (sv (EV.mv rfl) rfl (sv (EV.mv rfl) rfl (sv (EV.ln rfl) rfl (sv (EV.lss rfl rfl) rfl (re ?_)))))))
 revert H; refine ifsI ?_ ?_ <;> intro c4 H
 ·
  refine gt rfl (dT c4) (gk (gs (gb (rg (sv (EV.mv rfl) rfl (sv (EV.mv rfl) rfl (sv (EV.mv rfl) rfl (sv (EV.mv rfl) rfl ?_))))))))
  revert H; refine ggI ?_; intro g5 H
  refine sv (EV.ix 1 rfl rfl rfl g5 c4 rfl) rfl (sv (EV.le (v := .agg #[.int .i64 ((rd_T64 l0 x2_4).f0), .int .i64 ((rd_T64 l0 x2_4).f1), .int .i64 ((rd_T64 l0 x2_4).f2)]) x2_4 0 (some 3) 1 z64 rfl rfl rfl g5 c4 rfl rfl rfl) rfl ?_)
  revert H; refine bdI ?_; rintro ⟨t6_0, t6_1, t6_2⟩ A6 H
  refine so rfl (op_call (laws_toRow.ok ((rd_T64 l0 x2_4).f0) ((rd_T64 l0 x2_4).f1) ((rd_T64 l0 x2_4).f2) _ _ _ A6) [] 2 rfl rfl rfl rfl rfl ?_)
  rintro _ _ _ ⟨rfl, rfl, rfl⟩
  revert H; refine ggI ?_; intro g7 H
  refine sv (EV.ix 0 rfl rfl rfl g5 g7 rfl) rfl ?_
  revert H; refine bdI ?_; intro s8 A8 H; have q8 := stl (Option.some.inj A8)
  exact so rfl (op_stg x2_4 0 0 z62 (⟨t6_0, t6_1, t6_2⟩ : S62) (Option.some.inj A8) rfl rfl rfl rfl g5 g7 rfl rfl rfl rfl dq rfl (rlT 3 (v' := .slice Ax2_3 s8.length cx2_3) rfl (slq _ _ q8) (rlT 14 (v' := .slice Ax2_3 s8.length cx2_3) rfl (slq _ _ q8) (nmE (en := [.sl 0 k64 Al0 cl0 l0 0 false, .sl 2 k62 Ax2_3 cx2_3 s8 1 true]) (by kernel_rfl) (re (pr [0, 3, 4] [] [0, 1] rfl rfl rfl rfl (ge (rg (sv (EV.mv rfl) rfl (sv (EV.add rfl rfl) rfl (sv (EV.as rfl) rfl (re (wk [0, 3, 4] [] [⟨1, 2, 1, true⟩, ⟨0, 0, 0, false⟩] (ih0 _ (by omega) _ ⟨s8, Ax2_3, cx2_3, wrap64 (x2_4 + 1), H, rfl⟩))))))))))))))
 ·
  refine gf rfl (dF c4) (gx rfl (gs (rg (sv (EV.mv rfl) rfl (sv (EV.as rfl) rfl (re (pr [2] [] [0] rfl rfl rfl rfl ?_)))))))
  cases H
  exact rt Try.func17 rfl (.tmp rfl .nil) rfl [] [⟨0, 2, 1, true⟩] rfl rfl rfl rfl rfl ⟨_, _, rfl, rfl, rfl⟩
end Go.Proofs.Ythciieopabndcaa.K
namespace Go.Proofs.Ythciieopabndcaa.K
open Go Go.RowKit
set_option linter.unusedVariables false
set_option linter.unusedSimpArgs false
def laws_eqRow.f (a0_0 : Int) (a0_1 : Int) (a0_2 : Int) (a1_0 : Int) (a1_1 : Int) (a1_2 : Int) : Option (Bool) := if a0_0 = a1_0 then (if a0_1 = a1_1 then (if a0_2 = a1_2 then (some true) else (some false)) else (some false)) else (some false)
set_option maxHeartbeats 4000000 in
set_option maxRecDepth 100000 in
theorem laws_eqRow.ok (a0_0 : Int) (a0_1 : Int) (a0_2 : Int) (a1_0 : Int) (a1_1 : Int) (a1_2 : Int) (r0 : Bool) (H : laws_eqRow.f a0_0 a0_1 a0_2 a1_0 a1_1 a1_2 = some r0) : Fn Try.prog 56 [.agg #[.int .i64 a0_0, .int .i64 a0_1, .int .i64 a0_2], .agg #[.int .i64 a1_0, .int .i64 a1_1, .int .i64 a1_2]] [] [] (fun v bx en => v = .bool r0 ∧ bx = [] ∧ en = []) := by
 refine fn_ 20 Try.func56 rfl rfl rfl (fun base T w0 => ?_)
 rw [laws_eqRow.f] at H
 refine gs (rg (so rfl (op_box (cs := [.int .i64 a0_0, .int .i64 a0_1, .int .i64 a0_2]) rfl rfl rfl fun b2 => (so rfl (op_box (cs := [.int .i64 a1_0, .int .i64 a1_1, .int .i64 a1_2]) rfl rfl rfl fun b3 => (sv (EV.as rfl) rfl (re (gs (gs (rg (sv (EV.fa 0 rfl) rfl (sv (EV.ld 0 none rfl rfl rfl) rfl (sv (EV.fa 0 rfl) rfl (sv (EV.ld 1 none rfl rfl rfl) rfl (sv (EV.neq rfl rfl) rfl (re (pr [2, 3, 9] [0, 1] [] rfl rfl rfl rfl ?_)))))))))))))))))
 revert H; refine ifsI ?_ ?_ <;> intro c1 H
 ·
  refine gf rfl (nF c1) (gk (gs (gs (rg (sv (EV.fa 1 rfl) rfl (sv (EV.ld 0 none rfl rfl rfl) rfl (sv (EV.fa 1 rfl) rfl (sv (EV.ld 1 none rfl rfl rfl) rfl (sv (EV.neq rfl rfl) rfl (re ?_))))))))))
  revert H; refine ifsI ?_ ?_ <;> intro c2 H
  ·
   refine gf rfl (nF c2) (gk (gs (gs (rg (sv (EV.fa 2 rfl) rfl (sv (EV.ld 0 none rfl rfl rfl) rfl (sv (EV.fa 2 rfl) rfl (sv (EV.ld 1 none rfl rfl rfl) rfl (sv (EV.neq rfl rfl) rfl (re (pr [19] [] [] rfl rfl rfl rfl ?_)))))))))))
   revert H; refine ifsI ?_ ?_ <;> intro c3 H
   ·
    refine gf rfl (nF c3) (gk (gs (rg (sv (EV.as rfl) rfl (re ?_)))))
    cases H
    exact rt Try.func56 rfl (.tmp rfl .nil) rfl [] [] rfl rfl rfl rfl rfl ⟨rfl, rfl, rfl⟩
   ·
    refine gt rfl (nT c3) (gs (rg (sv (EV.as rfl) rfl (re ?_))))
    cases H
    exact rt Try.func56 rfl (.tmp rfl .nil) rfl [] [] rfl rfl rfl rfl rfl ⟨rfl, rfl, rfl⟩
  ·
   refine gt rfl (nT c2) (gs (rg (sv (EV.as rfl) rfl (re (pr [4] [] [] rfl rfl rfl rfl ?_)))))
   cases H
   exact rt Try.func56 rfl (.tmp rfl .nil) rfl [] [] rfl rfl rfl rfl rfl ⟨rfl, rfl, rfl⟩
 ·
  refine gt rfl (nT c1) (gs (rg (sv (EV.as rfl) rfl (re ?_))))
  cases H
  exact rt Try.func56 rfl (.tmp rfl .nil) rfl [] [] rfl rfl rfl rfl rfl ⟨rfl, rfl, rfl⟩
end Go.Proofs.Ythciieopabndcaa.K
namespace Go.Proofs.Ythciieopabndcaa.K
open Go Go.RowKit
set_option linter.unusedVariables false
set_option linter.unusedSimpArgs false
def laws_eqRowS.l0 : Nat → Int → (List S62) → (List S62) → Option (Bool)
 | 0, _, _, _ => none
 | k + 1, x2_5, l0, l1 => if x2_5 < (l0.length : Int) then (if 0 ≤ x2_5 then (if x2_5 < (l1.length : Int) then ((laws_eqRow.f ((rd_T62 l0 x2_5).f0) ((rd_T62 l0 x2_5).f1) ((rd_T62 l0 x2_5).f2) ((rd_T62 l1 x2_5).f0) ((rd_T62 l1 x2_5).f1) ((rd_T62 l1 x2_5).f2)).bind fun t5 => (if t5 = true then (laws_eqRowS.l0 k (wrap64 (x2_5 + 1)) l0 l1) else (some false))) else none) else none) else (some true)
def laws_eqRowS.f (k : Nat) (l0 : List S62) (l1 : List S62) : Option (Bool) := if (l0.length : Int) = (l1.length : Int) then (laws_eqRowS.l0 k 0 l0 l1) else (some false)
set_option maxHeartbeats 4000000 in
set_option maxRecDepth 100000 in
theorem laws_eqRowS.ok (k : Nat) (l0 : List S62) (Al0 : Option Addr) (cl0 : Nat) (l1 : List S62) (Al1 : Option Addr) (cl1 : Nat) (r0 : Bool) (H : laws_eqRowS.f k l0 l1 = some r0) : Fn Try.prog 19 [.slice Al0 l0.length cl0, .slice Al1 l1.length cl1] [] [.sl 0 k62 Al0 cl0 l0 0 false, .sl 0 k62 Al1 cl1 l1 0 false] (fun v bx en => v = .bool r0 ∧ bx = [] ∧ en = []) := by
 refine fn_ 27 Try.func19 rfl rfl rfl (fun base T w0 => ?_)
 rw [laws_eqRowS.f] at H
 refine gs (rg (sv (EV.as rfl) rfl (re (gs (gs (rg (sv (EV.mv rfl) rfl (sv (EV.ln rfl) rfl (sv (EV.mv rfl) rfl (sv (EV.ln rfl) rfl (sv (EV.neq rfl rfl) rfl (re ?_))))))))))))
 revert H; refine ifsI ?_ ?_ <;> intro c1 H
 ·
  refine gf rfl (nF c1) (gk (gs (gs (rg (sv (EV.as rfl) rfl (re (pr [0, 1, 5] [] [0, 1] rfl rfl rfl rfl (gb ?_))))))))
  refine lo (fun kk S => ∃ (x2_5 : Int), laws_eqRowS.l0 kk x2_5 l0 l1 = some r0 ∧ S = ⟨[(0, .slice Al0 l0.length cl0), (1, .slice Al1 l1.length cl1), (5, .int .i64 x2_5)], [], [.sl 0 k62 Al0 cl0 l0 0 false, .sl 0 k62 Al1 cl1 l1 0 false]⟩) (fun S hS => ?_) (fun n0 ih0 S hS => ?_) ⟨0, H, rfl⟩ (fun h => wk [0, 1, 5] [] [⟨0, 0, 0, false⟩, ⟨1, 0, 0, false⟩] h)
  · clear H; obtain ⟨_, H, _⟩ := hS; rw [laws_eqRowS.l0] at H; cases H
  clear H
  obtain ⟨x2_5, H, rfl⟩ := hS
  rw [laws_eqRowS.l0] at H
  refine gs (gs (rg (sv (EV.mv rfl) rfl (sv (EV.mv rfl) rfl (sv (EV.ln rfl) rfl (sv (EV.lss rfl rfl) rfl (re ?_)))))))
  revert H; refine ifsI ?_ ?_ <;> intro c2 H
  ·
   refine gt rfl (dT c2) (gk (gs (gb (gs ?_))))
   revert H; refine ggI ?_; intro g3 H
   revert H; refine ggI ?_; intro g4 H
   refine dr [] [0, 1] [] 10 rfl rfl rfl rfl (xv 0 [] [0, 1] rfl (EV.mv rfl) rfl rfl rfl rfl (xv 1 [] [0, 1] rfl (EV.mv rfl) rfl rfl rfl rfl (xv 2 [] [0, 1] rfl (EV.ix 0 rfl rfl rfl g3 c2 rfl) rfl rfl rfl rfl (xv 3 [] [0, 1] rfl (EV.le (v := .agg #[.int .i64 ((rd_T62 l0 x2_5).f0), .int .i64 ((rd_T62 l0 x2_5).f1), .int .i64 ((rd_T62 l0 x2_5).f2)]) x2_5 0 (some 3) 0 z62 rfl rfl rfl g3 c2 rfl rfl rfl) rfl rfl rfl rfl (xv 4 [] [0, 1] rfl (EV.mv rfl) rfl rfl rfl rfl (xv 5 [] [0, 1] rfl (EV.mv rfl) rfl rfl rfl rfl (xv 6 [] [0, 1] rfl (EV.ix 1 rfl rfl rfl g3 g4 rfl) rfl rfl rfl rfl (xv 7 [] [0, 1] rfl (EV.le (v := .agg #[.int .i64 ((rd_T62 l1 x2_5).f0), .int .i64 ((rd_T62 l1 x2_5).f1), .int .i64 ((rd_T62 l1 x2_5).f2)]) x2_5 0 (some 3) 1 z62 rfl rfl rfl g3 g4 rfl rfl rfl) rfl rfl rfl rfl (one1 8 rfl rfl ?_)))))))))
   revert H; refine bdI ?_; rintro t5 A5 H
   refine op_call (laws_eqRow.ok ((rd_T62 l0 x2_5).f0) ((rd_T62 l0 x2_5).f1) ((rd_T62 l0 x2_5).f2) ((rd_T62 l1 x2_5).f0) ((rd_T62 l1 x2_5).f1) ((rd_T62 l1 x2_5).f2) _ A5) [] 1 rfl rfl rfl rfl rfl ?_
   rintro _ _ _ ⟨rfl, rfl, rfl⟩
   refine xs [] [0, 1] rfl rfl rfl (xv 9 [] [0, 1] rfl (EV.nt rfl) rfl rfl rfl rfl (xd (pr [0, 1, 5, 26] [] [0, 1] rfl rfl rfl rfl ?_)))
   revert H; refine ifsI ?_ ?_ <;> intro c6 H
   ·
    subst c6
    exact gf rfl rfl (gk (ge (rg (sv (EV.mv rfl) rfl (sv (EV.add rfl rfl) rfl (sv (EV.as rfl) rfl (re (wk [0, 1, 5] [] [⟨0, 0, 0, false⟩, ⟨1, 0, 0, false⟩] (ih0 _ (by omega) _ ⟨wrap64 (x2_5 + 1), H, rfl⟩)))))))))
   ·
    obtain rfl := bF c6
    refine gt rfl rfl (gs (rg (sv (EV.as rfl) rfl (re ?_))))
    cases H
    exact rt Try.func19 rfl (.tmp rfl .nil) rfl [] [] rfl rfl rfl rfl rfl ⟨rfl, rfl, rfl⟩
  ·
   refine gf rfl (dF c2) (gx rfl (gs (rg (sv (EV.as rfl) rfl (re (pr [4] [] [] rfl rfl rfl rfl ?_))))))
   cases H
   exact rt Try.func19 rfl (.tmp rfl .nil) rfl [] [] rfl rfl rfl rfl rfl ⟨rfl, rfl, rfl⟩
 ·
  refine gt rfl (nT c1) (gs (rg (sv (EV.as rfl) rfl (re (pr [4] [] [] rfl rfl rfl rfl ?_)))))
  cases H
  exact rt Try.func19 rfl (.tmp rfl .nil) rfl [] [] rfl rfl rfl rfl rfl ⟨rfl, rfl, rfl⟩
end Go.Proofs.Ythciieopabndcaa.K
namespace Go.Proofs.Ythciieopabndcaa.K
open Go Go.RowKit
set_option linter.unusedVariables false
set_option linter.unusedSimpArgs false
def laws_markRowS.l0 : Nat → (List S62) → Int → Int → Option (Int × (List S62))
 | 0, _, _, _ => none
 | k + 1, x2_ml0, x2_1, x2_5 => if x2_5 < (x2_ml0.length : Int) then (if 0 ≤ x2_5 then ((some (x2_ml0.set x2_5.toNat (⟨x2_1, (rd_T62 x2_ml0 x2_5).f1, (rd_T62 x2_ml0 x2_5).f2⟩ : S62))).bind fun s3 => (if x2_5 < (s3.length : Int) then ((some (s3.set x2_5.toNat (⟨(rd_T62 s3 x2_5).f0, wrap64 (x2_1 + 1), (rd_T62 s3 x2_5).f2⟩ : S62))).bind fun s5 => (if x2_5 < (s5.length : Int) then ((some (s5.set x2_5.toNat (⟨(rd_T62 s5 x2_5).f0, (rd_T62 s5 x2_5).f1, wrap64 ((wrap64 (x2_1 + 1)) + 1)⟩ : S62))).bind fun s7 => (laws_markRowS.l0 k s7 (wrap64 ((wrap64 ((wrap64 (x2_1 + 1)) + 1)) + 1)) (wrap64 (x2_5 + 1)))) else none)) else none)) else none) else (some (x2_1, x2_ml0))
def laws_markRowS.f (k : Nat) (l0 : List S62) (a1 : Int) : Option (Int × (List S62)) := laws_markRowS.l0 k l0 a1 0
set_option maxHeartbeats 4000000 in
set_option maxRecDepth 100000 in
theorem laws_markRowS.ok (k : Nat) (l0 : List S62) (Al0 : Option Addr) (cl0 : Nat) (a1 : Int) (r0 : Int) (r1 : List S62) (H : laws_markRowS.f k l0 a1 = some (r0, r1)) : Fn Try.prog 20 [.slice Al0 l0.length cl0, .int .i64 a1] [] [.sl 1 k62 Al0 cl0 l0 1 false] (fun v bx en => v = .int .i64 r0 ∧ bx = [] ∧ en = [.sl 1 k62 Al0 cl0 r1 1 false] ∧ r1.length = l0.length) := by
 refine fn_ 34 Try.func20 rfl rfl rfl (fun base T w0 => ?_)
 rw [laws_markRowS.f] at H
 refine gs (rg (sv (EV.as rfl) rfl (re (gs (gs (rg (sv (EV.as rfl) rfl (re (gb ?_)))))))))
 refine lo (fun kk S => ∃ (x2_ml0 : List S62) (x2_1 : Int) (x2_5 : Int), laws_markRowS.l0 kk x2_ml0 x2_1 x2_5 = some (r0, r1) ∧ x2_ml0.length = l0.length ∧ S = ⟨[(0, .slice Al0 x2_ml0.length cl0), (1, .int .i64 x2_1), (5, .int .i64 x2_5)], [], [.sl 1 k62 Al0 cl0 x2_ml0 1 false]⟩) (fun S hS => ?_) (fun n0 ih0 S hS => ?_) ⟨l0, a1, 0, H, (by first | rfl | assumption | omega | (simp only [List.length_set]; first | done | assumption | omega)), rfl⟩ (fun h => wk [0, 1, 5] [] [⟨0, 1, 1, false⟩] h)
 · clear H; obtain ⟨_, _, _, H, _⟩ := hS; rw [laws_markRowS.l0] at H; cases H
 clear H
 obtain ⟨x2_ml0, x2_1, x2_5, H, ex2_ml0, rfl⟩ := hS
 rw [laws_markRowS.l0] at H
 refine gs (gs (rg (sv (EV.mv rfl) rfl (sv (EV.mv rfl) rfl (sv (EV.ln rfl) rfl (sv (EV.lss rfl rfl) rfl (re ?_)))))))
 revert H; refine ifsI ?_ ?_ <;> intro c1 H
 ·
  refine gt rfl (dT c1) (gk (gs (gb (gs (rg (sv (EV.mv rfl) rfl (sv (EV.mv rfl) rfl (sv (EV.mv rfl) rfl ?_))))))))
  revert H; refine ggI ?_; intro g2 H
  refine sv (EV.ix 0 rfl rfl rfl g2 c1 rfl) rfl (sv (EV.fa 0 rfl) rfl ?_)
  revert H; refine bdI ?_; intro s3 A3 H; have q3 := stl (Option.some.inj A3)
  refine so rfl (op_stg x2_5 0 0 z62 (⟨x2_1, (rd_T62 x2_ml0 x2_5).f1, (rd_T62 x2_ml0 x2_5).f2⟩ : S62) (Option.some.inj A3) rfl rfl rfl rfl g2 c1 rfl rfl rfl rfl dq rfl (rlT 0 (v' := .slice Al0 s3.length cl0) rfl (slq _ _ q3) (rlT 7 (v' := .slice Al0 s3.length cl0) rfl (slq _ _ q3) (rlT 12 (v' := .slice Al0 s3.length cl0) rfl (slq _ _ q3) (nmE (en := [.sl 1 k62 Al0 cl0 s3 1 true]) (by kernel_rfl) (re (pr [0, 1, 5] [] [0] rfl rfl rfl rfl (gs (rg (sv (EV.mv rfl) rfl (sv (EV.add rfl rfl) rfl (sv (EV.as rfl) rfl (re (gs (rg (sv (EV.mv rfl) rfl (sv (EV.mv rfl) rfl (sv (EV.mv rfl) rfl ?_))))))))))))))))))
  revert H; refine ggI ?_; intro g4 H
  refine sv (EV.ix 0 rfl rfl rfl g2 g4 rfl) rfl (sv (EV.fa 1 rfl) rfl ?_)
  revert H; refine bdI ?_; intro s5 A5 H; have q5 := stl (Option.some.inj A5)
  refine so rfl (op_stg x2_5 1 0 z62 (⟨(rd_T62 s3 x2_5).f0, wrap64 (x2_1 + 1), (rd_T62 s3 x2_5).f2⟩ : S62) (Option.some.inj A5) rfl rfl rfl rfl g2 g4 rfl rfl rfl rfl dq rfl (rlT 0 (v' := .slice Al0 s5.length cl0) rfl (slq _ _ q5) (rlT 19 (v' := .slice Al0 s5.length cl0) rfl (slq _ _ q5) (nmE (en := [.sl 1 k62 Al0 cl0 s5 1 true]) (by kernel_rfl) (re (gs (rg (sv (EV.mv rfl) rfl (sv (EV.add rfl rfl) rfl (sv (EV.as rfl) rfl (re (pr [0, 1, 5] [] [0] rfl rfl rfl rfl (gs (rg (sv (EV.mv rfl) rfl (sv (EV.mv rfl) rfl (sv (EV.mv rfl) rfl ?_)))))))))))))))))
  revert H; refine ggI ?_; intro g6 H
  refine sv (EV.ix 0 rfl rfl rfl g2 g6 rfl) rfl (sv (EV.fa 2 rfl) rfl ?_)
  revert H; refine bdI ?_; intro s7 A7 H; have q7 := stl (Option.some.inj A7)
  exact so rfl (op_stg x2_5 2 0 z62 (⟨(rd_T62 s5 x2_5).f0, (rd_T62 s5 x2_5).f1, wrap64 ((wrap64 (x2_1 + 1)) + 1)⟩ : S62) (Option.some.inj A7) rfl rfl rfl rfl g2 g6 rfl rfl rfl rfl dq rfl (rlT 0 (v' := .slice Al0 s7.length cl0) rfl (slq _ _ q7) (rlT 26 (v' := .slice Al0 s7.length cl0) rfl (slq _ _ q7) (nmE (en := [.sl 1 k62 Al0 cl0 s7 1 true]) (by kernel_rfl) (re (rg (sv (EV.mv rfl) rfl (sv (EV.add rfl rfl) rfl (sv (EV.as rfl) rfl (re (ge (rg (sv (EV.mv rfl) rfl (sv (EV.add rfl rfl) rfl (sv (EV.as rfl) rfl (re (pr [0, 1, 5] [] [0] rfl rfl rfl rfl (wk [0, 1, 5] [] [⟨0, 1, 1, false⟩] (ih0 _ (by omega) _ ⟨s7, wrap64 ((wrap64 ((wrap64 (x2_1 + 1)) + 1)) + 1), wrap64 (x2_5 + 1), H, (by first | rfl | assumption | omega | (simp only [List.length_set]; first | done | assumption | omega)), rfl⟩)))))))))))))))))))
 ·
  refine gf rfl (dF c1) (gx rfl (gs (rg (sv (EV.mv rfl) rfl (sv (EV.as rfl) rfl (re (pr [4] [] [0] rfl rfl rfl rfl ?_)))))))
  cases H
  exact rt Try.func20 rfl (.tmp rfl .nil) rfl [] [⟨0, 1, 1, false⟩] rfl rfl rfl rfl rfl ⟨rfl, rfl, rfl, by first | rfl | assumption | omega | (simp only [List.length_set]; first | done | assumption | omega)⟩
end Go.Proofs.Ythciieopabndcaa.K
namespace Go.Proofs.Ythciieopabndcaa.K
open Go Go.RowKit
set_option linter.unusedVariables false
set_option linter.unusedSimpArgs false
def laws_szBoolS.f (l0 : List Bool) (a1 : Int) : Option (Int) := if (wrap64 (a1 - (l0.length : Int))) < 0 then (some (-1)) else (some (wrap64 (a1 - (l0.length : Int))))
set_option maxHeartbeats 4000000 in
set_option maxRecDepth 100000 in
theorem laws_szBoolS.ok (l0 : List Bool) (Al0 : Option Addr) (cl0 : Nat) (a1 : Int) (r0 : Int) (H : laws_szBoolS.f l0 a1 = some r0) : Fn Try.prog 57 [.slice Al0 l0.length cl0, .int .i64 a1] [] [.sl 0 .bool Al0 cl0 l0 0 false] (fun v bx en => v = .int .i64 r0 ∧ bx = [] ∧ en = []) := by
 refine fn_ 12 Try.func57 rfl rfl rfl (fun base T w0 => ?_)
 rw [laws_szBoolS.f] at H
 refine gs (rg (sv (EV.as rfl) rfl (re (gs (rg (sv (EV.mv rfl) rfl (sv (EV.mv rfl) rfl (sv (EV.ln rfl) rfl (sv (EV.sub rfl rfl) rfl (sv (EV.as rfl) rfl (re (pr [1] [] [] rfl rfl rfl rfl (gs (gs (rg (sv (EV.mv rfl) rfl (sv (EV.lss rfl rfl) rfl (re ?_))))))))))))))))))
 revert H; refine ifsI ?_ ?_ <;> intro c1 H
 ·
  refine gt rfl (dT c1) (gs (rg (sv (EV.as rfl) rfl (re ?_))))
  cases H
  exact rt Try.func57 rfl (.tmp rfl .nil) rfl [] [] rfl rfl rfl rfl rfl ⟨rfl, rfl, rfl⟩
 ·
  refine gf rfl (dF c1) (gk (gs (rg (sv (EV.mv rfl) rfl (sv (EV.as rfl) rfl (re ?_))))))
  cases H
  exact rt Try.func57 rfl (.tmp rfl .nil) rfl [] [] rfl rfl rfl rfl rfl ⟨rfl, rfl, rfl⟩
end Go.Proofs.Ythciieopabndcaa.K
namespace Go.Proofs.Ythciieopabndcaa.K
open Go Go.RowKit
set_option linter.unusedVariables false
set_option linter.unusedSimpArgs false
def laws_szTask.f (a0_0 : Int) (l0_1 : List S64) (l0_2 : List S64) (l0_3 : List Bool) (a0_4 : Int) (a1 : Int) : Option (Int) := (laws_szRowS.f l0_1 a1).bind fun t1 => (if t1 < 0 then (some (-1)) else ((laws_szRowS.f l0_2 t1).bind fun t3 => (if t3 < 0 then (some (-1)) else ((laws_szBoolS.f l0_3 t3).bind fun t5 => (if t5 < 0 then (some (-1)) else (some t5))))))
set_option maxHeartbeats 4000000 in
set_option maxRecDepth 100000 in
theorem laws_szTask.ok (a0_0 : Int) (l0_1 : List S64) (Al0_1 : Option Addr) (cl0_1 : Nat) (l0_2 : List S64) (Al0_2 : Option Addr) (cl0_2 : Nat) (l0_3 : List Bool) (Al0_3 : Option Addr) (cl0_3 : Nat) (a0_4 : Int) (a1 : Int) (r0 : Int) (H : laws_szTask.f a0_0 l0_1 l0_2 l0_3 a0_4 a1 = some r0) : Fn Try.prog 22 [.agg #[.int .i64 a0_0, .slice Al0_1 l0_1.length cl0_1, .slice Al0_2 l0_2.length cl0_2, .slice Al0_3 l0_3.length cl0_3, .int .i64 a0_4], .int .i64 a1] [] [.sl 0 k64 Al0_1 cl0_1 l0_1 0 false, .sl 0 k64 Al0_2 cl0_2 l0_2 0 false, .sl 0 .bool Al0_3 cl0_3 l0_3 0 false] (fun v bx en => v = .int .i64 r0 ∧ bx = [] ∧ en = []) := by
 refine fn_ 24 Try.func22 rfl rfl rfl (fun base T w0 => ?_)
 rw [laws_szTask.f] at H
 refine gs (rg (so rfl (op_box (cs := [.int .i64 a0_0, .slice Al0_1 l0_1.length cl0_1, .slice Al0_2 l0_2.length cl0_2, .slice Al0_3 l0_3.length cl0_3, .int .i64 a0_4]) rfl rfl rfl fun b2 => (sv (EV.as rfl) rfl (re (gs (rg (sv (EV.fa 1 rfl) rfl (sv (EV.ld 0 none rfl rfl rfl) rfl (sv (EV.mv rfl) rfl ?_))))))))))
 revert H; refine bdI ?_; rintro t1 A1 H
 refine so rfl (op_call (laws_szRowS.ok l0_1 Al0_1 cl0_1 a1 _ A1) [⟨0, 0, 0, false⟩] 1 rfl rfl rfl rfl rfl ?_)
 rintro _ _ _ ⟨rfl, rfl, rfl⟩
 refine sv (EV.as rfl) rfl (re (pr [1, 2] [0] [0, 1, 2] rfl rfl rfl rfl (gs (gs (rg (sv (EV.mv rfl) rfl (sv (EV.lss rfl rfl) rfl (re ?_))))))))
 revert H; refine ifsI ?_ ?_ <;> intro c2 H
 ·
  refine gt rfl (dT c2) (gs (rg (sv (EV.as rfl) rfl (re ?_))))
  cases H
  exact rt Try.func22 rfl (.tmp rfl .nil) rfl [] [] rfl rfl rfl rfl rfl ⟨rfl, rfl, rfl⟩
 ·
  refine gf rfl (dF c2) (gk (gs (rg (sv (EV.fa 2 rfl) rfl (sv (EV.ld 0 none rfl rfl rfl) rfl (sv (EV.mv rfl) rfl ?_))))))
  revert H; refine bdI ?_; rintro t3 A3 H
  refine so rfl (op_call (laws_szRowS.ok l0_2 Al0_2 cl0_2 t1 _ A3) [⟨1, 0, 0, false⟩] 1 rfl rfl rfl rfl rfl ?_)
  rintro _ _ _ ⟨rfl, rfl, rfl⟩
  refine sv (EV.as rfl) rfl (re (pr [1, 2] [0] [0, 1, 2] rfl rfl rfl rfl (gs (gs (rg (sv (EV.mv rfl) rfl (sv (EV.lss rfl rfl) rfl (re ?_))))))))
  revert H; refine ifsI ?_ ?_ <;> intro c4 H
  ·
   refine gt rfl (dT c4) (gs (rg (sv (EV.as rfl) rfl (re ?_))))
   cases H
   exact rt Try.func22 rfl (.tmp rfl .nil) rfl [] [] rfl rfl rfl rfl rfl ⟨rfl, rfl, rfl⟩
  ·
   refine gf rfl (dF c4) (gk (gs (rg (sv (EV.fa 3 rfl) rfl (sv (EV.ld 0 none rfl rfl rfl) rfl (sv (EV.mv rfl) rfl ?_))))))
   revert H; refine bdI ?_; rintro t5 A5 H
   refine so rfl (op_call (laws_szBoolS.ok l0_3 Al0_3 cl0_3 t3 _ A5) [⟨2, 0, 0, false⟩] 1 rfl rfl rfl rfl rfl ?_)
   rintro _ _ _ ⟨rfl, rfl, rfl⟩
   refine sv (EV.as rfl) rfl (re (pr [1] [] [] rfl rfl rfl rfl (gs (gs (rg (sv (EV.mv rfl) rfl (sv (EV.lss rfl rfl) rfl (re ?_))))))))
   revert H; refine ifsI ?_ ?_ <;> intro c6 H
   ·
    refine gt rfl (dT c6) (gs (rg (sv (EV.as rfl) rfl (re ?_))))
    cases H
    exact rt Try.func22 rfl (.tmp rfl .nil) rfl [] [] rfl rfl rfl rfl rfl ⟨rfl, rfl, rfl⟩
   ·
    refine gf rfl (dF c6) (gk (gs (rg (sv (EV.mv rfl) rfl (sv (EV.as rfl) rfl (re ?_))))))
    cases H
    exact rt Try.func22 rfl (.tmp rfl .nil) rfl [] [] rfl rfl rfl rfl rfl ⟨rfl, rfl, rfl⟩
end Go.Proofs.Ythciieopabndcaa.K
namespace Go.Proofs.Ythciieopabndcaa.K
open Go Go.RowKit
set_option linter.unusedVariables false
set_option linter.unusedSimpArgs false
def laws_toBoolS.l0 : Nat → (List Bool) → Int → (List Bool) → Option ((List Bool))
 | 0, _, _, _ => none
 | k + 1, x2_3, x2_4, l0 => if x2_4 < (l0.length : Int) then (if 0 ≤ x2_4 then (if x2_4 < (x2_3.length : Int) then (laws_toBoolS.l0 k (x2_3.set x2_4.toNat (rdOf false l0 x2_4)) (wrap64 (x2_4 + 1)) l0) else none) else none) else (some x2_3)
def laws_toBoolS.f (k : Nat) (l0 : List Bool) : Option ((List Bool)) := if 0 ≤ (l0.length : Int) then (if (l0.length : Int).toNat ≤ 140737488355328 then (laws_toBoolS.l0 k (List.replicate (l0.length : Int).toNat false) 0 l0) else none) else none
set_option maxHeartbeats 4000000 in
set_option maxRecDepth 100000 in
theorem laws_toBoolS.ok (k : Nat) (l0 : List Bool) (Al0 : Option Addr) (cl0 : Nat) (r0 : List Bool) (H : laws_toBoolS.f k l0 = some r0) : Fn Try.prog 59 [.slice Al0 l0.length cl0] [] [.sl 0 .bool Al0 cl0 l0 0 false] (fun v bx en => ∃ A0 c0, v = .slice A0 r0.length c0 ∧ bx = [] ∧ en = [.sl 2 .bool A0 c0 r0 1 true]) := by
 refine fn_ 22 Try.func59 rfl rfl rfl (fun base T w0 => ?_)
 rw [laws_toBoolS.f] at H
 refine gs (rg (sv (EV.as rfl) rfl (re (gs (rg (sv (EV.mv rfl) rfl (sv (EV.ln rfl) rfl ?_)))))))
 revert H; refine ggI ?_; intro g1 H
 revert H; refine ggI ?_; intro g2 H
 refine so rfl (op_mk (s := 1) (by_ := 1) .bool false 1 rfl rfl g1 (mk1 g2 dq) (mk2 g2 dq) mk31 rfl rfl dq rfl fun A7_3 c7_3 => (sv (EV.as rfl) rfl (re (gs (gs (rg (sv (EV.as rfl) rfl (re (gb ?_)))))))))
 refine lo (fun kk S => ∃ (x2_3 : List Bool) (Ax2_3 : Option Addr) (cx2_3 : Nat) (x2_4 : Int), laws_toBoolS.l0 kk x2_3 x2_4 l0 = some r0 ∧ S = ⟨[(0, .slice Al0 l0.length cl0), (3, .slice Ax2_3 x2_3.length cx2_3), (4, .int .i64 x2_4)], [], [.sl 2 .bool Ax2_3 cx2_3 x2_3 1 true, .sl 0 .bool Al0 cl0 l0 0 false]⟩) (fun S hS => ?_) (fun n0 ih0 S hS => ?_) ⟨List.replicate (l0.length : Int).toNat false, A7_3, c7_3, 0, H, rfl⟩ (fun h => wk [0, 3, 4] [] [⟨1, 2, 1, true⟩, ⟨0, 0, 0, false⟩] h)
 · clear H; obtain ⟨_, _, _, _, H, _⟩ := hS; rw [laws_toBoolS.l0] at H; cases H
 clear H
 obtain ⟨x2_3, Ax2_3, cx2_3, x2_4, H, rfl⟩ := hS
 rw [laws_toBoolS.l0] at H
 refine gs (gs (rg (sv (EV.mv rfl) rfl (sv (EV.mv rfl) rfl (sv (EV.ln rfl) rfl (sv (EV.lss rfl rfl) rfl (re ?_)))))))
 revert H; refine ifsI ?_ ?_ <;> intro c4 H
 ·
  refine gt rfl (dT c4) (gk (gs (gb (rg (sv (EV.mv rfl) rfl (sv (EV.mv rfl) rfl (sv (EV.mv rfl) rfl (sv (EV.mv rfl) rfl ?_))))))))
  revert H; refine ggI ?_; intro g5 H
  refine sv (EV.ix 1 rfl rfl rfl g5 c4 rfl) rfl (sv (EV.le (v := .bool (rdOf false l0 x2_4)) x2_4 0 none 1 false rfl rfl rfl g5 c4 rfl rfl rfl) rfl ?_)
  revert H; refine ggI ?_; intro g6 H
  exact sv (EV.ix 0 rfl rfl rfl g5 g6 rfl) rfl (so rfl (op_stf x2_4 0 0 false (rdOf false l0 x2_4) rfl rfl rfl rfl g5 g6 rfl rfl rfl rfl dq rfl (rlT 3 (v' := .slice Ax2_3 (x2_3.set x2_4.toNat (rdOf false l0 x2_4)).length cx2_3) rfl (sle _ _ _ _ _) (rlT 14 (v' := .slice Ax2_3 (x2_3.set x2_4.toNat (rdOf false l0 x2_4)).length cx2_3) rfl (sle _ _ _ _ _) (nmE (en := [.sl 0 .bool Al0 cl0 l0 0 false, .sl 2 .bool Ax2_3 cx2_3 (x2_3.set x2_4.toNat (rdOf false l0 x2_4)) 1 true]) (by kernel_rfl) (re (pr [0, 3, 4] [] [0, 1] rfl rfl rfl rfl (ge (rg (sv (EV.mv rfl) rfl (sv (EV.add rfl rfl) rfl (sv (EV.as rfl) rfl (re (wk [0, 3, 4] [] [⟨1, 2, 1, true⟩, ⟨0, 0, 0, false⟩] (ih0 _ (by omega) _ ⟨x2_3.set x2_4.toNat (rdOf false l0 x2_4), Ax2_3, cx2_3, wrap64 (x2_4 + 1), H, rfl⟩)))))))))))))))
 ·
  refine gf rfl (dF c4) (gx rfl (gs (rg (sv (EV.mv rfl) rfl (sv (EV.as rfl) rfl (re (pr [2] [] [0] rfl rfl rfl rfl ?_)))))))
  cases H
  exact rt Try.func59 rfl (.tmp rfl .nil) rfl [] [⟨0, 2, 1, true⟩] rfl rfl rfl rfl rfl ⟨_, _, rfl, rfl, rfl⟩
end Go.Proofs.Ythciieopabndcaa.K
namespace Go.Proofs.Ythciieopabndcaa.K
open Go Go.RowKit
set_option linter.unusedVariables false
set_option linter.unusedSimpArgs false
def laws_toTask.f (k : Nat) (a0_0 : Int) (l0_1 : List S64) (l0_2 : List S64) (l0_3 : List Bool) (a0_4 : Int) : Option (Int × (List S62) × (List S62) × (List Bool) × Int) := (laws_toRowS.f k l0_1).bind fun t1 => ((laws_toRowS.f k l0_2).bind fun t2 => ((laws_toBoolS.f k l0_3).bind fun t3 => (some (a0_0, t1, t2, t3, a0_4))))
set_option maxHeartbeats 4000000 in
set_option maxRecDepth 100000 in
theorem laws_toTask.ok (k : Nat) (a0_0 : Int) (l0_1 : List S64) (Al0_1 : Option Addr) (cl0_1 : Nat) (l0_2 : List S64) (Al0_2 : Option Addr) (cl0_2 : Nat) (l0_3 : List Bool) (Al0_3 : Option Addr) (cl0_3 : Nat) (a0_4 : Int) (r0 : Int) (r1 : List S62) (r2 : List S62) (r3 : List Bool) (r4 : Int) (H : laws_toTask.f k a0_0 l0_1 l0_2 l0_3 a0_4 = some (r0, r1, r2, r3, r4)) : Fn Try.prog 24 [.agg #[.int .i64 a0_0, .slice Al0_1 l0_1.length cl0_1, .slice Al0_2 l0_2.length cl0_2, .slice Al0_3 l0_3.length cl0_3, .int .i64 a0_4]] [] [.sl 0 k64 Al0_1 cl0_1 l0_1 0 false, .sl 0 k64 Al0_2 cl0_2 l0_2 0 false, .sl 0 .bool Al0_3 cl0_3 l0_3 0 false] (fun v bx en => ∃ A1 c1 A2 c2 A3 c3, v = .agg #[.int .i64 r0, .slice A1 r1.length c1, .slice A2 r2.length c2, .slice A3 r3.length c3, .int .i64 r4] ∧ bx = [] ∧ en = [.sl 2 k62 A1 c1 r1 1 true, .sl 2 k62 A2 c2 r2 2 true, .sl 2 .bool A3 c3 r3 3 true]) := by
 refine fn_ 23 Try.func24 rfl rfl rfl (fun base T w0 => ?_)
 rw [laws_toTask.f] at H
 refine gs (rg (so rfl (op_box (cs := [.int .i64 a0_0, .slice Al0_1 l0_1.length cl0_1, .slice Al0_2 l0_2.length cl0_2, .slice Al0_3 l0_3.length cl0_3, .int .i64 a0_4]) rfl rfl rfl fun b1 => (so rfl (op_alloc (cs := [.int .i64 0, .slice none 0 0, .slice none 0 0, .slice none 0 0, .int .i64 0]) (by kernel_rfl) rfl fun b2 => (re (gs (rg (so rfl (op_alloc (cs := [.int .i64 0, .slice none 0 0, .slice none 0 0, .slice none 0 0, .int .i64 0]) (by kernel_rfl) rfl fun b3 => (re (gs (rg (sv (EV.fa 0 rfl) rfl (sv (EV.ld 0 none rfl rfl rfl) rfl (sv (EV.fa 0 rfl) rfl (so rfl (op_st (cs' := [.int .i64 a0_0, .slice none 0 0, .slice none 0 0, .slice none 0 0, .int .i64 0]) 2 rfl rfl rfl rfl rfl rfl (re (gs (rg (sv (EV.fa 1 rfl) rfl (sv (EV.ld 0 none rfl rfl rfl) rfl ?_)))))))))))))))))))))))
 revert H; refine bdI ?_; rintro t1 A1 H
 refine so rfl (op_call (laws_toRowS.ok k l0_1 Al0_1 cl0_1 _ A1) [⟨0, 0, 0, false⟩] 1 rfl rfl rfl rfl rfl ?_)
 rintro _ _ _ ⟨At1, ct1, rfl, rfl, rfl⟩
 refine sv (EV.fa 1 rfl) rfl (so rfl (op_st (cs' := [.int .i64 a0_0, .slice At1 t1.length ct1, .slice none 0 0, .slice none 0 0, .int .i64 0]) 2 rfl rfl rfl rfl rfl rfl (re (pr [1, 2, 3] [0, 1, 2] [0, 1, 2, 3] rfl rfl rfl rfl (gs (rg (sv (EV.fa 2 rfl) rfl (sv (EV.ld 0 none rfl rfl rfl) rfl ?_))))))))
 revert H; refine bdI ?_; rintro t2 A2 H
 refine so rfl (op_call (laws_toRowS.ok k l0_2 Al0_2 cl0_2 _ A2) [⟨1, 0, 0, false⟩] 3 rfl rfl rfl rfl rfl ?_)
 rintro _ _ _ ⟨At2, ct2, rfl, rfl, rfl⟩
 refine sv (EV.fa 2 rfl) rfl (so rfl (op_st (cs' := [.int .i64 a0_0, .slice At1 t1.length ct1, .slice At2 t2.length ct2, .slice none 0 0, .int .i64 0]) 2 rfl rfl rfl rfl rfl rfl (re (gs (rg (sv (EV.fa 3 rfl) rfl (sv (EV.ld 0 none rfl rfl rfl) rfl ?_)))))))
 revert H; refine bdI ?_; rintro t3 A3 H
 refine so rfl (op_call (laws_toBoolS.ok k l0_3 Al0_3 cl0_3 _ A3) [⟨2, 0, 0, false⟩] 5 rfl rfl rfl rfl rfl ?_)
 rintro _ _ _ ⟨At3, ct3, rfl, rfl, rfl⟩
 refine sv (EV.fa 3 rfl) rfl (so rfl (op_st (cs' := [.int .i64 a0_0, .slice At1 t1.length ct1, .slice At2 t2.length ct2, .slice At3 t3.length ct3, .int .i64 0]) 2 rfl rfl rfl rfl rfl rfl (re (pr [1, 2, 3] [0, 1, 2] [0, 1, 2, 3, 4, 5] rfl rfl rfl rfl (gs (rg (sv (EV.fa 4 rfl) rfl (sv (EV.ld 0 none rfl rfl rfl) rfl (sv (EV.fa 4 rfl) rfl (so rfl (op_st (cs' := [.int .i64 a0_0, .slice At1 t1.length ct1, .slice At2 t2.length ct2, .slice At3 t3.length ct3, .int .i64 a0_4]) 2 rfl rfl rfl rfl rfl rfl (re (gs (rg (sv (EV.ld (v := .agg #[.int .i64 a0_0, .slice At1 t1.length ct1, .slice At2 t2.length ct2, .slice At3 t3.length ct3, .int .i64 a0_4]) 2 (some 5) rfl rfl rfl) rfl (so rfl (op_st (cs' := [.int .i64 a0_0, .slice At1 t1.length ct1, .slice At2 t2.length ct2, .slice At3 t3.length ct3, .int .i64 a0_4]) 1 rfl rfl rfl rfl rfl rfl (re (pr [2] [1] [3, 4, 5] rfl rfl rfl rfl ?_)))))))))))))))))))
 cases H
 exact rt Try.func24 rfl (.cell 0 (some 5) rfl rfl rfl .nil) rfl [] [⟨0, 2, 1, true⟩, ⟨1, 2, 2, true⟩, ⟨2, 2, 3, true⟩] rfl rfl rfl rfl rfl ⟨_, _, _, _, _, _, rfl, rfl, rfl⟩
end Go.Proofs.Ythciieopabndcaa.K
namespace Go.Proofs.Ythciieopabndcaa.K
open Go Go.RowKit
set_option linter.unusedVariables false
set_option linter.unusedSimpArgs false
def laws_eqBoolS.l0 : Nat → Int → (List Bool) → (List Bool) → Option (Bool)
 | 0, _, _, _ => none
 | k + 1, x2_5, l0, l1 => if x2_5 < (l0.length : Int) then (if 0 ≤ x2_5 then (if x2_5 < (l1.length : Int) then (if ((rdOf false l0 x2_5) == (rdOf false l1 x2_5)) = true then (laws_eqBoolS.l0 k (wrap64 (x2_5 + 1)) l0 l1) else (some false)) else none) else none) else (some true)
def laws_eqBoolS.f (k : Nat) (l0 : List Bool) (l1 : List Bool) : Option (Bool) := if (l0.length : Int) = (l1.length : Int) then (laws_eqBoolS.l0 k 0 l0 l1) else (some false)
set_option maxHeartbeats 4000000 in
set_option maxRecDepth 100000 in
theorem laws_eqBoolS.ok (k : Nat) (l0 : List Bool) (Al0 : Option Addr) (cl0 : Nat) (l1 : List Bool) (Al1 : Option Addr) (cl1 : Nat) (r0 : Bool) (H : laws_eqBoolS.f k l0 l1 = some r0) : Fn Try.prog 61 [.slice Al0 l0.length cl0, .slice Al1 l1.length cl1] [] [.sl 0 .bool Al0 cl0 l0 0 false, .sl 0 .bool Al1 cl1 l1 0 false] (fun v bx en => v = .bool r0 ∧ bx = [] ∧ en = []) := by
 refine fn_ 26 Try.func61 rfl rfl rfl (fun base T w0 => ?_)
 rw [laws_eqBoolS.f] at H
 refine gs (rg (sv (EV.as rfl) rfl (re (gs (gs (rg (sv (EV.mv rfl) rfl (sv (EV.ln rfl) rfl (sv (EV.mv rfl) rfl (sv (EV.ln rfl) rfl (sv (EV.neq rfl rfl) rfl (re ?_))))))))))))
 revert H; refine ifsI ?_ ?_ <;> intro c1 H
 ·
  refine gf rfl (nF c1) (gk (gs (gs (rg (sv (EV.as rfl) rfl (re (pr [0, 1, 5] [] [0, 1] rfl rfl rfl rfl (gb ?_))))))))
  refine lo (fun kk S => ∃ (x2_5 : Int), laws_eqBoolS.l0 kk x2_5 l0 l1 = some r0 ∧ S = ⟨[(0, .slice Al0 l0.length cl0), (1, .slice Al1 l1.length cl1), (5, .int .i64 x2_5)], [], [.sl 0 .bool Al0 cl0 l0 0 false, .sl 0 .bool Al1 cl1 l1 0 false]⟩) (fun S hS => ?_) (fun n0 ih0 S hS => ?_) ⟨0, H, rfl⟩ (fun h => wk [0, 1, 5] [] [⟨0, 0, 0, false⟩, ⟨1, 0, 0, false⟩] h)
  · clear H; obtain ⟨_, H, _⟩ := hS; rw [laws_eqBoolS.l0] at H; cases H
  clear H
  obtain ⟨x2_5, H, rfl⟩ := hS
  rw [laws_eqBoolS.l0] at H
  refine gs (gs (rg (sv (EV.mv rfl) rfl (sv (EV.mv rfl) rfl (sv (EV.ln rfl) rfl (sv (EV.lss rfl rfl) rfl (re ?_)))))))
  revert H; refine ifsI ?_ ?_ <;> intro c2 H
  ·
   refine gt rfl (dT c2) (gk (gs (gb (gs ?_))))
   revert H; refine ggI ?_; intro g3 H
   revert H; refine ggI ?_; intro g4 H
   refine dr [] [0, 1] [] 9 rfl rfl rfl rfl (xv 0 [] [0, 1] rfl (EV.mv rfl) rfl rfl rfl rfl (xv 1 [] [0, 1] rfl (EV.mv rfl) rfl rfl rfl rfl (xv 2 [] [0, 1] rfl (EV.ix 0 rfl rfl rfl g3 c2 rfl) rfl rfl rfl rfl (xv 3 [] [0, 1] rfl (EV.le (v := .bool (rdOf false l0 x2_5)) x2_5 0 none 0 false rfl rfl rfl g3 c2 rfl rfl rfl) rfl rfl rfl rfl (xv 4 [] [0, 1] rfl (EV.mv rfl) rfl rfl rfl rfl (xv 5 [] [0, 1] rfl (EV.mv rfl) rfl rfl rfl rfl (xv 6 [] [0, 1] rfl (EV.ix 1 rfl rfl rfl g3 g4 rfl) rfl rfl rfl rfl (xv 7 [] [0, 1] rfl (EV.le (v := .bool (rdOf false l1 x2_5)) x2_5 0 none 1 false rfl rfl rfl g3 g4 rfl rfl rfl) rfl rfl rfl rfl (xv 8 [] [0, 1] rfl (EV.neb rfl rfl) rfl rfl rfl rfl (xd (pr [0, 1, 5, 25] [] [0, 1] rfl rfl rfl rfl ?_)))))))))))
   revert H; refine ifsI ?_ ?_ <;> intro c5 H
   ·
    exact gf rfl (bN c5) (gk (ge (rg (sv (EV.mv rfl) rfl (sv (EV.add rfl rfl) rfl (sv (EV.as rfl) rfl (re (wk [0, 1, 5] [] [⟨0, 0, 0, false⟩, ⟨1, 0, 0, false⟩] (ih0 _ (by omega) _ ⟨wrap64 (x2_5 + 1), H, rfl⟩)))))))))
   ·
    refine gt rfl (bM c5) (gs (rg (sv (EV.as rfl) rfl (re ?_))))
    cases H
    exact rt Try.func61 rfl (.tmp rfl .nil) rfl [] [] rfl rfl rfl rfl rfl ⟨rfl, rfl, rfl⟩
  ·
   refine gf rfl (dF c2) (gx rfl (gs (rg (sv (EV.as rfl) rfl (re (pr [4] [] [] rfl rfl rfl rfl ?_))))))
   cases H
   exact rt Try.func61 rfl (.tmp rfl .nil) rfl [] [] rfl rfl rfl rfl rfl ⟨rfl, rfl, rfl⟩
 ·
  refine gt rfl (nT c1) (gs (rg (sv (EV.as rfl) rfl (re (pr [4] [] [] rfl rfl rfl rfl ?_)))))
  cases H
  exact rt Try.func61 rfl (.tmp rfl .nil) rfl [] [] rfl rfl rfl rfl rfl ⟨rfl, rfl, rfl⟩
end Go.Proofs.Ythciieopabndcaa.K
namespace Go.Proofs.Ythciieopabndcaa.K
open Go Go.RowKit
set_option linter.unusedVariables false
set_option linter.unusedSimpArgs false
def laws_eqTask.f (k : Nat) (a0_0 : Int) (l0_1 : List S62) (l0_2 : List S62) (l0_3 : List Bool) (a0_4 : Int) (a1_0 : Int) (l1_1 : List S62) (l1_2 : List S62) (l1_3 : List Bool) (a1_4 : Int) : Option (Bool) := if a0_0 = a1_0 then ((laws_eqRowS.f k l0_1 l1_1).bind fun t2 => (if t2 = true then ((laws_eqRowS.f k l0_2 l1_2).bind fun t4 => (if t4 = true then ((laws_eqBoolS.f k l0_3 l1_3).bind fun t6 => (if t6 = true then (if a0_4 = a1_4 then (some true) else (some false)) else (some false))) else (some false))) else (some false))) else (some false)
set_option maxHeartbeats 4000000 in
set_option maxRecDepth 100000 in
theorem laws_eqTask.ok (k : Nat) (a0_0 : Int) (l0_1 : List S62) (Al0_1 : Option Addr) (cl0_1 : Nat) (l0_2 : List S62) (Al0_2 : Option Addr) (cl0_2 : Nat) (l0_3 : List Bool) (Al0_3 : Option Addr) (cl0_3 : Nat) (a0_4 : Int) (a1_0 : Int) (l1_1 : List S62) (Al1_1 : Option Addr) (cl1_1 : Nat) (l1_2 : List S62) (Al1_2 : Option Addr) (cl1_2 : Nat) (l1_3 : List Bool) (Al1_3 : Option Addr) (cl1_3 : Nat) (a1_4 : Int) (r0 : Bool) (H : laws_eqTask.f k a0_0 l0_1 l0_2 l0_3 a0_4 a1_0 l1_1 l1_2 l1_3 a1_4 = some r0) : Fn Try.prog 26 [.agg #[.int .i64 a0_0, .slice Al0_1 l0_1.length cl0_1, .slice Al0_2 l0_2.length cl0_2, .slice Al0_3 l0_3.length cl0_3, .int .i64 a0_4], .agg #[.int .i64 a1_0, .slice Al1_1 l1_1.length cl1_1, .slice Al1_2 l1_2.length cl1_2, .slice Al1_3 l1_3.length cl1_3, .int .i64 a1_4]] [] [.sl 0 k62 Al0_1 cl0_1 l0_1 0 false, .sl 0 k62 Al0_2 cl0_2 l0_2 0 false, .sl 0 .bool Al0_3 cl0_3 l0_3 0 false, .sl 0 k62 Al1_1 cl1_1 l1_1 0 false, .sl 0 k62 Al1_2 cl1_2 l1_2 0 false, .sl 0 .bool Al1_3 cl1_3 l1_3 0 false] (fun v bx en => v = .bool r0 ∧ bx = [] ∧ en = []) := by
 refine fn_ 33 Try.func26 rfl rfl rfl (fun base T w0 => ?_)
 rw [laws_eqTask.f] at H
 refine gs (rg (so rfl (op_box (cs := [.int .i64 a0_0, .slice Al0_1 l0_1.length cl0_1, .slice Al0_2 l0_2.length cl0_2, .slice Al0_3 l0_3.length cl0_3, .int .i64 a0_4]) rfl rfl rfl fun b2 => (so rfl (op_box (cs := [.int .i64 a1_0, .slice Al1_1 l1_1.length cl1_1, .slice Al1_2 l1_2.length cl1_2, .slice Al1_3 l1_3.length cl1_3, .int .i64 a1_4]) rfl rfl rfl fun b3 => (sv (EV.as rfl) rfl (re (gs (gs (rg (sv (EV.fa 0 rfl) rfl (sv (EV.ld 0 none rfl rfl rfl) rfl (sv (EV.fa 0 rfl) rfl (sv (EV.ld 1 none rfl rfl rfl) rfl (sv (EV.neq rfl rfl) rfl (re (pr [2, 3, 9] [0, 1] [0, 1, 2, 3, 4, 5] rfl rfl rfl rfl ?_)))))))))))))))))
 revert H; refine ifsI ?_ ?_ <;> intro c1 H
 ·
  refine gf rfl (nF c1) (gk (gs (gs (rg (sv (EV.fa 1 rfl) rfl (sv (EV.ld 0 none rfl rfl rfl) rfl (sv (EV.fa 1 rfl) rfl (sv (EV.ld 1 none rfl rfl rfl) rfl ?_))))))))
  revert H; refine bdI ?_; rintro t2 A2 H
  refine so rfl (op_call (laws_eqRowS.ok k l0_1 Al0_1 cl0_1 l1_1 Al1_1 cl1_1 _ A2) [⟨0, 0, 0, false⟩, ⟨3, 0, 0, false⟩] 1 rfl rfl rfl rfl rfl ?_)
  rintro _ _ _ ⟨rfl, rfl, rfl⟩
  refine sv (EV.nt rfl) rfl (re (pr [2, 3, 15] [0, 1] [0, 1, 2, 3, 4, 5] rfl rfl rfl rfl ?_))
  revert H; refine ifsI ?_ ?_ <;> intro c3 H
  ·
   subst c3
   refine gf rfl rfl (gk (gs (gs (rg (sv (EV.fa 2 rfl) rfl (sv (EV.ld 0 none rfl rfl rfl) rfl (sv (EV.fa 2 rfl) rfl (sv (EV.ld 1 none rfl rfl rfl) rfl ?_))))))))
   revert H; refine bdI ?_; rintro t4 A4 H
   refine so rfl (op_call (laws_eqRowS.ok k l0_2 Al0_2 cl0_2 l1_2 Al1_2 cl1_2 _ A4) [⟨1, 0, 0, false⟩, ⟨4, 0, 0, false⟩] 1 rfl rfl rfl rfl rfl ?_)
   rintro _ _ _ ⟨rfl, rfl, rfl⟩
   refine sv (EV.nt rfl) rfl (re (pr [2, 3, 21] [0, 1] [0, 1, 2, 3, 4, 5] rfl rfl rfl rfl ?_))
   revert H; refine ifsI ?_ ?_ <;> intro c5 H
   ·
    subst c5
    refine gf rfl rfl (gk (gs (gs (rg (sv (EV.fa 3 rfl) rfl (sv (EV.ld 0 none rfl rfl rfl) rfl (sv (EV.fa 3 rfl) rfl (sv (EV.ld 1 none rfl rfl rfl) rfl ?_))))))))
    revert H; refine bdI ?_; rintro t6 A6 H
    refine so rfl (op_call (laws_eqBoolS.ok k l0_3 Al0_3 cl0_3 l1_3 Al1_3 cl1_3 _ A6) [⟨2, 0, 0, false⟩, ⟨5, 0, 0, false⟩] 1 rfl rfl rfl rfl rfl ?_)
    rintro _ _ _ ⟨rfl, rfl, rfl⟩
    refine sv (EV.nt rfl) rfl (re (pr [2, 3, 27] [0, 1] [0, 1, 2, 3, 4, 5] rfl rfl rfl rfl ?_))
    revert H; refine ifsI ?_ ?_ <;> intro c7 H
    ·
     subst c7
     refine gf rfl rfl (gk (gs (gs (rg (sv (EV.fa 4 rfl) rfl (sv (EV.ld 0 none rfl rfl rfl) rfl (sv (EV.fa 4 rfl) rfl (sv (EV.ld 1 none rfl rfl rfl) rfl (sv (EV.neq rfl rfl) rfl (re (pr [32] [] [] rfl rfl rfl rfl ?_)))))))))))
     revert H; refine ifsI ?_ ?_ <;> intro c8 H
     ·
      refine gf rfl (nF c8) (gk (gs (rg (sv (EV.as rfl) rfl (re ?_)))))
      cases H
      exact rt Try.func26 rfl (.tmp rfl .nil) rfl [] [] rfl rfl rfl rfl rfl ⟨rfl, rfl, rfl⟩
     ·
      refine gt rfl (nT c8) (gs (rg (sv (EV.as rfl) rfl (re ?_))))
      cases H
      exact rt Try.func26 rfl (.tmp rfl .nil) rfl [] [] rfl rfl rfl rfl rfl ⟨rfl, rfl, rfl⟩
    ·
     obtain rfl := bF c7
     refine gt rfl rfl (gs (rg (sv (EV.as rfl) rfl (re ?_))))
     cases H
     exact rt Try.func26 rfl (.tmp rfl .nil) rfl [] [] rfl rfl rfl rfl rfl ⟨rfl, rfl, rfl⟩
   ·
    obtain rfl := bF c5
    refine gt rfl rfl (gs (rg (sv (EV.as rfl) rfl (re ?_))))
    cases H
    exact rt Try.func26 rfl (.tmp rfl .nil) rfl [] [] rfl rfl rfl rfl rfl ⟨rfl, rfl, rfl⟩
  ·
   obtain rfl := bF c3
   refine gt rfl rfl (gs (rg (sv (EV.as rfl) rfl (re ?_))))
   cases H
   exact rt Try.func26 rfl (.tmp rfl .nil) rfl [] [] rfl rfl rfl rfl rfl ⟨rfl, rfl, rfl⟩
 ·
  refine gt rfl (nT c1) (gs (rg (sv (EV.as rfl) rfl (re ?_))))
  cases H
  exact rt Try.func26 rfl (.tmp rfl .nil) rfl [] [] rfl rfl rfl rfl rfl ⟨rfl, rfl, rfl⟩
end Go.Proofs.Ythciieopabndcaa.K
namespace Go.Proofs.Ythciieopabndcaa.K
open Go Go.RowKit
set_option linter.unusedVariables false
set_option linter.unusedSimpArgs false
def laws_markBoolS.l0 : Nat → (List Bool) → Int → Int → Option (Int × (List Bool))
 | 0, _, _, _ => none
 | k + 1, x2_ml0, x2_1, x2_5 => if x2_5 < (x2_ml0.length : Int) then (if 0 ≤ x2_5 then (laws_markBoolS.l0 k (x2_ml0.set x2_5.toNat (decide ((Int.tmod x2_1 3) = 0))) (wrap64 (x2_1 + 1)) (wrap64 (x2_5 + 1))) else none) else (some (x2_1, x2_ml0))
def laws_markBoolS.f (k : Nat) (l0 : List Bool) (a1 : Int) : Option (Int × (List Bool)) := laws_markBoolS.l0 k l0 a1 0
set_option maxHeartbeats 4000000 in
set_option maxRecDepth 100000 in
theorem laws_markBoolS.ok (k : Nat) (l0 : List Bool) (Al0 : Option Addr) (cl0 : Nat) (a1 : Int) (r0 : Int) (r1 : List Bool) (H : laws_markBoolS.f k l0 a1 = some (r0, r1)) : Fn Try.prog 72 [.slice Al0 l0.length cl0, .int .i64 a1] [] [.sl 1 .bool Al0 cl0 l0 1 false] (fun v bx en => v = .int .i64 r0 ∧ bx = [] ∧ en = [.sl 1 .bool Al0 cl0 r1 1 false] ∧ r1.length = l0.length) := by
 refine fn_ 21 Try.func72 rfl rfl rfl (fun base T w0 => ?_)
 rw [laws_markBoolS.f] at H
 refine gs (rg (sv (EV.as rfl) rfl (re (gs (gs (rg (sv (EV.as rfl) rfl (re (gb ?_)))))))))
 refine lo (fun kk S => ∃ (x2_ml0 : List Bool) (x2_1 : Int) (x2_5 : Int), laws_markBoolS.l0 kk x2_ml0 x2_1 x2_5 = some (r0, r1) ∧ x2_ml0.length = l0.length ∧ S = ⟨[(0, .slice Al0 x2_ml0.length cl0), (1, .int .i64 x2_1), (5, .int .i64 x2_5)], [], [.sl 1 .bool Al0 cl0 x2_ml0 1 false]⟩) (fun S hS => ?_) (fun n0 ih0 S hS => ?_) ⟨l0, a1, 0, H, (by first | rfl | assumption | omega | (simp only [List.length_set]; first | done | assumption | omega)), rfl⟩ (fun h => wk [0, 1, 5] [] [⟨0, 1, 1, false⟩] h)
 · clear H; obtain ⟨_, _, _, H, _⟩ := hS; rw [laws_markBoolS.l0] at H; cases H
 clear H
 obtain ⟨x2_ml0, x2_1, x2_5, H, ex2_ml0, rfl⟩ := hS
 rw [laws_markBoolS.l0] at H
 refine gs (gs (rg (sv (EV.mv rfl) rfl (sv (EV.mv rfl) rfl (sv (EV.ln rfl) rfl (sv (EV.lss rfl rfl) rfl (re ?_)))))))
 revert H; refine ifsI ?_ ?_ <;> intro c1 H
 ·
  refine gt rfl (dT c1) (gk (gs (gb (gs (rg (sv (EV.mv rfl) rfl (sv (EV.mv rfl) rfl (sv (EV.mv rfl) rfl (sv (EV.rem rfl rfl dq) rfl (sv (EV.eql rfl rfl) rfl ?_))))))))))
  revert H; refine ggI ?_; intro g2 H
  exact sv (EV.ix 0 rfl rfl rfl g2 c1 rfl) rfl (so rfl (op_stf x2_5 0 0 false (decide ((Int.tmod x2_1 3) = 0)) rfl rfl rfl rfl g2 c1 rfl rfl rfl rfl dq rfl (rlT 0 (v' := .slice Al0 (x2_ml0.set x2_5.toNat (decide ((Int.tmod x2_1 3) = 0))).length cl0) rfl (sle _ _ _ _ _) (rlT 7 (v' := .slice Al0 (x2_ml0.set x2_5.toNat (decide ((Int.tmod x2_1 3) = 0))).length cl0) rfl (sle _ _ _ _ _) (rlT 12 (v' := .slice Al0 (x2_ml0.set x2_5.toNat (decide ((Int.tmod x2_1 3) = 0))).length cl0) rfl (sle _ _ _ _ _) (nmE (en := [.sl 1 .bool Al0 cl0 (x2_ml0.set x2_5.toNat (decide ((Int.tmod x2_1 3) = 0))) 1 true]) (by kernel_rfl) (re (pr [0, 1, 5] [] [0] rfl rfl rfl rfl (rg (sv (EV.mv rfl) rfl (sv (EV.add rfl rfl) rfl (sv (EV.as rfl) rfl (re (ge (rg (sv (EV.mv rfl) rfl (sv (EV.add rfl rfl) rfl (sv (EV.as rfl) rfl (re (wk [0, 1, 5] [] [⟨0, 1, 1, false⟩] (ih0 _ (by omega) _ ⟨x2_ml0.set x2_5.toNat (decide ((Int.tmod x2_1 3) = 0)), wrap64 (x2_1 + 1), wrap64 (x2_5 + 1), H, (by first | rfl | assumption | omega | (simp only [List.length_set]; first | done | assumption | omega)), rfl⟩)))))))))))))))))))))
 ·
  refine gf rfl (dF c1) (gx rfl (gs (rg (sv (EV.mv rfl) rfl (sv (EV.as rfl) rfl (re (pr [4] [] [0] rfl rfl rfl rfl ?_)))))))
  cases H
  exact rt Try.func72 rfl (.tmp rfl .nil) rfl [] [⟨0, 1, 1, false⟩] rfl rfl rfl rfl rfl ⟨rfl, rfl, rfl, by first | rfl | assumption | omega | (simp only [List.length_set]; first | done | assumption | omega)⟩
end Go.Proofs.Ythciieopabndcaa.K
namespace Go.Proofs.Ythciieopabndcaa.K
open Go Go.RowKit
set_option linter.unusedVariables false
set_option linter.unusedSimpArgs false
def laws_markTask.f (k : Nat) (a0_0 : Int) (l0_1 : List S62) (l0_2 : List S62) (l0_3 : List Bool) (a0_4 : Int) (a1 : Int) : Option (Int × (List S62) × (List S62) × (List Bool)) := (laws_markRowS.f k l0_1 a1).bind fun bt1 => ((laws_markRowS.f k l0_2 bt1.1).bind fun bt2 => ((laws_markBoolS.f k l0_3 bt2.1).bind fun bt3 => (some (bt3.1, bt1.2, bt2.2, bt3.2))))
set_option maxHeartbeats 4000000 in
set_option maxRecDepth 100000 in
theorem laws_markTask.ok (k : Nat) (a0_0 : Int) (l0_1 : List S62) (Al0_1 : Option Addr) (cl0_1 : Nat) (l0_2 : List S62) (Al0_2 : Option Addr) (cl0_2 : Nat) (l0_3 : List Bool) (Al0_3 : Option Addr) (cl0_3 : Nat) (a0_4 : Int) (a1 : Int) (r0 : Int) (r1 : List S62) (r2 : List S62) (r3 : List Bool) (H : laws_markTask.f k a0_0 l0_1 l0_2 l0_3 a0_4 a1 = some (r0, r1, r2, r3)) : Fn Try.prog 35 [.agg #[.int .i64 a0_0, .slice Al0_1 l0_1.length cl0_1, .slice Al0_2 l0_2.length cl0_2, .slice Al0_3 l0_3.length cl0_3, .int .i64 a0_4], .int .i64 a1] [] [.sl 1 k62 Al0_1 cl0_1 l0_1 1 false, .sl 1 k62 Al0_2 cl0_2 l0_2 2 false, .sl 1 .bool Al0_3 cl0_3 l0_3 3 false] (fun v bx en => v = .int .i64 r0 ∧ bx = [] ∧ en = [.sl 1 k62 Al0_1 cl0_1 r1 1 false, .sl 1 k62 Al0_2 cl0_2 r2 2 false, .sl 1 .bool Al0_3 cl0_3 r3 3 false] ∧ r1.length = l0_1.length ∧ r2.length = l0_2.length ∧ r3.length = l0_3.length) := by
 refine fn_ 18 Try.func35 rfl rfl rfl (fun base T w0 => ?_)
 rw [laws_markTask.f] at H
 refine gs (rg (so rfl (op_box (cs := [.int .i64 a0_0, .slice Al0_1 l0_1.length cl0_1, .slice Al0_2 l0_2.length cl0_2, .slice Al0_3 l0_3.length cl0_3, .int .i64 a0_4]) rfl rfl rfl fun b2 => (sv (EV.as rfl) rfl (re (gs (rg (sv (EV.fa 1 rfl) rfl (sv (EV.ld 0 none rfl rfl rfl) rfl (sv (EV.mv rfl) rfl ?_))))))))))
 revert H; refine bdI ?_; rintro ⟨t1_0, t1_1⟩ A1 H
 refine so rfl (op_callM (laws_markRowS.ok k l0_1 Al0_1 cl0_1 a1 _ _ A1) [⟨0, 1, 1, false⟩] [] [0] 4 rfl rfl rfl rfl rfl rfl rfl rfl ?_)
 rintro _ _ _ ⟨rfl, rfl, rfl, q1_0⟩
 refine rlT 0 (v' := .agg #[.int .i64 a0_0, .slice Al0_1 t1_1.length cl0_1, .slice Al0_2 l0_2.length cl0_2, .slice Al0_3 l0_3.length cl0_3, .int .i64 a0_4]) rfl (by simp only [q1_0]) (rlT 6 (v' := .slice Al0_1 t1_1.length cl0_1) rfl (slq _ _ q1_0) (rlB 0 (cs' := [.int .i64 a0_0, .slice Al0_1 t1_1.length cl0_1, .slice Al0_2 l0_2.length cl0_2, .slice Al0_3 l0_3.length cl0_3, .int .i64 a0_4]) rfl (by simp only [q1_0]) (nmE (en := [.sl 1 k62 Al0_2 cl0_2 l0_2 2 false, .sl 1 .bool Al0_3 cl0_3 l0_3 3 false, .sl 1 k62 Al0_1 cl0_1 t1_1 5 false]) (by kernel_rfl) (sv (EV.as rfl) rfl (re (pr [1, 2] [0] [0, 1, 2] rfl rfl rfl rfl (gs (rg (sv (EV.fa 2 rfl) rfl (sv (EV.ld 0 none rfl rfl rfl) rfl (sv (EV.mv rfl) rfl ?_)))))))))))
 revert H; refine bdI ?_; rintro ⟨t2_0, t2_1⟩ A2 H
 refine so rfl (op_callM (laws_markRowS.ok k l0_2 Al0_2 cl0_2 t1_0 _ _ A2) [⟨0, 1, 1, false⟩] [] [0] 6 rfl rfl rfl rfl rfl rfl rfl rfl ?_)
 rintro _ _ _ ⟨rfl, rfl, rfl, q2_0⟩
 refine rlT 10 (v' := .slice Al0_2 t2_1.length cl0_2) rfl (slq _ _ q2_0) (rlB 0 (cs' := [.int .i64 a0_0, .slice Al0_1 t1_1.length cl0_1, .slice Al0_2 t2_1.length cl0_2, .slice Al0_3 l0_3.length cl0_3, .int .i64 a0_4]) rfl (by simp only [q2_0]) (nmE (en := [.sl 1 .bool Al0_3 cl0_3 l0_3 3 false, .sl 1 k62 Al0_1 cl0_1 t1_1 5 false, .sl 1 k62 Al0_2 cl0_2 t2_1 7 false]) (by kernel_rfl) (sv (EV.as rfl) rfl (re (gs (rg (sv (EV.fa 3 rfl) rfl (sv (EV.ld 0 none rfl rfl rfl) rfl (sv (EV.mv rfl) rfl ?_)))))))))
 revert H; refine bdI ?_; rintro ⟨t3_0, t3_1⟩ A3 H
 refine so rfl (op_callM (laws_markBoolS.ok k l0_3 Al0_3 cl0_3 t2_0 _ _ A3) [⟨0, 1, 1, false⟩] [] [0] 8 rfl rfl rfl rfl rfl rfl rfl rfl ?_)
 rintro _ _ _ ⟨rfl, rfl, rfl, q3_0⟩
 refine rlT 14 (v' := .slice Al0_3 t3_1.length cl0_3) rfl (slq _ _ q3_0) (rlB 0 (cs' := [.int .i64 a0_0, .slice Al0_1 t1_1.length cl0_1, .slice Al0_2 t2_1.length cl0_2, .slice Al0_3 t3_1.length cl0_3, .int .i64 a0_4]) rfl (by simp only [q3_0]) (nmE (en := [.sl 1 k62 Al0_1 cl0_1 t1_1 5 false, .sl 1 k62 Al0_2 cl0_2 t2_1 7 false, .sl 1 .bool Al0_3 cl0_3 t3_1 9 false]) (by kernel_rfl) (sv (EV.as rfl) rfl (re (pr [1] [] [0, 1, 2] rfl rfl rfl rfl (gs (rg (sv (EV.mv rfl) rfl (sv (EV.as rfl) rfl (re ?_))))))))))
 cases H
 exact rt Try.func35 rfl (.tmp rfl .nil) rfl [] [⟨0, 1, 1, false⟩, ⟨1, 1, 2, false⟩, ⟨2, 1, 3, false⟩] rfl rfl rfl rfl rfl ⟨rfl, rfl, rfl, by first | rfl | assumption | omega | (simp only [List.length_set]; first | done | assumption | omega), by first | rfl | assumption | omega | (simp only [List.length_set]; first | done | assumption | omega), by first | rfl | assumption | omega | (simp only [List.length_set]; first | done | assumption | omega)⟩
end Go.Proofs.Ythciieopabndcaa.K
namespace Go.Proofs.Ythciieopabndcaa.K
open Go Go.RowKit
set_option linter.unusedVariables false
set_option linter.unusedSimpArgs false
def laws_heldRowS.l0 : Nat → Int → Int → (List S62) → Option (Int)
 | 0, _, _, _ => none
 | k + 1, x2_1, x2_5, l0 => if x2_5 < (l0.length : Int) then (if 0 ≤ x2_5 then (if ((rd_T62 l0 x2_5).f0) = x2_1 then (if ((rd_T62 l0 x2_5).f1) = (wrap64 (x2_1 + 1)) then (if ((rd_T62 l0 x2_5).f2) = (wrap64 ((wrap64 (x2_1 + 1)) + 1)) then (laws_heldRowS.l0 k (wrap64 ((wrap64 ((wrap64 (x2_1 + 1)) + 1)) + 1)) (wrap64 (x2_5 + 1)) l0) else (some (-1))) else (some (-1))) else (some (-1))) else none) else (some x2_1)
def laws_heldRowS.f (k : Nat) (l0 : List S62) (a1 : Int) : Option (Int) := laws_heldRowS.l0 k a1 0 l0
set_option maxHeartbeats 4000000 in
set_option maxRecDepth 100000 in
theorem laws_heldRowS.ok (k : Nat) (l0 : List S62) (Al0 : Option Addr) (cl0 : Nat) (a1 : Int) (r0 : Int) (H : laws_heldRowS.f k l0 a1 = some r0) : Fn Try.prog 21 [.slice Al0 l0.length cl0, .int .i64 a1] [] [.sl 0 k62 Al0 cl0 l0 0 false] (fun v bx en => v = .int .i64 r0 ∧ bx = [] ∧ en = []) := by
 refine fn_ 40 Try.func21 rfl rfl rfl (fun base T w0 => ?_)
 rw [laws_heldRowS.f] at H
 refine gs (rg (sv (EV.as rfl) rfl (re (gs (gs (rg (sv (EV.as rfl) rfl (re (gb ?_)))))))))
 refine lo (fun kk S => ∃ (x2_1 : Int) (x2_5 : Int), laws_heldRowS.l0 kk x2_1 x2_5 l0 = some r0 ∧ S = ⟨[(0, .slice Al0 l0.length cl0), (1, .int .i64 x2_1), (5, .int .i64 x2_5)], [], [.sl 0 k62 Al0 cl0 l0 0 false]⟩) (fun S hS => ?_) (fun n0 ih0 S hS => ?_) ⟨a1, 0, H, rfl⟩ (fun h => wk [0, 1, 5] [] [⟨0, 0, 0, false⟩] h)
 · clear H; obtain ⟨_, _, H, _⟩ := hS; rw [laws_heldRowS.l0] at H; cases H
 clear H
 obtain ⟨x2_1, x2_5, H, rfl⟩ := hS
 rw [laws_heldRowS.l0] at H
 refine gs (gs (rg (sv (EV.mv rfl) rfl (sv (EV.mv rfl) rfl (sv (EV.ln rfl) rfl (sv (EV.lss rfl rfl) rfl (re ?_)))))))
 revert H; refine ifsI ?_ ?_ <;> intro c1 H
 ·
  refine gt rfl (dT c1) (gk (gs (gb (gs (gs (rg (sv (EV.mv rfl) rfl (sv (EV.mv rfl) rfl ?_))))))))
  revert H; refine ggI ?_; intro g2 H
  refine sv (EV.ix 0 rfl rfl rfl g2 c1 rfl) rfl (sv (EV.fa 0 rfl) rfl (sv (EV.le (v := .int .i64 ((rd_T62 l0 x2_5).f0)) x2_5 0 none 0 z62 rfl rfl rfl g2 c1 rfl rfl rfl) rfl (sv (EV.mv rfl) rfl (sv (EV.neq rfl rfl) rfl (re (pr [0, 1, 5, 18] [] [0] rfl rfl rfl rfl ?_))))))
  revert H; refine ifsI ?_ ?_ <;> intro c3 H
  ·
   refine gf rfl (nF c3) (gk (gs (rg (sv (EV.mv rfl) rfl (sv (EV.add rfl rfl) rfl (sv (EV.as rfl) rfl (re (gs (gs (rg (sv (EV.mv rfl) rfl (sv (EV.mv rfl) rfl (sv (EV.ix 0 rfl rfl rfl g2 c1 rfl) rfl (sv (EV.fa 1 rfl) rfl (sv (EV.le (v := .int .i64 ((rd_T62 l0 x2_5).f1)) x2_5 1 none 0 z62 rfl rfl rfl g2 c1 rfl rfl rfl) rfl (sv (EV.mv rfl) rfl (sv (EV.neq rfl rfl) rfl (re (pr [0, 1, 5, 27] [] [0] rfl rfl rfl rfl ?_)))))))))))))))))))
   revert H; refine ifsI ?_ ?_ <;> intro c4 H
   ·
    refine gf rfl (nF c4) (gk (gs (rg (sv (EV.mv rfl) rfl (sv (EV.add rfl rfl) rfl (sv (EV.as rfl) rfl (re (gs (gs (rg (sv (EV.mv rfl) rfl (sv (EV.mv rfl) rfl (sv (EV.ix 0 rfl rfl rfl g2 c1 rfl) rfl (sv (EV.fa 2 rfl) rfl (sv (EV.le (v := .int .i64 ((rd_T62 l0 x2_5).f2)) x2_5 2 none 0 z62 rfl rfl rfl g2 c1 rfl rfl rfl) rfl (sv (EV.mv rfl) rfl (sv (EV.neq rfl rfl) rfl (re (pr [0, 1, 5, 36] [] [0] rfl rfl rfl rfl ?_)))))))))))))))))))
    revert H; refine ifsI ?_ ?_ <;> intro c5 H
    ·
     exact gf rfl (nF c5) (gk (rg (sv (EV.mv rfl) rfl (sv (EV.add rfl rfl) rfl (sv (EV.as rfl) rfl (re (ge (rg (sv (EV.mv rfl) rfl (sv (EV.add rfl rfl) rfl (sv (EV.as rfl) rfl (re (wk [0, 1, 5] [] [⟨0, 0, 0, false⟩] (ih0 _ (by omega) _ ⟨wrap64 ((wrap64 ((wrap64 (x2_1 + 1)) + 1)) + 1), wrap64 (x2_5 + 1), H, rfl⟩))))))))))))))
    ·
     refine gt rfl (nT c5) (gs (rg (sv (EV.as rfl) rfl (re ?_))))
     cases H
     exact rt Try.func21 rfl (.tmp rfl .nil) rfl [] [] rfl rfl rfl rfl rfl ⟨rfl, rfl, rfl⟩
   ·
    refine gt rfl (nT c4) (gs (rg (sv (EV.as rfl) rfl (re ?_))))
    cases H
    exact rt Try.func21 rfl (.tmp rfl .nil) rfl [] [] rfl rfl rfl rfl rfl ⟨rfl, rfl, rfl⟩
  ·
   refine gt rfl (nT c3) (gs (rg (sv (EV.as rfl) rfl (re ?_))))
   cases H
   exact rt Try.func21 rfl (.tmp rfl .nil) rfl [] [] rfl rfl rfl rfl rfl ⟨rfl, rfl, rfl⟩
 ·
  refine gf rfl (dF c1) (gx rfl (gs (rg (sv (EV.mv rfl) rfl (sv (EV.as rfl) rfl (re (pr [4] [] [] rfl rfl rfl rfl ?_)))))))
  cases H
  exact rt Try.func21 rfl (.tmp rfl .nil) rfl [] [] rfl rfl rfl rfl rfl ⟨rfl, rfl, rfl⟩
end Go.Proofs.Ythciieopabndcaa.K
namespace Go.Proofs.Ythciieopabndcaa.K
open Go Go.RowKit
set_option linter.unusedVariables false
set_option linter.unusedSimpArgs false
def laws_heldBoolS.l0 : Nat → Int → Int → (List Bool) → Option (Int)
 | 0, _, _, _ => none
 | k + 1, x2_1, x2_5, l0 => if x2_5 < (l0.length : Int) then (if 0 ≤ x2_5 then (if ((rdOf false l0 x2_5) == (decide ((Int.tmod x2_1 3) = 0))) = true then (laws_heldBoolS.l0 k (wrap64 (x2_1 + 1)) (wrap64 (x2_5 + 1)) l0) else (some (-1))) else none) else (some x2_1)
def laws_heldBoolS.f (k : Nat) (l0 : List Bool) (a1 : Int) : Option (Int) := laws_heldBoolS.l0 k a1 0 l0
set_option maxHeartbeats 4000000 in
set_option maxRecDepth 100000 in
theorem laws_heldBoolS.ok (k : Nat) (l0 : List Bool) (Al0 : Option Addr) (cl0 : Nat) (a1 : Int) (r0 : Int) (H : laws_heldBoolS.f k l0 a1 = some r0) : Fn Try.prog 73 [.slice Al0 l0.length cl0, .int .i64 a1] [] [.sl 0 .bool Al0 cl0 l0 0 false] (fun v bx en => v = .int .i64 r0 ∧ bx = [] ∧ en = []) := by
 refine fn_ 23 Try.func73 rfl rfl rfl (fun base T w0 => ?_)
 rw [laws_heldBoolS.f] at H
 refine gs (rg (sv (EV.as rfl) rfl (re (gs (gs (rg (sv (EV.as rfl) rfl (re (gb ?_)))))))))
 refine lo (fun kk S => ∃ (x2_1 : Int) (x2_5 : Int), laws_heldBoolS.l0 kk x2_1 x2_5 l0 = some r0 ∧ S = ⟨[(0, .slice Al0 l0.length cl0), (1, .int .i64 x2_1), (5, .int .i64 x2_5)], [], [.sl 0 .bool Al0 cl0 l0 0 false]⟩) (fun S hS => ?_) (fun n0 ih0 S hS => ?_) ⟨a1, 0, H, rfl⟩ (fun h => wk [0, 1, 5] [] [⟨0, 0, 0, false⟩] h)
 · clear H; obtain ⟨_, _, H, _⟩ := hS; rw [laws_heldBoolS.l0] at H; cases H
 clear H
 obtain ⟨x2_1, x2_5, H, rfl⟩ := hS
 rw [laws_heldBoolS.l0] at H
 refine gs (gs (rg (sv (EV.mv rfl) rfl (sv (EV.mv rfl) rfl (sv (EV.ln rfl) rfl (sv (EV.lss rfl rfl) rfl (re ?_)))))))
 revert H; refine ifsI ?_ ?_ <;> intro c1 H
 ·
  refine gt rfl (dT c1) (gk (gs (gb (gs (gs (rg (sv (EV.mv rfl) rfl (sv (EV.mv rfl) rfl ?_))))))))
  revert H; refine ggI ?_; intro g2 H
  refine sv (EV.ix 0 rfl rfl rfl g2 c1 rfl) rfl (sv (EV.le (v := .bool (rdOf false l0 x2_5)) x2_5 0 none 0 false rfl rfl rfl g2 c1 rfl rfl rfl) rfl (sv (EV.mv rfl) rfl (sv (EV.rem rfl rfl dq) rfl (sv (EV.eql rfl rfl) rfl (sv (EV.neb rfl rfl) rfl (re (pr [0, 1, 5, 19] [] [0] rfl rfl rfl rfl ?_)))))))
  revert H; refine ifsI ?_ ?_ <;> intro c3 H
  ·
   exact gf rfl (bN c3) (gk (rg (sv (EV.mv rfl) rfl (sv (EV.add rfl rfl) rfl (sv (EV.as rfl) rfl (re (ge (rg (sv (EV.mv rfl) rfl (sv (EV.add rfl rfl) rfl (sv (EV.as rfl) rfl (re (wk [0, 1, 5] [] [⟨0, 0, 0, false⟩] (ih0 _ (by omega) _ ⟨wrap64 (x2_1 + 1), wrap64 (x2_5 + 1), H, rfl⟩))))))))))))))
  ·
   refine gt rfl (bM c3) (gs (rg (sv (EV.as rfl) rfl (re ?_))))
   cases H
   exact rt Try.func73 rfl (.tmp rfl .nil) rfl [] [] rfl rfl rfl rfl rfl ⟨rfl, rfl, rfl⟩
 ·
  refine gf rfl (dF c1) (gx rfl (gs (rg (sv (EV.mv rfl) rfl (sv (EV.as rfl) rfl (re (pr [4] [] [] rfl rfl rfl rfl ?_)))))))
  cases H
  exact rt Try.func73 rfl (.tmp rfl .nil) rfl [] [] rfl rfl rfl rfl rfl ⟨rfl, rfl, rfl⟩
end Go.Proofs.Ythciieopabndcaa.K
namespace Go.Proofs.Ythciieopabndcaa.K
open Go Go.RowKit
set_option linter.unusedVariables false
set_option linter.unusedSimpArgs false
def laws_heldTask.f (k : Nat) (a0_0 : Int) (l0_1 : List S62) (l0_2 : List S62) (l0_3 : List Bool) (a0_4 : Int) (a1 : Int) : Option (Int) := (laws_heldRowS.f k l0_1 a1).bind fun t1 => (if t1 < 0 then (some (-1)) else ((laws_heldRowS.f k l0_2 t1).bind fun t3 => (if t3 < 0 then (some (-1)) else ((laws_heldBoolS.f k l0_3 t3).bind fun t5 => (if t5 < 0 then (some (-1)) else (some t5))))))
set_option maxHeartbeats 4000000 in
set_option maxRecDepth 100000 in
theorem laws_heldTask.ok (k : Nat) (a0_0 : Int) (l0_1 : List S62) (Al0_1 : Option Addr) (cl0_1 : Nat) (l0_2 : List S62) (Al0_2 : Option Addr) (cl0_2 : Nat) (l0_3 : List Bool) (Al0_3 : Option Addr) (cl0_3 : Nat) (a0_4 : Int) (a1 : Int) (r0 : Int) (H : laws_heldTask.f k a0_0 l0_1 l0_2 l0_3 a0_4 a1 = some r0) : Fn Try.prog 36 [.agg #[.int .i64 a0_0, .slice Al0_1 l0_1.length cl0_1, .slice Al0_2 l0_2.length cl0_2, .slice Al0_3 l0_3.length cl0_3, .int .i64 a0_4], .int .i64 a1] [] [.sl 0 k62 Al0_1 cl0_1 l0_1 0 false, .sl 0 k62 Al0_2 cl0_2 l0_2 0 false, .sl 0 .bool Al0_3 cl0_3 l0_3 0 false] (fun v bx en => v = .int .i64 r0 ∧ bx = [] ∧ en = []) := by
 refine fn_ 24 Try.func36 rfl rfl rfl (fun base T w0 => ?_)
 rw [laws_heldTask.f] at H
 refine gs (rg (so rfl (op_box (cs := [.int .i64 a0_0, .slice Al0_1 l0_1.length cl0_1, .slice Al0_2 l0_2.length cl0_2, .slice Al0_3 l0_3.length cl0_3, .int .i64 a0_4]) rfl rfl rfl fun b2 => (sv (EV.as rfl) rfl (re (gs (rg (sv (EV.fa 1 rfl) rfl (sv (EV.ld 0 none rfl rfl rfl) rfl (sv (EV.mv rfl) rfl ?_))))))))))
 revert H; refine bdI ?_; rintro t1 A1 H
 refine so rfl (op_call (laws_heldRowS.ok k l0_1 Al0_1 cl0_1 a1 _ A1) [⟨0, 0, 0, false⟩] 1 rfl rfl rfl rfl rfl ?_)
 rintro _ _ _ ⟨rfl, rfl, rfl⟩
 refine sv (EV.as rfl) rfl (re (pr [1, 2] [0] [0, 1, 2] rfl rfl rfl rfl (gs (gs (rg (sv (EV.mv rfl) rfl (sv (EV.lss rfl rfl) rfl (re ?_))))))))
 revert H; refine ifsI ?_ ?_ <;> intro c2 H
 ·
  refine gt rfl (dT c2) (gs (rg (sv (EV.as rfl) rfl (re ?_))))
  cases H
  exact rt Try.func36 rfl (.tmp rfl .nil) rfl [] [] rfl rfl rfl rfl rfl ⟨rfl, rfl, rfl⟩
 ·
  refine gf rfl (dF c2) (gk (gs (rg (sv (EV.fa 2 rfl) rfl (sv (EV.ld 0 none rfl rfl rfl) rfl (sv (EV.mv rfl) rfl ?_))))))
  revert H; refine bdI ?_; rintro t3 A3 H
  refine so rfl (op_call (laws_heldRowS.ok k l0_2 Al0_2 cl0_2 t1 _ A3) [⟨1, 0, 0, false⟩] 1 rfl rfl rfl rfl rfl ?_)
  rintro _ _ _ ⟨rfl, rfl, rfl⟩
  refine sv (EV.as rfl) rfl (re (pr [1, 2] [0] [0, 1, 2] rfl rfl rfl rfl (gs (gs (rg (sv (EV.mv rfl) rfl (sv (EV.lss rfl rfl) rfl (re ?_))))))))
  revert H; refine ifsI ?_ ?_ <;> intro c4 H
  ·
   refine gt rfl (dT c4) (gs (rg (sv (EV.as rfl) rfl (re ?_))))
   cases H
   exact rt Try.func36 rfl (.tmp rfl .nil) rfl [] [] rfl rfl rfl rfl rfl ⟨rfl, rfl, rfl⟩
  ·
   refine gf rfl (dF c4) (gk (gs (rg (sv (EV.fa 3 rfl) rfl (sv (EV.ld 0 none rfl rfl rfl) rfl (sv (EV.mv rfl) rfl ?_))))))
   revert H; refine bdI ?_; rintro t5 A5 H
   refine so rfl (op_call (laws_heldBoolS.ok k l0_3 Al0_3 cl0_3 t3 _ A5) [⟨2, 0, 0, false⟩] 1 rfl rfl rfl rfl rfl ?_)
   rintro _ _ _ ⟨rfl, rfl, rfl⟩
   refine sv (EV.as rfl) rfl (re (pr [1] [] [] rfl rfl rfl rfl (gs (gs (rg (sv (EV.mv rfl) rfl (sv (EV.lss rfl rfl) rfl (re ?_))))))))
   revert H; refine ifsI ?_ ?_ <;> intro c6 H
   ·
    refine gt rfl (dT c6) (gs (rg (sv (EV.as rfl) rfl (re ?_))))
    cases H
    exact rt Try.func36 rfl (.tmp rfl .nil) rfl [] [] rfl rfl rfl rfl rfl ⟨rfl, rfl, rfl⟩
   ·
    refine gf rfl (dF c6) (gk (gs (rg (sv (EV.mv rfl) rfl (sv (EV.as rfl) rfl (re ?_))))))
    cases H
    exact rt Try.func36 rfl (.tmp rfl .nil) rfl [] [] rfl rfl rfl rfl rfl ⟨rfl, rfl, rfl⟩
end Go.Proofs.Ythciieopabndcaa.K
namespace Go.Proofs.Ythciieopabndcaa.K
open Go Go.RowKit
set_option linter.unusedVariables false
set_option linter.unusedSimpArgs false
def laws_eqPair.f (a0_0 : Int) (a0_1 : Int) (a0_2 : Int) (a0_3 : Int) (a0_4 : Int) (a0_5 : Int) (a0_6 : Bool) (a1_0 : Int) (a1_1 : Int) (a1_2 : Int) (a1_3 : Int) (a1_4 : Int) (a1_5 : Int) (a1_6 : Bool) : Option (Bool) := (laws_eqRow.f a0_0 a0_1 a0_2 a1_0 a1_1 a1_2).bind fun t1 => (if t1 = true then ((laws_eqRow.f a0_3 a0_4 a0_5 a1_3 a1_4 a1_5).bind fun t3 => (if t3 = true then (if (a0_6 == a1_6) = true then (some true) else (some false)) else (some false))) else (some false))
set_option maxHeartbeats 4000000 in
set_option maxRecDepth 100000 in
theorem laws_eqPair.ok (a0_0 : Int) (a0_1 : Int) (a0_2 : Int) (a0_3 : Int) (a0_4 : Int) (a0_5 : Int) (a0_6 : Bool) (a1_0 : Int) (a1_1 : Int) (a1_2 : Int) (a1_3 : Int) (a1_4 : Int) (a1_5 : Int) (a1_6 : Bool) (r0 : Bool) (H : laws_eqPair.f a0_0 a0_1 a0_2 a0_3 a0_4 a0_5 a0_6 a1_0 a1_1 a1_2 a1_3 a1_4 a1_5 a1_6 = some r0) : Fn Try.prog 74 [.agg #[.int .i64 a0_0, .int .i64 a0_1, .int .i64 a0_2, .int .i64 a0_3, .int .i64 a0_4, .int .i64 a0_5, .bool a0_6], .agg #[.int .i64 a1_0, .int .i64 a1_1, .int .i64 a1_2, .int .i64 a1_3, .int .i64 a1_4, .int .i64 a1_5, .bool a1_6]] [] [] (fun v bx en => v = .bool r0 ∧ bx = [] ∧ en = []) := by
 refine fn_ 22 Try.func74 rfl rfl rfl (fun base T w0 => ?_)
 rw [laws_eqPair.f] at H
 refine gs (rg (so rfl (op_box (cs := [.int .i64 a0_0, .int .i64 a0_1, .int .i64 a0_2, .int .i64 a0_3, .int .i64 a0_4, .int .i64 a0_5, .bool a0_6]) rfl rfl rfl fun b2 => (so rfl (op_box (cs := [.int .i64 a1_0, .int .i64 a1_1, .int .i64 a1_2, .int .i64 a1_3, .int .i64 a1_4, .int .i64 a1_5, .bool a1_6]) rfl rfl rfl fun b3 => (sv (EV.as rfl) rfl (re (gs (gs (rg (sv (EV.fa 0 rfl) rfl (sv (EV.ld (v := .agg #[.int .i64 a0_0, .int .i64 a0_1, .int .i64 a0_2]) 0 (some 3) rfl rfl rfl) rfl (sv (EV.fa 0 rfl) rfl (sv (EV.ld (v := .agg #[.int .i64 a1_0, .int .i64 a1_1, .int .i64 a1_2]) 1 (some 3) rfl rfl rfl) rfl ?_))))))))))))))
 revert H; refine bdI ?_; rintro t1 A1 H
 refine so rfl (op_call (laws_eqRow.ok a0_0 a0_1 a0_2 a1_0 a1_1 a1_2 _ A1) [] 1 rfl rfl rfl rfl rfl ?_)
 rintro _ _ _ ⟨rfl, rfl, rfl⟩
 refine sv (EV.nt rfl) rfl (re (pr [2, 3, 10] [0, 1] [] rfl rfl rfl rfl ?_))
 revert H; refine ifsI ?_ ?_ <;> intro c2 H
 ·
  subst c2
  refine gf rfl rfl (gk (gs (gs (rg (sv (EV.fa 3 rfl) rfl (sv (EV.ld (v := .agg #[.int .i64 a0_3, .int .i64 a0_4, .int .i64 a0_5]) 0 (some 3) rfl rfl rfl) rfl (sv (EV.fa 3 rfl) rfl (sv (EV.ld (v := .agg #[.int .i64 a1_3, .int .i64 a1_4, .int .i64 a1_5]) 1 (some 3) rfl rfl rfl) rfl ?_))))))))
  revert H; refine bdI ?_; rintro t3 A3 H
  refine so rfl (op_call (laws_eqRow.ok a0_3 a0_4 a0_5 a1_3 a1_4 a1_5 _ A3) [] 1 rfl rfl rfl rfl rfl ?_)
  rintro _ _ _ ⟨rfl, rfl, rfl⟩
  refine sv (EV.nt rfl) rfl (re (pr [2, 3, 16] [0, 1] [] rfl rfl rfl rfl ?_))
  revert H; refine ifsI ?_ ?_ <;> intro c4 H
  ·
   subst c4
   refine gf rfl rfl (gk (gs (gs (rg (sv (EV.fa 6 rfl) rfl (sv (EV.ld 0 none rfl rfl rfl) rfl (sv (EV.fa 6 rfl) rfl (sv (EV.ld 1 none rfl rfl rfl) rfl (sv (EV.neb rfl rfl) rfl (re (pr [21] [] [] rfl rfl rfl rfl ?_)))))))))))
   revert H; refine ifsI ?_ ?_ <;> intro c5 H
   ·
    refine gf rfl (bN c5) (gk (gs (rg (sv (EV.as rfl) rfl (re ?_)))))
    cases H
    exact rt Try.func74 rfl (.tmp rfl .nil) rfl [] [] rfl rfl rfl rfl rfl ⟨rfl, rfl, rfl⟩
   ·
    refine gt rfl (bM c5) (gs (rg (sv (EV.as rfl) rfl (re ?_))))
    cases H
    exact rt Try.func74 rfl (.tmp rfl .nil) rfl [] [] rfl rfl rfl rfl rfl ⟨rfl, rfl, rfl⟩
  ·
   obtain rfl := bF c4
   refine gt rfl rfl (gs (rg (sv (EV.as rfl) rfl (re ?_))))
   cases H
   exact rt Try.func74 rfl (.tmp rfl .nil) rfl [] [] rfl rfl rfl rfl rfl ⟨rfl, rfl, rfl⟩
 ·
  obtain rfl := bF c2
  refine gt rfl rfl (gs (rg (sv (EV.as rfl) rfl (re ?_))))
  cases H
  exact rt Try.func74 rfl (.tmp rfl .nil) rfl [] [] rfl rfl rfl rfl rfl ⟨rfl, rfl, rfl⟩
end Go.Proofs.Ythciieopabndcaa.K
namespace Go.Proofs.Ythciieopabndcaa.K
open Go Go.RowKit
set_option linter.unusedVariables false
set_option linter.unusedSimpArgs false
def laws_eqPairS.l0 : Nat → Int → (List S75) → (List S75) → Option (Bool)
 | 0, _, _, _ => none
 | k + 1, x2_5, l0, l1 => if x2_5 < (l0.length : Int) then (if 0 ≤ x2_5 then (if x2_5 < (l1.length : Int) then ((laws_eqPair.f ((rd_T75 l0 x2_5).f0.f0) ((rd_T75 l0 x2_5).f0.f1) ((rd_T75 l0 x2_5).f0.f2) ((rd_T75 l0 x2_5).f1.f0) ((rd_T75 l0 x2_5).f1.f1) ((rd_T75 l0 x2_5).f1.f2) ((rd_T75 l0 x2_5).f2) ((rd_T75 l1 x2_5).f0.f0) ((rd_T75 l1 x2_5).f0.f1) ((rd_T75 l1 x2_5).f0.f2) ((rd_T75 l1 x2_5).f1.f0) ((rd_T75 l1 x2_5).f1.f1) ((rd_T75 l1 x2_5).f1.f2) ((rd_T75 l1 x2_5).f2)).bind fun t5 => (if t5 = true then (laws_eqPairS.l0 k (wrap64 (x2_5 + 1)) l0 l1) else (some false))) else none) else none) else (some true)
def laws_eqPairS.f (k : Nat) (l0 : List S75) (l1 : List S75) : Option (Bool) := if (l0.length : Int) = (l1.length : Int) then (laws_eqPairS.l0 k 0 l0 l1) else (some false)
set_option maxHeartbeats 4000000 in
set_option maxRecDepth 100000 in
theorem laws_eqPairS.ok (k : Nat) (l0 : List S75) (Al0 : Option Addr) (cl0 : Nat) (l1 : List S75) (Al1 : Option Addr) (cl1 : Nat) (r0 : Bool) (H : laws_eqPairS.f k l0 l1 = some r0) : Fn Try.prog 41 [.slice Al0 l0.length cl0, .slice Al1 l1.length cl1] [] [.sl 0 k75 Al0 cl0 l0 0 false, .sl 0 k75 Al1 cl1 l1 0 false] (fun v bx en => v = .bool r0 ∧ bx = [] ∧ en = []) := by
 refine fn_ 27 Try.func41 rfl rfl rfl (fun base T w0 => ?_)
 rw [laws_eqPairS.f] at H
 refine gs (rg (sv (EV.as rfl) rfl (re (gs (gs (rg (sv (EV.mv rfl) rfl (sv (EV.ln rfl) rfl (sv (EV.mv rfl) rfl (sv (EV.ln rfl) rfl (sv (EV.neq rfl rfl) rfl (re ?_))))))))))))
 revert H; refine ifsI ?_ ?_ <;> intro c1 H
 ·
  refine gf rfl (nF c1) (gk (gs (gs (rg (sv (EV.as rfl) rfl (re (pr [0, 1, 5] [] [0, 1] rfl rfl rfl rfl (gb ?_))))))))
  refine lo (fun kk S => ∃ (x2_5 : Int), laws_eqPairS.l0 kk x2_5 l0 l1 = some r0 ∧ S = ⟨[(0, .slice Al0 l0.length cl0), (1, .slice Al1 l1.length cl1), (5, .int .i64 x2_5)], [], [.sl 0 k75 Al0 cl0 l0 0 false, .sl 0 k75 Al1 cl1 l1 0 false]⟩) (fun S hS => ?_) (fun n0 ih0 S hS => ?_) ⟨0, H, rfl⟩ (fun h => wk [0, 1, 5] [] [⟨0, 0, 0, false⟩, ⟨1, 0, 0, false⟩] h)
  · clear H; obtain ⟨_, H, _⟩ := hS; rw [laws_eqPairS.l0] at H; cases H
  clear H
  obtain ⟨x2_5, H, rfl⟩ := hS
  rw [laws_eqPairS.l0] at H
  refine gs (gs (rg (sv (EV.mv rfl) rfl (sv (EV.mv rfl) rfl (sv (EV.ln rfl) rfl (sv (EV.lss rfl rfl) rfl (re ?_)))))))
  revert H; refine ifsI ?_ ?_ <;> intro c2 H
  ·
   refine gt rfl (dT c2) (gk (gs (gb (gs ?_))))
   revert H; refine ggI ?_; intro g3 H
   revert H; refine ggI ?_; intro g4 H
   refine dr [] [0, 1] [] 10 rfl rfl rfl rfl (xv 0 [] [0, 1] rfl (EV.mv rfl) rfl rfl rfl rfl (xv 1 [] [0, 1] rfl (EV.mv rfl) rfl rfl rfl rfl (xv 2 [] [0, 1] rfl (EV.ix 0 rfl rfl rfl g3 c2 rfl) rfl rfl rfl rfl (xv 3 [] [0, 1] rfl (EV.le (v := .agg #[.int .i64 ((rd_T75 l0 x2_5).f0.f0), .int .i64 ((rd_T75 l0 x2_5).f0.f1), .int .i64 ((rd_T75 l0 x2_5).f0.f2), .int .i64 ((rd_T75 l0 x2_5).f1.f0), .int .i64 ((rd_T75 l0 x2_5).f1.f1), .int .i64 ((rd_T75 l0 x2_5).f1.f2), .bool ((rd_T75 l0 x2_5).f2)]) x2_5 0 (some 7) 0 z75 rfl rfl rfl g3 c2 rfl rfl rfl) rfl rfl rfl rfl (xv 4 [] [0, 1] rfl (EV.mv rfl) rfl rfl rfl rfl (xv 5 [] [0, 1] rfl (EV.mv rfl) rfl rfl rfl rfl (xv 6 [] [0, 1] rfl (EV.ix 1 rfl rfl rfl g3 g4 rfl) rfl rfl rfl rfl (xv 7 [] [0, 1] rfl (EV.le (v := .agg #[.int .i64 ((rd_T75 l1 x2_5).f0.f0), .int .i64 ((rd_T75 l1 x2_5).f0.f1), .int .i64 ((rd_T75 l1 x2_5).f0.f2), .int .i64 ((rd_T75 l1 x2_5).f1.f0), .int .i64 ((rd_T75 l1 x2_5).f1.f1), .int .i64 ((rd_T75 l1 x2_5).f1.f2), .bool ((rd_T75 l1 x2_5).f2)]) x2_5 0 (some 7) 1 z75 rfl rfl rfl g3 g4 rfl rfl rfl) rfl rfl rfl rfl (one1 8 rfl rfl ?_)))))))))
   revert H; refine bdI ?_; rintro t5 A5 H
   refine op_call (laws_eqPair.ok ((rd_T75 l0 x2_5).f0.f0) ((rd_T75 l0 x2_5).f0.f1) ((rd_T75 l0 x2_5).f0.f2) ((rd_T75 l0 x2_5).f1.f0) ((rd_T75 l0 x2_5).f1.f1) ((rd_T75 l0 x2_5).f1.f2) ((rd_T75 l0 x2_5).f2) ((rd_T75 l1 x2_5).f0.f0) ((rd_T75 l1 x2_5).f0.f1) ((rd_T75 l1 x2_5).f0.f2) ((rd_T75 l1 x2_5).f1.f0) ((rd_T75 l1 x2_5).f1.f1) ((rd_T75 l1 x2_5).f1.f2) ((rd_T75 l1 x2_5).f2) _ A5) [] 1 rfl rfl rfl rfl rfl ?_
   rintro _ _ _ ⟨rfl, rfl, rfl⟩
   refine xs [] [0, 1] rfl rfl rfl (xv 9 [] [0, 1] rfl (EV.nt rfl) rfl rfl rfl rfl (xd (pr [0, 1, 5, 26] [] [0, 1] rfl rfl rfl rfl ?_)))
   revert H; refine ifsI ?_ ?_ <;> intro c6 H
   ·
    subst c6
    exact gf rfl rfl (gk (ge (rg (sv (EV.mv rfl) rfl (sv (EV.add rfl rfl) rfl (sv (EV.as rfl) rfl (re (wk [0, 1, 5] [] [⟨0, 0, 0, false⟩, ⟨1, 0, 0, false⟩] (ih0 _ (by omega) _ ⟨wrap64 (x2_5 + 1), H, rfl⟩)))))))))
   ·
    obtain rfl := bF c6
    refine gt rfl rfl (gs (rg (sv (EV.as rfl) rfl (re ?_))))
    cases H
    exact rt Try.func41 rfl (.tmp rfl .nil) rfl [] [] rfl rfl rfl rfl rfl ⟨rfl, rfl, rfl⟩
  ·
   refine gf rfl (dF c2) (gx rfl (gs (rg (sv (EV.as rfl) rfl (re (pr [4] [] [] rfl rfl rfl rfl ?_))))))
   cases H
   exact rt Try.func41 rfl (.tmp rfl .nil) rfl [] [] rfl rfl rfl rfl rfl ⟨rfl, rfl, rfl⟩
 ·
  refine gt rfl (nT c1) (gs (rg (sv (EV.as rfl) rfl (re (pr [4] [] [] rfl rfl rfl rfl ?_)))))
  cases H
  exact rt Try.func41 rfl (.tmp rfl .nil) rfl [] [] rfl rfl rfl rfl rfl ⟨rfl, rfl, rfl⟩
end Go.Proofs.Ythciieopabndcaa.K
namespace Go.Proofs.Ythciieopabndcaa.K
open Go Go.RowKit
set_option linter.unusedVariables false
set_option linter.unusedSimpArgs false
def laws_markPairS.l0 : Nat → (List S75) → Int → Int → Option (Int × (List S75))
 | 0, _, _, _ => none
 | k + 1, x2_ml0, x2_1, x2_5 => if x2_5 < (x2_ml0.length : Int) then (if 0 ≤ x2_5 then ((some (x2_ml0.set x2_5.toNat (⟨(⟨x2_1, (rd_T75 x2_ml0 x2_5).f0.f1, (rd_T75 x2_ml0 x2_5).f0.f2⟩ : S62), (⟨(rd_T75 x2_ml0 x2_5).f1.f0, (rd_T75 x2_ml0 x2_5).f1.f1, (rd_T75 x2_ml0 x2_5).f1.f2⟩ : S62), (rd_T75 x2_ml0 x2_5).f2⟩ : S75))).bind fun s3 => (if x2_5 < (s3.length : Int) then ((some (s3.set x2_5.toNat (⟨(⟨(rd_T75 s3 x2_5).f0.f0, wrap64 (x2_1 + 1), (rd_T75 s3 x2_5).f0.f2⟩ : S62), (⟨(rd_T75 s3 x2_5).f1.f0, (rd_T75 s3 x2_5).f1.f1, (rd_T75 s3 x2_5).f1.f2⟩ : S62), (rd_T75 s3 x2_5).f2⟩ : S75))).bind fun s5 => (if x2_5 < (s5.length : Int) then ((some (s5.set x2_5.toNat (⟨(⟨(rd_T75 s5 x2_5).f0.f0, (rd_T75 s5 x2_5).f0.f1, wrap64 ((wrap64 (x2_1 + 1)) + 1)⟩ : S62), (⟨(rd_T75 s5 x2_5).f1.f0, (rd_T75 s5 x2_5).f1.f1, (rd_T75 s5 x2_5).f1.f2⟩ : S62), (rd_T75 s5 x2_5).f2⟩ : S75))).bind fun s7 => (if x2_5 < (s7.length : Int) then ((some (s7.set x2_5.toNat (⟨(⟨(rd_T75 s7 x2_5).f0.f0, (rd_T75 s7 x2_5).f0.f1, (rd_T75 s7 x2_5).f0.f2⟩ : S62), (⟨wrap64 ((wrap64 ((wrap64 (x2_1 + 1)) + 1)) + 1), (rd_T75 s7 x2_5).f1.f1, (rd_T75 s7 x2_5).f1.f2⟩ : S62), (rd_T75 s7 x2_5).f2⟩ : S75))).bind fun s9 => (if x2_5 < (s9.length : Int) then ((some (s9.set x2_5.toNat (⟨(⟨(rd_T75 s9 x2_5).f0.f0, (rd_T75 s9 x2_5).f0.f1, (rd_T75 s9 x2_5).f0.f2⟩ : S62), (⟨(rd_T75 s9 x2_5).f1.f0, wrap64 ((wrap64 ((wrap64 ((wrap64 (x2_1 + 1)) + 1)) + 1)) + 1), (rd_T75 s9 x2_5).f1.f2⟩ : S62), (rd_T75 s9 x2_5).f2⟩ : S75))).bind fun s11 => (if x2_5 < (s11.length : Int) then ((some (s11.set x2_5.toNat (⟨(⟨(rd_T75 s11 x2_5).f0.f0, (rd_T75 s11 x2_5).f0.f1, (rd_T75 s11 x2_5).f0.f2⟩ : S62), (⟨(rd_T75 s11 x2_5).f1.f0, (rd_T75 s11 x2_5).f1.f1, wrap64 ((wrap64 ((wrap64 ((wrap64 ((wrap64 (x2_1 + 1)) + 1)) + 1)) + 1)) + 1)⟩ : S62), (rd_T75 s11 x2_5).f2⟩ : S75))).bind fun s13 => (if x2_5 < (s13.length : Int) then ((some (s13.set x2_5.toNat (⟨(⟨(rd_T75 s13 x2_5).f0.f0, (rd_T75 s13 x2_5).f0.f1, (rd_T75 s13 x2_5).f0.f2⟩ : S62), (⟨(rd_T75 s13 x2_5).f1.f0, (rd_T75 s13 x2_5).f1.f1, (rd_T75 s13 x2_5).f1.f2⟩ : S62), decide ((Int.tmod (wrap64 ((wrap64 ((wrap64 ((wrap64 ((wrap64 ((wrap64 (x2_1 + 1)) + 1)) + 1)) + 1)) + 1)) + 1)) 3) = 0)⟩ : S75))).bind fun s15 => (laws_markPairS.l0 k s15 (wrap64 ((wrap64 ((wrap64 ((wrap64 ((wrap64 ((wrap64 ((wrap64 (x2_1 + 1)) + 1)) + 1)) + 1)) + 1)) + 1)) + 1)) (wrap64 (x2_5 + 1)))) else none)) else none)) else none)) else none)) else none)) else none)) else none) else (some (x2_1, x2_ml0))
def laws_markPairS.f (k : Nat) (l0 : List S75) (a1 : Int) : Option (Int × (List S75)) := laws_markPairS.l0 k l0 a1 0
set_option maxHeartbeats 4000000 in
set_option maxRecDepth 100000 in
theorem laws_markPairS.ok (k : Nat) (l0 : List S75) (Al0 : Option Addr) (cl0 : Nat) (a1 : Int) (r0 : Int) (r1 : List S75) (H : laws_markPairS.f k l0 a1 = some (r0, r1)) : Fn Try.prog 42 [.slice Al0 l0.length cl0, .int .i64 a1] [] [.sl 1 k75 Al0 cl0 l0 1 false] (fun v bx en => v = .int .i64 r0 ∧ bx = [] ∧ en = [.sl 1 k75 Al0 cl0 r1 1 false] ∧ r1.length = l0.length) := by
 refine fn_ 70 Try.func42 rfl rfl rfl (fun base T w0 => ?_)
 rw [laws_markPairS.f] at H
 refine gs (rg (sv (EV.as rfl) rfl (re (gs (gs (rg (sv (EV.as rfl) rfl (re (gb ?_)))))))))
 refine lo (fun kk S => ∃ (x2_ml0 : List S75) (x2_1 : Int) (x2_5 : Int), laws_markPairS.l0 kk x2_ml0 x2_1 x2_5 = some (r0, r1) ∧ x2_ml0.length = l0.length ∧ S = ⟨[(0, .slice Al0 x2_ml0.length cl0), (1, .int .i64 x2_1), (5, .int .i64 x2_5)], [], [.sl 1 k75 Al0 cl0 x2_ml0 1 false]⟩) (fun S hS => ?_) (fun n0 ih0 S hS => ?_) ⟨l0, a1, 0, H, (by first | rfl | assumption | omega | (simp only [List.length_set]; first | done | assumption | omega)), rfl⟩ (fun h => wk [0, 1, 5] [] [⟨0, 1, 1, false⟩] h)
 · clear H; obtain ⟨_, _, _, H, _⟩ := hS; rw [laws_markPairS.l0] at H; cases H
 clear H
 obtain ⟨x2_ml0, x2_1, x2_5, H, ex2_ml0, rfl⟩ := hS
 rw [laws_markPairS.l0] at H
 refine gs (gs (rg (sv (EV.mv rfl) rfl (sv (EV.mv rfl) rfl (sv (EV.ln rfl) rfl (sv (EV.lss rfl rfl) rfl (re ?_)))))))
 revert H; refine ifsI ?_ ?_ <;> intro c1 H
 ·
  refine gt rfl (dT c1) (gk (gs (gb (gs (rg (sv (EV.mv rfl) rfl (sv (EV.mv rfl) rfl (sv (EV.mv rfl) rfl ?_))))))))
  revert H; refine ggI ?_; intro g2 H
  refine sv (EV.ix 0 rfl rfl rfl g2 c1 rfl) rfl (sv (EV.fa 0 rfl) rfl (sv (EV.fa 0 rfl) rfl ?_))
  revert H; refine bdI ?_; intro s3 A3 H; have q3 := stl (Option.some.inj A3)
  refine so rfl (op_stg x2_5 0 0 z75 (⟨(⟨x2_1, (rd_T75 x2_ml0 x2_5).f0.f1, (rd_T75 x2_ml0 x2_5).f0.f2⟩ : S62), (⟨(rd_T75 x2_ml0 x2_5).f1.f0, (rd_T75 x2_ml0 x2_5).f1.f1, (rd_T75 x2_ml0 x2_5).f1.f2⟩ : S62), (rd_T75 x2_ml0 x2_5).f2⟩ : S75) (Option.some.inj A3) rfl rfl rfl rfl g2 c1 rfl rfl rfl rfl dq rfl (rlT 0 (v' := .slice Al0 s3.length cl0) rfl (slq _ _ q3) (rlT 7 (v' := .slice Al0 s3.length cl0) rfl (slq _ _ q3) (rlT 12 (v' := .slice Al0 s3.length cl0) rfl (slq _ _ q3) (nmE (en := [.sl 1 k75 Al0 cl0 s3 1 true]) (by kernel_rfl) (re (pr [0, 1, 5] [] [0] rfl rfl rfl rfl (gs (rg (sv (EV.mv rfl) rfl (sv (EV.add rfl rfl) rfl (sv (EV.as rfl) rfl (re (gs (rg (sv (EV.mv rfl) rfl (sv (EV.mv rfl) rfl (sv (EV.mv rfl) rfl ?_))))))))))))))))))
  revert H; refine ggI ?_; intro g4 H
  refine sv (EV.ix 0 rfl rfl rfl g2 g4 rfl) rfl (sv (EV.fa 0 rfl) rfl (sv (EV.fa 1 rfl) rfl ?_))
  revert H; refine bdI ?_; intro s5 A5 H; have q5 := stl (Option.some.inj A5)
  refine so rfl (op_stg x2_5 1 0 z75 (⟨(⟨(rd_T75 s3 x2_5).f0.f0, wrap64 (x2_1 + 1), (rd_T75 s3 x2_5).f0.f2⟩ : S62), (⟨(rd_T75 s3 x2_5).f1.f0, (rd_T75 s3 x2_5).f1.f1, (rd_T75 s3 x2_5).f1.f2⟩ : S62), (rd_T75 s3 x2_5).f2⟩ : S75) (Option.some.inj A5) rfl rfl rfl rfl g2 g4 rfl rfl rfl rfl dq rfl (rlT 0 (v' := .slice Al0 s5.length cl0) rfl (slq _ _ q5) (rlT 20 (v' := .slice Al0 s5.length cl0) rfl (slq _ _ q5) (nmE (en := [.sl 1 k75 Al0 cl0 s5 1 true]) (by kernel_rfl) (re (gs (rg (sv (EV.mv rfl) rfl (sv (EV.add rfl rfl) rfl (sv (EV.as rfl) rfl (re (pr [0, 1, 5] [] [0] rfl rfl rfl rfl (gs (rg (sv (EV.mv rfl) rfl (sv (EV.mv rfl) rfl (sv (EV.mv rfl) rfl ?_)))))))))))))))))
  revert H; refine ggI ?_; intro g6 H
  refine sv (EV.ix 0 rfl rfl rfl g2 g6 rfl) rfl (sv (EV.fa 0 rfl) rfl (sv (EV.fa 2 rfl) rfl ?_))
  revert H; refine bdI ?_; intro s7 A7 H; have q7 := stl (Option.some.inj A7)
  refine so rfl (op_stg x2_5 2 0 z75 (⟨(⟨(rd_T75 s5 x2_5).f0.f0, (rd_T75 s5 x2_5).f0.f1, wrap64 ((wrap64 (x2_1 + 1)) + 1)⟩ : S62), (⟨(rd_T75 s5 x2_5).f1.f0, (rd_T75 s5 x2_5).f1.f1, (rd_T75 s5 x2_5).f1.f2⟩ : S62), (rd_T75 s5 x2_5).f2⟩ : S75) (Option.some.inj A7) rfl rfl rfl rfl g2 g6 rfl rfl rfl rfl dq rfl (rlT 0 (v' := .slice Al0 s7.length cl0) rfl (slq _ _ q7) (rlT 28 (v' := .slice Al0 s7.length cl0) rfl (slq _ _ q7) (nmE (en := [.sl 1 k75 Al0 cl0 s7 1 true]) (by kernel_rfl) (re (gs (rg (sv (EV.mv rfl) rfl (sv (EV.add rfl rfl) rfl (sv (EV.as rfl) rfl (re (gs (rg (sv (EV.mv rfl) rfl (sv (EV.mv rfl) rfl (sv (EV.mv rfl) rfl ?_))))))))))))))))
  revert H; refine ggI ?_; intro g8 H
  refine sv (EV.ix 0 rfl rfl rfl g2 g8 rfl) rfl (sv (EV.fa 3 rfl) rfl (sv (EV.fa 0 rfl) rfl ?_))
  revert H; refine bdI ?_; intro s9 A9 H; have q9 := stl (Option.some.inj A9)
  refine so rfl (op_stg x2_5 3 0 z75 (⟨(⟨(rd_T75 s7 x2_5).f0.f0, (rd_T75 s7 x2_5).f0.f1, (rd_T75 s7 x2_5).f0.f2⟩ : S62), (⟨wrap64 ((wrap64 ((wrap64 (x2_1 + 1)) + 1)) + 1), (rd_T75 s7 x2_5).f1.f1, (rd_T75 s7 x2_5).f1.f2⟩ : S62), (rd_T75 s7 x2_5).f2⟩ : S75) (Option.some.inj A9) rfl rfl rfl rfl g2 g8 rfl rfl rfl rfl dq rfl (rlT 0 (v' := .slice Al0 s9.length cl0) rfl (slq _ _ q9) (rlT 28 (v' := .slice Al0 s9.length cl0) rfl (slq _ _ q9) (rlT 36 (v' := .slice Al0 s9.length cl0) rfl (slq _ _ q9) (nmE (en := [.sl 1 k75 Al0 cl0 s9 1 true]) (by kernel_rfl) (re (pr [0, 1, 5] [] [0] rfl rfl rfl rfl (gs (rg (sv (EV.mv rfl) rfl (sv (EV.add rfl rfl) rfl (sv (EV.as rfl) rfl (re (gs (rg (sv (EV.mv rfl) rfl (sv (EV.mv rfl) rfl (sv (EV.mv rfl) rfl ?_))))))))))))))))))
  revert H; refine ggI ?_; intro g10 H
  refine sv (EV.ix 0 rfl rfl rfl g2 g10 rfl) rfl (sv (EV.fa 3 rfl) rfl (sv (EV.fa 1 rfl) rfl ?_))
  revert H; refine bdI ?_; intro s11 A11 H; have q11 := stl (Option.some.inj A11)
  refine so rfl (op_stg x2_5 4 0 z75 (⟨(⟨(rd_T75 s9 x2_5).f0.f0, (rd_T75 s9 x2_5).f0.f1, (rd_T75 s9 x2_5).f0.f2⟩ : S62), (⟨(rd_T75 s9 x2_5).f1.f0, wrap64 ((wrap64 ((wrap64 ((wrap64 (x2_1 + 1)) + 1)) + 1)) + 1), (rd_T75 s9 x2_5).f1.f2⟩ : S62), (rd_T75 s9 x2_5).f2⟩ : S75) (Option.some.inj A11) rfl rfl rfl rfl g2 g10 rfl rfl rfl rfl dq rfl (rlT 0 (v' := .slice Al0 s11.length cl0) rfl (slq _ _ q11) (rlT 44 (v' := .slice Al0 s11.length cl0) rfl (slq _ _ q11) (nmE (en := [.sl 1 k75 Al0 cl0 s11 1 true]) (by kernel_rfl) (re (gs (rg (sv (EV.mv rfl) rfl (sv (EV.add rfl rfl) rfl (sv (EV.as rfl) rfl (re (pr [0, 1, 5] [] [0] rfl rfl rfl rfl (gs (rg (sv (EV.mv rfl) rfl (sv (EV.mv rfl) rfl (sv (EV.mv rfl) rfl ?_)))))))))))))))))
  revert H; refine ggI ?_; intro g12 H
  refine sv (EV.ix 0 rfl rfl rfl g2 g12 rfl) rfl (sv (EV.fa 3 rfl) rfl (sv (EV.fa 2 rfl) rfl ?_))
  revert H; refine bdI ?_; intro s13 A13 H; have q13 := stl (Option.some.inj A13)
  refine so rfl (op_stg x2_5 5 0 z75 (⟨(⟨(rd_T75 s11 x2_5).f0.f0, (rd_T75 s11 x2_5).f0.f1, (rd_T75 s11 x2_5).f0.f2⟩ : S62), (⟨(rd_T75 s11 x2_5).f1.f0, (rd_T75 s11 x2_5).f1.f1, wrap64 ((wrap64 ((wrap64 ((wrap64 ((wrap64 (x2_1 + 1)) + 1)) + 1)) + 1)) + 1)⟩ : S62), (rd_T75 s11 x2_5).f2⟩ : S75) (Option.some.inj A13) rfl rfl rfl rfl g2 g12 rfl rfl rfl rfl dq rfl (rlT 0 (v' := .slice Al0 s13.length cl0) rfl (slq _ _ q13) (rlT 52 (v' := .slice Al0 s13.length cl0) rfl (slq _ _ q13) (nmE (en := [.sl 1 k75 Al0 cl0 s13 1 true]) (by kernel_rfl) (re (gs (rg (sv (EV.mv rfl) rfl (sv (EV.add rfl rfl) rfl (sv (EV.as rfl) rfl (re (gs (rg (sv (EV.mv rfl) rfl (sv (EV.mv rfl) rfl (sv (EV.mv rfl) rfl (sv (EV.rem rfl rfl dq) rfl (sv (EV.eql rfl rfl) rfl ?_))))))))))))))))))
  revert H; refine ggI ?_; intro g14 H
  refine sv (EV.ix 0 rfl rfl rfl g2 g14 rfl) rfl (sv (EV.fa 6 rfl) rfl ?_)
  revert H; refine bdI ?_; intro s15 A15 H; have q15 := stl (Option.some.inj A15)
  exact so rfl (op_stg x2_5 6 0 z75 (⟨(⟨(rd_T75 s13 x2_5).f0.f0, (rd_T75 s13 x2_5).f0.f1, (rd_T75 s13 x2_5).f0.f2⟩ : S62), (⟨(rd_T75 s13 x2_5).f1.f0, (rd_T75 s13 x2_5).f1.f1, (rd_T75 s13 x2_5).f1.f2⟩ : S62), decide ((Int.tmod (wrap64 ((wrap64 ((wrap64 ((wrap64 ((wrap64 ((wrap64 (x2_1 + 1)) + 1)) + 1)) + 1)) + 1)) + 1)) 3) = 0)⟩ : S75) (Option.some.inj A15) rfl rfl rfl rfl g2 g14 rfl rfl rfl rfl dq rfl (rlT 0 (v' := .slice Al0 s15.length cl0) rfl (slq _ _ q15) (rlT 52 (v' := .slice Al0 s15.length cl0) rfl (slq _ _ q15) (rlT 60 (v' := .slice Al0 s15.length cl0) rfl (slq _ _ q15) (nmE (en := [.sl 1 k75 Al0 cl0 s15 1 true]) (by kernel_rfl) (re (pr [0, 1, 5] [] [0] rfl rfl rfl rfl (rg (sv (EV.mv rfl) rfl (sv (EV.add rfl rfl) rfl (sv (EV.as rfl) rfl (re (ge (rg (sv (EV.mv rfl) rfl (sv (EV.add rfl rfl) rfl (sv (EV.as rfl) rfl (re (wk [0, 1, 5] [] [⟨0, 1, 1, false⟩] (ih0 _ (by omega) _ ⟨s15, wrap64 ((wrap64 ((wrap64 ((wrap64 ((wrap64 ((wrap64 ((wrap64 (x2_1 + 1)) + 1)) + 1)) + 1)) + 1)) + 1)) + 1), wrap64 (x2_5 + 1), H, (by first | rfl | assumption | omega | (simp only [List.length_set]; first | done | assumption | omega)), rfl⟩))))))))))))))))))))
 ·
  refine gf rfl (dF c1) (gx rfl (gs (rg (sv (EV.mv rfl) rfl (sv (EV.as rfl) rfl (re (pr [4] [] [0] rfl rfl rfl rfl ?_)))))))
  cases H
  exact rt Try.func42 rfl (.tmp rfl .nil) rfl [] [⟨0, 1, 1, false⟩] rfl rfl rfl rfl rfl ⟨rfl, rfl, rfl, by first | rfl | assumption | omega | (simp only [List.length_set]; first | done | assumption | omega)⟩
end Go.Proofs.Ythciieopabndcaa.K
namespace Go.Proofs.Ythciieopabndcaa.K
open Go Go.RowKit
set_option linter.unusedVariables false
set_option linter.unusedSimpArgs false
def laws_heldPairS.l0 : Nat → Int → Int → (List S75) → Option (Int)
 | 0, _, _, _ => none
 | k + 1, x2_1, x2_5, l0 => if x2_5 < (l0.length : Int) then (if 0 ≤ x2_5 then (if ((rd_T75 l0 x2_5).f0.f0) = x2_1 then (if ((rd_T75 l0 x2_5).f0.f1) = (wrap64 (x2_1 + 1)) then (if ((rd_T75 l0 x2_5).f0.f2) = (wrap64 ((wrap64 (x2_1 + 1)) + 1)) then (if ((rd_T75 l0 x2_5).f1.f0) = (wrap64 ((wrap64 ((wrap64 (x2_1 + 1)) + 1)) + 1)) then (if ((rd_T75 l0 x2_5).f1.f1) = (wrap64 ((wrap64 ((wrap64 ((wrap64 (x2_1 + 1)) + 1)) + 1)) + 1)) then (if ((rd_T75 l0 x2_5).f1.f2) = (wrap64 ((wrap64 ((wrap64 ((wrap64 ((wrap64 (x2_1 + 1)) + 1)) + 1)) + 1)) + 1)) then (if (((rd_T75 l0 x2_5).f2) == (decide ((Int.tmod (wrap64 ((wrap64 ((wrap64 ((wrap64 ((wrap64 ((wrap64 (x2_1 + 1)) + 1)) + 1)) + 1)) + 1)) + 1)) 3) = 0))) = true then (laws_heldPairS.l0 k (wrap64 ((wrap64 ((wrap64 ((wrap64 ((wrap64 ((wrap64 ((wrap64 (x2_1 + 1)) + 1)) + 1)) + 1)) + 1)) + 1)) + 1)) (wrap64 (x2_5 + 1)) l0) else (some (-1))) else (some (-1))) else (some (-1))) else (some (-1))) else (some (-1))) else (some (-1))) else (some (-1))) else none) else (some x2_1)
def laws_heldPairS.f (k : Nat) (l0 : List S75) (a1 : Int) : Option (Int) := laws_heldPairS.l0 k a1 0 l0
set_option maxHeartbeats 4000000 in
set_option maxRecDepth 100000 in
theorem laws_heldPairS.ok (k : Nat) (l0 : List S75) (Al0 : Option Addr) (cl0 : Nat) (a1 : Int) (r0 : Int) (H : laws_heldPairS.f k l0 a1 = some r0) : Fn Try.prog 43 [.slice Al0 l0.length cl0, .int .i64 a1] [] [.sl 0 k75 Al0 cl0 l0 0 false] (fun v bx en => v = .int .i64 r0 ∧ bx = [] ∧ en = []) := by
 refine fn_ 84 Try.func43 rfl rfl rfl (fun base T w0 => ?_)
 rw [laws_heldPairS.f] at H
 refine gs (rg (sv (EV.as rfl) rfl (re (gs (gs (rg (sv (EV.as rfl) rfl (re (gb ?_)))))))))
 refine lo (fun kk S => ∃ (x2_1 : Int) (x2_5 : Int), laws_heldPairS.l0 kk x2_1 x2_5 l0 = some r0 ∧ S = ⟨[(0, .slice Al0 l0.length cl0), (1, .int .i64 x2_1), (5, .int .i64 x2_5)], [], [.sl 0 k75 Al0 cl0 l0 0 false]⟩) (fun S hS => ?_) (fun n0 ih0 S hS => ?_) ⟨a1, 0, H, rfl⟩ (fun h => wk [0, 1, 5] [] [⟨0, 0, 0, false⟩] h)
 · clear H; obtain ⟨_, _, H, _⟩ := hS; rw [laws_heldPairS.l0] at H; cases H
 clear H
 obtain ⟨x2_1, x2_5, H, rfl⟩ := hS
 rw [laws_heldPairS.l0] at H
 refine gs (gs (rg (sv (EV.mv rfl) rfl (sv (EV.mv rfl) rfl (sv (EV.ln rfl) rfl (sv (EV.lss rfl rfl) rfl (re ?_)))))))
 revert H; refine ifsI ?_ ?_ <;> intro c1 H
 ·
  refine gt rfl (dT c1) (gk (gs (gb (gs (gs (rg (sv (EV.mv rfl) rfl (sv (EV.mv rfl) rfl ?_))))))))
  revert H; refine ggI ?_; intro g2 H
  refine sv (EV.ix 0 rfl rfl rfl g2 c1 rfl) rfl (sv (EV.fa 0 rfl) rfl (sv (EV.fa 0 rfl) rfl (sv (EV.le (v := .int .i64 ((rd_T75 l0 x2_5).f0.f0)) x2_5 0 none 0 z75 rfl rfl rfl g2 c1 rfl rfl rfl) rfl (sv (EV.mv rfl) rfl (sv (EV.neq rfl rfl) rfl (re (pr [0, 1, 5, 19] [] [0] rfl rfl rfl rfl ?_)))))))
  revert H; refine ifsI ?_ ?_ <;> intro c3 H
  ·
   refine gf rfl (nF c3) (gk (gs (rg (sv (EV.mv rfl) rfl (sv (EV.add rfl rfl) rfl (sv (EV.as rfl) rfl (re (gs (gs (rg (sv (EV.mv rfl) rfl (sv (EV.mv rfl) rfl (sv (EV.ix 0 rfl rfl rfl g2 c1 rfl) rfl (sv (EV.fa 0 rfl) rfl (sv (EV.fa 1 rfl) rfl (sv (EV.le (v := .int .i64 ((rd_T75 l0 x2_5).f0.f1)) x2_5 1 none 0 z75 rfl rfl rfl g2 c1 rfl rfl rfl) rfl (sv (EV.mv rfl) rfl (sv (EV.neq rfl rfl) rfl (re (pr [0, 1, 5, 29] [] [0] rfl rfl rfl rfl ?_))))))))))))))))))))
   revert H; refine ifsI ?_ ?_ <;> intro c4 H
   ·
    refine gf rfl (nF c4) (gk (gs (rg (sv (EV.mv rfl) rfl (sv (EV.add rfl rfl) rfl (sv (EV.as rfl) rfl (re (gs (gs (rg (sv (EV.mv rfl) rfl (sv (EV.mv rfl) rfl (sv (EV.ix 0 rfl rfl rfl g2 c1 rfl) rfl (sv (EV.fa 0 rfl) rfl (sv (EV.fa 2 rfl) rfl (sv (EV.le (v := .int .i64 ((rd_T75 l0 x2_5).f0.f2)) x2_5 2 none 0 z75 rfl rfl rfl g2 c1 rfl rfl rfl) rfl (sv (EV.mv rfl) rfl (sv (EV.neq rfl rfl) rfl (re (pr [0, 1, 5, 39] [] [0] rfl rfl rfl rfl ?_))))))))))))))))))))
    revert H; refine ifsI ?_ ?_ <;> intro c5 H
    ·
     refine gf rfl (nF c5) (gk (gs (rg (sv (EV.mv rfl) rfl (sv (EV.add rfl rfl) rfl (sv (EV.as rfl) rfl (re (gs (gs (rg (sv (EV.mv rfl) rfl (sv (EV.mv rfl) rfl (sv (EV.ix 0 rfl rfl rfl g2 c1 rfl) rfl (sv (EV.fa 3 rfl) rfl (sv (EV.fa 0 rfl) rfl (sv (EV.le (v := .int .i64 ((rd_T75 l0 x2_5).f1.f0)) x2_5 3 none 0 z75 rfl rfl rfl g2 c1 rfl rfl rfl) rfl (sv (EV.mv rfl) rfl (sv (EV.neq rfl rfl) rfl (re (pr [0, 1, 5, 49] [] [0] rfl rfl rfl rfl ?_))))))))))))))))))))
     revert H; refine ifsI ?_ ?_ <;> intro c6 H
     ·
      refine gf rfl (nF c6) (gk (gs (rg (sv (EV.mv rfl) rfl (sv (EV.add rfl rfl) rfl (sv (EV.as rfl) rfl (re (gs (gs (rg (sv (EV.mv rfl) rfl (sv (EV.mv rfl) rfl (sv (EV.ix 0 rfl rfl rfl g2 c1 rfl) rfl (sv (EV.fa 3 rfl) rfl (sv (EV.fa 1 rfl) rfl (sv (EV.le (v := .int .i64 ((rd_T75 l0 x2_5).f1.f1)) x2_5 4 none 0 z75 rfl rfl rfl g2 c1 rfl rfl rfl) rfl (sv (EV.mv rfl) rfl (sv (EV.neq rfl rfl) rfl (re (pr [0, 1, 5, 59] [] [0] rfl rfl rfl rfl ?_))))))))))))))))))))
      revert H; refine ifsI ?_ ?_ <;> intro c7 H
      ·
       refine gf rfl (nF c7) (gk (gs (rg (sv (EV.mv rfl) rfl (sv (EV.add rfl rfl) rfl (sv (EV.as rfl) rfl (re (gs (gs (rg (sv (EV.mv rfl) rfl (sv (EV.mv rfl) rfl (sv (EV.ix 0 rfl rfl rfl g2 c1 rfl) rfl (sv (EV.fa 3 rfl) rfl (sv (EV.fa 2 rfl) rfl (sv (EV.le (v := .int .i64 ((rd_T75 l0 x2_5).f1.f2)) x2_5 5 none 0 z75 rfl rfl rfl g2 c1 rfl rfl rfl) rfl (sv (EV.mv rfl) rfl (sv (EV.neq rfl rfl) rfl (re (pr [0, 1, 5, 69] [] [0] rfl rfl rfl rfl ?_))))))))))))))))))))
       revert H; refine ifsI ?_ ?_ <;> intro c8 H
       ·
        refine gf rfl (nF c8) (gk (gs (rg (sv (EV.mv rfl) rfl (sv (EV.add rfl rfl) rfl (sv (EV.as rfl) rfl (re (gs (gs (rg (sv (EV.mv rfl) rfl (sv (EV.mv rfl) rfl (sv (EV.ix 0 rfl rfl rfl g2 c1 rfl) rfl (sv (EV.fa 6 rfl) rfl (sv (EV.le (v := .bool ((rd_T75 l0 x2_5).f2)) x2_5 6 none 0 z75 rfl rfl rfl g2 c1 rfl rfl rfl) rfl (sv (EV.mv rfl) rfl (sv (EV.rem rfl rfl dq) rfl (sv (EV.eql rfl rfl) rfl (sv (EV.neb rfl rfl) rfl (re (pr [0, 1, 5, 80] [] [0] rfl rfl rfl rfl ?_)))))))))))))))))))))
        revert H; refine ifsI ?_ ?_ <;> intro c9 H
        ·
         exact gf rfl (bN c9) (gk (rg (sv (EV.mv rfl) rfl (sv (EV.add rfl rfl) rfl (sv (EV.as rfl) rfl (re (ge (rg (sv (EV.mv rfl) rfl (sv (EV.add rfl rfl) rfl (sv (EV.as rfl) rfl (re (wk [0, 1, 5] [] [⟨0, 0, 0, false⟩] (ih0 _ (by omega) _ ⟨wrap64 ((wrap64 ((wrap64 ((wrap64 ((wrap64 ((wrap64 ((wrap64 (x2_1 + 1)) + 1)) + 1)) + 1)) + 1)) + 1)) + 1), wrap64 (x2_5 + 1), H, rfl⟩))))))))))))))
        ·
         refine gt rfl (bM c9) (gs (rg (sv (EV.as rfl) rfl (re ?_))))
         cases H
         exact rt Try.func43 rfl (.tmp rfl .nil) rfl [] [] rfl rfl rfl rfl rfl ⟨rfl, rfl, rfl⟩
       ·
        refine gt rfl (nT c8) (gs (rg (sv (EV.as rfl) rfl (re ?_))))
        cases H
        exact rt Try.func43 rfl (.tmp rfl .nil) rfl [] [] rfl rfl rfl rfl rfl ⟨rfl, rfl, rfl⟩
      ·
       refine gt rfl (nT c7) (gs (rg (sv (EV.as rfl) rfl (re ?_))))
       cases H
       exact rt Try.func43 rfl (.tmp rfl .nil) rfl [] [] rfl rfl rfl rfl rfl ⟨rfl, rfl, rfl⟩
     ·
      refine gt rfl (nT c6) (gs (rg (sv (EV.as rfl) rfl (re ?_))))
      cases H
      exact rt Try.func43 rfl (.tmp rfl .nil) rfl [] [] rfl rfl rfl rfl rfl ⟨rfl, rfl, rfl⟩
    ·
     refine gt rfl (nT c5) (gs (rg (sv (EV.as rfl) rfl (re ?_))))
     cases H
     exact rt Try.func43 rfl (.tmp rfl .nil) rfl [] [] rfl rfl rfl rfl rfl ⟨rfl, rfl, rfl⟩
   ·
    refine gt rfl (nT c4) (gs (rg (sv (EV.as rfl) rfl (re ?_))))
    cases H
    exact rt Try.func43 rfl (.tmp rfl .nil) rfl [] [] rfl rfl rfl rfl rfl ⟨rfl, rfl, rfl⟩
  ·
   refine gt rfl (nT c3) (gs (rg (sv (EV.as rfl) rfl (re ?_))))
   cases H
   exact rt Try.func43 rfl (.tmp rfl .nil) rfl [] [] rfl rfl rfl rfl rfl ⟨rfl, rfl, rfl⟩
 ·
  refine gf rfl (dF c1) (gx rfl (gs (rg (sv (EV.mv rfl) rfl (sv (EV.as rfl) rfl (re (pr [4] [] [] rfl rfl rfl rfl ?_)))))))
  cases H
  exact rt Try.func43 rfl (.tmp rfl .nil) rfl [] [] rfl rfl rfl rfl rfl ⟨rfl, rfl, rfl⟩
end Go.Proofs.Ythciieopabndcaa.K
namespace Go.Proofs.Ythciieopabndcaa.K
open Go Go.RowKit
set_option linter.unusedVariables false
set_option linter.unusedSimpArgs false
def spec_l1In.f (a0 : Int) (a1 : Int) (a2 : Int) : Option (Bool) := if a0 ≥ a1 then (some (decide (a0 ≤ a2))) else (some false)
set_option maxHeartbeats 4000000 in
set_option maxRecDepth 100000 in
theorem spec_l1In.ok (a0 : Int) (a1 : Int) (a2 : Int) (r0 : Bool) (H : spec_l1In.f a0 a1 a2 = some r0) : Fn Try.prog 64 [.int .i64 a0, .int .i64 a1, .int .i64 a2] [] [] (fun v bx en => v = .bool r0 ∧ bx = [] ∧ en = []) := by
 refine fn_ 15 Try.func64 rfl rfl rfl (fun base T w0 => ?_)
 rw [spec_l1In.f] at H
 refine gs (rg (sv (EV.as rfl) rfl (re (gs (rg (sv (EV.mv rfl) rfl (sv (EV.mv rfl) rfl (sv (EV.geq rfl rfl) rfl (sv (EV.mv rfl) rfl ?_)))))))))
 revert H; refine ifsI ?_ ?_ <;> intro c1 H
 ·
  refine ts 10 rfl (dT c1) (sv (EV.mv rfl) rfl (sv (EV.mv rfl) rfl (sv (EV.leq rfl rfl) rfl (sv (EV.pt rfl rfl rfl) rfl (sv (EV.as rfl) rfl (re (pr [6] [] [] rfl rfl rfl rfl ?_)))))))
  cases H
  exact rt Try.func64 rfl (.tmp rfl .nil) rfl [] [] rfl rfl rfl rfl rfl ⟨rfl, rfl, rfl⟩
 ·
  refine ts 10 rfl (dF c1) (sk rfl (sk rfl (sk rfl (sv (EV.pf rfl rfl rfl) rfl (sv (EV.as rfl) rfl (re (pr [6] [] [] rfl rfl rfl rfl ?_)))))))
  cases H
  exact rt Try.func64 rfl (.tmp rfl .nil) rfl [] [] rfl rfl rfl rfl rfl ⟨rfl, rfl, rfl⟩
end Go.Proofs.Ythciieopabndcaa.K
namespace Go.Proofs.Ythciieopabndcaa.K
open Go Go.RowKit
set_option linter.unusedVariables false
set_option linter.unusedSimpArgs false
def spec_IsValidJoinKind.f (a0 : Int) : Option (Bool) := (spec_l1In.f a0 1 4).bind fun t1 => (some t1)
set_option maxHeartbeats 4000000 in
set_option maxRecDepth 100000 in
theorem spec_IsValidJoinKind.ok (a0 : Int) (r0 : Bool) (H : spec_IsValidJoinKind.f a0 = some r0) : Fn Try.prog 62 [.int .i64 a0] [] [] (fun v bx en => v = .bool r0 ∧ bx = [] ∧ en = []) := by
 refine fn_ 5 Try.func62 rfl rfl rfl (fun base T w0 => ?_)
 rw [spec_IsValidJoinKind.f] at H
 refine gs (rg (sv (EV.as rfl) rfl (re (gs (rg (sv (EV.mv rfl) rfl ?_))))))
 revert H; refine bdI ?_; rintro t1 A1 H
 refine so rfl (op_call (spec_l1In.ok a0 1 4 _ A1) [] 1 rfl rfl rfl rfl rfl ?_)
 rintro _ _ _ ⟨rfl, rfl, rfl⟩
 refine sv (EV.as rfl) rfl (re ?_)
 cases H
 exact rt Try.func62 rfl (.tmp rfl .nil) rfl [] [] rfl rfl rfl rfl rfl ⟨rfl, rfl, rfl⟩
end Go.Proofs.Ythciieopabndcaa.K
namespace Go.Proofs.Ythciieopabndcaa.K
open Go Go.RowKit
set_option linter.unusedVariables false
set_option linter.unusedSimpArgs false
def spec_IsValidRow.f (a0_0 : Int) (a0_1 : Int) (a0_2 : Int) : Option (Bool) := (spec_l1In.f a0_0 0 9).bind fun t1 => (if t1 = true then ((spec_l1In.f a0_1 0 99).bind fun t3 => (if t3 = true then ((spec_l1In.f a0_2 0 3).bind fun t5 => (some t5)) else (some false))) else (some false))
set_option maxHeartbeats 4000000 in
set_option maxRecDepth 100000 in
theorem spec_IsValidRow.ok (a0_0 : Int) (a0_1 : Int) (a0_2 : Int) (r0 : Bool) (H : spec_IsValidRow.f a0_0 a0_1 a0_2 = some r0) : Fn Try.prog 85 [.agg #[.int .i64 a0_0, .int .i64 a0_1, .int .i64 a0_2]] [] [] (fun v bx en => v = .bool r0 ∧ bx = [] ∧ en = []) := by
 refine fn_ 16 Try.func85 rfl rfl rfl (fun base T w0 => ?_)
 rw [spec_IsValidRow.f] at H
 refine gs (rg (so rfl (op_box (cs := [.int .i64 a0_0, .int .i64 a0_1, .int .i64 a0_2]) rfl rfl rfl fun b1 => (sv (EV.as rfl) rfl (re (gs (rg (sv (EV.fa 0 rfl) rfl (sv (EV.ld 0 none rfl rfl rfl) rfl ?_)))))))))
 revert H; refine bdI ?_; rintro t1 A1 H
 refine so rfl (op_call (spec_l1In.ok a0_0 0 9 _ A1) [] 1 rfl rfl rfl rfl rfl ?_)
 rintro _ _ _ ⟨rfl, rfl, rfl⟩
 refine sv (EV.mv rfl) rfl ?_
 revert H; refine ifsI ?_ ?_ <;> intro c2 H
 ·
  subst c2
  refine ts 6 rfl rfl (sv (EV.fa 1 rfl) rfl (sv (EV.ld 0 none rfl rfl rfl) rfl ?_))
  revert H; refine bdI ?_; rintro t3 A3 H
  refine so rfl (op_call (spec_l1In.ok a0_1 0 99 _ A3) [] 1 rfl rfl rfl rfl rfl ?_)
  rintro _ _ _ ⟨rfl, rfl, rfl⟩
  refine sv (EV.pt rfl rfl rfl) rfl (sv (EV.mv rfl) rfl ?_)
  revert H; refine ifsI ?_ ?_ <;> intro c4 H
  ·
   subst c4
   refine ts 11 rfl rfl (sv (EV.fa 2 rfl) rfl (sv (EV.ld 0 none rfl rfl rfl) rfl ?_))
   revert H; refine bdI ?_; rintro t5 A5 H
   refine so rfl (op_call (spec_l1In.ok a0_2 0 3 _ A5) [] 1 rfl rfl rfl rfl rfl ?_)
   rintro _ _ _ ⟨rfl, rfl, rfl⟩
   refine sv (EV.pt rfl rfl rfl) rfl (sv (EV.as rfl) rfl (re (pr [2] [] [] rfl rfl rfl rfl ?_)))
   cases H
   exact rt Try.func85 rfl (.tmp rfl .nil) rfl [] [] rfl rfl rfl rfl rfl ⟨rfl, rfl, rfl⟩
  ·
   obtain rfl := bF c4
   refine ts 11 rfl rfl (sk rfl (sk rfl (sk rfl (sv (EV.pf rfl rfl rfl) rfl (sv (EV.as rfl) rfl (re (pr [2] [] [] rfl rfl rfl rfl ?_)))))))
   cases H
   exact rt Try.func85 rfl (.tmp rfl .nil) rfl [] [] rfl rfl rfl rfl rfl ⟨rfl, rfl, rfl⟩
 ·
  obtain rfl := bF c2
  refine ts 6 rfl rfl (sk rfl (sk rfl (sk rfl (sv (EV.pf rfl rfl rfl) rfl (sv (EV.mv rfl) rfl (sk rfl (sk rfl (sk rfl (sv (EV.pf rfl rfl rfl) rfl (sv (EV.as rfl) rfl (re (pr [2] [] [] rfl rfl rfl rfl ?_))))))))))))
  cases H
  exact rt Try.func85 rfl (.tmp rfl .nil) rfl [] [] rfl rfl rfl rfl rfl ⟨rfl, rfl, rfl⟩
end Go.Proofs.Ythciieopabndcaa.K
namespace Go.Proofs.Ythciieopabndcaa.K
open Go Go.RowKit
set_option linter.unusedVariables false
set_option linter.unusedSimpArgs false
def spec_AreValidRows.l0 : Nat → Int → (List S62) → Option (Bool)
 | 0, _, _ => none
 | k + 1, x2_3, l0 => if x2_3 < (l0.length : Int) then (if 0 ≤ x2_3 then ((spec_IsValidRow.f ((rd_T62 l0 x2_3).f0) ((rd_T62 l0 x2_3).f1) ((rd_T62 l0 x2_3).f2)).bind fun t3 => (if t3 = true then (spec_AreValidRows.l0 k (wrap64 (x2_3 + 1)) l0) else (some false))) else none) else (some (decide ((l0.length : Int) ≤ 24)))
def spec_AreValidRows.f (k : Nat) (l0 : List S62) : Option (Bool) := spec_AreValidRows.l0 k 0 l0
set_option maxHeartbeats 4000000 in
set_option maxRecDepth 100000 in
theorem spec_AreValidRows.ok (k : Nat) (l0 : List S62) (Al0 : Option Addr) (cl0 : Nat) (r0 : Bool) (H : spec_AreValidRows.f k l0 = some r0) : Fn Try.prog 63 [.slice Al0 l0.length cl0] [] [.sl 0 k62 Al0 cl0 l0 0 false] (fun v bx en => v = .bool r0 ∧ bx = [] ∧ en = []) := by
 refine fn_ 19 Try.func63 rfl rfl rfl (fun base T w0 => ?_)
 rw [spec_AreValidRows.f] at H
 refine gs (rg (sv (EV.as rfl) rfl (re (gs (gs (rg (sv (EV.as rfl) rfl (re (gb ?_)))))))))
 refine lo (fun kk S => ∃ (x2_3 : Int), spec_AreValidRows.l0 kk x2_3 l0 = some r0 ∧ S = ⟨[(0, .slice Al0 l0.length cl0), (3, .int .i64 x2_3)], [], [.sl 0 k62 Al0 cl0 l0 0 false]⟩) (fun S hS => ?_) (fun n0 ih0 S hS => ?_) ⟨0, H, rfl⟩ (fun h => wk [0, 3] [] [⟨0, 0, 0, false⟩] h)
 · clear H; obtain ⟨_, H, _⟩ := hS; rw [spec_AreValidRows.l0] at H; cases H
 clear H
 obtain ⟨x2_3, H, rfl⟩ := hS
 rw [spec_AreValidRows.l0] at H
 refine gs (gs (rg (sv (EV.mv rfl) rfl (sv (EV.mv rfl) rfl (sv (EV.ln rfl) rfl (sv (EV.lss rfl rfl) rfl (re ?_)))))))
 revert H; refine ifsI ?_ ?_ <;> intro c1 H
 ·
  refine gt rfl (dT c1) (gk (gs (gb (gs (rg (sv (EV.mv rfl) rfl (sv (EV.mv rfl) rfl ?_)))))))
  revert H; refine ggI ?_; intro g2 H
  refine sv (EV.ix 0 rfl rfl rfl g2 c1 rfl) rfl (sv (EV.le (v := .agg #[.int .i64 ((rd_T62 l0 x2_3).f0), .int .i64 ((rd_T62 l0 x2_3).f1), .int .i64 ((rd_T62 l0 x2_3).f2)]) x2_3 0 (some 3) 0 z62 rfl rfl rfl g2 c1 rfl rfl rfl) rfl ?_)
  revert H; refine bdI ?_; rintro t3 A3 H
  refine so rfl (op_call (spec_IsValidRow.ok ((rd_T62 l0 x2_3).f0) ((rd_T62 l0 x2_3).f1) ((rd_T62 l0 x2_3).f2) _ A3) [] 1 rfl rfl rfl rfl rfl ?_)
  rintro _ _ _ ⟨rfl, rfl, rfl⟩
  refine sv (EV.nt rfl) rfl (re (pr [0, 3, 15] [] [0] rfl rfl rfl rfl ?_))
  revert H; refine ifsI ?_ ?_ <;> intro c4 H
  ·
   subst c4
   exact gf rfl rfl (gk (ge (rg (sv (EV.mv rfl) rfl (sv (EV.add rfl rfl) rfl (sv (EV.as rfl) rfl (re (wk [0, 3] [] [⟨0, 0, 0, false⟩] (ih0 _ (by omega) _ ⟨wrap64 (x2_3 + 1), H, rfl⟩)))))))))
  ·
   obtain rfl := bF c4
   refine gt rfl rfl (gs (rg (sv (EV.as rfl) rfl (re ?_))))
   cases H
   exact rt Try.func63 rfl (.tmp rfl .nil) rfl [] [] rfl rfl rfl rfl rfl ⟨rfl, rfl, rfl⟩
 ·
  refine gf rfl (dF c1) (gx rfl (gs (rg (sv (EV.mv rfl) rfl (sv (EV.ln rfl) rfl (sv (EV.leq rfl rfl) rfl (sv (EV.as rfl) rfl (re (pr [2] [] [] rfl rfl rfl rfl ?_)))))))))
  cases H
  exact rt Try.func63 rfl (.tmp rfl .nil) rfl [] [] rfl rfl rfl rfl rfl ⟨rfl, rfl, rfl⟩
end Go.Proofs.Ythciieopabndcaa.K
namespace Go.Proofs.Ythciieopabndcaa.K
open Go Go.RowKit
set_option linter.unusedVariables false
set_option linter.unusedSimpArgs false
def spec_IsValidTask.f (k : Nat) (a0_0 : Int) (l0_1 : List S62) (l0_2 : List S62) (l0_3 : List Bool) (a0_4 : Int) : Option (Bool) := (spec_IsValidJoinKind.f a0_0).bind fun t1 => (if t1 = true then ((spec_AreValidRows.f k l0_1).bind fun t3 => (if t3 = true then ((spec_AreValidRows.f k l0_2).bind fun t5 => (if t5 = true then (if (l0_3.length : Int) = (l0_1.length : Int) then ((spec_l1In.f a0_4 0 4).bind fun t8 => (some t8)) else (some false)) else (some false))) else (some false))) else (some false))
set_option maxHeartbeats 4000000 in
set_option maxRecDepth 100000 in
theorem spec_IsValidTask.ok (k : Nat) (a0_0 : Int) (l0_1 : List S62) (Al0_1 : Option Addr) (cl0_1 : Nat) (l0_2 : List S62) (Al0_2 : Option Addr) (cl0_2 : Nat) (l0_3 : List Bool) (Al0_3 : Option Addr) (cl0_3 : Nat) (a0_4 : Int) (r0 : Bool) (H : spec_IsValidTask.f k a0_0 l0_1 l0_2 l0_3 a0_4 = some r0) : Fn Try.prog 27 [.agg #[.int .i64 a0_0, .slice Al0_1 l0_1.length cl0_1, .slice Al0_2 l0_2.length cl0_2, .slice Al0_3 l0_3.length cl0_3, .int .i64 a0_4]] [] [.sl 0 k62 Al0_1 cl0_1 l0_1 0 false, .sl 0 k62 Al0_2 cl0_2 l0_2 0 false, .sl 0 .bool Al0_3 cl0_3 l0_3 0 false] (fun v bx en => v = .bool r0 ∧ bx = [] ∧ en = []) := by
 refine fn_ 30 Try.func27 rfl rfl rfl (fun base T w0 => ?_)
 rw [spec_IsValidTask.f] at H
 refine gs (rg (so rfl (op_box (cs := [.int .i64 a0_0, .slice Al0_1 l0_1.length cl0_1, .slice Al0_2 l0_2.length cl0_2, .slice Al0_3 l0_3.length cl0_3, .int .i64 a0_4]) rfl rfl rfl fun b1 => (sv (EV.as rfl) rfl (re (gs (rg (sv (EV.fa 0 rfl) rfl (sv (EV.ld 0 none rfl rfl rfl) rfl ?_)))))))))
 revert H; refine bdI ?_; rintro t1 A1 H
 refine so rfl (op_call (spec_IsValidJoinKind.ok a0_0 _ A1) [] 1 rfl rfl rfl rfl rfl ?_)
 rintro _ _ _ ⟨rfl, rfl, rfl⟩
 refine sv (EV.mv rfl) rfl ?_
 revert H; refine ifsI ?_ ?_ <;> intro c2 H
 ·
  subst c2
  refine ts 6 rfl rfl (sv (EV.fa 1 rfl) rfl (sv (EV.ld 0 none rfl rfl rfl) rfl ?_))
  revert H; refine bdI ?_; rintro t3 A3 H
  refine so rfl (op_call (spec_AreValidRows.ok k l0_1 Al0_1 cl0_1 _ A3) [⟨0, 0, 0, false⟩] 1 rfl rfl rfl rfl rfl ?_)
  rintro _ _ _ ⟨rfl, rfl, rfl⟩
  refine sv (EV.pt rfl rfl rfl) rfl (sv (EV.mv rfl) rfl ?_)
  revert H; refine ifsI ?_ ?_ <;> intro c4 H
  ·
   subst c4
   refine ts 11 rfl rfl (sv (EV.fa 2 rfl) rfl (sv (EV.ld 0 none rfl rfl rfl) rfl ?_))
   revert H; refine bdI ?_; rintro t5 A5 H
   refine so rfl (op_call (spec_AreValidRows.ok k l0_2 Al0_2 cl0_2 _ A5) [⟨1, 0, 0, false⟩] 1 rfl rfl rfl rfl rfl ?_)
   rintro _ _ _ ⟨rfl, rfl, rfl⟩
   refine sv (EV.pt rfl rfl rfl) rfl (sv (EV.mv rfl) rfl ?_)
   revert H; refine ifsI ?_ ?_ <;> intro c6 H
   ·
    subst c6
    refine ts 16 rfl rfl (sv (EV.fa 3 rfl) rfl (sv (EV.ld 0 none rfl rfl rfl) rfl (sv (EV.ln rfl) rfl (sv (EV.fa 1 rfl) rfl (sv (EV.ld 0 none rfl rfl rfl) rfl (sv (EV.ln rfl) rfl (sv (EV.eql rfl rfl) rfl (sv (EV.pt rfl rfl rfl) rfl (sv (EV.mv rfl) rfl ?_)))))))))
    revert H; refine ifsI ?_ ?_ <;> intro c7 H
    ·
     refine ts 25 rfl (dT c7) (sv (EV.fa 4 rfl) rfl (sv (EV.ld 0 none rfl rfl rfl) rfl ?_))
     revert H; refine bdI ?_; rintro t8 A8 H
     refine so rfl (op_call (spec_l1In.ok a0_4 0 4 _ A8) [] 1 rfl rfl rfl rfl rfl ?_)
     rintro _ _ _ ⟨rfl, rfl, rfl⟩
     refine sv (EV.pt rfl rfl rfl) rfl (sv (EV.as rfl) rfl (re (pr [2] [] [] rfl rfl rfl rfl ?_)))
     cases H
     exact rt Try.func27 rfl (.tmp rfl .nil) rfl [] [] rfl rfl rfl rfl rfl ⟨rfl, rfl, rfl⟩
    ·
     refine ts 25 rfl (dF c7) (sk rfl (sk rfl (sk rfl (sv (EV.pf rfl rfl rfl) rfl (sv (EV.as rfl) rfl (re (pr [2] [] [] rfl rfl rfl rfl ?_)))))))
     cases H
     exact rt Try.func27 rfl (.tmp rfl .nil) rfl [] [] rfl rfl rfl rfl rfl ⟨rfl, rfl, rfl⟩
   ·
    obtain rfl := bF c6
    refine ts 16 rfl rfl (sk rfl (sk rfl (sk rfl (sk rfl (sk rfl (sk rfl (sk rfl (sv (EV.pf rfl rfl rfl) rfl (sv (EV.mv rfl) rfl (sk rfl (sk rfl (sk rfl (sv (EV.pf rfl rfl rfl) rfl (sv (EV.as rfl) rfl (re (pr [2] [] [] rfl rfl rfl rfl ?_))))))))))))))))
    cases H
    exact rt Try.func27 rfl (.tmp rfl .nil) rfl [] [] rfl rfl rfl rfl rfl ⟨rfl, rfl, rfl⟩
  ·
   obtain rfl := bF c4
   refine ts 11 rfl rfl (sk rfl (sk rfl (sk rfl (sv (EV.pf rfl rfl rfl) rfl (sv (EV.mv rfl) rfl (sk rfl (sk rfl (sk rfl (sk rfl (sk rfl (sk rfl (sk rfl (sv (EV.pf rfl rfl rfl) rfl (sv (EV.mv rfl) rfl (sk rfl (sk rfl (sk rfl (sv (EV.pf rfl rfl rfl) rfl (sv (EV.as rfl) rfl (re (pr [2] [] [] rfl rfl rfl rfl ?_)))))))))))))))))))))
   cases H
   exact rt Try.func27 rfl (.tmp rfl .nil) rfl [] [] rfl rfl rfl rfl rfl ⟨rfl, rfl, rfl⟩
 ·
  obtain rfl := bF c2
  refine ts 6 rfl rfl (sk rfl (sk rfl (sk rfl (sv (EV.pf rfl rfl rfl) rfl (sv (EV.mv rfl) rfl (sk rfl (sk rfl (sk rfl (sv (EV.pf rfl rfl rfl) rfl (sv (EV.mv rfl) rfl (sk rfl (sk rfl (sk rfl (sk rfl (sk rfl (sk rfl (sk rfl (sv (EV.pf rfl rfl rfl) rfl (sv (EV.mv rfl) rfl (sk rfl (sk rfl (sk rfl (sv (EV.pf rfl rfl rfl) rfl (sv (EV.as rfl) rfl (re (pr [2] [] [] rfl rfl rfl rfl ?_))))))))))))))))))))))))))
  cases H
  exact rt Try.func27 rfl (.tmp rfl .nil) rfl [] [] rfl rfl rfl rfl rfl ⟨rfl, rfl, rfl⟩
end Go.Proofs.Ythciieopabndcaa.K
namespace Go.Proofs.Ythciieopabndcaa.K
open Go Go.RowKit
set_option linter.unusedVariables false
set_option linter.unusedSimpArgs false
def spec_l16Copy.f (a0_0 : Int) (l0_1 : List S62) (l0_2 : List S62) (l0_3 : List Bool) (a0_4 : Int) : Option (Int × (List S62) × (List S62) × (List Bool) × Int) := if l0_1.length ≤ 5864062014805 then (if l0_2.length ≤ 5864062014805 then (if l0_3.length ≤ 140737488355328 then (some (a0_0, l0_1, l0_2, l0_3, a0_4)) else none) else none) else none
set_option maxHeartbeats 4000000 in
set_option maxRecDepth 100000 in
theorem spec_l16Copy.ok (a0_0 : Int) (l0_1 : List S62) (Al0_1 : Option Addr) (cl0_1 : Nat) (l0_2 : List S62) (Al0_2 : Option Addr) (cl0_2 : Nat) (l0_3 : List Bool) (Al0_3 : Option Addr) (cl0_3 : Nat) (a0_4 : Int) (r0 : Int) (r1 : List S62) (r2 : List S62) (r3 : List Bool) (r4 : Int) (H : spec_l16Copy.f a0_0 l0_1 l0_2 l0_3 a0_4 = some (r0, r1, r2, r3, r4)) : Fn Try.prog 80 [.agg #[.int .i64 a0_0, .slice Al0_1 l0_1.length cl0_1, .slice Al0_2 l0_2.length cl0_2, .slice Al0_3 l0_3.length cl0_3, .int .i64 a0_4]] [] [.sl 0 k62 Al0_1 cl0_1 l0_1 0 false, .sl 0 k62 Al0_2 cl0_2 l0_2 0 false, .sl 0 .bool Al0_3 cl0_3 l0_3 0 false] (fun v bx en => ∃ A1 c1 A2 c2 A3 c3, v = .agg #[.int .i64 r0, .slice A1 r1.length c1, .slice A2 r2.length c2, .slice A3 r3.length c3, .int .i64 r4] ∧ bx = [] ∧ en = [.sl 2 k62 A1 c1 r1 1 true, .sl 2 k62 A2 c2 r2 2 true, .sl 2 .bool A3 c3 r3 3 true]) := by
 refine fn_ 20 Try.func80 rfl rfl rfl (fun base T w0 => ?_)
 rw [spec_l16Copy.f] at H
 refine gs (rg (so rfl (op_box (cs := [.int .i64 a0_0, .slice Al0_1 l0_1.length cl0_1, .slice Al0_2 l0_2.length cl0_2, .slice Al0_3 l0_3.length cl0_3, .int .i64 a0_4]) rfl rfl rfl fun b1 => (so rfl (op_alloc (cs := [.int .i64 0, .slice none 0 0, .slice none 0 0, .slice none 0 0, .int .i64 0]) (by kernel_rfl) rfl fun b2 => (re (gs ?_)))))))
 revert H; refine ggI ?_; intro g1 H
 revert H; refine ggI ?_; intro g2 H
 revert H; refine ggI ?_; intro g3 H
 refine dj (fun S => ∃ (A8_5 : Option Addr) (c8_5 : Nat) (A12_7 : Option Addr) (c12_7 : Nat) (A16_9 : Option Addr) (c16_9 : Nat), S = ⟨[(2, .pointer (some ⟨b2, 0, none⟩))], [⟨b1, 37, [.int .i64 a0_0, .slice Al0_1 l0_1.length cl0_1, .slice Al0_2 l0_2.length cl0_2, .slice Al0_3 l0_3.length cl0_3, .int .i64 a0_4]⟩, ⟨b2, 37, [.int .i64 a0_0, .slice A8_5 l0_1.length c8_5, .slice A12_7 l0_2.length c12_7, .slice A16_9 l0_3.length c16_9, .int .i64 a0_4]⟩], [.sl 0 k62 Al0_1 cl0_1 l0_1 0 false, .sl 0 k62 Al0_2 cl0_2 l0_2 0 false, .sl 0 .bool Al0_3 cl0_3 l0_3 0 false, .sl 2 k62 A8_5 c8_5 l0_1 1 true, .sl 2 k62 A12_7 c12_7 l0_2 2 true, .sl 2 .bool A16_9 c16_9 l0_3 3 true]⟩) (fun S hS => ?_) (fun dj0 => ?_)
 ·
  obtain ⟨A8_5, c8_5, A12_7, c12_7, A16_9, c16_9, rfl⟩ := hS
  cases H
  exact rt Try.func80 rfl (.cell 1 (some 5) rfl rfl rfl .nil) rfl [] [⟨3, 2, 1, true⟩, ⟨4, 2, 2, true⟩, ⟨5, 2, 3, true⟩] rfl rfl rfl rfl rfl ⟨_, _, _, _, _, _, rfl, rfl, rfl⟩
 ·
  refine dr [0, 1] [0, 1, 2] [17] 18 rfl rfl rfl rfl (xv 0 [0, 1] [0, 1, 2] rfl (EV.fa 0 rfl) rfl rfl rfl rfl (xv 1 [0, 1] [0, 1, 2] rfl (EV.ld 0 none rfl rfl rfl) rfl rfl rfl rfl (xv 3 [0, 1] [0, 1, 2] rfl (EV.fa 1 rfl) rfl rfl rfl rfl (xv 4 [0, 1] [0, 1, 2] rfl (EV.ld 0 none rfl rfl rfl) rfl rfl rfl rfl (xv 7 [0, 1] [0, 1, 2] rfl (EV.fa 2 rfl) rfl rfl rfl rfl (xv 8 [0, 1] [0, 1, 2] rfl (EV.ld 0 none rfl rfl rfl) rfl rfl rfl rfl (xv 11 [0, 1] [0, 1, 2] rfl (EV.fa 3 rfl) rfl rfl rfl rfl (xv 12 [0, 1] [0, 1, 2] rfl (EV.ld 0 none rfl rfl rfl) rfl rfl rfl rfl (xv 14 [0, 1] [0, 1, 2] rfl (EV.fa 4 rfl) rfl rfl rfl rfl (xv 15 [0, 1] [0, 1, 2] rfl (EV.ld 0 none rfl rfl rfl) rfl rfl rfl rfl ?_))))))))))
  refine dl 3 #[true, true, true, true, true, true, true, true, true, true, true, true, true, false, true, true, false, false] (fun S => ∃ (A8_5 : Option Addr) (c8_5 : Nat) (A12_7 : Option Addr) (c12_7 : Nat) (A13_8 : Option Addr) (c13_8 : Nat), S = ⟨[(2, .pointer (some ⟨b2, 0, none⟩)), (4, .int .i64 a0_0), (8, .slice A8_5 l0_1.length c8_5), (12, .slice A12_7 l0_2.length c12_7), (13, .slice A13_8 0 c13_8), (15, .slice Al0_3 l0_3.length cl0_3), (18, .int .i64 a0_4)], [⟨b1, 37, [.int .i64 a0_0, .slice Al0_1 l0_1.length cl0_1, .slice Al0_2 l0_2.length cl0_2, .slice Al0_3 l0_3.length cl0_3, .int .i64 a0_4]⟩, ⟨b2, 37, [.int .i64 0, .slice none 0 0, .slice none 0 0, .slice none 0 0, .int .i64 0]⟩], [.sl 0 k62 Al0_1 cl0_1 l0_1 0 false, .sl 0 k62 Al0_2 cl0_2 l0_2 0 false, .sl 0 .bool Al0_3 cl0_3 l0_3 0 false, .sl 2 k62 A8_5 c8_5 l0_1 1 true, .sl 2 k62 A12_7 c12_7 l0_2 2 true, .sl 2 .bool A13_8 c13_8 [] 3 true]⟩) (fun S hS => ?_) (fun hn0 => ?_)
  ·
   obtain ⟨A8_5, c8_5, A12_7, c12_7, A13_8, c13_8, rfl⟩ := hS
   exact one1 13 rfl rfl (op_app (k := .bool) (s := 1) (by_ := 1) 5 2 rfl rfl rfl rfl (ap0 g3 dq) (ap0n g3 dq) (.inl rfl) true (fun _ => .inl rfl) rfl rfl fun A16_4 c16_4 => (nmE (en := [.sl 0 k62 Al0_1 cl0_1 l0_1 0 false, .sl 0 k62 Al0_2 cl0_2 l0_2 0 false, .sl 0 .bool Al0_3 cl0_3 l0_3 0 false, .sl 2 k62 A8_5 c8_5 l0_1 1 true, .sl 2 k62 A12_7 c12_7 l0_2 2 true, .sl 2 .bool A16_4 c16_4 l0_3 3 true]) (by kernel_rfl) (xs [0, 1] [0, 1, 2] rfl rfl rfl (one1 16 rfl rfl (ov (EV.bd (v := .agg #[.int .i64 a0_0, .slice A8_5 l0_1.length c8_5, .slice A12_7 l0_2.length c12_7, .slice A16_4 l0_3.length c16_4, .int .i64 a0_4]) rfl (by kernel_rfl)) rfl (xs [0, 1] [0, 1, 2] rfl rfl rfl (one1 17 rfl rfl (op_st (cs' := [.int .i64 a0_0, .slice A8_5 l0_1.length c8_5, .slice A12_7 l0_2.length c12_7, .slice A16_4 l0_3.length c16_4, .int .i64 a0_4]) 1 rfl rfl rfl rfl rfl rfl (xn rfl (xd (wk [2] [0, 1] [⟨0, 0, 0, false⟩, ⟨1, 0, 0, false⟩, ⟨2, 0, 0, false⟩, ⟨3, 2, 1, true⟩, ⟨4, 2, 2, true⟩, ⟨5, 2, 3, true⟩] (dj0 _ ⟨A8_5, c8_5, A12_7, c12_7, A16_4, c16_4, rfl⟩))))))))))))
  refine dl 4 #[true, true, true, true, true, true, true, true, true, false, true, true, true, false, true, true, false, false] (fun S => ∃ (A8_5 : Option Addr) (c8_5 : Nat) (A9_6 : Option Addr) (c9_6 : Nat) (A13_10 : Option Addr) (c13_10 : Nat), S = ⟨[(2, .pointer (some ⟨b2, 0, none⟩)), (4, .int .i64 a0_0), (8, .slice A8_5 l0_1.length c8_5), (9, .slice A9_6 0 c9_6), (11, .slice Al0_2 l0_2.length cl0_2), (13, .slice A13_10 0 c13_10), (15, .slice Al0_3 l0_3.length cl0_3), (18, .int .i64 a0_4)], [⟨b1, 37, [.int .i64 a0_0, .slice Al0_1 l0_1.length cl0_1, .slice Al0_2 l0_2.length cl0_2, .slice Al0_3 l0_3.length cl0_3, .int .i64 a0_4]⟩, ⟨b2, 37, [.int .i64 0, .slice none 0 0, .slice none 0 0, .slice none 0 0, .int .i64 0]⟩], [.sl 0 k62 Al0_1 cl0_1 l0_1 0 false, .sl 0 k62 Al0_2 cl0_2 l0_2 0 false, .sl 0 .bool Al0_3 cl0_3 l0_3 0 false, .sl 2 k62 A8_5 c8_5 l0_1 1 true, .sl 2 k62 A9_6 c9_6 [] 2 true, .sl 2 .bool A13_10 c13_10 [] 3 true]⟩) (fun S hS => ?_) (fun hn1 => ?_)
  ·
   obtain ⟨A8_5, c8_5, A9_6, c9_6, A13_10, c13_10, rfl⟩ := hS
   exact one1 9 rfl rfl (op_app (k := k62) (s := 3) (by_ := 24) 4 1 rfl rfl rfl rfl (ap0 g2 dq) (ap0n g2 dq) (.inl rfl) true (fun _ => .inl rfl) rfl rfl fun A12_5 c12_5 => (nmE (en := [.sl 0 k62 Al0_1 cl0_1 l0_1 0 false, .sl 0 k62 Al0_2 cl0_2 l0_2 0 false, .sl 0 .bool Al0_3 cl0_3 l0_3 0 false, .sl 2 k62 A8_5 c8_5 l0_1 1 true, .sl 2 .bool A13_10 c13_10 [] 3 true, .sl 2 k62 A12_5 c12_5 l0_2 2 true]) (by kernel_rfl) (xs [0, 1] [0, 1, 2] rfl rfl rfl (da (wk [2, 4, 8, 12, 13, 15, 18] [0, 1] [⟨0, 0, 0, false⟩, ⟨1, 0, 0, false⟩, ⟨2, 0, 0, false⟩, ⟨3, 2, 1, true⟩, ⟨5, 2, 2, true⟩, ⟨4, 2, 3, true⟩] (hn0 _ ⟨A8_5, c8_5, A12_5, c12_5, A13_10, c13_10, rfl⟩))))))
  refine dl 5 #[true, true, true, true, true, true, true, true, true, false, false, true, true, false, true, true, false, false] (fun S => ∃ (A8_5 : Option Addr) (c8_5 : Nat) (A9_6 : Option Addr) (c9_6 : Nat), S = ⟨[(2, .pointer (some ⟨b2, 0, none⟩)), (4, .int .i64 a0_0), (8, .slice A8_5 l0_1.length c8_5), (9, .slice A9_6 0 c9_6), (11, .slice Al0_2 l0_2.length cl0_2), (15, .slice Al0_3 l0_3.length cl0_3), (18, .int .i64 a0_4)], [⟨b1, 37, [.int .i64 a0_0, .slice Al0_1 l0_1.length cl0_1, .slice Al0_2 l0_2.length cl0_2, .slice Al0_3 l0_3.length cl0_3, .int .i64 a0_4]⟩, ⟨b2, 37, [.int .i64 0, .slice none 0 0, .slice none 0 0, .slice none 0 0, .int .i64 0]⟩], [.sl 0 k62 Al0_1 cl0_1 l0_1 0 false, .sl 0 k62 Al0_2 cl0_2 l0_2 0 false, .sl 0 .bool Al0_3 cl0_3 l0_3 0 false, .sl 2 k62 A8_5 c8_5 l0_1 1 true, .sl 2 k62 A9_6 c9_6 [] 2 true]⟩) (fun S hS => ?_) (fun hn2 => ?_)
  ·
   obtain ⟨A8_5, c8_5, A9_6, c9_6, rfl⟩ := hS
   refine one2 9 10 rfl rfl rfl rfl ?_ ?_
   ·
    exact op_app (k := k62) (s := 3) (by_ := 24) 4 1 rfl rfl rfl rfl (ap0 g2 dq) (ap0n g2 dq) (.inl rfl) true (fun _ => .inl rfl) rfl rfl fun A12_6 c12_6 => (nmE (en := [.sl 0 k62 Al0_1 cl0_1 l0_1 0 false, .sl 0 k62 Al0_2 cl0_2 l0_2 0 false, .sl 0 .bool Al0_3 cl0_3 l0_3 0 false, .sl 2 k62 A8_5 c8_5 l0_1 1 true, .sl 2 k62 A12_6 c12_6 l0_2 2 true]) (by kernel_rfl) (xs [0, 1] [0, 1, 2] rfl rfl rfl (one1 10 rfl rfl (op_lit (s := 1) (by_ := 1) .bool ([] : List Bool) [] [] 3 [] rfl rfl rfl rfl rfl rfl rfl rfl rfl rfl rfl rfl rfl dq rfl fun A13_7 c13_7 => (xs [0, 1] [0, 1, 2] rfl rfl rfl (da (wk [2, 4, 8, 12, 13, 15, 18] [0, 1] [⟨0, 0, 0, false⟩, ⟨1, 0, 0, false⟩, ⟨2, 0, 0, false⟩, ⟨3, 2, 1, true⟩, ⟨4, 2, 2, true⟩, ⟨5, 2, 3, true⟩] (hn0 _ ⟨A8_5, c8_5, A12_6, c12_6, A13_7, c13_7, rfl⟩))))))))
   ·
    exact op_lit (s := 1) (by_ := 1) .bool ([] : List Bool) [] [] 3 [] rfl rfl rfl rfl rfl rfl rfl rfl rfl rfl rfl rfl rfl dq rfl fun A13_8 c13_8 => (xs [0, 1] [0, 1, 2] rfl rfl rfl (da (wk [2, 4, 8, 9, 11, 13, 15, 18] [0, 1] [⟨0, 0, 0, false⟩, ⟨1, 0, 0, false⟩, ⟨2, 0, 0, false⟩, ⟨3, 2, 1, true⟩, ⟨4, 2, 2, true⟩, ⟨5, 2, 3, true⟩] (hn1 _ ⟨A8_5, c8_5, A9_6, c9_6, A13_8, c13_8, rfl⟩))))
  refine dl 5 #[true, true, true, true, true, true, false, true, true, false, true, true, true, false, true, true, false, false] (fun S => ∃ (A8_5 : Option Addr) (c8_5 : Nat) (A13_12 : Option Addr) (c13_12 : Nat), S = ⟨[(2, .pointer (some ⟨b2, 0, none⟩)), (4, .int .i64 a0_0), (8, .slice A8_5 l0_1.length c8_5), (11, .slice Al0_2 l0_2.length cl0_2), (13, .slice A13_12 0 c13_12), (15, .slice Al0_3 l0_3.length cl0_3), (18, .int .i64 a0_4)], [⟨b1, 37, [.int .i64 a0_0, .slice Al0_1 l0_1.length cl0_1, .slice Al0_2 l0_2.length cl0_2, .slice Al0_3 l0_3.length cl0_3, .int .i64 a0_4]⟩, ⟨b2, 37, [.int .i64 0, .slice none 0 0, .slice none 0 0, .slice none 0 0, .int .i64 0]⟩], [.sl 0 k62 Al0_1 cl0_1 l0_1 0 false, .sl 0 k62 Al0_2 cl0_2 l0_2 0 false, .sl 0 .bool Al0_3 cl0_3 l0_3 0 false, .sl 2 k62 A8_5 c8_5 l0_1 1 true, .sl 2 .bool A13_12 c13_12 [] 2 true]⟩) (fun S hS => ?_) (fun hn3 => ?_)
  ·
   obtain ⟨A8_5, c8_5, A13_12, c13_12, rfl⟩ := hS
   exact one1 6 rfl rfl (op_lit (s := 3) (by_ := 24) k62 ([] : List S62) [] [] 3 [] rfl rfl rfl rfl rfl rfl rfl rfl rfl rfl rfl rfl rfl dq rfl fun A9_9 c9_9 => (xs [0, 1] [0, 1, 2] rfl rfl rfl (da (wk [2, 4, 8, 9, 11, 13, 15, 18] [0, 1] [⟨0, 0, 0, false⟩, ⟨1, 0, 0, false⟩, ⟨2, 0, 0, false⟩, ⟨3, 2, 1, true⟩, ⟨5, 2, 2, true⟩, ⟨4, 2, 3, true⟩] (hn1 _ ⟨A8_5, c8_5, A9_9, c9_9, A13_12, c13_12, rfl⟩)))))
  refine dl 5 #[true, true, true, true, true, false, true, true, true, false, true, true, true, false, true, true, false, false] (fun S => ∃ (A5_4 : Option Addr) (c5_4 : Nat) (A9_14 : Option Addr) (c9_14 : Nat) (A13_16 : Option Addr) (c13_16 : Nat), S = ⟨[(2, .pointer (some ⟨b2, 0, none⟩)), (4, .int .i64 a0_0), (5, .slice A5_4 0 c5_4), (7, .slice Al0_1 l0_1.length cl0_1), (9, .slice A9_14 0 c9_14), (11, .slice Al0_2 l0_2.length cl0_2), (13, .slice A13_16 0 c13_16), (15, .slice Al0_3 l0_3.length cl0_3), (18, .int .i64 a0_4)], [⟨b1, 37, [.int .i64 a0_0, .slice Al0_1 l0_1.length cl0_1, .slice Al0_2 l0_2.length cl0_2, .slice Al0_3 l0_3.length cl0_3, .int .i64 a0_4]⟩, ⟨b2, 37, [.int .i64 0, .slice none 0 0, .slice none 0 0, .slice none 0 0, .int .i64 0]⟩], [.sl 0 k62 Al0_1 cl0_1 l0_1 0 false, .sl 0 k62 Al0_2 cl0_2 l0_2 0 false, .sl 0 .bool Al0_3 cl0_3 l0_3 0 false, .sl 2 k62 A5_4 c5_4 [] 1 true, .sl 2 k62 A9_14 c9_14 [] 2 true, .sl 2 .bool A13_16 c13_16 [] 3 true]⟩) (fun S hS => ?_) (fun hn4 => ?_)
  ·
   obtain ⟨A5_4, c5_4, A9_14, c9_14, A13_16, c13_16, rfl⟩ := hS
   exact one1 5 rfl rfl (op_app (k := k62) (s := 3) (by_ := 24) 3 0 rfl rfl rfl rfl (ap0 g1 dq) (ap0n g1 dq) (.inl rfl) true (fun _ => .inl rfl) rfl rfl fun A8_10 c8_10 => (nmE (en := [.sl 0 k62 Al0_1 cl0_1 l0_1 0 false, .sl 0 k62 Al0_2 cl0_2 l0_2 0 false, .sl 0 .bool Al0_3 cl0_3 l0_3 0 false, .sl 2 k62 A9_14 c9_14 [] 2 true, .sl 2 .bool A13_16 c13_16 [] 3 true, .sl 2 k62 A8_10 c8_10 l0_1 1 true]) (by kernel_rfl) (xs [0, 1] [0, 1, 2] rfl rfl rfl (da (wk [2, 4, 8, 9, 11, 13, 15, 18] [0, 1] [⟨0, 0, 0, false⟩, ⟨1, 0, 0, false⟩, ⟨2, 0, 0, false⟩, ⟨5, 2, 1, true⟩, ⟨3, 2, 2, true⟩, ⟨4, 2, 3, true⟩] (hn1 _ ⟨A8_10, c8_10, A9_14, c9_14, A13_16, c13_16, rfl⟩))))))
  refine dl 6 #[true, true, true, true, true, false, true, true, true, false, false, true, true, false, true, true, false, false] (fun S => ∃ (A5_4 : Option Addr) (c5_4 : Nat) (A9_14 : Option Addr) (c9_14 : Nat), S = ⟨[(2, .pointer (some ⟨b2, 0, none⟩)), (4, .int .i64 a0_0), (5, .slice A5_4 0 c5_4), (7, .slice Al0_1 l0_1.length cl0_1), (9, .slice A9_14 0 c9_14), (11, .slice Al0_2 l0_2.length cl0_2), (15, .slice Al0_3 l0_3.length cl0_3), (18, .int .i64 a0_4)], [⟨b1, 37, [.int .i64 a0_0, .slice Al0_1 l0_1.length cl0_1, .slice Al0_2 l0_2.length cl0_2, .slice Al0_3 l0_3.length cl0_3, .int .i64 a0_4]⟩, ⟨b2, 37, [.int .i64 0, .slice none 0 0, .slice none 0 0, .slice none 0 0, .int .i64 0]⟩], [.sl 0 k62 Al0_1 cl0_1 l0_1 0 false, .sl 0 k62 Al0_2 cl0_2 l0_2 0 false, .sl 0 .bool Al0_3 cl0_3 l0_3 0 false, .sl 2 k62 A5_4 c5_4 [] 1 true, .sl 2 k62 A9_14 c9_14 [] 2 true]⟩) (fun S hS => ?_) (fun hn5 => ?_)
  ·
   obtain ⟨A5_4, c5_4, A9_14, c9_14, rfl⟩ := hS
   refine one2 5 10 rfl rfl rfl rfl ?_ ?_
   ·
    exact op_app (k := k62) (s := 3) (by_ := 24) 3 0 rfl rfl rfl rfl (ap0 g1 dq) (ap0n g1 dq) (.inl rfl) true (fun _ => .inl rfl) rfl rfl fun A8_11 c8_11 => (nmE (en := [.sl 0 k62 Al0_1 cl0_1 l0_1 0 false, .sl 0 k62 Al0_2 cl0_2 l0_2 0 false, .sl 0 .bool Al0_3 cl0_3 l0_3 0 false, .sl 2 k62 A9_14 c9_14 [] 2 true, .sl 2 k62 A8_11 c8_11 l0_1 1 true]) (by kernel_rfl) (xs [0, 1] [0, 1, 2] rfl rfl rfl (da (wk [2, 4, 8, 9, 11, 15, 18] [0, 1] [⟨0, 0, 0, false⟩, ⟨1, 0, 0, false⟩, ⟨2, 0, 0, false⟩, ⟨4, 2, 1, true⟩, ⟨3, 2, 2, true⟩] (hn2 _ ⟨A8_11, c8_11, A9_14, c9_14, rfl⟩)))))
   ·
    exact op_lit (s := 1) (by_ := 1) .bool ([] : List Bool) [] [] 3 [] rfl rfl rfl rfl rfl rfl rfl rfl rfl rfl rfl rfl rfl dq rfl fun A13_12 c13_12 => (xs [0, 1] [0, 1, 2] rfl rfl rfl (da (wk [2, 4, 5, 7, 9, 11, 13, 15, 18] [0, 1] [⟨0, 0, 0, false⟩, ⟨1, 0, 0, false⟩, ⟨2, 0, 0, false⟩, ⟨3, 2, 1, true⟩, ⟨4, 2, 2, true⟩, ⟨5, 2, 3, true⟩] (hn4 _ ⟨A5_4, c5_4, A9_14, c9_14, A13_12, c13_12, rfl⟩))))
  refine dl 6 #[true, true, true, true, true, false, false, true, true, false, true, true, true, false, true, true, false, false] (fun S => ∃ (A5_4 : Option Addr) (c5_4 : Nat) (A13_18 : Option Addr) (c13_18 : Nat), S = ⟨[(2, .pointer (some ⟨b2, 0, none⟩)), (4, .int .i64 a0_0), (5, .slice A5_4 0 c5_4), (7, .slice Al0_1 l0_1.length cl0_1), (11, .slice Al0_2 l0_2.length cl0_2), (13, .slice A13_18 0 c13_18), (15, .slice Al0_3 l0_3.length cl0_3), (18, .int .i64 a0_4)], [⟨b1, 37, [.int .i64 a0_0, .slice Al0_1 l0_1.length cl0_1, .slice Al0_2 l0_2.length cl0_2, .slice Al0_3 l0_3.length cl0_3, .int .i64 a0_4]⟩, ⟨b2, 37, [.int .i64 0, .slice none 0 0, .slice none 0 0, .slice none 0 0, .int .i64 0]⟩], [.sl 0 k62 Al0_1 cl0_1 l0_1 0 false, .sl 0 k62 Al0_2 cl0_2 l0_2 0 false, .sl 0 .bool Al0_3 cl0_3 l0_3 0 false, .sl 2 k62 A5_4 c5_4 [] 1 true, .sl 2 .bool A13_18 c13_18 [] 2 true]⟩) (fun S hS => ?_) (fun hn6 => ?_)
  ·
   obtain ⟨A5_4, c5_4, A13_18, c13_18, rfl⟩ := hS
   refine one2 5 6 rfl rfl rfl rfl ?_ ?_
   ·
    exact op_app (k := k62) (s := 3) (by_ := 24) 3 0 rfl rfl rfl rfl (ap0 g1 dq) (ap0n g1 dq) (.inl rfl) true (fun _ => .inl rfl) rfl rfl fun A8_13 c8_13 => (nmE (en := [.sl 0 k62 Al0_1 cl0_1 l0_1 0 false, .sl 0 k62 Al0_2 cl0_2 l0_2 0 false, .sl 0 .bool Al0_3 cl0_3 l0_3 0 false, .sl 2 .bool A13_18 c13_18 [] 2 true, .sl 2 k62 A8_13 c8_13 l0_1 1 true]) (by kernel_rfl) (xs [0, 1] [0, 1, 2] rfl rfl rfl (da (wk [2, 4, 8, 11, 13, 15, 18] [0, 1] [⟨0, 0, 0, false⟩, ⟨1, 0, 0, false⟩, ⟨2, 0, 0, false⟩, ⟨4, 2, 1, true⟩, ⟨3, 2, 2, true⟩] (hn3 _ ⟨A8_13, c8_13, A13_18, c13_18, rfl⟩)))))
   ·
    exact op_lit (s := 3) (by_ := 24) k62 ([] : List S62) [] [] 3 [] rfl rfl rfl rfl rfl rfl rfl rfl rfl rfl rfl rfl rfl dq rfl fun A9_14 c9_14 => (xs [0, 1] [0, 1, 2] rfl rfl rfl (da (wk [2, 4, 5, 7, 9, 11, 13, 15, 18] [0, 1] [⟨0, 0, 0, false⟩, ⟨1, 0, 0, false⟩, ⟨2, 0, 0, false⟩, ⟨3, 2, 1, true⟩, ⟨5, 2, 2, true⟩, ⟨4, 2, 3, true⟩] (hn4 _ ⟨A5_4, c5_4, A9_14, c9_14, A13_18, c13_18, rfl⟩))))
  refine dl 6 #[true, true, false, true, true, false, true, true, true, false, true, true, true, false, true, true, false, false] (fun S => ∃ (A9_21 : Option Addr) (c9_21 : Nat) (A13_23 : Option Addr) (c13_23 : Nat), S = ⟨[(2, .pointer (some ⟨b2, 0, none⟩)), (4, .int .i64 a0_0), (7, .slice Al0_1 l0_1.length cl0_1), (9, .slice A9_21 0 c9_21), (11, .slice Al0_2 l0_2.length cl0_2), (13, .slice A13_23 0 c13_23), (15, .slice Al0_3 l0_3.length cl0_3), (18, .int .i64 a0_4)], [⟨b1, 37, [.int .i64 a0_0, .slice Al0_1 l0_1.length cl0_1, .slice Al0_2 l0_2.length cl0_2, .slice Al0_3 l0_3.length cl0_3, .int .i64 a0_4]⟩, ⟨b2, 37, [.int .i64 0, .slice none 0 0, .slice none 0 0, .slice none 0 0, .int .i64 0]⟩], [.sl 0 k62 Al0_1 cl0_1 l0_1 0 false, .sl 0 k62 Al0_2 cl0_2 l0_2 0 false, .sl 0 .bool Al0_3 cl0_3 l0_3 0 false, .sl 2 k62 A9_21 c9_21 [] 1 true, .sl 2 .bool A13_23 c13_23 [] 2 true]⟩) (fun S hS => ?_) (fun hn7 => ?_)
  ·
   obtain ⟨A9_21, c9_21, A13_23, c13_23, rfl⟩ := hS
   exact one1 2 rfl rfl (op_lit (s := 3) (by_ := 24) k62 ([] : List S62) [] [] 3 [] rfl rfl rfl rfl rfl rfl rfl rfl rfl rfl rfl rfl rfl dq rfl fun A5_15 c5_15 => (xs [0, 1] [0, 1, 2] rfl rfl rfl (da (wk [2, 4, 5, 7, 9, 11, 13, 15, 18] [0, 1] [⟨0, 0, 0, false⟩, ⟨1, 0, 0, false⟩, ⟨2, 0, 0, false⟩, ⟨5, 2, 1, true⟩, ⟨3, 2, 2, true⟩, ⟨4, 2, 3, true⟩] (hn4 _ ⟨A5_15, c5_15, A9_21, c9_21, A13_23, c13_23, rfl⟩)))))
  refine one3 2 6 10 rfl rfl rfl rfl rfl rfl ?_ ?_ ?_
  ·
   refine op_lit (s := 3) (by_ := 24) k62 ([] : List S62) [] [] 1 [] rfl rfl rfl rfl rfl rfl rfl rfl rfl rfl rfl rfl rfl dq rfl fun A5_16 c5_16 => (xs [0, 1] [0, 1, 2] rfl rfl rfl ?_)
   refine one3 5 6 10 rfl rfl rfl rfl rfl rfl ?_ ?_ ?_
   ·
    refine op_app (k := k62) (s := 3) (by_ := 24) 3 0 rfl rfl rfl rfl (ap0 g1 dq) (ap0n g1 dq) (.inl rfl) true (fun _ => .inl rfl) rfl rfl fun A8_17 c8_17 => (nmE (en := [.sl 0 k62 Al0_1 cl0_1 l0_1 0 false, .sl 0 k62 Al0_2 cl0_2 l0_2 0 false, .sl 0 .bool Al0_3 cl0_3 l0_3 0 false, .sl 2 k62 A8_17 c8_17 l0_1 1 true]) (by kernel_rfl) (xs [0, 1] [0, 1, 2] rfl rfl rfl ?_))
    refine one2 6 10 rfl rfl rfl rfl ?_ ?_
    ·
     exact op_lit (s := 3) (by_ := 24) k62 ([] : List S62) [] [] 2 [] rfl rfl rfl rfl rfl rfl rfl rfl rfl rfl rfl rfl rfl dq rfl fun A9_18 c9_18 => (xs [0, 1] [0, 1, 2] rfl rfl rfl (da (wk [2, 4, 8, 9, 11, 15, 18] [0, 1] [⟨0, 0, 0, false⟩, ⟨1, 0, 0, false⟩, ⟨2, 0, 0, false⟩, ⟨3, 2, 1, true⟩, ⟨4, 2, 2, true⟩] (hn2 _ ⟨A8_17, c8_17, A9_18, c9_18, rfl⟩))))
    ·
     exact op_lit (s := 1) (by_ := 1) .bool ([] : List Bool) [] [] 2 [] rfl rfl rfl rfl rfl rfl rfl rfl rfl rfl rfl rfl rfl dq rfl fun A13_19 c13_19 => (xs [0, 1] [0, 1, 2] rfl rfl rfl (da (wk [2, 4, 8, 11, 13, 15, 18] [0, 1] [⟨0, 0, 0, false⟩, ⟨1, 0, 0, false⟩, ⟨2, 0, 0, false⟩, ⟨3, 2, 1, true⟩, ⟨4, 2, 2, true⟩] (hn3 _ ⟨A8_17, c8_17, A13_19, c13_19, rfl⟩))))
   ·
    exact op_lit (s := 3) (by_ := 24) k62 ([] : List S62) [] [] 2 [] rfl rfl rfl rfl rfl rfl rfl rfl rfl rfl rfl rfl rfl dq rfl fun A9_20 c9_20 => (xs [0, 1] [0, 1, 2] rfl rfl rfl (da (wk [2, 4, 5, 7, 9, 11, 15, 18] [0, 1] [⟨0, 0, 0, false⟩, ⟨1, 0, 0, false⟩, ⟨2, 0, 0, false⟩, ⟨3, 2, 1, true⟩, ⟨4, 2, 2, true⟩] (hn5 _ ⟨A5_16, c5_16, A9_20, c9_20, rfl⟩))))
   ·
    exact op_lit (s := 1) (by_ := 1) .bool ([] : List Bool) [] [] 2 [] rfl rfl rfl rfl rfl rfl rfl rfl rfl rfl rfl rfl rfl dq rfl fun A13_21 c13_21 => (xs [0, 1] [0, 1, 2] rfl rfl rfl (da (wk [2, 4, 5, 7, 11, 13, 15, 18] [0, 1] [⟨0, 0, 0, false⟩, ⟨1, 0, 0, false⟩, ⟨2, 0, 0, false⟩, ⟨3, 2, 1, true⟩, ⟨4, 2, 2, true⟩] (hn6 _ ⟨A5_16, c5_16, A13_21, c13_21, rfl⟩))))
  ·
   refine op_lit (s := 3) (by_ := 24) k62 ([] : List S62) [] [] 1 [] rfl rfl rfl rfl rfl rfl rfl rfl rfl rfl rfl rfl rfl dq rfl fun A9_22 c9_22 => (xs [0, 1] [0, 1, 2] rfl rfl rfl ?_)
   refine one2 2 10 rfl rfl rfl rfl ?_ ?_
   ·
    exact op_lit (s := 3) (by_ := 24) k62 ([] : List S62) [] [] 2 [] rfl rfl rfl rfl rfl rfl rfl rfl rfl rfl rfl rfl rfl dq rfl fun A5_23 c5_23 => (xs [0, 1] [0, 1, 2] rfl rfl rfl (da (wk [2, 4, 5, 7, 9, 11, 15, 18] [0, 1] [⟨0, 0, 0, false⟩, ⟨1, 0, 0, false⟩, ⟨2, 0, 0, false⟩, ⟨4, 2, 1, true⟩, ⟨3, 2, 2, true⟩] (hn5 _ ⟨A5_23, c5_23, A9_22, c9_22, rfl⟩))))
   ·
    exact op_lit (s := 1) (by_ := 1) .bool ([] : List Bool) [] [] 2 [] rfl rfl rfl rfl rfl rfl rfl rfl rfl rfl rfl rfl rfl dq rfl fun A13_24 c13_24 => (xs [0, 1] [0, 1, 2] rfl rfl rfl (da (wk [2, 4, 7, 9, 11, 13, 15, 18] [0, 1] [⟨0, 0, 0, false⟩, ⟨1, 0, 0, false⟩, ⟨2, 0, 0, false⟩, ⟨3, 2, 1, true⟩, ⟨4, 2, 2, true⟩] (hn7 _ ⟨A9_22, c9_22, A13_24, c13_24, rfl⟩))))
  ·
   refine op_lit (s := 1) (by_ := 1) .bool ([] : List Bool) [] [] 1 [] rfl rfl rfl rfl rfl rfl rfl rfl rfl rfl rfl rfl rfl dq rfl fun A13_25 c13_25 => (xs [0, 1] [0, 1, 2] rfl rfl rfl ?_)
   refine one2 2 6 rfl rfl rfl rfl ?_ ?_
   ·
    exact op_lit (s := 3) (by_ := 24) k62 ([] : List S62) [] [] 2 [] rfl rfl rfl rfl rfl rfl rfl rfl rfl rfl rfl rfl rfl dq rfl fun A5_26 c5_26 => (xs [0, 1] [0, 1, 2] rfl rfl rfl (da (wk [2, 4, 5, 7, 11, 13, 15, 18] [0, 1] [⟨0, 0, 0, false⟩, ⟨1, 0, 0, false⟩, ⟨2, 0, 0, false⟩, ⟨4, 2, 1, true⟩, ⟨3, 2, 2, true⟩] (hn6 _ ⟨A5_26, c5_26, A13_25, c13_25, rfl⟩))))
   ·
    exact op_lit (s := 3) (by_ := 24) k62 ([] : List S62) [] [] 2 [] rfl rfl rfl rfl rfl rfl rfl rfl rfl rfl rfl rfl rfl dq rfl fun A9_27 c9_27 => (xs [0, 1] [0, 1, 2] rfl rfl rfl (da (wk [2, 4, 7, 9, 11, 13, 15, 18] [0, 1] [⟨0, 0, 0, false⟩, ⟨1, 0, 0, false⟩, ⟨2, 0, 0, false⟩, ⟨4, 2, 1, true⟩, ⟨3, 2, 2, true⟩] (hn7 _ ⟨A9_27, c9_27, A13_25, c13_25, rfl⟩))))
end Go.Proofs.Ythciieopabndcaa.K
namespace Go.Proofs.Ythciieopabndcaa.K
open Go Go.RowKit
set_option linter.unusedVariables false
set_option linter.unusedSimpArgs false
def spec_CountMatches.l0 : Nat → Int → Int → Int → Int → Int → (List S62) → Option (Int)
 | 0, _, _, _, _, _, _ => none
 | k + 1, x2_5, x2_6, x2_2_0, x2_2_1, x2_2_2, l1 => if x2_6 < (l1.length : Int) then (if 0 ≤ x2_6 then (if ((rd_T62 l1 x2_6).f0) = x2_2_0 then (spec_CountMatches.l0 k (wrap64 (x2_5 + 1)) (wrap64 (x2_6 + 1)) x2_2_0 x2_2_1 x2_2_2 l1) else (spec_CountMatches.l0 k x2_5 (wrap64 (x2_6 + 1)) x2_2_0 x2_2_1 x2_2_2 l1)) else none) else (some x2_5)
def spec_CountMatches.f (k : Nat) (a0_0 : Int) (a0_1 : Int) (a0_2 : Int) (l1 : List S62) : Option (Int) := spec_CountMatches.l0 k 0 0 a0_0 a0_1 a0_2 l1
set_option maxHeartbeats 4000000 in
set_option maxRecDepth 100000 in
theorem spec_CountMatches.ok (k : Nat) (a0_0 : Int) (a0_1 : Int) (a0_2 : Int) (l1 : List S62) (Al1 : Option Addr) (cl1 : Nat) (r0 : Int) (H : spec_CountMatches.f k a0_0 a0_1 a0_2 l1 = some r0) : Fn Try.prog 81 [.agg #[.int .i64 a0_0, .int .i64 a0_1, .int .i64 a0_2], .slice Al1 l1.length cl1] [] [.sl 0 k62 Al1 cl1 l1 0 false] (fun v bx en => v = .int .i64 r0 ∧ bx = [] ∧ en = []) := by
 refine fn_ 24 Try.func81 rfl rfl rfl (fun base T w0 => ?_)
 rw [spec_CountMatches.f] at H
 refine gs (rg (so rfl (op_box (cs := [.int .i64 a0_0, .int .i64 a0_1, .int .i64 a0_2]) rfl rfl rfl fun b2 => (sv (EV.as rfl) rfl (re (gs (rg (sv (EV.as rfl) rfl (re (gs (gs (rg (sv (EV.as rfl) rfl (re (gb ?_)))))))))))))))
 refine lo (fun kk S => ∃ (x2_5 : Int) (x2_6 : Int) (x2_2_0 : Int) (x2_2_1 : Int) (x2_2_2 : Int), spec_CountMatches.l0 kk x2_5 x2_6 x2_2_0 x2_2_1 x2_2_2 l1 = some r0 ∧ S = ⟨[(1, .slice Al1 l1.length cl1), (2, .pointer (some ⟨b2, 0, none⟩)), (5, .int .i64 x2_5), (6, .int .i64 x2_6)], [⟨b2, 62, [.int .i64 x2_2_0, .int .i64 x2_2_1, .int .i64 x2_2_2]⟩], [.sl 0 k62 Al1 cl1 l1 0 false]⟩) (fun S hS => ?_) (fun n0 ih0 S hS => ?_) ⟨0, 0, a0_0, a0_1, a0_2, H, rfl⟩ (fun h => wk [1, 2, 5, 6] [0] [⟨0, 0, 0, false⟩] h)
 · clear H; obtain ⟨_, _, _, _, _, H, _⟩ := hS; rw [spec_CountMatches.l0] at H; cases H
 clear H
 obtain ⟨x2_5, x2_6, x2_2_0, x2_2_1, x2_2_2, H, rfl⟩ := hS
 rw [spec_CountMatches.l0] at H
 refine gs (gs (rg (sv (EV.mv rfl) rfl (sv (EV.mv rfl) rfl (sv (EV.ln rfl) rfl (sv (EV.lss rfl rfl) rfl (re ?_)))))))
 revert H; refine ifsI ?_ ?_ <;> intro c1 H
 ·
  refine gt rfl (dT c1) (gk (gs (gb (gs ?_))))
  revert H; refine ggI ?_; intro g2 H
  refine dr [0] [0] [] 8 rfl rfl rfl rfl (xv 0 [0] [0] rfl (EV.mv rfl) rfl rfl rfl rfl (xv 1 [0] [0] rfl (EV.mv rfl) rfl rfl rfl rfl (xv 2 [0] [0] rfl (EV.ix 0 rfl rfl rfl g2 c1 rfl) rfl rfl rfl rfl (xv 3 [0] [0] rfl (EV.fa 0 rfl) rfl rfl rfl rfl (xv 4 [0] [0] rfl (EV.le (v := .int .i64 ((rd_T62 l1 x2_6).f0)) x2_6 0 none 0 z62 rfl rfl rfl g2 c1 rfl rfl rfl) rfl rfl rfl rfl (xv 5 [0] [0] rfl (EV.fa 0 rfl) rfl rfl rfl rfl (xv 6 [0] [0] rfl (EV.ld 0 none rfl rfl rfl) rfl rfl rfl rfl (xv 7 [0] [0] rfl (EV.eql rfl rfl) rfl rfl rfl rfl (xd (pr [1, 2, 5, 6, 20] [0] [0] rfl rfl rfl rfl ?_))))))))))
  revert H; refine ifsI ?_ ?_ <;> intro c3 H
  ·
   exact gt rfl (dT c3) (rg (sv (EV.mv rfl) rfl (sv (EV.add rfl rfl) rfl (sv (EV.as rfl) rfl (re (ge (rg (sv (EV.mv rfl) rfl (sv (EV.add rfl rfl) rfl (sv (EV.as rfl) rfl (re (wk [1, 2, 5, 6] [0] [⟨0, 0, 0, false⟩] (ih0 _ (by omega) _ ⟨wrap64 (x2_5 + 1), wrap64 (x2_6 + 1), x2_2_0, x2_2_1, x2_2_2, H, rfl⟩)))))))))))))
  ·
   exact gf rfl (dF c3) (gk (ge (rg (sv (EV.mv rfl) rfl (sv (EV.add rfl rfl) rfl (sv (EV.as rfl) rfl (re (wk [1, 2, 5, 6] [0] [⟨0, 0, 0, false⟩] (ih0 _ (by omega) _ ⟨x2_5, wrap64 (x2_6 + 1), x2_2_0, x2_2_1, x2_2_2, H, rfl⟩)))))))))
 ·
  refine gf rfl (dF c1) (gx rfl (gs (rg (sv (EV.mv rfl) rfl (sv (EV.as rfl) rfl (re (pr [4] [] [] rfl rfl rfl rfl ?_)))))))
  cases H
  exact rt Try.func81 rfl (.tmp rfl .nil) rfl [] [] rfl rfl rfl rfl rfl ⟨rfl, rfl, rfl⟩
end Go.Proofs.Ythciieopabndcaa.K
namespace Go.Proofs.Ythciieopabndcaa.K
open Go Go.RowKit
set_option linter.unusedVariables false
set_option linter.unusedSimpArgs false
def spec_l7One.l0 : Nat → Int → (List S75) → Int → Int → Int → Int → Int → (List S62) → Option ((List S75))
 | 0, _, _, _, _, _, _, _, _ => none
 | k + 1, x2_0, x2_7, x2_8, x2_9, x2_4_0, x2_4_1, x2_4_2, l2 => if x2_9 < (l2.length : Int) then (if 0 ≤ x2_9 then (if ((rd_T62 l2 x2_9).f0) = x2_4_0 then (if x2_7.length < 2513169434916 then (spec_l7One.l0 k x2_0 (x2_7 ++ ([(⟨(⟨x2_4_0, x2_4_1, x2_4_2⟩ : S62), (⟨(rd_T62 l2 x2_9).f0, (rd_T62 l2 x2_9).f1, (rd_T62 l2 x2_9).f2⟩ : S62), true⟩ : S75)] : List S75)) x2_8 (wrap64 (x2_9 + 1)) x2_4_0 x2_4_1 x2_4_2 l2) else none) else (spec_l7One.l0 k x2_0 x2_7 x2_8 (wrap64 (x2_9 + 1)) x2_4_0 x2_4_1 x2_4_2 l2)) else none) else (if x2_8 = 0 then (if x2_0 = 4 then (if x2_7.length < 2513169434916 then (some (x2_7 ++ ([(⟨(⟨x2_4_0, x2_4_1, x2_4_2⟩ : S62), (⟨0, 0, 0⟩ : S62), false⟩ : S75)] : List S75))) else none) else (some x2_7)) else (some x2_7))
def spec_l7One.f (k : Nat) (a0 : Int) (a1_0 : Int) (a1_1 : Int) (a1_2 : Int) (l2 : List S62) : Option ((List S75)) := (spec_CountMatches.f k a1_0 a1_1 a1_2 l2).bind fun t2 => (if a0 = 2 then (if t2 > 0 then (if ([] : List S75).length < 2513169434916 then (some ([(⟨(⟨a1_0, a1_1, a1_2⟩ : S62), (⟨0, 0, 0⟩ : S62), false⟩ : S75)] : List S75)) else none) else (some [])) else (if a0 = 3 then (if t2 = 0 then (if ([] : List S75).length < 2513169434916 then (some ([(⟨(⟨a1_0, a1_1, a1_2⟩ : S62), (⟨0, 0, 0⟩ : S62), false⟩ : S75)] : List S75)) else none) else (some [])) else (spec_l7One.l0 k a0 [] t2 0 a1_0 a1_1 a1_2 l2)))
set_option maxHeartbeats 4000000 in
set_option maxRecDepth 100000 in
theorem spec_l7One.ok (k : Nat) (a0 : Int) (a1_0 : Int) (a1_1 : Int) (a1_2 : Int) (l2 : List S62) (Al2 : Option Addr) (cl2 : Nat) (r0 : List S75) (H : spec_l7One.f k a0 a1_0 a1_1 a1_2 l2 = some r0) : Fn Try.prog 82 [.int .i64 a0, .agg #[.int .i64 a1_0, .int .i64 a1_1, .int .i64 a1_2], .slice Al2 l2.length cl2] [] [.sl 0 k62 Al2 cl2 l2 0 false] (fun v bx en => ∃ A0 c0, v = .slice A0 r0.length c0 ∧ bx = [] ∧ en = [.sl 2 k75 A0 c0 r0 1 true]) := by
 refine fn_ 70 Try.func82 rfl rfl rfl (fun base T w0 => ?_)
 rw [spec_l7One.f] at H
 refine gs (rg (so rfl (op_box (cs := [.int .i64 a1_0, .int .i64 a1_1, .int .i64 a1_2]) rfl rfl rfl fun b4 => (sv (EV.as rfl) rfl (re (gs (rg (so rfl (op_lit (s := 7) (by_ := 56) k75 ([] : List S75) [] [] 1 [] rfl rfl rfl rfl rfl rfl rfl rfl rfl rfl rfl rfl rfl dq rfl fun A10_1 c10_1 => (sv (EV.as rfl) rfl (re (gs (rg (sv (EV.ld (v := .agg #[.int .i64 a1_0, .int .i64 a1_1, .int .i64 a1_2]) 0 (some 3) rfl rfl rfl) rfl (sv (EV.mv rfl) rfl ?_)))))))))))))))
 revert H; refine bdI ?_; rintro t2 A2 H
 refine so rfl (op_call (spec_CountMatches.ok k a1_0 a1_1 a1_2 l2 Al2 cl2 _ A2) [⟨0, 0, 0, false⟩] 2 rfl rfl rfl rfl rfl ?_)
 rintro _ _ _ ⟨rfl, rfl, rfl⟩
 refine sv (EV.as rfl) rfl (re (pr [0, 2, 4, 7, 8] [0] [0, 1] rfl rfl rfl rfl (gs (gs (rg (sv (EV.mv rfl) rfl (re (gb (gs (rg (sv (EV.eql rfl rfl) rfl (sv (EV.as rfl) rfl (re ?_)))))))))))))
 revert H; refine ifsI ?_ ?_ <;> intro c3 H
 ·
  refine gt rfl (dT c3) (gs (gs (rg (sv (EV.mv rfl) rfl (sv (EV.gtr rfl rfl) rfl (re (pr [4, 7, 18] [0] [1] rfl rfl rfl rfl ?_)))))))
  revert H; refine ifsI ?_ ?_ <;> intro c4 H
  ·
   refine gt rfl (dT c4) (rg (sv (EV.mv rfl) rfl (sv (EV.ld (v := .agg #[.int .i64 a1_0, .int .i64 a1_1, .int .i64 a1_2]) 0 (some 3) rfl rfl rfl) rfl (sv (EV.bd (v := .agg #[.int .i64 a1_0, .int .i64 a1_1, .int .i64 a1_2, .int .i64 0, .int .i64 0, .int .i64 0, .bool false]) rfl (by kernel_rfl)) rfl (so rfl (op_lit (s := 7) (by_ := 56) k75 ([(⟨(⟨a1_0, a1_1, a1_2⟩ : S62), (⟨0, 0, 0⟩ : S62), false⟩ : S75)] : List S75) [[]] [] 2 [.tmp 21] rfl rfl rfl rfl rfl rfl rfl rfl rfl rfl rfl rfl rfl dq rfl fun A22_5 c22_5 => ?_))))))
   revert H; refine ggI ?_; intro g6 H
   refine so rfl (op_app (k := k75) (s := 7) (by_ := 56) 0 1 rfl rfl rfl rfl (ap1 g6 dq) (ap1n g6 dq) (.inl rfl) true (fun _ => .inl rfl) rfl rfl fun A23_7 c23_7 => (nmE (en := [.sl 2 k75 A22_5 c22_5 ([(⟨(⟨a1_0, a1_1, a1_2⟩ : S62), (⟨0, 0, 0⟩ : S62), false⟩ : S75)] : List S75) 2 true, .sl 2 k75 A23_7 c23_7 ([(⟨(⟨a1_0, a1_1, a1_2⟩ : S62), (⟨0, 0, 0⟩ : S62), false⟩ : S75)] : List S75) 1 true]) (by kernel_rfl) (sv (EV.as rfl) rfl (re (pr [7] [] [1] rfl rfl rfl rfl (gs (rg (sv (EV.mv rfl) rfl (sv (EV.as rfl) rfl (re ?_))))))))))
   cases H
   exact rt Try.func82 rfl (.tmp rfl .nil) rfl [] [⟨0, 2, 1, true⟩] rfl rfl rfl rfl rfl ⟨_, _, rfl, rfl, rfl⟩
  ·
   refine gf rfl (dF c4) (gk (gs (rg (sv (EV.mv rfl) rfl (sv (EV.as rfl) rfl (re ?_))))))
   cases H
   exact rt Try.func82 rfl (.tmp rfl .nil) rfl [] [⟨0, 2, 1, true⟩] rfl rfl rfl rfl rfl ⟨_, _, rfl, rfl, rfl⟩
 ·
  refine gf rfl (dF c3) (gs (rg (sv (EV.eql rfl rfl) rfl (sv (EV.as rfl) rfl (re ?_)))))
  revert H; refine ifsI ?_ ?_ <;> intro c8 H
  ·
   refine gt rfl (dT c8) (gs (gs (rg (sv (EV.mv rfl) rfl (sv (EV.eql rfl rfl) rfl (re (pr [4, 7, 28] [0] [1] rfl rfl rfl rfl ?_)))))))
   revert H; refine ifsI ?_ ?_ <;> intro c9 H
   ·
    refine gt rfl (dT c9) (rg (sv (EV.mv rfl) rfl (sv (EV.ld (v := .agg #[.int .i64 a1_0, .int .i64 a1_1, .int .i64 a1_2]) 0 (some 3) rfl rfl rfl) rfl (sv (EV.bd (v := .agg #[.int .i64 a1_0, .int .i64 a1_1, .int .i64 a1_2, .int .i64 0, .int .i64 0, .int .i64 0, .bool false]) rfl (by kernel_rfl)) rfl (so rfl (op_lit (s := 7) (by_ := 56) k75 ([(⟨(⟨a1_0, a1_1, a1_2⟩ : S62), (⟨0, 0, 0⟩ : S62), false⟩ : S75)] : List S75) [[]] [] 2 [.tmp 31] rfl rfl rfl rfl rfl rfl rfl rfl rfl rfl rfl rfl rfl dq rfl fun A32_10 c32_10 => ?_))))))
    revert H; refine ggI ?_; intro g11 H
    refine so rfl (op_app (k := k75) (s := 7) (by_ := 56) 0 1 rfl rfl rfl rfl (ap1 g11 dq) (ap1n g11 dq) (.inl rfl) true (fun _ => .inl rfl) rfl rfl fun A33_12 c33_12 => (nmE (en := [.sl 2 k75 A32_10 c32_10 ([(⟨(⟨a1_0, a1_1, a1_2⟩ : S62), (⟨0, 0, 0⟩ : S62), false⟩ : S75)] : List S75) 2 true, .sl 2 k75 A33_12 c33_12 ([(⟨(⟨a1_0, a1_1, a1_2⟩ : S62), (⟨0, 0, 0⟩ : S62), false⟩ : S75)] : List S75) 1 true]) (by kernel_rfl) (sv (EV.as rfl) rfl (re (pr [7] [] [1] rfl rfl rfl rfl (gs (rg (sv (EV.mv rfl) rfl (sv (EV.as rfl) rfl (re ?_))))))))))
    cases H
    exact rt Try.func82 rfl (.tmp rfl .nil) rfl [] [⟨0, 2, 1, true⟩] rfl rfl rfl rfl rfl ⟨_, _, rfl, rfl, rfl⟩
   ·
    refine gf rfl (dF c9) (gk (gs (rg (sv (EV.mv rfl) rfl (sv (EV.as rfl) rfl (re ?_))))))
    cases H
    exact rt Try.func82 rfl (.tmp rfl .nil) rfl [] [⟨0, 2, 1, true⟩] rfl rfl rfl rfl rfl ⟨_, _, rfl, rfl, rfl⟩
  ·
   refine gf rfl (dF c8) (gk (ge (gs (gs (rg (sv (EV.as rfl) rfl (re (gb ?_))))))))
   refine lo (fun kk S => ∃ (x2_0 : Int) (x2_7 : List S75) (Ax2_7 : Option Addr) (cx2_7 : Nat) (x2_8 : Int) (x2_9 : Int) (x2_4_0 : Int) (x2_4_1 : Int) (x2_4_2 : Int), spec_l7One.l0 kk x2_0 x2_7 x2_8 x2_9 x2_4_0 x2_4_1 x2_4_2 l2 = some r0 ∧ S = ⟨[(0, .int .i64 x2_0), (2, .slice Al2 l2.length cl2), (4, .pointer (some ⟨b4, 0, none⟩)), (7, .slice Ax2_7 x2_7.length cx2_7), (8, .int .i64 x2_8), (9, .int .i64 x2_9)], [⟨b4, 62, [.int .i64 x2_4_0, .int .i64 x2_4_1, .int .i64 x2_4_2]⟩], [.sl 2 k75 Ax2_7 cx2_7 x2_7 1 true, .sl 0 k62 Al2 cl2 l2 0 false]⟩) (fun S hS => ?_) (fun n0 ih0 S hS => ?_) ⟨a0, [], A10_1, c10_1, t2, 0, a1_0, a1_1, a1_2, H, rfl⟩ (fun h => wk [0, 2, 4, 7, 8, 9] [0] [⟨1, 2, 1, true⟩, ⟨0, 0, 0, false⟩] h)
   · clear H; obtain ⟨_, _, _, _, _, _, _, _, _, H, _⟩ := hS; rw [spec_l7One.l0] at H; cases H
   clear H
   obtain ⟨x2_0, x2_7, Ax2_7, cx2_7, x2_8, x2_9, x2_4_0, x2_4_1, x2_4_2, H, rfl⟩ := hS
   rw [spec_l7One.l0] at H
   refine gs (gs (rg (sv (EV.mv rfl) rfl (sv (EV.mv rfl) rfl (sv (EV.ln rfl) rfl (sv (EV.lss rfl rfl) rfl (re ?_)))))))
   revert H; refine ifsI ?_ ?_ <;> intro c13 H
   ·
    refine gt rfl (dT c13) (gk (gs (gb (gs ?_))))
    revert H; refine ggI ?_; intro g14 H
    refine dr [0] [0, 1] [] 8 rfl rfl rfl rfl (xv 0 [0] [0, 1] rfl (EV.mv rfl) rfl rfl rfl rfl (xv 1 [0] [0, 1] rfl (EV.mv rfl) rfl rfl rfl rfl (xv 2 [0] [0, 1] rfl (EV.ix 1 rfl rfl rfl g14 c13 rfl) rfl rfl rfl rfl (xv 3 [0] [0, 1] rfl (EV.fa 0 rfl) rfl rfl rfl rfl (xv 4 [0] [0, 1] rfl (EV.le (v := .int .i64 ((rd_T62 l2 x2_9).f0)) x2_9 0 none 1 z62 rfl rfl rfl g14 c13 rfl rfl rfl) rfl rfl rfl rfl (xv 5 [0] [0, 1] rfl (EV.fa 0 rfl) rfl rfl rfl rfl (xv 6 [0] [0, 1] rfl (EV.ld 0 none rfl rfl rfl) rfl rfl rfl rfl (xv 7 [0] [0, 1] rfl (EV.eql rfl rfl) rfl rfl rfl rfl (xd (pr [0, 2, 4, 7, 8, 9, 48] [0] [0, 1] rfl rfl rfl rfl ?_))))))))))
    revert H; refine ifsI ?_ ?_ <;> intro c15 H
    ·
     refine gt rfl (dT c15) ?_
     revert H; refine ggI ?_; intro g16 H
     exact dr [0] [1] [9] 10 rfl rfl rfl rfl (xv 0 [0] [1] rfl (EV.mv rfl) rfl rfl rfl rfl (xv 1 [0] [1] rfl (EV.ld (v := .agg #[.int .i64 x2_4_0, .int .i64 x2_4_1, .int .i64 x2_4_2]) 0 (some 3) rfl rfl rfl) rfl rfl rfl rfl (xv 2 [0] [1] rfl (EV.mv rfl) rfl rfl rfl rfl (xv 3 [0] [1] rfl (EV.mv rfl) rfl rfl rfl rfl (xv 4 [0] [1] rfl (EV.ix 0 rfl rfl rfl g14 c13 rfl) rfl rfl rfl rfl (xv 5 [0] [1] rfl (EV.le (v := .agg #[.int .i64 ((rd_T62 l2 x2_9).f0), .int .i64 ((rd_T62 l2 x2_9).f1), .int .i64 ((rd_T62 l2 x2_9).f2)]) x2_9 0 (some 3) 0 z62 rfl rfl rfl g14 c13 rfl rfl rfl) rfl rfl rfl rfl (xv 6 [0] [1] rfl (EV.bd (v := .agg #[.int .i64 x2_4_0, .int .i64 x2_4_1, .int .i64 x2_4_2, .int .i64 ((rd_T62 l2 x2_9).f0), .int .i64 ((rd_T62 l2 x2_9).f1), .int .i64 ((rd_T62 l2 x2_9).f2), .bool true]) rfl (by kernel_rfl)) rfl rfl rfl rfl (one1 7 rfl rfl (op_lit (s := 7) (by_ := 56) k75 ([(⟨(⟨x2_4_0, x2_4_1, x2_4_2⟩ : S62), (⟨(rd_T62 l2 x2_9).f0, (rd_T62 l2 x2_9).f1, (rd_T62 l2 x2_9).f2⟩ : S62), true⟩ : S75)] : List S75) [[]] [] 2 [.tmp 55] rfl rfl rfl rfl rfl rfl rfl rfl rfl rfl rfl rfl rfl dq rfl fun A56_17 c56_17 => (xs [0] [1] rfl rfl rfl (one1 8 rfl rfl (op_app (k := k75) (s := 7) (by_ := 56) 0 2 rfl rfl rfl rfl (ap1 g16 dq) (ap1n g16 dq) (.inl rfl) true (fun _ => .inl rfl) rfl rfl fun A57_18 c57_18 => (nmE (en := [.sl 0 k62 Al2 cl2 l2 0 false, .sl 2 k75 A56_17 c56_17 ([(⟨(⟨x2_4_0, x2_4_1, x2_4_2⟩ : S62), (⟨(rd_T62 l2 x2_9).f0, (rd_T62 l2 x2_9).f1, (rd_T62 l2 x2_9).f2⟩ : S62), true⟩ : S75)] : List S75) 2 true, .sl 2 k75 A57_18 c57_18 (x2_7 ++ ([(⟨(⟨x2_4_0, x2_4_1, x2_4_2⟩ : S62), (⟨(rd_T62 l2 x2_9).f0, (rd_T62 l2 x2_9).f1, (rd_T62 l2 x2_9).f2⟩ : S62), true⟩ : S75)] : List S75)) 1 true]) (by kernel_rfl) (xs [0] [0] rfl rfl rfl (one1 9 rfl rfl (ov (EV.as rfl) rfl (xn rfl (xd (pr [0, 2, 4, 7, 8, 9] [0] [0, 2] rfl rfl rfl rfl (ge (rg (sv (EV.mv rfl) rfl (sv (EV.add rfl rfl) rfl (sv (EV.as rfl) rfl (re (wk [0, 2, 4, 7, 8, 9] [0] [⟨1, 2, 1, true⟩, ⟨0, 0, 0, false⟩] (ih0 _ (by omega) _ ⟨x2_0, x2_7 ++ ([(⟨(⟨x2_4_0, x2_4_1, x2_4_2⟩ : S62), (⟨(rd_T62 l2 x2_9).f0, (rd_T62 l2 x2_9).f1, (rd_T62 l2 x2_9).f2⟩ : S62), true⟩ : S75)] : List S75), A57_18, c57_18, x2_8, wrap64 (x2_9 + 1), x2_4_0, x2_4_1, x2_4_2, H, rfl⟩)))))))))))))))))))))))))))
    ·
     exact gf rfl (dF c15) (gk (ge (rg (sv (EV.mv rfl) rfl (sv (EV.add rfl rfl) rfl (sv (EV.as rfl) rfl (re (wk [0, 2, 4, 7, 8, 9] [0] [⟨0, 2, 1, true⟩, ⟨1, 0, 0, false⟩] (ih0 _ (by omega) _ ⟨x2_0, x2_7, Ax2_7, cx2_7, x2_8, wrap64 (x2_9 + 1), x2_4_0, x2_4_1, x2_4_2, H, rfl⟩)))))))))
   ·
    refine gf rfl (dF c13) (gx rfl (gs (gs (rg (sv (EV.mv rfl) rfl (sv (EV.eql rfl rfl) rfl (sv (EV.mv rfl) rfl ?_)))))))
    revert H; refine ifsI ?_ ?_ <;> intro c19 H
    ·
     refine ts 60 rfl (dT c19) (sv (EV.mv rfl) rfl (sv (EV.eql rfl rfl) rfl (sv (EV.pt rfl rfl rfl) rfl (re (pr [4, 7, 63] [0] [0] rfl rfl rfl rfl ?_)))))
     revert H; refine ifsI ?_ ?_ <;> intro c20 H
     ·
      refine gt rfl (dT c20) (rg (sv (EV.mv rfl) rfl (sv (EV.ld (v := .agg #[.int .i64 x2_4_0, .int .i64 x2_4_1, .int .i64 x2_4_2]) 0 (some 3) rfl rfl rfl) rfl (sv (EV.bd (v := .agg #[.int .i64 x2_4_0, .int .i64 x2_4_1, .int .i64 x2_4_2, .int .i64 0, .int .i64 0, .int .i64 0, .bool false]) rfl (by kernel_rfl)) rfl (so rfl (op_lit (s := 7) (by_ := 56) k75 ([(⟨(⟨x2_4_0, x2_4_1, x2_4_2⟩ : S62), (⟨0, 0, 0⟩ : S62), false⟩ : S75)] : List S75) [[]] [] 2 [.tmp 66] rfl rfl rfl rfl rfl rfl rfl rfl rfl rfl rfl rfl rfl dq rfl fun A67_21 c67_21 => ?_))))))
      revert H; refine ggI ?_; intro g22 H
      refine so rfl (op_app (k := k75) (s := 7) (by_ := 56) 0 1 rfl rfl rfl rfl (ap1 g22 dq) (ap1n g22 dq) (.inl rfl) true (fun _ => .inl rfl) rfl rfl fun A68_23 c68_23 => (nmE (en := [.sl 2 k75 A67_21 c67_21 ([(⟨(⟨x2_4_0, x2_4_1, x2_4_2⟩ : S62), (⟨0, 0, 0⟩ : S62), false⟩ : S75)] : List S75) 2 true, .sl 2 k75 A68_23 c68_23 (x2_7 ++ ([(⟨(⟨x2_4_0, x2_4_1, x2_4_2⟩ : S62), (⟨0, 0, 0⟩ : S62), false⟩ : S75)] : List S75)) 1 true]) (by kernel_rfl) (sv (EV.as rfl) rfl (re (pr [7] [] [1] rfl rfl rfl rfl (gs (rg (sv (EV.mv rfl) rfl (sv (EV.as rfl) rfl (re ?_))))))))))
      cases H
      exact rt Try.func82 rfl (.tmp rfl .nil) rfl [] [⟨0, 2, 1, true⟩] rfl rfl rfl rfl rfl ⟨_, _, rfl, rfl, rfl⟩
     ·
      refine gf rfl (dF c20) (gk (gs (rg (sv (EV.mv rfl) rfl (sv (EV.as rfl) rfl (re ?_))))))
      cases H
      exact rt Try.func82 rfl (.tmp rfl .nil) rfl [] [⟨0, 2, 1, true⟩] rfl rfl rfl rfl rfl ⟨_, _, rfl, rfl, rfl⟩
    ·
     refine ts 60 rfl (dF c19) (sk rfl (sk rfl (sv (EV.pf rfl rfl rfl) rfl (re (pr [4, 7, 63] [0] [0] rfl rfl rfl rfl (gf rfl rfl (gk (gs (rg (sv (EV.mv rfl) rfl (sv (EV.as rfl) rfl (re ?_))))))))))))
     cases H
     exact rt Try.func82 rfl (.tmp rfl .nil) rfl [] [⟨0, 2, 1, true⟩] rfl rfl rfl rfl rfl ⟨_, _, rfl, rfl, rfl⟩
end Go.Proofs.Ythciieopabndcaa.K
namespace Go.Proofs.Ythciieopabndcaa.K
open Go Go.RowKit
set_option linter.unusedVariables false
set_option linter.unusedSimpArgs false
mutual
def spec_JoinChunk.j0 : Nat → (List S75) → Int → (List S62) → (List S62) → (List Bool) → Int → Int → (List S62) → (List S62) → (List Bool) → Int → Option ((List S75) × Int × (List S62) × (List S62) × (List Bool) × Int)
 | 0, _, _, _, _, _, _, _, _, _, _, _ => none
 | k + 1, x14_6, x14_5_0, x14_5_1, x14_5_2, x14_5_3, x14_5_4, x14_7_0, x14_7_1, x14_7_2, x14_7_3, x14_7_4 => some (x14_6, x14_7_0, x14_7_1, x14_7_2, x14_7_3, x14_7_4)
def spec_JoinChunk.j1 : Nat → (List S75) → Int → Int → Int → Bool → Int → Int → Int → (List S62) → (List S62) → (List Bool) → Int → Int → (List S62) → (List S62) → (List Bool) → Int → (List S62) → (List S62) → (List S62) → (List Bool) → Option ((List S75) × Int × (List S62) × (List S62) × (List Bool) × Int)
 | 0, _, _, _, _, _, _, _, _, _, _, _, _, _, _, _, _, _, _, _, _, _ => none
 | k + 1, x26_6, x26_8, x26_19_0, x26_19_4, x26_20, x26_2_0, x26_2_4, x26_5_0, x26_5_1, x26_5_2, x26_5_3, x26_5_4, x26_7_0, x26_7_1, x26_7_2, x26_7_3, x26_7_4, l1, l0_1, l0_2, l0_3 => if 0 ≤ x26_8 then (if x26_8 < (x26_7_3.length : Int) then (spec_JoinChunk.l0 k x26_6 (wrap64 (x26_8 + 1)) x26_2_0 x26_2_4 x26_5_0 x26_5_1 x26_5_2 x26_5_3 x26_5_4 x26_7_0 x26_7_1 x26_7_2 (x26_7_3.set x26_8.toNat true) x26_7_4 l1 l0_1 l0_2 l0_3) else none) else none
def spec_JoinChunk.j2 : Nat → (List S75) → Int → Int → Int → Bool → Bool → Int → Int → Int → (List S62) → (List S62) → (List Bool) → Int → Int → (List S62) → (List S62) → (List Bool) → Int → (List S62) → (List S62) → (List S62) → (List Bool) → Option ((List S75) × Int × (List S62) × (List S62) × (List Bool) × Int)
 | 0, _, _, _, _, _, _, _, _, _, _, _, _, _, _, _, _, _, _, _, _, _, _ => none
 | k + 1, x27_6, x27_8, x27_19_0, x27_19_4, x27_20, x27_52, x27_2_0, x27_2_4, x27_5_0, x27_5_1, x27_5_2, x27_5_3, x27_5_4, x27_7_0, x27_7_1, x27_7_2, x27_7_3, x27_7_4, l1, l0_1, l0_2, l0_3 => if x27_52 = true then (if 0 ≤ x27_8 then (if x27_8 < (l0_1.length : Int) then ((spec_l7One.f k 1 ((rd_T62 l0_1 x27_8).f0) ((rd_T62 l0_1 x27_8).f1) ((rd_T62 l0_1 x27_8).f2) l1).bind fun t23 => (if x27_6.length + t23.length ≤ 2513169434916 then (spec_JoinChunk.j1 k (x27_6 ++ t23) x27_8 x27_19_0 x27_19_4 x27_20 x27_2_0 x27_2_4 x27_5_0 x27_5_1 x27_5_2 x27_5_3 x27_5_4 x27_7_0 x27_7_1 x27_7_2 x27_7_3 x27_7_4 l1 l0_1 l0_2 l0_3) else none)) else none) else none) else (spec_JoinChunk.j1 k x27_6 x27_8 x27_19_0 x27_19_4 x27_20 x27_2_0 x27_2_4 x27_5_0 x27_5_1 x27_5_2 x27_5_3 x27_5_4 x27_7_0 x27_7_1 x27_7_2 x27_7_3 x27_7_4 l1 l0_1 l0_2 l0_3)
def spec_JoinChunk.l0 : Nat → (List S75) → Int → Int → Int → Int → (List S62) → (List S62) → (List Bool) → Int → Int → (List S62) → (List S62) → (List Bool) → Int → (List S62) → (List S62) → (List S62) → (List Bool) → Option ((List S75) × Int × (List S62) × (List S62) × (List Bool) × Int)
 | 0, _, _, _, _, _, _, _, _, _, _, _, _, _, _, _, _, _, _ => none
 | k + 1, x15_6, x15_8, x15_2_0, x15_2_4, x15_5_0, x15_5_1, x15_5_2, x15_5_3, x15_5_4, x15_7_0, x15_7_1, x15_7_2, x15_7_3, x15_7_4, l1, l0_1, l0_2, l0_3 => if x15_8 < (l0_1.length : Int) then ((spec_IsValidTask.f k x15_2_0 l0_1 l0_2 l0_3 x15_2_4).bind fun t5 => (if t5 = true then (if 0 ≤ x15_8 then ((spec_CountMatches.f k ((rd_T62 l0_1 x15_8).f0) ((rd_T62 l0_1 x15_8).f1) ((rd_T62 l0_1 x15_8).f2) l1).bind fun t8 => (if t8 = 0 then (spec_JoinChunk.l0 k x15_6 (wrap64 (x15_8 + 1)) x15_2_0 x15_2_4 x15_5_0 x15_5_1 x15_5_2 x15_5_3 x15_5_4 x15_7_0 x15_7_1 x15_7_2 x15_7_3 x15_7_4 l1 l0_1 l0_2 l0_3) else (if x15_2_0 = 2 then (if x15_8 < (l0_3.length : Int) then (if (rdOf false l0_3 x15_8) = true then (spec_JoinChunk.j1 k x15_6 x15_8 x15_2_0 x15_2_4 true x15_2_0 x15_2_4 x15_5_0 x15_5_1 x15_5_2 x15_5_3 x15_5_4 x15_7_0 x15_7_1 x15_7_2 x15_7_3 x15_7_4 l1 l0_1 l0_2 l0_3) else (if x15_6.length < 2513169434916 then (spec_JoinChunk.j1 k (x15_6 ++ ([(⟨(⟨(rd_T62 l0_1 x15_8).f0, (rd_T62 l0_1 x15_8).f1, (rd_T62 l0_1 x15_8).f2⟩ : S62), (⟨0, 0, 0⟩ : S62), false⟩ : S75)] : List S75)) x15_8 x15_2_0 x15_2_4 true x15_2_0 x15_2_4 x15_5_0 x15_5_1 x15_5_2 x15_5_3 x15_5_4 x15_7_0 x15_7_1 x15_7_2 x15_7_3 x15_7_4 l1 l0_1 l0_2 l0_3) else none)) else none) else (if x15_2_0 = 1 then (spec_JoinChunk.j2 k x15_6 x15_8 x15_2_0 x15_2_4 true (decide (x15_2_0 = 1)) x15_2_0 x15_2_4 x15_5_0 x15_5_1 x15_5_2 x15_5_3 x15_5_4 x15_7_0 x15_7_1 x15_7_2 x15_7_3 x15_7_4 l1 l0_1 l0_2 l0_3) else (spec_JoinChunk.j2 k x15_6 x15_8 x15_2_0 x15_2_4 true (decide (x15_2_0 = 4)) x15_2_0 x15_2_4 x15_5_0 x15_5_1 x15_5_2 x15_5_3 x15_5_4 x15_7_0 x15_7_1 x15_7_2 x15_7_3 x15_7_4 l1 l0_1 l0_2 l0_3))))) else none) else (spec_JoinChunk.j0 k x15_6 x15_5_0 x15_5_1 x15_5_2 x15_5_3 x15_5_4 x15_7_0 x15_7_1 x15_7_2 x15_7_3 x15_7_4))) else (spec_JoinChunk.j0 k x15_6 x15_5_0 x15_5_1 x15_5_2 x15_5_3 x15_5_4 x15_7_0 x15_7_1 x15_7_2 x15_7_3 x15_7_4)
end
def spec_JoinChunk.f (k : Nat) (a0_0 : Int) (l0_1 : List S62) (l0_2 : List S62) (l0_3 : List Bool) (a0_4 : Int) (l1 : List S62) : Option ((List S75) × Int × (List S62) × (List S62) × (List Bool) × Int) := (spec_l16Copy.f a0_0 l0_1 l0_2 l0_3 a0_4).bind fun bt2 => (spec_JoinChunk.l0 k [] 0 a0_0 a0_4 0 [] [] [] 0 bt2.1 bt2.2.1 bt2.2.2.1 bt2.2.2.2.1 bt2.2.2.2.2 l1 l0_1 l0_2 l0_3)
set_option maxHeartbeats 4000000 in
set_option maxRecDepth 100000 in
theorem spec_JoinChunk.ok (k : Nat) (a0_0 : Int) (l0_1 : List S62) (Al0_1 : Option Addr) (cl0_1 : Nat) (l0_2 : List S62) (Al0_2 : Option Addr) (cl0_2 : Nat) (l0_3 : List Bool) (Al0_3 : Option Addr) (cl0_3 : Nat) (a0_4 : Int) (l1 : List S62) (Al1 : Option Addr) (cl1 : Nat) (r0 : List S75) (r1 : Int) (r2 : List S62) (r3 : List S62) (r4 : List Bool) (r5 : Int) (H : spec_JoinChunk.f k a0_0 l0_1 l0_2 l0_3 a0_4 l1 = some (r0, r1, r2, r3, r4, r5)) : Fn Try.prog 50 [.agg #[.int .i64 a0_0, .slice Al0_1 l0_1.length cl0_1, .slice Al0_2 l0_2.length cl0_2, .slice Al0_3 l0_3.length cl0_3, .int .i64 a0_4], .slice Al1 l1.length cl1] [] [.sl 0 k62 Al0_1 cl0_1 l0_1 0 false, .sl 0 k62 Al0_2 cl0_2 l0_2 0 false, .sl 0 .bool Al0_3 cl0_3 l0_3 0 false, .sl 0 k62 Al1 cl1 l1 0 false] (fun v bx en => ∃ A0 c0 A2 c2 A3 c3 A4 c4, v = .tuple #[.slice A0 r0.length c0, .agg #[.int .i64 r1, .slice A2 r2.length c2, .slice A3 r3.length c3, .slice A4 r4.length c4, .int .i64 r5]] ∧ bx = [] ∧ en = [.sl 2 k75 A0 c0 r0 1 true, .sl 2 k62 A2 c2 r2 2 true, .sl 2 k62 A3 c3 r3 3 true, .sl 2 .bool A4 c4 r4 4 true]) := by
 refine fn_ 70 Try.func50 rfl rfl rfl (fun base T w0 => ?_)
 rw [spec_JoinChunk.f] at H
 refine gs (rg (so rfl (op_box (cs := [.int .i64 a0_0, .slice Al0_1 l0_1.length cl0_1, .slice Al0_2 l0_2.length cl0_2, .slice Al0_3 l0_3.length cl0_3, .int .i64 a0_4]) rfl rfl rfl fun b2 => (sv (EV.as rfl) rfl (so rfl (op_alloc (cs := [.int .i64 0, .slice none 0 0, .slice none 0 0, .slice none 0 0, .int .i64 0]) (by kernel_rfl) rfl fun b5 => (re (gs (rg (so rfl (op_lit (s := 7) (by_ := 56) k75 ([] : List S75) [] [] 1 [] rfl rfl rfl rfl rfl rfl rfl rfl rfl rfl rfl rfl rfl dq rfl fun A10_1 c10_1 => (sv (EV.as rfl) rfl (re (gs (rg (sv (EV.ld (v := .agg #[.int .i64 a0_0, .slice Al0_1 l0_1.length cl0_1, .slice Al0_2 l0_2.length cl0_2, .slice Al0_3 l0_3.length cl0_3, .int .i64 a0_4]) 0 (some 5) rfl rfl rfl) rfl ?_))))))))))))))))
 revert H; refine bdI ?_; rintro ⟨t2_0, t2_1, t2_2, t2_3, t2_4⟩ A2 H
 refine so rfl (op_call (spec_l16Copy.ok a0_0 l0_1 Al0_1 cl0_1 l0_2 Al0_2 cl0_2 l0_3 Al0_3 cl0_3 a0_4 _ _ _ _ _ A2) [⟨0, 0, 0, false⟩, ⟨1, 0, 0, false⟩, ⟨2, 0, 0, false⟩] 2 rfl rfl rfl rfl rfl ?_)
 rintro _ _ _ ⟨At2_1, ct2_1, At2_2, ct2_2, At2_3, ct2_3, rfl, rfl, rfl⟩
 refine so rfl (op_alloc (cs := [.int .i64 0, .slice none 0 0, .slice none 0 0, .slice none 0 0, .int .i64 0]) (by kernel_rfl) rfl fun b7 => (so rfl (op_st (cs' := [.int .i64 t2_0, .slice At2_1 t2_1.length ct2_1, .slice At2_2 t2_2.length ct2_2, .slice At2_3 t2_3.length ct2_3, .int .i64 t2_4]) 2 rfl rfl rfl rfl rfl rfl (re ?_))))
 refine jo (fun S => ∃ (m : Nat) (x14_6 : List S75) (Ax14_6 : Option Addr) (cx14_6 : Nat) (x14_5_0 : Int) (x14_5_1 : List S62) (Ax14_5_1 : Option Addr) (cx14_5_1 : Nat) (x14_5_2 : List S62) (Ax14_5_2 : Option Addr) (cx14_5_2 : Nat) (x14_5_3 : List Bool) (Ax14_5_3 : Option Addr) (cx14_5_3 : Nat) (x14_5_4 : Int) (x14_7_0 : Int) (x14_7_1 : List S62) (Ax14_7_1 : Option Addr) (cx14_7_1 : Nat) (x14_7_2 : List S62) (Ax14_7_2 : Option Addr) (cx14_7_2 : Nat) (x14_7_3 : List Bool) (Ax14_7_3 : Option Addr) (cx14_7_3 : Nat) (x14_7_4 : Int), spec_JoinChunk.j0 m x14_6 x14_5_0 x14_5_1 x14_5_2 x14_5_3 x14_5_4 x14_7_0 x14_7_1 x14_7_2 x14_7_3 x14_7_4 = some (r0, r1, r2, r3, r4, r5) ∧ S = ⟨[(5, .pointer (some ⟨b5, 0, none⟩)), (6, .slice Ax14_6 x14_6.length cx14_6), (7, .pointer (some ⟨b7, 0, none⟩))], [⟨b5, 37, [.int .i64 x14_5_0, .slice Ax14_5_1 x14_5_1.length cx14_5_1, .slice Ax14_5_2 x14_5_2.length cx14_5_2, .slice Ax14_5_3 x14_5_3.length cx14_5_3, .int .i64 x14_5_4]⟩, ⟨b7, 37, [.int .i64 x14_7_0, .slice Ax14_7_1 x14_7_1.length cx14_7_1, .slice Ax14_7_2 x14_7_2.length cx14_7_2, .slice Ax14_7_3 x14_7_3.length cx14_7_3, .int .i64 x14_7_4]⟩], [.sl 2 k75 Ax14_6 cx14_6 x14_6 1 true, .sl 2 k62 Ax14_5_1 cx14_5_1 x14_5_1 2 true, .sl 2 k62 Ax14_5_2 cx14_5_2 x14_5_2 3 true, .sl 2 .bool Ax14_5_3 cx14_5_3 x14_5_3 4 true, .sl 2 k62 Ax14_7_1 cx14_7_1 x14_7_1 5 true, .sl 2 k62 Ax14_7_2 cx14_7_2 x14_7_2 6 true, .sl 2 .bool Ax14_7_3 cx14_7_3 x14_7_3 7 true]⟩) (fun S hS => ?_) (fun jh0 => ?_)
 ·
  clear H
  obtain ⟨m3, x14_6, Ax14_6, cx14_6, x14_5_0, x14_5_1, Ax14_5_1, cx14_5_1, x14_5_2, Ax14_5_2, cx14_5_2, x14_5_3, Ax14_5_3, cx14_5_3, x14_5_4, x14_7_0, x14_7_1, Ax14_7_1, cx14_7_1, x14_7_2, Ax14_7_2, cx14_7_2, x14_7_3, Ax14_7_3, cx14_7_3, x14_7_4, H, rfl⟩ := hS
  rcases m3 with _ | m3
  · rw [spec_JoinChunk.j0] at H; cases H
  rw [spec_JoinChunk.j0] at H
  refine gs (dr [0, 1] [0, 1, 2, 3, 4, 5, 6] [3] 4 rfl rfl rfl rfl (xv 0 [0, 1] [0, 1, 2, 3, 4, 5, 6] rfl (EV.mv rfl) rfl rfl rfl rfl (xv 1 [0, 1] [0, 1, 2, 3, 4, 5, 6] rfl (EV.ld (v := .agg #[.int .i64 x14_7_0, .slice Ax14_7_1 x14_7_1.length cx14_7_1, .slice Ax14_7_2 x14_7_2.length cx14_7_2, .slice Ax14_7_3 x14_7_3.length cx14_7_3, .int .i64 x14_7_4]) 1 (some 5) rfl rfl rfl) rfl rfl rfl rfl (xv 2 [0, 1] [0, 1, 2, 3, 4, 5, 6] rfl (EV.as rfl) rfl rfl rfl rfl (one1 3 rfl rfl (op_st (cs' := [.int .i64 x14_7_0, .slice Ax14_7_1 x14_7_1.length cx14_7_1, .slice Ax14_7_2 x14_7_2.length cx14_7_2, .slice Ax14_7_3 x14_7_3.length cx14_7_3, .int .i64 x14_7_4]) 0 rfl rfl rfl rfl rfl rfl (xn rfl (xd ?_))))))))
  cases H
  exact rt Try.func50 rfl (.tmp rfl (.cell 0 (some 5) rfl rfl rfl .nil)) rfl [] [⟨0, 2, 1, true⟩, ⟨4, 2, 2, true⟩, ⟨5, 2, 3, true⟩, ⟨6, 2, 4, true⟩] rfl rfl rfl rfl rfl ⟨_, _, _, _, _, _, _, _, rfl, rfl, rfl⟩
 ·
  refine gs (rg (sv (EV.as rfl) rfl (re (gb (nil_ k62 6 dq (nil_ k62 7 dq (nil_ .bool 8 dq ?_)))))))
  refine lo (fun kk S => ∃ (x15_6 : List S75) (Ax15_6 : Option Addr) (cx15_6 : Nat) (x15_8 : Int) (x15_2_0 : Int) (x15_2_4 : Int) (x15_5_0 : Int) (x15_5_1 : List S62) (Ax15_5_1 : Option Addr) (cx15_5_1 : Nat) (x15_5_2 : List S62) (Ax15_5_2 : Option Addr) (cx15_5_2 : Nat) (x15_5_3 : List Bool) (Ax15_5_3 : Option Addr) (cx15_5_3 : Nat) (x15_5_4 : Int) (x15_7_0 : Int) (x15_7_1 : List S62) (Ax15_7_1 : Option Addr) (cx15_7_1 : Nat) (x15_7_2 : List S62) (Ax15_7_2 : Option Addr) (cx15_7_2 : Nat) (x15_7_3 : List Bool) (Ax15_7_3 : Option Addr) (cx15_7_3 : Nat) (x15_7_4 : Int), spec_JoinChunk.l0 kk x15_6 x15_8 x15_2_0 x15_2_4 x15_5_0 x15_5_1 x15_5_2 x15_5_3 x15_5_4 x15_7_0 x15_7_1 x15_7_2 x15_7_3 x15_7_4 l1 l0_1 l0_2 l0_3 = some (r0, r1, r2, r3, r4, r5) ∧ S = ⟨[(1, .slice Al1 l1.length cl1), (2, .pointer (some ⟨b2, 0, none⟩)), (5, .pointer (some ⟨b5, 0, none⟩)), (6, .slice Ax15_6 x15_6.length cx15_6), (7, .pointer (some ⟨b7, 0, none⟩)), (8, .int .i64 x15_8)], [⟨b2, 37, [.int .i64 x15_2_0, .slice Al0_1 l0_1.length cl0_1, .slice Al0_2 l0_2.length cl0_2, .slice Al0_3 l0_3.length cl0_3, .int .i64 x15_2_4]⟩, ⟨b5, 37, [.int .i64 x15_5_0, .slice Ax15_5_1 x15_5_1.length cx15_5_1, .slice Ax15_5_2 x15_5_2.length cx15_5_2, .slice Ax15_5_3 x15_5_3.length cx15_5_3, .int .i64 x15_5_4]⟩, ⟨b7, 37, [.int .i64 x15_7_0, .slice Ax15_7_1 x15_7_1.length cx15_7_1, .slice Ax15_7_2 x15_7_2.length cx15_7_2, .slice Ax15_7_3 x15_7_3.length cx15_7_3, .int .i64 x15_7_4]⟩], [.sl 2 k75 Ax15_6 cx15_6 x15_6 1 true, .sl 2 k62 Ax15_5_1 cx15_5_1 x15_5_1 2 true, .sl 2 k62 Ax15_5_2 cx15_5_2 x15_5_2 3 true, .sl 2 .bool Ax15_5_3 cx15_5_3 x15_5_3 4 true, .sl 2 k62 Ax15_7_1 cx15_7_1 x15_7_1 5 true, .sl 2 k62 Ax15_7_2 cx15_7_2 x15_7_2 6 true, .sl 2 .bool Ax15_7_3 cx15_7_3 x15_7_3 7 true, .sl 0 k62 Al1 cl1 l1 0 false, .sl 0 k62 Al0_1 cl0_1 l0_1 0 false, .sl 0 k62 Al0_2 cl0_2 l0_2 0 false, .sl 0 .bool Al0_3 cl0_3 l0_3 0 false]⟩) (fun S hS => ?_) (fun n0 ih0 S hS => ?_) ⟨[], A10_1, c10_1, 0, a0_0, a0_4, 0, [], none, 0, [], none, 0, [], none, 0, 0, t2_0, t2_1, At2_1, ct2_1, t2_2, At2_2, ct2_2, t2_3, At2_3, ct2_3, t2_4, H, rfl⟩ (fun h => wk [1, 2, 5, 6, 7, 8] [0, 1, 2] [⟨4, 2, 1, true⟩, ⟨8, 2, 2, true⟩, ⟨9, 2, 3, true⟩, ⟨10, 2, 4, true⟩, ⟨5, 2, 5, true⟩, ⟨6, 2, 6, true⟩, ⟨7, 2, 7, true⟩, ⟨3, 0, 0, false⟩, ⟨0, 0, 0, false⟩, ⟨1, 0, 0, false⟩, ⟨2, 0, 0, false⟩] h)
  · clear H; obtain ⟨_, _, _, _, _, _, _, _, _, _, _, _, _, _, _, _, _, _, _, _, _, _, _, _, _, _, _, _, H, _⟩ := hS; rw [spec_JoinChunk.l0] at H; cases H
  clear H
  obtain ⟨x15_6, Ax15_6, cx15_6, x15_8, x15_2_0, x15_2_4, x15_5_0, x15_5_1, Ax15_5_1, cx15_5_1, x15_5_2, Ax15_5_2, cx15_5_2, x15_5_3, Ax15_5_3, cx15_5_3, x15_5_4, x15_7_0, x15_7_1, Ax15_7_1, cx15_7_1, x15_7_2, Ax15_7_2, cx15_7_2, x15_7_3, Ax15_7_3, cx15_7_3, x15_7_4, H, rfl⟩ := hS
  rw [spec_JoinChunk.l0] at H
  refine gs (gs (rg (sv (EV.mv rfl) rfl (sv (EV.fa 1 rfl) rfl (sv (EV.ld 0 none rfl rfl rfl) rfl (sv (EV.ln rfl) rfl (sv (EV.lss rfl rfl) rfl (sv (EV.mv rfl) rfl ?_))))))))
  revert H; refine ifsI ?_ ?_ <;> intro c4 H
  ·
   refine ts 18 rfl (dT c4) (sv (EV.ld (v := .agg #[.int .i64 x15_2_0, .slice Al0_1 l0_1.length cl0_1, .slice Al0_2 l0_2.length cl0_2, .slice Al0_3 l0_3.length cl0_3, .int .i64 x15_2_4]) 0 (some 5) rfl rfl rfl) rfl ?_)
   revert H; refine bdI ?_; rintro t5 A5 H
   refine so rfl (op_call (spec_IsValidTask.ok n0 x15_2_0 l0_1 Al0_1 cl0_1 l0_2 Al0_2 cl0_2 l0_3 Al0_3 cl0_3 x15_2_4 _ A5) [⟨8, 0, 0, false⟩, ⟨9, 0, 0, false⟩, ⟨10, 0, 0, false⟩] 8 rfl rfl rfl rfl rfl ?_)
   rintro _ _ _ ⟨rfl, rfl, rfl⟩
   refine sv (EV.pt rfl rfl rfl) rfl (re (pr [1, 2, 5, 6, 7, 8, 19, 20, 21] [0, 1, 2] [0, 1, 2, 3, 4, 5, 6, 7, 8, 9, 10] rfl rfl rfl rfl ?_))
   revert H; refine ifsI ?_ ?_ <;> intro c6 H
   ·
    subst c6
    refine gt rfl rfl (gk (gs (gb (gs (rg (sv (EV.fa 1 rfl) rfl (sv (EV.ld 0 none rfl rfl rfl) rfl (sv (EV.mv rfl) rfl ?_))))))))
    revert H; refine ggI ?_; intro g7 H
    refine sv (EV.ix 8 rfl rfl rfl g7 c4 rfl) rfl (sv (EV.le (v := .agg #[.int .i64 ((rd_T62 l0_1 x15_8).f0), .int .i64 ((rd_T62 l0_1 x15_8).f1), .int .i64 ((rd_T62 l0_1 x15_8).f2)]) x15_8 0 (some 3) 8 z62 rfl rfl rfl g7 c4 rfl rfl rfl) rfl (sv (EV.mv rfl) rfl ?_))
    revert H; refine bdI ?_; rintro t8 A8 H
    refine so rfl (op_call (spec_CountMatches.ok n0 ((rd_T62 l0_1 x15_8).f0) ((rd_T62 l0_1 x15_8).f1) ((rd_T62 l0_1 x15_8).f2) l1 Al1 cl1 _ A8) [⟨7, 0, 0, false⟩] 8 rfl rfl rfl rfl rfl ?_)
    rintro _ _ _ ⟨rfl, rfl, rfl⟩
    refine sv (EV.as rfl) rfl (re (pr [1, 2, 5, 6, 7, 8, 9, 19, 20] [0, 1, 2] [0, 1, 2, 3, 4, 5, 6, 7, 8, 9, 10] rfl rfl rfl rfl (gs (gs (rg (sv (EV.mv rfl) rfl (sv (EV.eql rfl rfl) rfl (re ?_))))))))
    revert H; refine ifsI ?_ ?_ <;> intro c9 H
    ·
     exact gt rfl (dT c9) (gx rfl (rg (sv (EV.mv rfl) rfl (sv (EV.add rfl rfl) rfl (sv (EV.as rfl) rfl (re (wk [1, 2, 5, 6, 7, 8] [0, 1, 2] [⟨0, 2, 1, true⟩, ⟨1, 2, 2, true⟩, ⟨2, 2, 3, true⟩, ⟨3, 2, 4, true⟩, ⟨4, 2, 5, true⟩, ⟨5, 2, 6, true⟩, ⟨6, 2, 7, true⟩, ⟨7, 0, 0, false⟩, ⟨8, 0, 0, false⟩, ⟨9, 0, 0, false⟩, ⟨10, 0, 0, false⟩] (ih0 _ (by omega) _ ⟨x15_6, Ax15_6, cx15_6, wrap64 (x15_8 + 1), x15_2_0, x15_2_4, x15_5_0, x15_5_1, Ax15_5_1, cx15_5_1, x15_5_2, Ax15_5_2, cx15_5_2, x15_5_3, Ax15_5_3, cx15_5_3, x15_5_4, x15_7_0, x15_7_1, Ax15_7_1, cx15_7_1, x15_7_2, Ax15_7_2, cx15_7_2, x15_7_3, Ax15_7_3, cx15_7_3, x15_7_4, H, rfl⟩))))))))
    ·
     refine gf rfl (dF c9) (gk ?_)
     refine jo (fun S => ∃ (m : Nat) (x26_6 : List S75) (Ax26_6 : Option Addr) (cx26_6 : Nat) (x26_8 : Int) (x26_19_0 : Int) (x26_19_4 : Int) (x26_20 : Bool) (x26_2_0 : Int) (x26_2_4 : Int) (x26_5_0 : Int) (x26_5_1 : List S62) (Ax26_5_1 : Option Addr) (cx26_5_1 : Nat) (x26_5_2 : List S62) (Ax26_5_2 : Option Addr) (cx26_5_2 : Nat) (x26_5_3 : List Bool) (Ax26_5_3 : Option Addr) (cx26_5_3 : Nat) (x26_5_4 : Int) (x26_7_0 : Int) (x26_7_1 : List S62) (Ax26_7_1 : Option Addr) (cx26_7_1 : Nat) (x26_7_2 : List S62) (Ax26_7_2 : Option Addr) (cx26_7_2 : Nat) (x26_7_3 : List Bool) (Ax26_7_3 : Option Addr) (cx26_7_3 : Nat) (x26_7_4 : Int), m ≤ n0 ∧ spec_JoinChunk.j1 m x26_6 x26_8 x26_19_0 x26_19_4 x26_20 x26_2_0 x26_2_4 x26_5_0 x26_5_1 x26_5_2 x26_5_3 x26_5_4 x26_7_0 x26_7_1 x26_7_2 x26_7_3 x26_7_4 l1 l0_1 l0_2 l0_3 = some (r0, r1, r2, r3, r4, r5) ∧ S = ⟨[(1, .slice Al1 l1.length cl1), (2, .pointer (some ⟨b2, 0, none⟩)), (5, .pointer (some ⟨b5, 0, none⟩)), (6, .slice Ax26_6 x26_6.length cx26_6), (7, .pointer (some ⟨b7, 0, none⟩)), (8, .int .i64 x26_8), (19, .agg #[.int .i64 x26_19_0, .slice Al0_1 l0_1.length cl0_1, .slice Al0_2 l0_2.length cl0_2, .slice Al0_3 l0_3.length cl0_3, .int .i64 x26_19_4]), (20, .bool x26_20)], [⟨b2, 37, [.int .i64 x26_2_0, .slice Al0_1 l0_1.length cl0_1, .slice Al0_2 l0_2.length cl0_2, .slice Al0_3 l0_3.length cl0_3, .int .i64 x26_2_4]⟩, ⟨b5, 37, [.int .i64 x26_5_0, .slice Ax26_5_1 x26_5_1.length cx26_5_1, .slice Ax26_5_2 x26_5_2.length cx26_5_2, .slice Ax26_5_3 x26_5_3.length cx26_5_3, .int .i64 x26_5_4]⟩, ⟨b7, 37, [.int .i64 x26_7_0, .slice Ax26_7_1 x26_7_1.length cx26_7_1, .slice Ax26_7_2 x26_7_2.length cx26_7_2, .slice Ax26_7_3 x26_7_3.length cx26_7_3, .int .i64 x26_7_4]⟩], [.sl 2 k75 Ax26_6 cx26_6 x26_6 1 true, .sl 2 k62 Ax26_5_1 cx26_5_1 x26_5_1 2 true, .sl 2 k62 Ax26_5_2 cx26_5_2 x26_5_2 3 true, .sl 2 .bool Ax26_5_3 cx26_5_3 x26_5_3 4 true, .sl 2 k62 Ax26_7_1 cx26_7_1 x26_7_1 5 true, .sl 2 k62 Ax26_7_2 cx26_7_2 x26_7_2 6 true, .sl 2 .bool Ax26_7_3 cx26_7_3 x26_7_3 7 true, .sl 0 k62 Al1 cl1 l1 0 false, .sl 0 k62 Al0_1 cl0_1 l0_1 0 false, .sl 0 k62 Al0_2 cl0_2 l0_2 0 false, .sl 0 .bool Al0_3 cl0_3 l0_3 0 false]⟩) (fun S hS => ?_) (fun jh1 => ?_)
     ·
      clear H
      obtain ⟨m10, x26_6, Ax26_6, cx26_6, x26_8, x26_19_0, x26_19_4, x26_20, x26_2_0, x26_2_4, x26_5_0, x26_5_1, Ax26_5_1, cx26_5_1, x26_5_2, Ax26_5_2, cx26_5_2, x26_5_3, Ax26_5_3, cx26_5_3, x26_5_4, x26_7_0, x26_7_1, Ax26_7_1, cx26_7_1, x26_7_2, Ax26_7_2, cx26_7_2, x26_7_3, Ax26_7_3, cx26_7_3, x26_7_4, lm10, H, rfl⟩ := hS
      rcases m10 with _ | m10
      · rw [spec_JoinChunk.j1] at H; cases H
      rw [spec_JoinChunk.j1] at H
      refine rg (sv (EV.fa 3 rfl) rfl (sv (EV.ld 2 none rfl rfl rfl) rfl (sv (EV.mv rfl) rfl ?_)))
      revert H; refine ggI ?_; intro g11 H
      revert H; refine ggI ?_; intro g12 H
      exact sv (EV.ix 6 rfl rfl rfl g11 g12 rfl) rfl (so rfl (op_stf x26_8 0 6 false true rfl rfl rfl rfl g11 g12 rfl rfl rfl rfl dq rfl (rlT 65 (v' := .slice Ax26_7_3 (x26_7_3.set x26_8.toNat true).length cx26_7_3) rfl (sle _ _ _ _ _) (rlB 2 (cs' := [.int .i64 x26_7_0, .slice Ax26_7_1 x26_7_1.length cx26_7_1, .slice Ax26_7_2 x26_7_2.length cx26_7_2, .slice Ax26_7_3 (x26_7_3.set x26_8.toNat true).length cx26_7_3, .int .i64 x26_7_4]) rfl (by simp only [List.length_set]) (nmE (en := [.sl 2 k75 Ax26_6 cx26_6 x26_6 1 true, .sl 2 k62 Ax26_5_1 cx26_5_1 x26_5_1 2 true, .sl 2 k62 Ax26_5_2 cx26_5_2 x26_5_2 3 true, .sl 2 .bool Ax26_5_3 cx26_5_3 x26_5_3 4 true, .sl 2 k62 Ax26_7_1 cx26_7_1 x26_7_1 5 true, .sl 2 k62 Ax26_7_2 cx26_7_2 x26_7_2 6 true, .sl 0 k62 Al1 cl1 l1 0 false, .sl 0 k62 Al0_1 cl0_1 l0_1 0 false, .sl 0 k62 Al0_2 cl0_2 l0_2 0 false, .sl 0 .bool Al0_3 cl0_3 l0_3 0 false, .sl 2 .bool Ax26_7_3 cx26_7_3 (x26_7_3.set x26_8.toNat true) 7 true]) (by kernel_rfl) (re (ge (rg (sv (EV.mv rfl) rfl (sv (EV.add rfl rfl) rfl (sv (EV.as rfl) rfl (re (wk [1, 2, 5, 6, 7, 8] [0, 1, 2] [⟨0, 2, 1, true⟩, ⟨1, 2, 2, true⟩, ⟨2, 2, 3, true⟩, ⟨3, 2, 4, true⟩, ⟨4, 2, 5, true⟩, ⟨5, 2, 6, true⟩, ⟨10, 2, 7, true⟩, ⟨6, 0, 0, false⟩, ⟨7, 0, 0, false⟩, ⟨8, 0, 0, false⟩, ⟨9, 0, 0, false⟩] (ih0 _ (by omega) _ ⟨x26_6, Ax26_6, cx26_6, wrap64 (x26_8 + 1), x26_2_0, x26_2_4, x26_5_0, x26_5_1, Ax26_5_1, cx26_5_1, x26_5_2, Ax26_5_2, cx26_5_2, x26_5_3, Ax26_5_3, cx26_5_3, x26_5_4, x26_7_0, x26_7_1, Ax26_7_1, cx26_7_1, x26_7_2, Ax26_7_2, cx26_7_2, x26_7_3.set x26_8.toNat true, Ax26_7_3, cx26_7_3, x26_7_4, H, rfl⟩))))))))))))))
     ·
      refine gs (rg (sv (EV.fa 0 rfl) rfl (sv (EV.ld 0 none rfl rfl rfl) rfl (re (gb (gs (rg (sv (EV.eql rfl rfl) rfl (sv (EV.as rfl) rfl (re ?_))))))))))
      revert H; refine ifsI ?_ ?_ <;> intro c13 H
      ·
       refine gt rfl (dT c13) (gs (rg (sv (EV.fa 3 rfl) rfl (sv (EV.ld 0 none rfl rfl rfl) rfl (sv (EV.mv rfl) rfl ?_)))))
       revert H; refine ggI ?_; intro g14 H
       refine sv (EV.ix 10 rfl rfl rfl g7 g14 rfl) rfl (sv (EV.le (v := .bool (rdOf false l0_3 x15_8)) x15_8 0 none 10 false rfl rfl rfl g7 g14 rfl rfl rfl) rfl (sv (EV.nt rfl) rfl (re (pr [1, 2, 5, 6, 7, 8, 19, 20, 42] [0, 1, 2] [0, 1, 2, 3, 4, 5, 6, 7, 8, 9, 10] rfl rfl rfl rfl ?_))))
       revert H; refine ifsI ?_ ?_ <;> intro c15 H
       ·
        exact gf rfl (bN c15) (gk (ge (wk [1, 2, 5, 6, 7, 8, 19, 20] [0, 1, 2] [⟨0, 2, 1, true⟩, ⟨1, 2, 2, true⟩, ⟨2, 2, 3, true⟩, ⟨3, 2, 4, true⟩, ⟨4, 2, 5, true⟩, ⟨5, 2, 6, true⟩, ⟨6, 2, 7, true⟩, ⟨7, 0, 0, false⟩, ⟨8, 0, 0, false⟩, ⟨9, 0, 0, false⟩, ⟨10, 0, 0, false⟩] (jh1 _ ⟨_, x15_6, Ax15_6, cx15_6, x15_8, x15_2_0, x15_2_4, true, x15_2_0, x15_2_4, x15_5_0, x15_5_1, Ax15_5_1, cx15_5_1, x15_5_2, Ax15_5_2, cx15_5_2, x15_5_3, Ax15_5_3, cx15_5_3, x15_5_4, x15_7_0, x15_7_1, Ax15_7_1, cx15_7_1, x15_7_2, Ax15_7_2, cx15_7_2, x15_7_3, Ax15_7_3, cx15_7_3, x15_7_4, by omega, H, rfl⟩))))
       ·
        refine gt rfl (bM c15) (rg (sv (EV.mv rfl) rfl (sv (EV.fa 1 rfl) rfl (sv (EV.ld 0 none rfl rfl rfl) rfl (sv (EV.mv rfl) rfl (sv (EV.ix 8 rfl rfl rfl g7 c4 rfl) rfl (sv (EV.le (v := .agg #[.int .i64 ((rd_T62 l0_1 x15_8).f0), .int .i64 ((rd_T62 l0_1 x15_8).f1), .int .i64 ((rd_T62 l0_1 x15_8).f2)]) x15_8 0 (some 3) 8 z62 rfl rfl rfl g7 c4 rfl rfl rfl) rfl (sv (EV.bd (v := .agg #[.int .i64 ((rd_T62 l0_1 x15_8).f0), .int .i64 ((rd_T62 l0_1 x15_8).f1), .int .i64 ((rd_T62 l0_1 x15_8).f2), .int .i64 0, .int .i64 0, .int .i64 0, .bool false]) rfl (by kernel_rfl)) rfl (so rfl (op_lit (s := 7) (by_ := 56) k75 ([(⟨(⟨(rd_T62 l0_1 x15_8).f0, (rd_T62 l0_1 x15_8).f1, (rd_T62 l0_1 x15_8).f2⟩ : S62), (⟨0, 0, 0⟩ : S62), false⟩ : S75)] : List S75) [[]] [] 8 [.tmp 49] rfl rfl rfl rfl rfl rfl rfl rfl rfl rfl rfl rfl rfl dq rfl fun A50_16 c50_16 => ?_))))))))))
        revert H; refine ggI ?_; intro g17 H
        exact so rfl (op_app (k := k75) (s := 7) (by_ := 56) 0 11 rfl rfl rfl rfl (ap1 g17 dq) (ap1n g17 dq) (.inl rfl) true (fun _ => .inl rfl) rfl rfl fun A51_18 c51_18 => (nmE (en := [.sl 2 k62 Ax15_5_1 cx15_5_1 x15_5_1 2 true, .sl 2 k62 Ax15_5_2 cx15_5_2 x15_5_2 3 true, .sl 2 .bool Ax15_5_3 cx15_5_3 x15_5_3 4 true, .sl 2 k62 Ax15_7_1 cx15_7_1 x15_7_1 5 true, .sl 2 k62 Ax15_7_2 cx15_7_2 x15_7_2 6 true, .sl 2 .bool Ax15_7_3 cx15_7_3 x15_7_3 7 true, .sl 0 k62 Al1 cl1 l1 0 false, .sl 0 k62 Al0_1 cl0_1 l0_1 0 false, .sl 0 k62 Al0_2 cl0_2 l0_2 0 false, .sl 0 .bool Al0_3 cl0_3 l0_3 0 false, .sl 2 k75 A50_16 c50_16 ([(⟨(⟨(rd_T62 l0_1 x15_8).f0, (rd_T62 l0_1 x15_8).f1, (rd_T62 l0_1 x15_8).f2⟩ : S62), (⟨0, 0, 0⟩ : S62), false⟩ : S75)] : List S75) 8 true, .sl 2 k75 A51_18 c51_18 (x15_6 ++ ([(⟨(⟨(rd_T62 l0_1 x15_8).f0, (rd_T62 l0_1 x15_8).f1, (rd_T62 l0_1 x15_8).f2⟩ : S62), (⟨0, 0, 0⟩ : S62), false⟩ : S75)] : List S75)) 1 true]) (by kernel_rfl) (sv (EV.as rfl) rfl (re (pr [1, 2, 5, 6, 7, 8, 19, 20] [0, 1, 2] [0, 1, 2, 3, 4, 5, 6, 7, 8, 9, 11] rfl rfl rfl rfl (ge (wk [1, 2, 5, 6, 7, 8, 19, 20] [0, 1, 2] [⟨10, 2, 1, true⟩, ⟨0, 2, 2, true⟩, ⟨1, 2, 3, true⟩, ⟨2, 2, 4, true⟩, ⟨3, 2, 5, true⟩, ⟨4, 2, 6, true⟩, ⟨5, 2, 7, true⟩, ⟨6, 0, 0, false⟩, ⟨7, 0, 0, false⟩, ⟨8, 0, 0, false⟩, ⟨9, 0, 0, false⟩] (jh1 _ ⟨_, x15_6 ++ ([(⟨(⟨(rd_T62 l0_1 x15_8).f0, (rd_T62 l0_1 x15_8).f1, (rd_T62 l0_1 x15_8).f2⟩ : S62), (⟨0, 0, 0⟩ : S62), false⟩ : S75)] : List S75), A51_18, c51_18, x15_8, x15_2_0, x15_2_4, true, x15_2_0, x15_2_4, x15_5_0, x15_5_1, Ax15_5_1, cx15_5_1, x15_5_2, Ax15_5_2, cx15_5_2, x15_5_3, Ax15_5_3, cx15_5_3, x15_5_4, x15_7_0, x15_7_1, Ax15_7_1, cx15_7_1, x15_7_2, Ax15_7_2, cx15_7_2, x15_7_3, Ax15_7_3, cx15_7_3, x15_7_4, by omega, H, rfl⟩))))))))
      ·
       refine gf rfl (dF c13) ?_
       refine jo (fun S => ∃ (m : Nat) (x27_6 : List S75) (Ax27_6 : Option Addr) (cx27_6 : Nat) (x27_8 : Int) (x27_19_0 : Int) (x27_19_4 : Int) (x27_20 : Bool) (x27_52 : Bool) (x27_2_0 : Int) (x27_2_4 : Int) (x27_5_0 : Int) (x27_5_1 : List S62) (Ax27_5_1 : Option Addr) (cx27_5_1 : Nat) (x27_5_2 : List S62) (Ax27_5_2 : Option Addr) (cx27_5_2 : Nat) (x27_5_3 : List Bool) (Ax27_5_3 : Option Addr) (cx27_5_3 : Nat) (x27_5_4 : Int) (x27_7_0 : Int) (x27_7_1 : List S62) (Ax27_7_1 : Option Addr) (cx27_7_1 : Nat) (x27_7_2 : List S62) (Ax27_7_2 : Option Addr) (cx27_7_2 : Nat) (x27_7_3 : List Bool) (Ax27_7_3 : Option Addr) (cx27_7_3 : Nat) (x27_7_4 : Int), m ≤ n0 ∧ spec_JoinChunk.j2 m x27_6 x27_8 x27_19_0 x27_19_4 x27_20 x27_52 x27_2_0 x27_2_4 x27_5_0 x27_5_1 x27_5_2 x27_5_3 x27_5_4 x27_7_0 x27_7_1 x27_7_2 x27_7_3 x27_7_4 l1 l0_1 l0_2 l0_3 = some (r0, r1, r2, r3, r4, r5) ∧ S = ⟨[(1, .slice Al1 l1.length cl1), (2, .pointer (some ⟨b2, 0, none⟩)), (5, .pointer (some ⟨b5, 0, none⟩)), (6, .slice Ax27_6 x27_6.length cx27_6), (7, .pointer (some ⟨b7, 0, none⟩)), (8, .int .i64 x27_8), (19, .agg #[.int .i64 x27_19_0, .slice Al0_1 l0_1.length cl0_1, .slice Al0_2 l0_2.length cl0_2, .slice Al0_3 l0_3.length cl0_3, .int .i64 x27_19_4]), (20, .bool x27_20), (52, .bool x27_52)], [⟨b2, 37, [.int .i64 x27_2_0, .slice Al0_1 l0_1.length cl0_1, .slice Al0_2 l0_2.length cl0_2, .slice Al0_3 l0_3.length cl0_3, .int .i64 x27_2_4]⟩, ⟨b5, 37, [.int .i64 x27_5_0, .slice Ax27_5_1 x27_5_1.length cx27_5_1, .slice Ax27_5_2 x27_5_2.length cx27_5_2, .slice Ax27_5_3 x27_5_3.length cx27_5_3, .int .i64 x27_5_4]⟩, ⟨b7, 37, [.int .i64 x27_7_0, .slice Ax27_7_1 x27_7_1.length cx27_7_1, .slice Ax27_7_2 x27_7_2.length cx27_7_2, .slice Ax27_7_3 x27_7_3.length cx27_7_3, .int .i64 x27_7_4]⟩], [.sl 2 k75 Ax27_6 cx27_6 x27_6 1 true, .sl 2 k62 Ax27_5_1 cx27_5_1 x27_5_1 2 true, .sl 2 k62 Ax27_5_2 cx27_5_2 x27_5_2 3 true, .sl 2 .bool Ax27_5_3 cx27_5_3 x27_5_3 4 true, .sl 2 k62 Ax27_7_1 cx27_7_1 x27_7_1 5 true, .sl 2 k62 Ax27_7_2 cx27_7_2 x27_7_2 6 true, .sl 2 .bool Ax27_7_3 cx27_7_3 x27_7_3 7 true, .sl 0 k62 Al1 cl1 l1 0 false, .sl 0 k62 Al0_1 cl0_1 l0_1 0 false, .sl 0 k62 Al0_2 cl0_2 l0_2 0 false, .sl 0 .bool Al0_3 cl0_3 l0_3 0 false]⟩) (fun S hS => ?_) (fun jh2 => ?_)
       ·
        clear H
        obtain ⟨m19, x27_6, Ax27_6, cx27_6, x27_8, x27_19_0, x27_19_4, x27_20, x27_52, x27_2_0, x27_2_4, x27_5_0, x27_5_1, Ax27_5_1, cx27_5_1, x27_5_2, Ax27_5_2, cx27_5_2, x27_5_3, Ax27_5_3, cx27_5_3, x27_5_4, x27_7_0, x27_7_1, Ax27_7_1, cx27_7_1, x27_7_2, Ax27_7_2, cx27_7_2, x27_7_3, Ax27_7_3, cx27_7_3, x27_7_4, lm19, H, rfl⟩ := hS
        rcases m19 with _ | m19
        · rw [spec_JoinChunk.j2] at H; cases H
        rw [spec_JoinChunk.j2] at H
        revert H; refine ifsI ?_ ?_ <;> intro c20 H
        ·
         subst c20
         refine gt rfl rfl (rg (sv (EV.mv rfl) rfl (sv (EV.fa 1 rfl) rfl (sv (EV.ld 0 none rfl rfl rfl) rfl (sv (EV.mv rfl) rfl ?_)))))
         revert H; refine ggI ?_; intro g21 H
         revert H; refine ggI ?_; intro g22 H
         refine sv (EV.ix 8 rfl rfl rfl g21 g22 rfl) rfl (sv (EV.le (v := .agg #[.int .i64 ((rd_T62 l0_1 x27_8).f0), .int .i64 ((rd_T62 l0_1 x27_8).f1), .int .i64 ((rd_T62 l0_1 x27_8).f2)]) x27_8 0 (some 3) 8 z62 rfl rfl rfl g21 g22 rfl rfl rfl) rfl (sv (EV.mv rfl) rfl ?_))
         revert H; refine bdI ?_; rintro t23 A23 H
         refine so rfl (op_call (spec_l7One.ok m19 1 ((rd_T62 l0_1 x27_8).f0) ((rd_T62 l0_1 x27_8).f1) ((rd_T62 l0_1 x27_8).f2) l1 Al1 cl1 _ A23) [⟨7, 0, 0, false⟩] 8 rfl rfl rfl rfl rfl ?_)
         rintro _ _ _ ⟨At23, ct23, rfl, rfl, rfl⟩
         revert H; refine ggI ?_; intro g24 H
         exact so rfl (op_app (k := k75) (s := 7) (by_ := 56) 0 11 rfl rfl rfl rfl (ap2 g24 dq) (ap2n g24 dq) (.inl rfl) true (fun _ => .inl rfl) rfl rfl fun A63_25 c63_25 => (nmE (en := [.sl 2 k62 Ax27_5_1 cx27_5_1 x27_5_1 2 true, .sl 2 k62 Ax27_5_2 cx27_5_2 x27_5_2 3 true, .sl 2 .bool Ax27_5_3 cx27_5_3 x27_5_3 4 true, .sl 2 k62 Ax27_7_1 cx27_7_1 x27_7_1 5 true, .sl 2 k62 Ax27_7_2 cx27_7_2 x27_7_2 6 true, .sl 2 .bool Ax27_7_3 cx27_7_3 x27_7_3 7 true, .sl 0 k62 Al1 cl1 l1 0 false, .sl 0 k62 Al0_1 cl0_1 l0_1 0 false, .sl 0 k62 Al0_2 cl0_2 l0_2 0 false, .sl 0 .bool Al0_3 cl0_3 l0_3 0 false, .sl 2 k75 At23 ct23 t23 9 true, .sl 2 k75 A63_25 c63_25 (x27_6 ++ t23) 1 true]) (by kernel_rfl) (sv (EV.as rfl) rfl (re (pr [1, 2, 5, 6, 7, 8, 19, 20] [0, 1, 2] [0, 1, 2, 3, 4, 5, 6, 7, 8, 9, 11] rfl rfl rfl rfl (ge (wk [1, 2, 5, 6, 7, 8, 19, 20] [0, 1, 2] [⟨10, 2, 1, true⟩, ⟨0, 2, 2, true⟩, ⟨1, 2, 3, true⟩, ⟨2, 2, 4, true⟩, ⟨3, 2, 5, true⟩, ⟨4, 2, 6, true⟩, ⟨5, 2, 7, true⟩, ⟨6, 0, 0, false⟩, ⟨7, 0, 0, false⟩, ⟨8, 0, 0, false⟩, ⟨9, 0, 0, false⟩] (jh1 _ ⟨_, x27_6 ++ t23, A63_25, c63_25, x27_8, x27_19_0, x27_19_4, x27_20, x27_2_0, x27_2_4, x27_5_0, x27_5_1, Ax27_5_1, cx27_5_1, x27_5_2, Ax27_5_2, cx27_5_2, x27_5_3, Ax27_5_3, cx27_5_3, x27_5_4, x27_7_0, x27_7_1, Ax27_7_1, cx27_7_1, x27_7_2, Ax27_7_2, cx27_7_2, x27_7_3, Ax27_7_3, cx27_7_3, x27_7_4, by omega, H, rfl⟩))))))))
        ·
         obtain rfl := bF c20
         exact gf rfl rfl (gk (ge (wk [1, 2, 5, 6, 7, 8, 19, 20] [0, 1, 2] [⟨0, 2, 1, true⟩, ⟨1, 2, 2, true⟩, ⟨2, 2, 3, true⟩, ⟨3, 2, 4, true⟩, ⟨4, 2, 5, true⟩, ⟨5, 2, 6, true⟩, ⟨6, 2, 7, true⟩, ⟨7, 0, 0, false⟩, ⟨8, 0, 0, false⟩, ⟨9, 0, 0, false⟩, ⟨10, 0, 0, false⟩] (jh1 _ ⟨_, x27_6, Ax27_6, cx27_6, x27_8, x27_19_0, x27_19_4, x27_20, x27_2_0, x27_2_4, x27_5_0, x27_5_1, Ax27_5_1, cx27_5_1, x27_5_2, Ax27_5_2, cx27_5_2, x27_5_3, Ax27_5_3, cx27_5_3, x27_5_4, x27_7_0, x27_7_1, Ax27_7_1, cx27_7_1, x27_7_2, Ax27_7_2, cx27_7_2, x27_7_3, Ax27_7_3, cx27_7_3, x27_7_4, by omega, H, rfl⟩))))
       ·
        refine gs (rg (sv (EV.eql rfl rfl) rfl (sv (EV.as rfl) rfl (re (pr [1, 2, 5, 6, 7, 8, 19, 20, 34, 52] [0, 1, 2] [0, 1, 2, 3, 4, 5, 6, 7, 8, 9, 10] rfl rfl rfl rfl ?_)))))
        revert H; refine ifsI ?_ ?_ <;> intro c26 H
        ·
         exact gt rfl (dT c26) (gk (wk [1, 2, 5, 6, 7, 8, 19, 20, 52] [0, 1, 2] [⟨0, 2, 1, true⟩, ⟨1, 2, 2, true⟩, ⟨2, 2, 3, true⟩, ⟨3, 2, 4, true⟩, ⟨4, 2, 5, true⟩, ⟨5, 2, 6, true⟩, ⟨6, 2, 7, true⟩, ⟨7, 0, 0, false⟩, ⟨8, 0, 0, false⟩, ⟨9, 0, 0, false⟩, ⟨10, 0, 0, false⟩] (jh2 _ ⟨_, x15_6, Ax15_6, cx15_6, x15_8, x15_2_0, x15_2_4, true, decide (x15_2_0 = 1), x15_2_0, x15_2_4, x15_5_0, x15_5_1, Ax15_5_1, cx15_5_1, x15_5_2, Ax15_5_2, cx15_5_2, x15_5_3, Ax15_5_3, cx15_5_3, x15_5_4, x15_7_0, x15_7_1, Ax15_7_1, cx15_7_1, x15_7_2, Ax15_7_2, cx15_7_2, x15_7_3, Ax15_7_3, cx15_7_3, x15_7_4, by omega, H, rfl⟩)))
        ·
         exact gf rfl (dF c26) (rg (sv (EV.eql rfl rfl) rfl (sv (EV.as rfl) rfl (re (wk [1, 2, 5, 6, 7, 8, 19, 20, 52] [0, 1, 2] [⟨0, 2, 1, true⟩, ⟨1, 2, 2, true⟩, ⟨2, 2, 3, true⟩, ⟨3, 2, 4, true⟩, ⟨4, 2, 5, true⟩, ⟨5, 2, 6, true⟩, ⟨6, 2, 7, true⟩, ⟨7, 0, 0, false⟩, ⟨8, 0, 0, false⟩, ⟨9, 0, 0, false⟩, ⟨10, 0, 0, false⟩] (jh2 _ ⟨_, x15_6, Ax15_6, cx15_6, x15_8, x15_2_0, x15_2_4, true, decide (x15_2_0 = 4), x15_2_0, x15_2_4, x15_5_0, x15_5_1, Ax15_5_1, cx15_5_1, x15_5_2, Ax15_5_2, cx15_5_2, x15_5_3, Ax15_5_3, cx15_5_3, x15_5_4, x15_7_0, x15_7_1, Ax15_7_1, cx15_7_1, x15_7_2, Ax15_7_2, cx15_7_2, x15_7_3, Ax15_7_3, cx15_7_3, x15_7_4, by omega, H, rfl⟩))))))
   ·
    obtain rfl := bF c6
    exact gf rfl rfl (gx rfl (wk [5, 6, 7] [1, 2] [⟨0, 2, 1, true⟩, ⟨1, 2, 2, true⟩, ⟨2, 2, 3, true⟩, ⟨3, 2, 4, true⟩, ⟨4, 2, 5, true⟩, ⟨5, 2, 6, true⟩, ⟨6, 2, 7, true⟩] (jh0 _ ⟨_, x15_6, Ax15_6, cx15_6, x15_5_0, x15_5_1, Ax15_5_1, cx15_5_1, x15_5_2, Ax15_5_2, cx15_5_2, x15_5_3, Ax15_5_3, cx15_5_3, x15_5_4, x15_7_0, x15_7_1, Ax15_7_1, cx15_7_1, x15_7_2, Ax15_7_2, cx15_7_2, x15_7_3, Ax15_7_3, cx15_7_3, x15_7_4, H, rfl⟩)))
  ·
   exact ts 18 rfl (dF c4) (sk rfl (sk rfl (sv (EV.pf rfl rfl rfl) rfl (re (pr [1, 2, 5, 6, 7, 8, 21] [0, 1, 2] [0, 1, 2, 3, 4, 5, 6, 7, 8, 9, 10] rfl rfl rfl rfl (gf rfl rfl (gx rfl (wk [5, 6, 7] [1, 2] [⟨0, 2, 1, true⟩, ⟨1, 2, 2, true⟩, ⟨2, 2, 3, true⟩, ⟨3, 2, 4, true⟩, ⟨4, 2, 5, true⟩, ⟨5, 2, 6, true⟩, ⟨6, 2, 7, true⟩] (jh0 _ ⟨_, x15_6, Ax15_6, cx15_6, x15_5_0, x15_5_1, Ax15_5_1, cx15_5_1, x15_5_2, Ax15_5_2, cx15_5_2, x15_5_3, Ax15_5_3, cx15_5_3, x15_5_4, x15_7_0, x15_7_1, Ax15_7_1, cx15_7_1, x15_7_2, Ax15_7_2, cx15_7_2, x15_7_3, Ax15_7_3, cx15_7_3, x15_7_4, H, rfl⟩)))))))))
end Go.Proofs.Ythciieopabndcaa.K
namespace Go.Proofs.Ythciieopabndcaa.K
open Go Go.RowKit
set_option linter.unusedVariables false
set_option linter.unusedSimpArgs false
def impl_within.f (a0 : Int) (a1 : Int) (a2 : Int) : Option (Bool) := if a0 ≥ a1 then (some (decide (a0 ≤ a2))) else (some false)
set_option maxHeartbeats 4000000 in
set_option maxRecDepth 100000 in
theorem impl_within.ok (a0 : Int) (a1 : Int) (a2 : Int) (r0 : Bool) (H : impl_within.f a0 a1 a2 = some r0) : Fn Try.prog 67 [.int .i64 a0, .int .i64 a1, .int .i64 a2] [] [] (fun v bx en => v = .bool r0 ∧ bx = [] ∧ en = []) := by
 refine fn_ 15 Try.func67 rfl rfl rfl (fun base T w0 => ?_)
 rw [impl_within.f] at H
 refine gs (rg (sv (EV.as rfl) rfl (re (gs (rg (sv (EV.mv rfl) rfl (sv (EV.mv rfl) rfl (sv (EV.geq rfl rfl) rfl (sv (EV.mv rfl) rfl ?_)))))))))
 revert H; refine ifsI ?_ ?_ <;> intro c1 H
 ·
  refine ts 10 rfl (dT c1) (sv (EV.mv rfl) rfl (sv (EV.mv rfl) rfl (sv (EV.leq rfl rfl) rfl (sv (EV.pt rfl rfl rfl) rfl (sv (EV.as rfl) rfl (re (pr [6] [] [] rfl rfl rfl rfl ?_)))))))
  cases H
  exact rt Try.func67 rfl (.tmp rfl .nil) rfl [] [] rfl rfl rfl rfl rfl ⟨rfl, rfl, rfl⟩
 ·
  refine ts 10 rfl (dF c1) (sk rfl (sk rfl (sk rfl (sv (EV.pf rfl rfl rfl) rfl (sv (EV.as rfl) rfl (re (pr [6] [] [] rfl rfl rfl rfl ?_)))))))
  cases H
  exact rt Try.func67 rfl (.tmp rfl .nil) rfl [] [] rfl rfl rfl rfl rfl ⟨rfl, rfl, rfl⟩
end Go.Proofs.Ythciieopabndcaa.K
namespace Go.Proofs.Ythciieopabndcaa.K
open Go Go.RowKit
set_option linter.unusedVariables false
set_option linter.unusedSimpArgs false
def impl_IsValidJoinKind.f (a0 : Int) : Option (Bool) := (impl_within.f a0 1 4).bind fun t1 => (some t1)
set_option maxHeartbeats 4000000 in
set_option maxRecDepth 100000 in
theorem impl_IsValidJoinKind.ok (a0 : Int) (r0 : Bool) (H : impl_IsValidJoinKind.f a0 = some r0) : Fn Try.prog 65 [.int .i64 a0] [] [] (fun v bx en => v = .bool r0 ∧ bx = [] ∧ en = []) := by
 refine fn_ 5 Try.func65 rfl rfl rfl (fun base T w0 => ?_)
 rw [impl_IsValidJoinKind.f] at H
 refine gs (rg (sv (EV.as rfl) rfl (re (gs (rg (sv (EV.mv rfl) rfl ?_))))))
 revert H; refine bdI ?_; rintro t1 A1 H
 refine so rfl (op_call (impl_within.ok a0 1 4 _ A1) [] 1 rfl rfl rfl rfl rfl ?_)
 rintro _ _ _ ⟨rfl, rfl, rfl⟩
 refine sv (EV.as rfl) rfl (re ?_)
 cases H
 exact rt Try.func65 rfl (.tmp rfl .nil) rfl [] [] rfl rfl rfl rfl rfl ⟨rfl, rfl, rfl⟩
end Go.Proofs.Ythciieopabndcaa.K
namespace Go.Proofs.Ythciieopabndcaa.K
open Go Go.RowKit
set_option linter.unusedVariables false
set_option linter.unusedSimpArgs false
def impl_IsValidRow.f (a0_0 : Int) (a0_1 : Int) (a0_2 : Int) : Option (Bool) := (impl_within.f a0_0 0 9).bind fun t1 => (if t1 = true then ((impl_within.f a0_1 0 99).bind fun t3 => (if t3 = true then ((impl_within.f a0_2 0 3).bind fun t5 => (some t5)) else (some false))) else (some false))
set_option maxHeartbeats 4000000 in
set_option maxRecDepth 100000 in
theorem impl_IsValidRow.ok (a0_0 : Int) (a0_1 : Int) (a0_2 : Int) (r0 : Bool) (H : impl_IsValidRow.f a0_0 a0_1 a0_2 = some r0) : Fn Try.prog 88 [.agg #[.int .i64 a0_0, .int .i64 a0_1, .int .i64 a0_2]] [] [] (fun v bx en => v = .bool r0 ∧ bx = [] ∧ en = []) := by
 refine fn_ 16 Try.func88 rfl rfl rfl (fun base T w0 => ?_)
 rw [impl_IsValidRow.f] at H
 refine gs (rg (so rfl (op_box (cs := [.int .i64 a0_0, .int .i64 a0_1, .int .i64 a0_2]) rfl rfl rfl fun b1 => (sv (EV.as rfl) rfl (re (gs (rg (sv (EV.fa 0 rfl) rfl (sv (EV.ld 0 none rfl rfl rfl) rfl ?_)))))))))
 revert H; refine bdI ?_; rintro t1 A1 H
 refine so rfl (op_call (impl_within.ok a0_0 0 9 _ A1) [] 1 rfl rfl rfl rfl rfl ?_)
 rintro _ _ _ ⟨rfl, rfl, rfl⟩
 refine sv (EV.mv rfl) rfl ?_
 revert H; refine ifsI ?_ ?_ <;> intro c2 H
 ·
  subst c2
  refine ts 6 rfl rfl (sv (EV.fa 1 rfl) rfl (sv (EV.ld 0 none rfl rfl rfl) rfl ?_))
  revert H; refine bdI ?_; rintro t3 A3 H
  refine so rfl (op_call (impl_within.ok a0_1 0 99 _ A3) [] 1 rfl rfl rfl rfl rfl ?_)
  rintro _ _ _ ⟨rfl, rfl, rfl⟩
  refine sv (EV.pt rfl rfl rfl) rfl (sv (EV.mv rfl) rfl ?_)
  revert H; refine ifsI ?_ ?_ <;> intro c4 H
  ·
   subst c4
   refine ts 11 rfl rfl (sv (EV.fa 2 rfl) rfl (sv (EV.ld 0 none rfl rfl rfl) rfl ?_))
   revert H; refine bdI ?_; rintro t5 A5 H
   refine so rfl (op_call (impl_within.ok a0_2 0 3 _ A5) [] 1 rfl rfl rfl rfl rfl ?_)
   rintro _ _ _ ⟨rfl, rfl, rfl⟩
   refine sv (EV.pt rfl rfl rfl) rfl (sv (EV.as rfl) rfl (re (pr [2] [] [] rfl rfl rfl rfl ?_)))
   cases H
   exact rt Try.func88 rfl (.tmp rfl .nil) rfl [] [] rfl rfl rfl rfl rfl ⟨rfl, rfl, rfl⟩
  ·
   obtain rfl := bF c4
   refine ts 11 rfl rfl (sk rfl (sk rfl (sk rfl (sv (EV.pf rfl rfl rfl) rfl (sv (EV.as rfl) rfl (re (pr [2] [] [] rfl rfl rfl rfl ?_)))))))
   cases H
   exact rt Try.func88 rfl (.tmp rfl .nil) rfl [] [] rfl rfl rfl rfl rfl ⟨rfl, rfl, rfl⟩
 ·
  obtain rfl := bF c2
  refine ts 6 rfl rfl (sk rfl (sk rfl (sk rfl (sv (EV.pf rfl rfl rfl) rfl (sv (EV.mv rfl) rfl (sk rfl (sk rfl (sk rfl (sv (EV.pf rfl rfl rfl) rfl (sv (EV.as rfl) rfl (re (pr [2] [] [] rfl rfl rfl rfl ?_))))))))))))
  cases H
  exact rt Try.func88 rfl (.tmp rfl .nil) rfl [] [] rfl rfl rfl rfl rfl ⟨rfl, rfl, rfl⟩
end Go.Proofs.Ythciieopabndcaa.K
namespace Go.Proofs.Ythciieopabndcaa.K
open Go Go.RowKit
set_option linter.unusedVariables false
set_option linter.unusedSimpArgs false
def impl_allValid.l0 : Nat → Int → Int → (List S62) → Option (Bool)
 | 0, _, _, _ => none
 | k + 1, x2_6, x2_7, l0 => if x2_7 < x2_6 then (if 0 ≤ x2_7 then (if x2_7 < (l0.length : Int) then ((impl_IsValidRow.f ((rd_T62 l0 x2_7).f0) ((rd_T62 l0 x2_7).f1) ((rd_T62 l0 x2_7).f2)).bind fun t4 => (if t4 = true then (impl_allValid.l0 k x2_6 (wrap64 (x2_7 + 1)) l0) else (some false))) else none) else none) else (some true)
def impl_allValid.f (k : Nat) (l0 : List S62) : Option (Bool) := impl_allValid.l0 k (l0.length : Int) 0 l0
set_option maxHeartbeats 4000000 in
set_option maxRecDepth 100000 in
theorem impl_allValid.ok (k : Nat) (l0 : List S62) (Al0 : Option Addr) (cl0 : Nat) (r0 : Bool) (H : impl_allValid.f k l0 = some r0) : Fn Try.prog 87 [.slice Al0 l0.length cl0] [] [.sl 0 k62 Al0 cl0 l0 0 false] (fun v bx en => v = .bool r0 ∧ bx = [] ∧ en = []) := by
 refine fn_ 15 Try.func87 rfl rfl rfl (fun base T w0 => ?_)
 rw [impl_allValid.f] at H
 refine gs (rg (sv (EV.as rfl) rfl (re (gs (gs (rg (sv (EV.mv rfl) rfl (sv (EV.ln rfl) rfl (sv (EV.mv rfl) rfl (re (gb ?_)))))))))))
 refine lo (fun kk S => ∃ (x2_6 : Int) (x2_7 : Int), impl_allValid.l0 kk x2_6 x2_7 l0 = some r0 ∧ S = ⟨[(5, .slice Al0 l0.length cl0), (6, .int .i64 x2_6), (7, .int .i64 x2_7)], [], [.sl 0 k62 Al0 cl0 l0 0 false]⟩) (fun S hS => ?_) (fun n0 ih0 S hS => ?_) ⟨(l0.length : Int), 0, H, rfl⟩ (fun h => wk [5, 6, 7] [] [⟨0, 0, 0, false⟩] h)
 · clear H; obtain ⟨_, _, H, _⟩ := hS; rw [impl_allValid.l0] at H; cases H
 clear H
 obtain ⟨x2_6, x2_7, H, rfl⟩ := hS
 rw [impl_allValid.l0] at H
 refine gs (rg (sv (EV.lss rfl rfl) rfl (re (gs ?_))))
 revert H; refine ifsI ?_ ?_ <;> intro c1 H
 ·
  refine gt rfl (dT c1) (gk (gs (gb (gs (rg ?_)))))
  revert H; refine ggI ?_; intro g2 H
  revert H; refine ggI ?_; intro g3 H
  refine sv (EV.ix 0 rfl rfl rfl g2 g3 rfl) rfl (sv (EV.le (v := .agg #[.int .i64 ((rd_T62 l0 x2_7).f0), .int .i64 ((rd_T62 l0 x2_7).f1), .int .i64 ((rd_T62 l0 x2_7).f2)]) x2_7 0 (some 3) 0 z62 rfl rfl rfl g2 g3 rfl rfl rfl) rfl (so rfl (op_alloc (cs := [.int .i64 0, .int .i64 0, .int .i64 0]) (by kernel_rfl) rfl fun b4 => (so rfl (op_st (cs' := [.int .i64 ((rd_T62 l0 x2_7).f0), .int .i64 ((rd_T62 l0 x2_7).f1), .int .i64 ((rd_T62 l0 x2_7).f2)]) 0 rfl rfl rfl rfl rfl rfl (re (gs (rg (sv (EV.ld (v := .agg #[.int .i64 ((rd_T62 l0 x2_7).f0), .int .i64 ((rd_T62 l0 x2_7).f1), .int .i64 ((rd_T62 l0 x2_7).f2)]) 0 (some 3) rfl rfl rfl) rfl ?_)))))))))
  revert H; refine bdI ?_; rintro t4 A4 H
  refine so rfl (op_call (impl_IsValidRow.ok ((rd_T62 l0 x2_7).f0) ((rd_T62 l0 x2_7).f1) ((rd_T62 l0 x2_7).f2) _ A4) [] 1 rfl rfl rfl rfl rfl ?_)
  rintro _ _ _ ⟨rfl, rfl, rfl⟩
  refine sv (EV.nt rfl) rfl (re (pr [5, 6, 7, 13] [] [0] rfl rfl rfl rfl ?_))
  revert H; refine ifsI ?_ ?_ <;> intro c5 H
  ·
   subst c5
   exact gf rfl rfl (gk (ge (rg (sv (EV.add rfl rfl) rfl (sv (EV.mv rfl) rfl (re (wk [5, 6, 7] [] [⟨0, 0, 0, false⟩] (ih0 _ (by omega) _ ⟨x2_6, wrap64 (x2_7 + 1), H, rfl⟩))))))))
  ·
   obtain rfl := bF c5
   refine gt rfl rfl (gs (rg (sv (EV.as rfl) rfl (re ?_))))
   cases H
   exact rt Try.func87 rfl (.tmp rfl .nil) rfl [] [] rfl rfl rfl rfl rfl ⟨rfl, rfl, rfl⟩
 ·
  refine gf rfl (dF c1) (gx rfl (gs (rg (sv (EV.as rfl) rfl (re ?_)))))
  cases H
  exact rt Try.func87 rfl (.tmp rfl .nil) rfl [] [] rfl rfl rfl rfl rfl ⟨rfl, rfl, rfl⟩
end Go.Proofs.Ythciieopabndcaa.K
namespace Go.Proofs.Ythciieopabndcaa.K
open Go Go.RowKit
set_option linter.unusedVariables false
set_option linter.unusedSimpArgs false
def impl_AreValidRows.f (k : Nat) (l0 : List S62) : Option (Bool) := if (l0.length : Int) ≤ 24 then ((impl_allValid.f k l0).bind fun t2 => (some t2)) else (some false)
set_option maxHeartbeats 4000000 in
set_option maxRecDepth 100000 in
theorem impl_AreValidRows.ok (k : Nat) (l0 : List S62) (Al0 : Option Addr) (cl0 : Nat) (r0 : Bool) (H : impl_AreValidRows.f k l0 = some r0) : Fn Try.prog 66 [.slice Al0 l0.length cl0] [] [.sl 0 k62 Al0 cl0 l0 0 false] (fun v bx en => v = .bool r0 ∧ bx = [] ∧ en = []) := by
 refine fn_ 10 Try.func66 rfl rfl rfl (fun base T w0 => ?_)
 rw [impl_AreValidRows.f] at H
 refine gs (rg (sv (EV.as rfl) rfl (re (gs (rg (sv (EV.mv rfl) rfl (sv (EV.ln rfl) rfl (sv (EV.leq rfl rfl) rfl (sv (EV.mv rfl) rfl ?_)))))))))
 revert H; refine ifsI ?_ ?_ <;> intro c1 H
 ·
  refine ts 6 rfl (dT c1) (sv (EV.mv rfl) rfl ?_)
  revert H; refine bdI ?_; rintro t2 A2 H
  refine so rfl (op_call (impl_allValid.ok k l0 Al0 cl0 _ A2) [⟨0, 0, 0, false⟩] 1 rfl rfl rfl rfl rfl ?_)
  rintro _ _ _ ⟨rfl, rfl, rfl⟩
  refine sv (EV.pt rfl rfl rfl) rfl (sv (EV.as rfl) rfl (re (pr [2] [] [] rfl rfl rfl rfl ?_)))
  cases H
  exact rt Try.func66 rfl (.tmp rfl .nil) rfl [] [] rfl rfl rfl rfl rfl ⟨rfl, rfl, rfl⟩
 ·
  refine ts 6 rfl (dF c1) (sk rfl (sk rfl (sv (EV.pf rfl rfl rfl) rfl (sv (EV.as rfl) rfl (re (pr [2] [] [] rfl rfl rfl rfl ?_))))))
  cases H
  exact rt Try.func66 rfl (.tmp rfl .nil) rfl [] [] rfl rfl rfl rfl rfl ⟨rfl, rfl, rfl⟩
end Go.Proofs.Ythciieopabndcaa.K
namespace Go.Proofs.Ythciieopabndcaa.K
open Go Go.RowKit
set_option linter.unusedVariables false
set_option linter.unusedSimpArgs false
def impl_IsValidTask.f (k : Nat) (a0_0 : Int) (l0_1 : List S62) (l0_2 : List S62) (l0_3 : List Bool) (a0_4 : Int) : Option (Bool) := (impl_IsValidJoinKind.f a0_0).bind fun t1 => (if t1 = true then ((impl_AreValidRows.f k l0_1).bind fun t3 => (if t3 = true then ((impl_AreValidRows.f k l0_2).bind fun t5 => (if t5 = true then (if (l0_3.length : Int) = (l0_1.length : Int) then ((impl_within.f a0_4 0 4).bind fun t8 => (some t8)) else (some false)) else (some false))) else (some false))) else (some false))
set_option maxHeartbeats 4000000 in
set_option maxRecDepth 100000 in
theorem impl_IsValidTask.ok (k : Nat) (a0_0 : Int) (l0_1 : List S62) (Al0_1 : Option Addr) (cl0_1 : Nat) (l0_2 : List S62) (Al0_2 : Option Addr) (cl0_2 : Nat) (l0_3 : List Bool) (Al0_3 : Option Addr) (cl0_3 : Nat) (a0_4 : Int) (r0 : Bool) (H : impl_IsValidTask.f k a0_0 l0_1 l0_2 l0_3 a0_4 = some r0) : Fn Try.prog 28 [.agg #[.int .i64 a0_0, .slice Al0_1 l0_1.length cl0_1, .slice Al0_2 l0_2.length cl0_2, .slice Al0_3 l0_3.length cl0_3, .int .i64 a0_4]] [] [.sl 0 k62 Al0_1 cl0_1 l0_1 0 false, .sl 0 k62 Al0_2 cl0_2 l0_2 0 false, .sl 0 .bool Al0_3 cl0_3 l0_3 0 false] (fun v bx en => v = .bool r0 ∧ bx = [] ∧ en = []) := by
 refine fn_ 30 Try.func28 rfl rfl rfl (fun base T w0 => ?_)
 rw [impl_IsValidTask.f] at H
 refine gs (rg (so rfl (op_box (cs := [.int .i64 a0_0, .slice Al0_1 l0_1.length cl0_1, .slice Al0_2 l0_2.length cl0_2, .slice Al0_3 l0_3.length cl0_3, .int .i64 a0_4]) rfl rfl rfl fun b1 => (sv (EV.as rfl) rfl (re (gs (rg (sv (EV.fa 0 rfl) rfl (sv (EV.ld 0 none rfl rfl rfl) rfl ?_)))))))))
 revert H; refine bdI ?_; rintro t1 A1 H
 refine so rfl (op_call (impl_IsValidJoinKind.ok a0_0 _ A1) [] 1 rfl rfl rfl rfl rfl ?_)
 rintro _ _ _ ⟨rfl, rfl, rfl⟩
 refine sv (EV.mv rfl) rfl ?_
 revert H; refine ifsI ?_ ?_ <;> intro c2 H
 ·
  subst c2
  refine ts 6 rfl rfl (sv (EV.fa 1 rfl) rfl (sv (EV.ld 0 none rfl rfl rfl) rfl ?_))
  revert H; refine bdI ?_; rintro t3 A3 H
  refine so rfl (op_call (impl_AreValidRows.ok k l0_1 Al0_1 cl0_1 _ A3) [⟨0, 0, 0, false⟩] 1 rfl rfl rfl rfl rfl ?_)
  rintro _ _ _ ⟨rfl, rfl, rfl⟩
  refine sv (EV.pt rfl rfl rfl) rfl (sv (EV.mv rfl) rfl ?_)
  revert H; refine ifsI ?_ ?_ <;> intro c4 H
  ·
   subst c4
   refine ts 11 rfl rfl (sv (EV.fa 2 rfl) rfl (sv (EV.ld 0 none rfl rfl rfl) rfl ?_))
   revert H; refine bdI ?_; rintro t5 A5 H
   refine so rfl (op_call (impl_AreValidRows.ok k l0_2 Al0_2 cl0_2 _ A5) [⟨1, 0, 0, false⟩] 1 rfl rfl rfl rfl rfl ?_)
   rintro _ _ _ ⟨rfl, rfl, rfl⟩
   refine sv (EV.pt rfl rfl rfl) rfl (sv (EV.mv rfl) rfl ?_)
   revert H; refine ifsI ?_ ?_ <;> intro c6 H
   ·
    subst c6
    refine ts 16 rfl rfl (sv (EV.fa 3 rfl) rfl (sv (EV.ld 0 none rfl rfl rfl) rfl (sv (EV.ln rfl) rfl (sv (EV.fa 1 rfl) rfl (sv (EV.ld 0 none rfl rfl rfl) rfl (sv (EV.ln rfl) rfl (sv (EV.eql rfl rfl) rfl (sv (EV.pt rfl rfl rfl) rfl (sv (EV.mv rfl) rfl ?_)))))))))
    revert H; refine ifsI ?_ ?_ <;> intro c7 H
    ·
     refine ts 25 rfl (dT c7) (sv (EV.fa 4 rfl) rfl (sv (EV.ld 0 none rfl rfl rfl) rfl ?_))
     revert H; refine bdI ?_; rintro t8 A8 H
     refine so rfl (op_call (impl_within.ok a0_4 0 4 _ A8) [] 1 rfl rfl rfl rfl rfl ?_)
     rintro _ _ _ ⟨rfl, rfl, rfl⟩
     refine sv (EV.pt rfl rfl rfl) rfl (sv (EV.as rfl) rfl (re (pr [2] [] [] rfl rfl rfl rfl ?_)))
     cases H
     exact rt Try.func28 rfl (.tmp rfl .nil) rfl [] [] rfl rfl rfl rfl rfl ⟨rfl, rfl, rfl⟩
    ·
     refine ts 25 rfl (dF c7) (sk rfl (sk rfl (sk rfl (sv (EV.pf rfl rfl rfl) rfl (sv (EV.as rfl) rfl (re (pr [2] [] [] rfl rfl rfl rfl ?_)))))))
     cases H
     exact rt Try.func28 rfl (.tmp rfl .nil) rfl [] [] rfl rfl rfl rfl rfl ⟨rfl, rfl, rfl⟩
   ·
    obtain rfl := bF c6
    refine ts 16 rfl rfl (sk rfl (sk rfl (sk rfl (sk rfl (sk rfl (sk rfl (sk rfl (sv (EV.pf rfl rfl rfl) rfl (sv (EV.mv rfl) rfl (sk rfl (sk rfl (sk rfl (sv (EV.pf rfl rfl rfl) rfl (sv (EV.as rfl) rfl (re (pr [2] [] [] rfl rfl rfl rfl ?_))))))))))))))))
    cases H
    exact rt Try.func28 rfl (.tmp rfl .nil) rfl [] [] rfl rfl rfl rfl rfl ⟨rfl, rfl, rfl⟩
  ·
   obtain rfl := bF c4
   refine ts 11 rfl rfl (sk rfl (sk rfl (sk rfl (sv (EV.pf rfl rfl rfl) rfl (sv (EV.mv rfl) rfl (sk rfl (sk rfl (sk rfl (sk rfl (sk rfl (sk rfl (sk rfl (sv (EV.pf rfl rfl rfl) rfl (sv (EV.mv rfl) rfl (sk rfl (sk rfl (sk rfl (sv (EV.pf rfl rfl rfl) rfl (sv (EV.as rfl) rfl (re (pr [2] [] [] rfl rfl rfl rfl ?_)))))))))))))))))))))
   cases H
   exact rt Try.func28 rfl (.tmp rfl .nil) rfl [] [] rfl rfl rfl rfl rfl ⟨rfl, rfl, rfl⟩
 ·
  obtain rfl := bF c2
  refine ts 6 rfl rfl (sk rfl (sk rfl (sk rfl (sv (EV.pf rfl rfl rfl) rfl (sv (EV.mv rfl) rfl (sk rfl (sk rfl (sk rfl (sv (EV.pf rfl rfl rfl) rfl (sv (EV.mv rfl) rfl (sk rfl (sk rfl (sk rfl (sk rfl (sk rfl (sk rfl (sk rfl (sv (EV.pf rfl rfl rfl) rfl (sv (EV.mv rfl) rfl (sk rfl (sk rfl (sk rfl (sv (EV.pf rfl rfl rfl) rfl (sv (EV.as rfl) rfl (re (pr [2] [] [] rfl rfl rfl rfl ?_))))))))))))))))))))))))))
  cases H
  exact rt Try.func28 rfl (.tmp rfl .nil) rfl [] [] rfl rfl rfl rfl rfl ⟨rfl, rfl, rfl⟩
end Go.Proofs.Ythciieopabndcaa.K
namespace Go.Proofs.Ythciieopabndcaa.K
open Go Go.RowKit
set_option linter.unusedVariables false
set_option linter.unusedSimpArgs false
def impl_clone.f (l0 : List S62) : Option ((List S62)) := if l0.length ≤ 5864062014805 then (some l0) else none
set_option maxHeartbeats 4000000 in
set_option maxRecDepth 100000 in
theorem impl_clone.ok (l0 : List S62) (Al0 : Option Addr) (cl0 : Nat) (r0 : List S62) (H : impl_clone.f l0 = some r0) : Fn Try.prog 55 [.slice Al0 l0.length cl0] [] [.sl 0 k62 Al0 cl0 l0 0 false] (fun v bx en => ∃ A0 c0, v = .slice A0 r0.length c0 ∧ bx = [] ∧ en = [.sl 2 k62 A0 c0 r0 1 true]) := by
 refine fn_ 5 Try.func55 rfl rfl rfl (fun base T w0 => ?_)
 rw [impl_clone.f] at H
 refine gs (rg (sv (EV.as rfl) rfl (re (gs (rg (sv (EV.mv rfl) rfl (nil_ k62 1 dq ?_)))))))
 revert H; refine ggI ?_; intro g1 H
 refine so rfl (op_app (k := k62) (s := 3) (by_ := 24) 1 0 rfl rfl rfl rfl (ap0 g1 dq) (ap0n g1 dq) (.inl rfl) true (fun _ => .inl rfl) rfl rfl fun A4_2 c4_2 => (nmE (en := [.sl 0 k62 Al0 cl0 l0 0 false, .sl 2 k62 A4_2 c4_2 l0 1 true]) (by kernel_rfl) (sv (EV.as rfl) rfl (re ?_))))
 cases H
 exact rt Try.func55 rfl (.tmp rfl .nil) rfl [] [⟨1, 2, 1, true⟩] rfl rfl rfl rfl rfl ⟨_, _, rfl, rfl, rfl⟩
end Go.Proofs.Ythciieopabndcaa.K
namespace Go.Proofs.Ythciieopabndcaa.K
open Go Go.RowKit
set_option linter.unusedVariables false
set_option linter.unusedSimpArgs false
def impl_cloneTask.f (a0_0 : Int) (l0_1 : List S62) (l0_2 : List S62) (l0_3 : List Bool) (a0_4 : Int) : Option (Int × (List S62) × (List S62) × (List Bool) × Int) := if l0_3.length ≤ 140737488355328 then ((impl_clone.f l0_1).bind fun t2 => ((impl_clone.f l0_2).bind fun t3 => (some (a0_0, t2, t3, l0_3, a0_4)))) else none
set_option maxHeartbeats 4000000 in
set_option maxRecDepth 100000 in
theorem impl_cloneTask.ok (a0_0 : Int) (l0_1 : List S62) (Al0_1 : Option Addr) (cl0_1 : Nat) (l0_2 : List S62) (Al0_2 : Option Addr) (cl0_2 : Nat) (l0_3 : List Bool) (Al0_3 : Option Addr) (cl0_3 : Nat) (a0_4 : Int) (r0 : Int) (r1 : List S62) (r2 : List S62) (r3 : List Bool) (r4 : Int) (H : impl_cloneTask.f a0_0 l0_1 l0_2 l0_3 a0_4 = some (r0, r1, r2, r3, r4)) : Fn Try.prog 83 [.agg #[.int .i64 a0_0, .slice Al0_1 l0_1.length cl0_1, .slice Al0_2 l0_2.length cl0_2, .slice Al0_3 l0_3.length cl0_3, .int .i64 a0_4]] [] [.sl 0 k62 Al0_1 cl0_1 l0_1 0 false, .sl 0 k62 Al0_2 cl0_2 l0_2 0 false, .sl 0 .bool Al0_3 cl0_3 l0_3 0 false] (fun v bx en => ∃ A1 c1 A2 c2 A3 c3, v = .agg #[.int .i64 r0, .slice A1 r1.length c1, .slice A2 r2.length c2, .slice A3 r3.length c3, .int .i64 r4] ∧ bx = [] ∧ en = [.sl 2 k62 A1 c1 r1 1 true, .sl 2 k62 A2 c2 r2 2 true, .sl 2 .bool A3 c3 r3 3 true]) := by
 refine fn_ 16 Try.func83 rfl rfl rfl (fun base T w0 => ?_)
 rw [impl_cloneTask.f] at H
 refine gs (rg (so rfl (op_box (cs := [.int .i64 a0_0, .slice Al0_1 l0_1.length cl0_1, .slice Al0_2 l0_2.length cl0_2, .slice Al0_3 l0_3.length cl0_3, .int .i64 a0_4]) rfl rfl rfl fun b1 => (so rfl (op_alloc (cs := [.int .i64 0, .slice none 0 0, .slice none 0 0, .slice none 0 0, .int .i64 0]) (by kernel_rfl) rfl fun b2 => (re (gs ?_)))))))
 revert H; refine ggI ?_; intro g1 H
 refine nil_ .bool 1 dq (dr [0, 1] [0, 1, 2] [10, 11, 12, 13, 14] 15 rfl rfl rfl rfl (xv 0 [0, 1] [0, 1, 2] rfl (EV.fa 1 rfl) rfl rfl rfl rfl (xv 1 [0, 1] [0, 1, 2] rfl (EV.ld 0 none rfl rfl rfl) rfl rfl rfl rfl (xv 3 [0, 1] [0, 1, 2] rfl (EV.fa 2 rfl) rfl rfl rfl rfl (xv 4 [0, 1] [0, 1, 2] rfl (EV.ld 0 none rfl rfl rfl) rfl rfl rfl rfl (xv 6 [0, 1] [0, 1, 2] rfl (EV.fa 3 rfl) rfl rfl rfl rfl (xv 7 [0, 1] [0, 1, 2] rfl (EV.ld 0 none rfl rfl rfl) rfl rfl rfl rfl (one1 2 rfl rfl ?_))))))))
 revert H; refine bdI ?_; rintro t2 A2 H
 refine op_call (impl_clone.ok l0_1 Al0_1 cl0_1 _ A2) [⟨0, 0, 0, false⟩] 2 rfl rfl rfl rfl rfl ?_
 rintro _ _ _ ⟨At2, ct2, rfl, rfl, rfl⟩
 refine xs [0, 1] [0, 1, 2] rfl rfl rfl (xv 9 [0, 1] [0, 1, 2] rfl (EV.fa 1 rfl) rfl rfl rfl rfl (one1 5 rfl rfl ?_))
 revert H; refine bdI ?_; rintro t3 A3 H
 refine op_call (impl_clone.ok l0_2 Al0_2 cl0_2 _ A3) [⟨1, 0, 0, false⟩] 4 rfl rfl rfl rfl rfl ?_
 rintro _ _ _ ⟨At3, ct3, rfl, rfl, rfl⟩
 refine xs [0, 1] [0, 1, 2] rfl rfl rfl (one1 8 rfl rfl (op_app (k := .bool) (s := 1) (by_ := 1) 3 2 rfl rfl rfl rfl (ap0 g1 dq) (ap0n g1 dq) (.inl rfl) true (fun _ => .inl rfl) rfl rfl fun A11_4 c11_4 => (nmE (en := [.sl 0 k62 Al0_1 cl0_1 l0_1 0 false, .sl 0 k62 Al0_2 cl0_2 l0_2 0 false, .sl 0 .bool Al0_3 cl0_3 l0_3 0 false, .sl 2 k62 At2 ct2 t2 3 true, .sl 2 k62 At3 ct3 t3 5 true, .sl 2 .bool A11_4 c11_4 l0_3 1 true]) (by kernel_rfl) (xs [0, 1] [0, 1, 2] rfl rfl rfl (one1 10 rfl rfl (op_st (cs' := [.int .i64 a0_0, .slice At2 t2.length ct2, .slice Al0_2 l0_2.length cl0_2, .slice Al0_3 l0_3.length cl0_3, .int .i64 a0_4]) 0 rfl rfl rfl rfl rfl rfl (xn rfl (one1 11 rfl rfl (ov (EV.fa 2 rfl) rfl (xn rfl (one1 12 rfl rfl (op_st (cs' := [.int .i64 a0_0, .slice At2 t2.length ct2, .slice At3 t3.length ct3, .slice Al0_3 l0_3.length cl0_3, .int .i64 a0_4]) 0 rfl rfl rfl rfl rfl rfl (xn rfl (one1 13 rfl rfl (ov (EV.fa 3 rfl) rfl (xn rfl (one1 14 rfl rfl (op_st (cs' := [.int .i64 a0_0, .slice At2 t2.length ct2, .slice At3 t3.length ct3, .slice A11_4 l0_3.length c11_4, .int .i64 a0_4]) 0 rfl rfl rfl rfl rfl rfl (xn rfl (xd (pr [1, 2] [0, 1] [3, 4, 5] rfl rfl rfl rfl (gs (rg (sv (EV.ld (v := .agg #[.int .i64 a0_0, .slice At2 t2.length ct2, .slice At3 t3.length ct3, .slice A11_4 l0_3.length c11_4, .int .i64 a0_4]) 0 (some 5) rfl rfl rfl) rfl (so rfl (op_st (cs' := [.int .i64 a0_0, .slice At2 t2.length ct2, .slice At3 t3.length ct3, .slice A11_4 l0_3.length c11_4, .int .i64 a0_4]) 1 rfl rfl rfl rfl rfl rfl (re ?_)))))))))))))))))))))))))))
 cases H
 exact rt Try.func83 rfl (.cell 1 (some 5) rfl rfl rfl .nil) rfl [] [⟨0, 2, 1, true⟩, ⟨1, 2, 2, true⟩, ⟨2, 2, 3, true⟩] rfl rfl rfl rfl rfl ⟨_, _, _, _, _, _, rfl, rfl, rfl⟩
end Go.Proofs.Ythciieopabndcaa.K
namespace Go.Proofs.Ythciieopabndcaa.K
open Go Go.RowKit
set_option linter.unusedVariables false
set_option linter.unusedSimpArgs false
def impl_CountMatches.l0 : Nat → Int → Int → Int → Int → Int → Int → (List S62) → Option (Int)
 | 0, _, _, _, _, _, _, _ => none
 | k + 1, x2_5, x2_9, x2_10, x2_2_0, x2_2_1, x2_2_2, l1 => if x2_10 < x2_9 then (if 0 ≤ x2_10 then (if x2_10 < (l1.length : Int) then (if ((rd_T62 l1 x2_10).f0) = x2_2_0 then (impl_CountMatches.l0 k (wrap64 (x2_5 + 1)) x2_9 (wrap64 (x2_10 + 1)) x2_2_0 x2_2_1 x2_2_2 l1) else (impl_CountMatches.l0 k x2_5 x2_9 (wrap64 (x2_10 + 1)) x2_2_0 x2_2_1 x2_2_2 l1)) else none) else none) else (some x2_5)
def impl_CountMatches.f (k : Nat) (a0_0 : Int) (a0_1 : Int) (a0_2 : Int) (l1 : List S62) : Option (Int) := impl_CountMatches.l0 k 0 (l1.length : Int) 0 a0_0 a0_1 a0_2 l1
set_option maxHeartbeats 4000000 in
set_option maxRecDepth 100000 in
theorem impl_CountMatches.ok (k : Nat) (a0_0 : Int) (a0_1 : Int) (a0_2 : Int) (l1 : List S62) (Al1 : Option Addr) (cl1 : Nat) (r0 : Int) (H : impl_CountMatches.f k a0_0 a0_1 a0_2 l1 = some r0) : Fn Try.prog 84 [.agg #[.int .i64 a0_0, .int .i64 a0_1, .int .i64 a0_2], .slice Al1 l1.length cl1] [] [.sl 0 k62 Al1 cl1 l1 0 false] (fun v bx en => v = .int .i64 r0 ∧ bx = [] ∧ en = []) := by
 refine fn_ 23 Try.func84 rfl rfl rfl (fun base T w0 => ?_)
 rw [impl_CountMatches.f] at H
 refine gs (rg (so rfl (op_box (cs := [.int .i64 a0_0, .int .i64 a0_1, .int .i64 a0_2]) rfl rfl rfl fun b2 => (sv (EV.as rfl) rfl (re (gs (rg (sv (EV.as rfl) rfl (re (gs (gs (rg (sv (EV.mv rfl) rfl (sv (EV.ln rfl) rfl (sv (EV.mv rfl) rfl (re (gb ?_)))))))))))))))))
 refine lo (fun kk S => ∃ (x2_5 : Int) (x2_9 : Int) (x2_10 : Int) (x2_2_0 : Int) (x2_2_1 : Int) (x2_2_2 : Int), impl_CountMatches.l0 kk x2_5 x2_9 x2_10 x2_2_0 x2_2_1 x2_2_2 l1 = some r0 ∧ S = ⟨[(2, .pointer (some ⟨b2, 0, none⟩)), (5, .int .i64 x2_5), (8, .slice Al1 l1.length cl1), (9, .int .i64 x2_9), (10, .int .i64 x2_10)], [⟨b2, 62, [.int .i64 x2_2_0, .int .i64 x2_2_1, .int .i64 x2_2_2]⟩], [.sl 0 k62 Al1 cl1 l1 0 false]⟩) (fun S hS => ?_) (fun n0 ih0 S hS => ?_) ⟨0, (l1.length : Int), 0, a0_0, a0_1, a0_2, H, rfl⟩ (fun h => wk [2, 5, 8, 9, 10] [0] [⟨0, 0, 0, false⟩] h)
 · clear H; obtain ⟨_, _, _, _, _, _, H, _⟩ := hS; rw [impl_CountMatches.l0] at H; cases H
 clear H
 obtain ⟨x2_5, x2_9, x2_10, x2_2_0, x2_2_1, x2_2_2, H, rfl⟩ := hS
 rw [impl_CountMatches.l0] at H
 refine gs (rg (sv (EV.lss rfl rfl) rfl (re (gs ?_))))
 revert H; refine ifsI ?_ ?_ <;> intro c1 H
 ·
  refine gt rfl (dT c1) (gk (gs (gb (gs (rg ?_)))))
  revert H; refine ggI ?_; intro g2 H
  revert H; refine ggI ?_; intro g3 H
  refine sv (EV.ix 0 rfl rfl rfl g2 g3 rfl) rfl (sv (EV.le (v := .agg #[.int .i64 ((rd_T62 l1 x2_10).f0), .int .i64 ((rd_T62 l1 x2_10).f1), .int .i64 ((rd_T62 l1 x2_10).f2)]) x2_10 0 (some 3) 0 z62 rfl rfl rfl g2 g3 rfl rfl rfl) rfl (so rfl (op_alloc (cs := [.int .i64 0, .int .i64 0, .int .i64 0]) (by kernel_rfl) rfl fun b7 => (so rfl (op_st (cs' := [.int .i64 ((rd_T62 l1 x2_10).f0), .int .i64 ((rd_T62 l1 x2_10).f1), .int .i64 ((rd_T62 l1 x2_10).f2)]) 1 rfl rfl rfl rfl rfl rfl (re (gs (rg (sv (EV.fa 0 rfl) rfl (sv (EV.ld 1 none rfl rfl rfl) rfl (sv (EV.fa 0 rfl) rfl (sv (EV.ld 0 none rfl rfl rfl) rfl (sv (EV.eql rfl rfl) rfl (re (pr [2, 5, 8, 9, 10, 18] [0] [0] rfl rfl rfl rfl ?_)))))))))))))))
  revert H; refine ifsI ?_ ?_ <;> intro c4 H
  ·
   exact gt rfl (dT c4) (rg (sv (EV.mv rfl) rfl (sv (EV.add rfl rfl) rfl (sv (EV.as rfl) rfl (re (ge (rg (sv (EV.add rfl rfl) rfl (sv (EV.mv rfl) rfl (re (wk [2, 5, 8, 9, 10] [0] [⟨0, 0, 0, false⟩] (ih0 _ (by omega) _ ⟨wrap64 (x2_5 + 1), x2_9, wrap64 (x2_10 + 1), x2_2_0, x2_2_1, x2_2_2, H, rfl⟩))))))))))))
  ·
   exact gf rfl (dF c4) (gk (ge (rg (sv (EV.add rfl rfl) rfl (sv (EV.mv rfl) rfl (re (wk [2, 5, 8, 9, 10] [0] [⟨0, 0, 0, false⟩] (ih0 _ (by omega) _ ⟨x2_5, x2_9, wrap64 (x2_10 + 1), x2_2_0, x2_2_1, x2_2_2, H, rfl⟩))))))))
 ·
  refine gf rfl (dF c1) (gx rfl (gs (rg (sv (EV.mv rfl) rfl (sv (EV.as rfl) rfl (re (pr [4] [] [] rfl rfl rfl rfl ?_)))))))
  cases H
  exact rt Try.func84 rfl (.tmp rfl .nil) rfl [] [] rfl rfl rfl rfl rfl ⟨rfl, rfl, rfl⟩
end Go.Proofs.Ythciieopabndcaa.K
