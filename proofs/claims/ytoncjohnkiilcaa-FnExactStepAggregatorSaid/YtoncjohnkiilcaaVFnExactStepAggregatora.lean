/- Walks: what the functions compute. Printed by gen.py; no condition. -/
import Derived.Test.YtoncjohnkiilcaaProg
import Derived.Test.YtoncjohnkiilcaaSB
namespace Go.Proofs.Ytoncjohnkiilcaa.K
open Go Go.RowKit
set_option linter.unusedVariables false
set_option linter.unusedSimpArgs false
structure S75 where
  f0 : Int
  f1 : Int
  f2 : Int
def z75 : S75 := ⟨0, 0, 0⟩
def k75 : Kd S75 := .iso (fun p => ⟨p.1, p.2.1, p.2.2⟩) (fun x => (x.f0, x.f1, x.f2)) (fun _ => rfl) (.pair (.int .i64) (.pair (.int .i64) (.int .i64)))
def rd_T75 (xs : List S75) (i : Int) : S75 := xs.getD i.toNat z75
structure S107 where
  f0 : List S75
  f1 : Int
def z107 : S107 := ⟨[], 0⟩
def k107 : Kd S107 := .iso (fun p => ⟨p.1, p.2⟩) (fun x => (x.f0, x.f1)) (fun _ => rfl) (.pair (.slice k75) (.int .i64))
def rd_T107 (xs : List S107) (i : Int) : S107 := xs.getD i.toNat z107
structure S35 where
  f0 : List S107
  f1 : Int
  f2 : Bool
def z35 : S35 := ⟨[], 0, false⟩
def k35 : Kd S35 := .iso (fun p => ⟨p.1, p.2.1, p.2.2⟩) (fun x => (x.f0, x.f1, x.f2)) (fun _ => rfl) (.pair (.slice k107) (.pair (.int .i64) .bool))
def rd_T35 (xs : List S35) (i : Int) : S35 := xs.getD i.toNat z35
structure S73 where
  f0 : Int
  f1 : Int
  f2 : Int
def z73 : S73 := ⟨0, 0, 0⟩
def k73 : Kd S73 := .iso (fun p => ⟨p.1, p.2.1, p.2.2⟩) (fun x => (x.f0, x.f1, x.f2)) (fun _ => rfl) (.pair (.int .i64) (.pair (.int .i64) (.int .i64)))
def rd_T73 (xs : List S73) (i : Int) : S73 := xs.getD i.toNat z73
structure S80 where
  f0 : List S73
  f1 : Int
def z80 : S80 := ⟨[], 0⟩
def k80 : Kd S80 := .iso (fun p => ⟨p.1, p.2⟩) (fun x => (x.f0, x.f1)) (fun _ => rfl) (.pair (.slice k73) (.int .i64))
def rd_T80 (xs : List S80) (i : Int) : S80 := xs.getD i.toNat z80
structure S40 where
  f0 : List S80
  f1 : Int
  f2 : Bool
def z40 : S40 := ⟨[], 0, false⟩
def k40 : Kd S40 := .iso (fun p => ⟨p.1, p.2.1, p.2.2⟩) (fun x => (x.f0, x.f1, x.f2)) (fun _ => rfl) (.pair (.slice k80) (.pair (.int .i64) .bool))
def rd_T40 (xs : List S40) (i : Int) : S40 := xs.getD i.toNat z40
structure S88 where
  f0 : Int
  f1 : Int
  f2 : Int
  f3 : Int
  f4 : Int
def z88 : S88 := ⟨0, 0, 0, 0, 0⟩
def k88 : Kd S88 := .iso (fun p => ⟨p.1, p.2.1, p.2.2.1, p.2.2.2.1, p.2.2.2.2⟩) (fun x => (x.f0, x.f1, x.f2, x.f3, x.f4)) (fun _ => rfl) (.pair (.int .i64) (.pair (.int .i64) (.pair (.int .i64) (.pair (.int .i64) (.int .i64)))))
def rd_T88 (xs : List S88) (i : Int) : S88 := xs.getD i.toNat z88
structure S62 where
  f0 : List S88
  f1 : Int
  f2 : Int
  f3 : Int
def z62 : S62 := ⟨[], 0, 0, 0⟩
def k62 : Kd S62 := .iso (fun p => ⟨p.1, p.2.1, p.2.2.1, p.2.2.2⟩) (fun x => (x.f0, x.f1, x.f2, x.f3)) (fun _ => rfl) (.pair (.slice k88) (.pair (.int .i64) (.pair (.int .i64) (.int .i64))))
def rd_T62 (xs : List S62) (i : Int) : S62 := xs.getD i.toNat z62
structure S92 where
  f0 : Int
  f1 : S88
def z92 : S92 := ⟨0, z88⟩
def k92 : Kd S92 := .iso (fun p => ⟨p.1, p.2⟩) (fun x => (x.f0, x.f1)) (fun _ => rfl) (.pair (.int .i64) k88)
def rd_T92 (xs : List S92) (i : Int) : S92 := xs.getD i.toNat z92
structure S94 where
  f0 : Int
  f1 : Int
  f2 : Int
  f3 : Int
  f4 : Int
def z94 : S94 := ⟨0, 0, 0, 0, 0⟩
def k94 : Kd S94 := .iso (fun p => ⟨p.1, p.2.1, p.2.2.1, p.2.2.2.1, p.2.2.2.2⟩) (fun x => (x.f0, x.f1, x.f2, x.f3, x.f4)) (fun _ => rfl) (.pair (.int .i64) (.pair (.int .i64) (.pair (.int .i64) (.pair (.int .i64) (.int .i64)))))
def rd_T94 (xs : List S94) (i : Int) : S94 := xs.getD i.toNat z94
theorem eqD73 (d : Nat) (w : World) (x0 y0 : Int) (x1 y1 : Int) (x2 y2 : Int) : (Op.equalIn (d + 2) 73 (.agg #[.int .i64 x0, .int .i64 x1, .int .i64 x2]) (.agg #[.int .i64 y0, .int .i64 y1, .int .i64 y2])).run Try.prog w = .ok (x0 == y0 && (x1 == y1 && (x2 == y2))) w := by
  refine eq_of (d := d + 1) Try.underlying73 (by kernel_rfl) ?_
  refine eq_cons (by rfl) (by first | (go_simp; done) | (go_simp; rfl)) (by first | (go_simp; done) | (go_simp; rfl)) (by go_simp) ?_
  refine eq_cons (by rfl) (by first | (go_simp; done) | (go_simp; rfl)) (by first | (go_simp; done) | (go_simp; rfl)) (by go_simp) ?_
  exact eq_last (by rfl) (by first | (go_simp; done) | (go_simp; rfl)) (by first | (go_simp; done) | (go_simp; rfl)) (by go_simp)
theorem eq73 (d : Nat) (w : World) (x0 y0 : Int) (x1 y1 : Int) (x2 y2 : Int) : (Op.equalIn (d + 20) 73 (.agg #[.int .i64 x0, .int .i64 x1, .int .i64 x2]) (.agg #[.int .i64 y0, .int .i64 y1, .int .i64 y2])).run Try.prog w = .ok (x0 == y0 && (x1 == y1 && (x2 == y2))) w := eqD73 (d + 18) w x0 y0 x1 y1 x2 y2
theorem mk24 : ∀ (zz : Value) (e : TypeId) (i : TypeInfo), Try.prog.underlying 24 = some (.slice e) → Try.prog.info? e = some i → i.zero = some zz → ∀ w, Kd.rep (.int .i64) 1 w zz.cells.toList 0 [] := by
  intro zz e i hu hi hz w
  have h1 : (Try.prog.underlying 24).bind (fun d => match d with | .slice e => (Try.prog.info? e).bind (fun i => i.zero) | _ => none) = some (.int .i64 0) := by kernel_rfl
  rw [hu] at h1
  simp only [Option.bind_some, hi, hz, Option.some.injEq] at h1
  subst h1
  exact Kd.closed (.int .i64) (o := 1) (w := w) (x := 0) (hs := []) (bs := []) 0 false (Nat.le_refl 1) rfl .nil
theorem mk26 : ∀ (zz : Value) (e : TypeId) (i : TypeInfo), Try.prog.underlying 26 = some (.slice e) → Try.prog.info? e = some i → i.zero = some zz → ∀ w, Kd.rep k73 1 w zz.cells.toList z73 [] := by
  intro zz e i hu hi hz w
  have h1 : (Try.prog.underlying 26).bind (fun d => match d with | .slice e => (Try.prog.info? e).bind (fun i => i.zero) | _ => none) = some (.agg #[.int .i64 0, .int .i64 0, .int .i64 0]) := by kernel_rfl
  rw [hu] at h1
  simp only [Option.bind_some, hi, hz, Option.some.injEq] at h1
  subst h1
  exact Kd.closed k73 (o := 1) (w := w) (x := z73) (hs := []) (bs := []) 0 false (Nat.le_refl 1) rfl .nil
theorem mk38 : ∀ (zz : Value) (e : TypeId) (i : TypeInfo), Try.prog.underlying 38 = some (.slice e) → Try.prog.info? e = some i → i.zero = some zz → ∀ w, Kd.rep k80 1 w zz.cells.toList z80 [] := by
  intro zz e i hu hi hz w
  have h1 : (Try.prog.underlying 38).bind (fun d => match d with | .slice e => (Try.prog.info? e).bind (fun i => i.zero) | _ => none) = some (.agg #[.slice none 0 0, .int .i64 0]) := by kernel_rfl
  rw [hu] at h1
  simp only [Option.bind_some, hi, hz, Option.some.injEq] at h1
  subst h1
  exact Kd.closed k80 (o := 1) (w := w) (x := z80) (hs := [(none, 0)]) (bs := [[]]) 0 false (Nat.le_refl 1) rfl (.cons ⟨Nat.zero_le _, .inl ⟨rfl, rfl, rfl⟩⟩ .nil)
theorem mk53 : ∀ (zz : Value) (e : TypeId) (i : TypeInfo), Try.prog.underlying 53 = some (.slice e) → Try.prog.info? e = some i → i.zero = some zz → ∀ w, Kd.rep k88 1 w zz.cells.toList z88 [] := by
  intro zz e i hu hi hz w
  have h1 : (Try.prog.underlying 53).bind (fun d => match d with | .slice e => (Try.prog.info? e).bind (fun i => i.zero) | _ => none) = some (.agg #[.int .i64 0, .int .i64 0, .int .i64 0, .int .i64 0, .int .i64 0]) := by kernel_rfl
  rw [hu] at h1
  simp only [Option.bind_some, hi, hz, Option.some.injEq] at h1
  subst h1
  exact Kd.closed k88 (o := 1) (w := w) (x := z88) (hs := []) (bs := []) 0 false (Nat.le_refl 1) rfl .nil
end Go.Proofs.Ytoncjohnkiilcaa.K
namespace Go.Proofs.Ytoncjohnkiilcaa.K
open Go Go.RowKit
set_option linter.unusedVariables false
set_option linter.unusedSimpArgs false
def good75 (x : S75) : Prop := ((Lit.int .i64 x.f0).wf = true) ∧ ((Lit.int .i64 x.f1).wf = true) ∧ ((Lit.int .i64 x.f2).wf = true)
theorem open75 : Opens Try.prog 75 k75 good75 := opens_struct Try.underlying75 (by kernel_rfl) (.cons rfl (opens_int Try.underlying3 (by kernel_rfl)) (.cons rfl (opens_int Try.underlying3 (by kernel_rfl)) (.one rfl (opens_int Try.underlying3 (by kernel_rfl))))) (fun _ => rfl) (fun _ h => h)
def good107 (x : S107) : Prop := ((x.f0.length ≤ maxLen ∧ ∀ y ∈ x.f0, good75 y)) ∧ ((Lit.int .i64 x.f1).wf = true)
theorem open107 : Opens Try.prog 107 k107 good107 := opens_struct Try.underlying107 (by kernel_rfl) (.cons rfl (opens_slice Try.underlying22 (by kernel_rfl) (by kernel_rfl) open75) (.one rfl (opens_int Try.underlying3 (by kernel_rfl)))) (fun _ => rfl) (fun _ h => h)
def good35 (x : S35) : Prop := ((x.f0.length ≤ maxLen ∧ ∀ y ∈ x.f0, good107 y)) ∧ ((Lit.int .i64 x.f1).wf = true) ∧ (True)
theorem open35 : Opens Try.prog 35 k35 good35 := opens_struct Try.underlying35 (by kernel_rfl) (.cons rfl (opens_slice Try.underlying33 (by kernel_rfl) (by kernel_rfl) open107) (.cons rfl (opens_int Try.underlying3 (by kernel_rfl)) (.one rfl (opens_bool Try.underlying4 (by kernel_rfl))))) (fun _ => rfl) (fun _ h => h)
def good94 (x : S94) : Prop := ((Lit.int .i64 x.f0).wf = true) ∧ ((Lit.int .i64 x.f1).wf = true) ∧ ((Lit.int .i64 x.f2).wf = true) ∧ ((Lit.int .i64 x.f3).wf = true) ∧ ((Lit.int .i64 x.f4).wf = true)
theorem open94 : Opens Try.prog 94 k94 good94 := opens_struct Try.underlying94 (by kernel_rfl) (.cons rfl (opens_int Try.underlying3 (by kernel_rfl)) (.cons rfl (opens_int Try.underlying3 (by kernel_rfl)) (.cons rfl (opens_int Try.underlying3 (by kernel_rfl)) (.cons rfl (opens_int Try.underlying3 (by kernel_rfl)) (.one rfl (opens_int Try.underlying3 (by kernel_rfl))))))) (fun _ => rfl) (fun _ h => h)
end Go.Proofs.Ytoncjohnkiilcaa.K
namespace Go.Proofs.Ytoncjohnkiilcaa.K
open Go Go.RowKit
set_option linter.unusedVariables false
set_option linter.unusedSimpArgs false
def laws_szRowS.f (l0 : List S75) (a1 : Int) : Option (Int) := if (wrap64 (a1 - (l0.length : Int))) < 0 then (some (-1)) else (some (wrap64 (a1 - (l0.length : Int))))
set_option maxHeartbeats 4000000 in
set_option maxRecDepth 100000 in
theorem laws_szRowS.ok (l0 : List S75) (Al0 : Option Addr) (cl0 : Nat) (a1 : Int) (r0 : Int) (H : laws_szRowS.f l0 a1 = some r0) : Fn Try.prog 11 [.slice Al0 l0.length cl0, .int .i64 a1] [] [.sl 0 k75 Al0 cl0 l0 0 false] (fun v bx en => v = .int .i64 r0 ∧ bx = [] ∧ en = []) := by
 refine fn_ 12 Try.func11 rfl rfl rfl (fun base T w0 => ?_)
 rw [laws_szRowS.f] at H
 refine gs (rg (sv (EV.as rfl) rfl (re (gs (rg (sv (EV.mv rfl) rfl (sv (EV.mv rfl) rfl (sv (EV.ln rfl) rfl (sv (EV.sub rfl rfl) rfl (sv (EV.as rfl) rfl (re (pr [1] [] [] rfl rfl rfl rfl (gs (gs (rg (sv (EV.mv rfl) rfl (sv (EV.lss rfl rfl) rfl (re ?_))))))))))))))))))
 revert H; refine ifsI ?_ ?_ <;> intro c1 H
 ·
  refine gt rfl (dT c1) (gs (rg (sv (EV.as rfl) rfl (re ?_))))
  cases H
  exact rt Try.func11 rfl (.tmp rfl .nil) rfl [] [] rfl rfl rfl rfl rfl ⟨rfl, rfl, rfl⟩
 ·
  refine gf rfl (dF c1) (gk (gs (rg (sv (EV.mv rfl) rfl (sv (EV.as rfl) rfl (re ?_))))))
  cases H
  exact rt Try.func11 rfl (.tmp rfl .nil) rfl [] [] rfl rfl rfl rfl rfl ⟨rfl, rfl, rfl⟩
end Go.Proofs.Ytoncjohnkiilcaa.K
namespace Go.Proofs.Ytoncjohnkiilcaa.K
open Go Go.RowKit
set_option linter.unusedVariables false
set_option linter.unusedSimpArgs false
def laws_szGroupTask.f (l0_0 : List S75) (a0_1 : Int) (a1 : Int) : Option (Int) := (laws_szRowS.f l0_0 a1).bind fun t1 => (if t1 < 0 then (some (-1)) else (some t1))
set_option maxHeartbeats 4000000 in
set_option maxRecDepth 100000 in
theorem laws_szGroupTask.ok (l0_0 : List S75) (Al0_0 : Option Addr) (cl0_0 : Nat) (a0_1 : Int) (a1 : Int) (r0 : Int) (H : laws_szGroupTask.f l0_0 a0_1 a1 = some r0) : Fn Try.prog 84 [.agg #[.slice Al0_0 l0_0.length cl0_0, .int .i64 a0_1], .int .i64 a1] [] [.sl 0 k75 Al0_0 cl0_0 l0_0 0 false] (fun v bx en => v = .int .i64 r0 ∧ bx = [] ∧ en = []) := by
 refine fn_ 12 Try.func84 rfl rfl rfl (fun base T w0 => ?_)
 rw [laws_szGroupTask.f] at H
 refine gs (rg (so rfl (op_box (cs := [.slice Al0_0 l0_0.length cl0_0, .int .i64 a0_1]) rfl rfl rfl fun b2 => (sv (EV.as rfl) rfl (re (gs (rg (sv (EV.fa 0 rfl) rfl (sv (EV.ld 0 none rfl rfl rfl) rfl (sv (EV.mv rfl) rfl ?_))))))))))
 revert H; refine bdI ?_; rintro t1 A1 H
 refine so rfl (op_call (laws_szRowS.ok l0_0 Al0_0 cl0_0 a1 _ A1) [⟨0, 0, 0, false⟩] 1 rfl rfl rfl rfl rfl ?_)
 rintro _ _ _ ⟨rfl, rfl, rfl⟩
 refine sv (EV.as rfl) rfl (re (pr [1] [] [] rfl rfl rfl rfl (gs (gs (rg (sv (EV.mv rfl) rfl (sv (EV.lss rfl rfl) rfl (re ?_))))))))
 revert H; refine ifsI ?_ ?_ <;> intro c2 H
 ·
  refine gt rfl (dT c2) (gs (rg (sv (EV.as rfl) rfl (re ?_))))
  cases H
  exact rt Try.func84 rfl (.tmp rfl .nil) rfl [] [] rfl rfl rfl rfl rfl ⟨rfl, rfl, rfl⟩
 ·
  refine gf rfl (dF c2) (gk (gs (rg (sv (EV.mv rfl) rfl (sv (EV.as rfl) rfl (re ?_))))))
  cases H
  exact rt Try.func84 rfl (.tmp rfl .nil) rfl [] [] rfl rfl rfl rfl rfl ⟨rfl, rfl, rfl⟩
end Go.Proofs.Ytoncjohnkiilcaa.K
namespace Go.Proofs.Ytoncjohnkiilcaa.K
open Go Go.RowKit
set_option linter.unusedVariables false
set_option linter.unusedSimpArgs false
def laws_szGroupTaskS.l0 : Nat → Int → Int → (List S107) → Option (Int)
 | 0, _, _, _ => none
 | k + 1, x2_1, x2_5, l0 => if x2_5 < (l0.length : Int) then (if 0 ≤ x2_5 then ((laws_szGroupTask.f ((rd_T107 l0 x2_5).f0) ((rd_T107 l0 x2_5).f1) x2_1).bind fun t5 => (if t5 < 0 then (some (-1)) else (laws_szGroupTaskS.l0 k t5 (wrap64 (x2_5 + 1)) l0))) else none) else (some x2_1)
def laws_szGroupTaskS.f (k : Nat) (l0 : List S107) (a1 : Int) : Option (Int) := if (wrap64 (a1 - (l0.length : Int))) < 0 then (some (-1)) else (laws_szGroupTaskS.l0 k (wrap64 (a1 - (l0.length : Int))) 0 l0)
set_option maxHeartbeats 4000000 in
set_option maxRecDepth 100000 in
theorem laws_szGroupTaskS.ok (k : Nat) (l0 : List S107) (Al0 : Option Addr) (cl0 : Nat) (a1 : Int) (r0 : Int) (H : laws_szGroupTaskS.f k l0 a1 = some r0) : Fn Try.prog 53 [.slice Al0 l0.length cl0, .int .i64 a1] [] [.sl 0 k107 Al0 cl0 l0 0 false] (fun v bx en => v = .int .i64 r0 ∧ bx = [] ∧ en = []) := by
 refine fn_ 27 Try.func53 rfl rfl rfl (fun base T w0 => ?_)
 rw [laws_szGroupTaskS.f] at H
 refine gs (rg (sv (EV.as rfl) rfl (re (gs (rg (sv (EV.mv rfl) rfl (sv (EV.mv rfl) rfl (sv (EV.ln rfl) rfl (sv (EV.sub rfl rfl) rfl (sv (EV.as rfl) rfl (re (gs (gs (rg (sv (EV.mv rfl) rfl (sv (EV.lss rfl rfl) rfl (re (pr [0, 1, 11] [] [0] rfl rfl rfl rfl ?_))))))))))))))))))
 revert H; refine ifsI ?_ ?_ <;> intro c1 H
 ·
  refine gt rfl (dT c1) (gs (rg (sv (EV.as rfl) rfl (re ?_))))
  cases H
  exact rt Try.func53 rfl (.tmp rfl .nil) rfl [] [] rfl rfl rfl rfl rfl ⟨rfl, rfl, rfl⟩
 ·
  refine gf rfl (dF c1) (gk (gs (gs (rg (sv (EV.as rfl) rfl (re (gb ?_)))))))
  refine lo (fun kk S => ∃ (x2_1 : Int) (x2_5 : Int), laws_szGroupTaskS.l0 kk x2_1 x2_5 l0 = some r0 ∧ S = ⟨[(0, .slice Al0 l0.length cl0), (1, .int .i64 x2_1), (5, .int .i64 x2_5)], [], [.sl 0 k107 Al0 cl0 l0 0 false]⟩) (fun S hS => ?_) (fun n0 ih0 S hS => ?_) ⟨wrap64 (a1 - (l0.length : Int)), 0, H, rfl⟩ (fun h => wk [0, 1, 5] [] [⟨0, 0, 0, false⟩] h)
  · clear H; obtain ⟨_, _, H, _⟩ := hS; rw [laws_szGroupTaskS.l0] at H; cases H
  clear H
  obtain ⟨x2_1, x2_5, H, rfl⟩ := hS
  rw [laws_szGroupTaskS.l0] at H
  refine gs (gs (rg (sv (EV.mv rfl) rfl (sv (EV.mv rfl) rfl (sv (EV.ln rfl) rfl (sv (EV.lss rfl rfl) rfl (re ?_)))))))
  revert H; refine ifsI ?_ ?_ <;> intro c2 H
  ·
   refine gt rfl (dT c2) (gk (gs (gb (gs (rg (sv (EV.mv rfl) rfl (sv (EV.mv rfl) rfl ?_)))))))
   revert H; refine ggI ?_; intro g3 H
   refine sv (EV.ix 0 rfl rfl rfl g3 c2 rfl) rfl (opn (i := x2_5) 0 z107 rfl g3 c2 fun A_4 c_4 => (sv (EV.lc (v := .agg #[.slice A_4 ((rd_T107 l0 x2_5).f0).length c_4, .int .i64 ((rd_T107 l0 x2_5).f1)]) 0 (some 2) 1 rfl rfl rfl rfl) rfl (sv (EV.mv rfl) rfl ?_)))
   revert H; refine bdI ?_; rintro t5 A5 H
   refine so rfl (op_call (laws_szGroupTask.ok ((rd_T107 l0 x2_5).f0) A_4 c_4 ((rd_T107 l0 x2_5).f1) x2_1 _ A5) [⟨2, 0, 0, false⟩] 1 rfl rfl rfl rfl rfl ?_)
   rintro _ _ _ ⟨rfl, rfl, rfl⟩
   refine sv (EV.as rfl) rfl (re (pr [0, 1, 5] [] [0] rfl rfl rfl rfl (gs (rg (sv (EV.mv rfl) rfl (sv (EV.lss rfl rfl) rfl (re ?_)))))))
   revert H; refine ifsI ?_ ?_ <;> intro c6 H
   ·
    refine gt rfl (dT c6) (gs (rg (sv (EV.as rfl) rfl (re ?_))))
    cases H
    exact rt Try.func53 rfl (.tmp rfl .nil) rfl [] [] rfl rfl rfl rfl rfl ⟨rfl, rfl, rfl⟩
   ·
    exact gf rfl (dF c6) (gk (ge (rg (sv (EV.mv rfl) rfl (sv (EV.add rfl rfl) rfl (sv (EV.as rfl) rfl (re (wk [0, 1, 5] [] [⟨0, 0, 0, false⟩] (ih0 _ (by omega) _ ⟨t5, wrap64 (x2_5 + 1), H, rfl⟩)))))))))
  ·
   refine gf rfl (dF c2) (gx rfl (gs (rg (sv (EV.mv rfl) rfl (sv (EV.as rfl) rfl (re (pr [4] [] [] rfl rfl rfl rfl ?_)))))))
   cases H
   exact rt Try.func53 rfl (.tmp rfl .nil) rfl [] [] rfl rfl rfl rfl rfl ⟨rfl, rfl, rfl⟩
end Go.Proofs.Ytoncjohnkiilcaa.K
namespace Go.Proofs.Ytoncjohnkiilcaa.K
open Go Go.RowKit
set_option linter.unusedVariables false
set_option linter.unusedSimpArgs false
def laws_szAggregator.f (k : Nat) (l0_0 : List S107) (a0_1 : Int) (a0_2 : Bool) (a1 : Int) : Option (Int) := (laws_szGroupTaskS.f k l0_0 a1).bind fun t1 => (if t1 < 0 then (some (-1)) else (some t1))
set_option maxHeartbeats 4000000 in
set_option maxRecDepth 100000 in
theorem laws_szAggregator.ok (k : Nat) (l0_0 : List S107) (Al0_0 : Option Addr) (cl0_0 : Nat) (a0_1 : Int) (a0_2 : Bool) (a1 : Int) (r0 : Int) (H : laws_szAggregator.f k l0_0 a0_1 a0_2 a1 = some r0) : Fn Try.prog 20 [.agg #[.slice Al0_0 l0_0.length cl0_0, .int .i64 a0_1, .bool a0_2], .int .i64 a1] [] [.sl 0 k107 Al0_0 cl0_0 l0_0 0 false] (fun v bx en => v = .int .i64 r0 ∧ bx = [] ∧ en = []) := by
 refine fn_ 12 Try.func20 rfl rfl rfl (fun base T w0 => ?_)
 rw [laws_szAggregator.f] at H
 refine gs (rg (so rfl (op_box (cs := [.slice Al0_0 l0_0.length cl0_0, .int .i64 a0_1, .bool a0_2]) rfl rfl rfl fun b2 => (sv (EV.as rfl) rfl (re (gs (rg (sv (EV.fa 0 rfl) rfl (sv (EV.ld 0 none rfl rfl rfl) rfl (sv (EV.mv rfl) rfl ?_))))))))))
 revert H; refine bdI ?_; rintro t1 A1 H
 refine so rfl (op_call (laws_szGroupTaskS.ok k l0_0 Al0_0 cl0_0 a1 _ A1) [⟨0, 0, 0, false⟩] 1 rfl rfl rfl rfl rfl ?_)
 rintro _ _ _ ⟨rfl, rfl, rfl⟩
 refine sv (EV.as rfl) rfl (re (pr [1] [] [] rfl rfl rfl rfl (gs (gs (rg (sv (EV.mv rfl) rfl (sv (EV.lss rfl rfl) rfl (re ?_))))))))
 revert H; refine ifsI ?_ ?_ <;> intro c2 H
 ·
  refine gt rfl (dT c2) (gs (rg (sv (EV.as rfl) rfl (re ?_))))
  cases H
  exact rt Try.func20 rfl (.tmp rfl .nil) rfl [] [] rfl rfl rfl rfl rfl ⟨rfl, rfl, rfl⟩
 ·
  refine gf rfl (dF c2) (gk (gs (rg (sv (EV.mv rfl) rfl (sv (EV.as rfl) rfl (re ?_))))))
  cases H
  exact rt Try.func20 rfl (.tmp rfl .nil) rfl [] [] rfl rfl rfl rfl rfl ⟨rfl, rfl, rfl⟩
end Go.Proofs.Ytoncjohnkiilcaa.K
namespace Go.Proofs.Ytoncjohnkiilcaa.K
open Go Go.RowKit
set_option linter.unusedVariables false
set_option linter.unusedSimpArgs false
def laws_toRow.f (a0_0 : Int) (a0_1 : Int) (a0_2 : Int) : Option (Int × Int × Int) := some (a0_0, a0_1, a0_2)
set_option maxHeartbeats 4000000 in
set_option maxRecDepth 100000 in
theorem laws_toRow.ok (a0_0 : Int) (a0_1 : Int) (a0_2 : Int) (r0 : Int) (r1 : Int) (r2 : Int) (H : laws_toRow.f a0_0 a0_1 a0_2 = some (r0, r1, r2)) : Fn Try.prog 51 [.agg #[.int .i64 a0_0, .int .i64 a0_1, .int .i64 a0_2]] [] [] (fun v bx en => v = .agg #[.int .i64 r0, .int .i64 r1, .int .i64 r2] ∧ bx = [] ∧ en = []) := by
 refine fn_ 14 Try.func51 rfl rfl rfl (fun base T w0 => ?_)
 rw [laws_toRow.f] at H
 refine gs (rg (so rfl (op_box (cs := [.int .i64 a0_0, .int .i64 a0_1, .int .i64 a0_2]) rfl rfl rfl fun b1 => (so rfl (op_alloc (cs := [.int .i64 0, .int .i64 0, .int .i64 0]) (by kernel_rfl) rfl fun b2 => (re (gs (rg (so rfl (op_alloc (cs := [.int .i64 0, .int .i64 0, .int .i64 0]) (by kernel_rfl) rfl fun b3 => (re (gs (rg (sv (EV.fa 0 rfl) rfl (sv (EV.ld 0 none rfl rfl rfl) rfl (sv (EV.fa 0 rfl) rfl (so rfl (op_st (cs' := [.int .i64 a0_0, .int .i64 0, .int .i64 0]) 2 rfl rfl rfl rfl rfl rfl (re (gs (rg (sv (EV.fa 1 rfl) rfl (sv (EV.ld 0 none rfl rfl rfl) rfl (sv (EV.fa 1 rfl) rfl (so rfl (op_st (cs' := [.int .i64 a0_0, .int .i64 a0_1, .int .i64 0]) 2 rfl rfl rfl rfl rfl rfl (re (pr [1, 2, 3] [0, 1, 2] [] rfl rfl rfl rfl (gs ?_)))))))))))))))))))))))))))))
 refine rg (sv (EV.fa 2 rfl) rfl (sv (EV.ld 0 none rfl rfl rfl) rfl (sv (EV.fa 2 rfl) rfl (so rfl (op_st (cs' := [.int .i64 a0_0, .int .i64 a0_1, .int .i64 a0_2]) 2 rfl rfl rfl rfl rfl rfl (re (gs (rg (sv (EV.ld (v := .agg #[.int .i64 a0_0, .int .i64 a0_1, .int .i64 a0_2]) 2 (some 3) rfl rfl rfl) rfl (so rfl (op_st (cs' := [.int .i64 a0_0, .int .i64 a0_1, .int .i64 a0_2]) 1 rfl rfl rfl rfl rfl rfl (re (pr [2] [1] [] rfl rfl rfl rfl ?_)))))))))))))
 cases H
 exact rt Try.func51 rfl (.cell 0 (some 3) rfl rfl rfl .nil) rfl [] [] rfl rfl rfl rfl rfl ⟨rfl, rfl, rfl⟩
end Go.Proofs.Ytoncjohnkiilcaa.K
namespace Go.Proofs.Ytoncjohnkiilcaa.K
open Go Go.RowKit
set_option linter.unusedVariables false
set_option linter.unusedSimpArgs false
def laws_toRowS.l0 : Nat → (List S73) → Int → (List S75) → Option ((List S73))
 | 0, _, _, _ => none
 | k + 1, x2_3, x2_4, l0 => if x2_4 < (l0.length : Int) then (if 0 ≤ x2_4 then ((laws_toRow.f ((rd_T75 l0 x2_4).f0) ((rd_T75 l0 x2_4).f1) ((rd_T75 l0 x2_4).f2)).bind fun bt6 => (if x2_4 < (x2_3.length : Int) then ((some (x2_3.set x2_4.toNat (⟨bt6.1, bt6.2.1, bt6.2.2⟩ : S73))).bind fun s8 => (laws_toRowS.l0 k s8 (wrap64 (x2_4 + 1)) l0)) else none)) else none) else (some x2_3)
def laws_toRowS.f (k : Nat) (l0 : List S75) : Option ((List S73)) := if 0 ≤ (l0.length : Int) then (if (l0.length : Int).toNat ≤ 5864062014805 then (laws_toRowS.l0 k (List.replicate (l0.length : Int).toNat z73) 0 l0) else none) else none
set_option maxHeartbeats 4000000 in
set_option maxRecDepth 100000 in
theorem laws_toRowS.ok (k : Nat) (l0 : List S75) (Al0 : Option Addr) (cl0 : Nat) (r0 : List S73) (H : laws_toRowS.f k l0 = some r0) : Fn Try.prog 13 [.slice Al0 l0.length cl0] [] [.sl 0 k75 Al0 cl0 l0 0 false] (fun v bx en => ∃ A0 c0, v = .slice A0 r0.length c0 ∧ bx = [] ∧ en = [.sl 2 k73 A0 c0 r0 1 true]) := by
 refine fn_ 23 Try.func13 rfl rfl rfl (fun base T w0 => ?_)
 rw [laws_toRowS.f] at H
 refine gs (rg (sv (EV.as rfl) rfl (re (gs (rg (sv (EV.mv rfl) rfl (sv (EV.ln rfl) rfl ?_)))))))
 revert H; refine ggI ?_; intro g1 H
 revert H; refine ggI ?_; intro g2 H
 refine so rfl (op_mk (s := 3) (by_ := 24) k73 z73 1 rfl rfl g1 (mk1 g2 dq) (mk2 g2 dq) mk26 rfl rfl dq rfl fun A7_3 c7_3 => (sv (EV.as rfl) rfl (re (gs (gs (rg (sv (EV.as rfl) rfl (re (gb ?_)))))))))
 refine lo (fun kk S => ∃ (x2_3 : List S73) (Ax2_3 : Option Addr) (cx2_3 : Nat) (x2_4 : Int), laws_toRowS.l0 kk x2_3 x2_4 l0 = some r0 ∧ S = ⟨[(0, .slice Al0 l0.length cl0), (3, .slice Ax2_3 x2_3.length cx2_3), (4, .int .i64 x2_4)], [], [.sl 2 k73 Ax2_3 cx2_3 x2_3 1 true, .sl 0 k75 Al0 cl0 l0 0 false]⟩) (fun S hS => ?_) (fun n0 ih0 S hS => ?_) ⟨List.replicate (l0.length : Int).toNat z73, A7_3, c7_3, 0, H, rfl⟩ (fun h => wk [0, 3, 4] [] [⟨1, 2, 1, true⟩, ⟨0, 0, 0, false⟩] h)
 · clear H; obtain ⟨_, _, _, _, H, _⟩ := hS; rw [laws_toRowS.l0] at H; cases H
 clear H
 obtain ⟨x2_3, Ax2_3, cx2_3, x2_4, H, rfl⟩ := hS
 rw [laws_toRowS.l0] at H
 refine gs (gs (rg (sv (EV.mv rfl) rfl (sv (EV.mv rfl) rfl (sv (EV.ln rfl) rfl (sv (EV.lss rfl rfl) rfl (re ?_)))))))
 revert H; refine ifsI ?_ ?_ <;> intro c4 H
 ·
  refine gt rfl (dT c4) (gk (gs (gb (rg (sv (EV.mv rfl) rfl (sv (EV.mv rfl) rfl (sv (EV.mv rfl) rfl (sv (EV.mv rfl) rfl ?_))))))))
  revert H; refine ggI ?_; intro g5 H
  refine sv (EV.ix 1 rfl rfl rfl g5 c4 rfl) rfl (sv (EV.le (v := .agg #[.int .i64 ((rd_T75 l0 x2_4).f0), .int .i64 ((rd_T75 l0 x2_4).f1), .int .i64 ((rd_T75 l0 x2_4).f2)]) x2_4 0 (some 3) 1 z75 rfl rfl rfl g5 c4 rfl rfl rfl) rfl ?_)
  revert H; refine bdI ?_; rintro ⟨t6_0, t6_1, t6_2⟩ A6 H
  refine so rfl (op_call (laws_toRow.ok ((rd_T75 l0 x2_4).f0) ((rd_T75 l0 x2_4).f1) ((rd_T75 l0 x2_4).f2) _ _ _ A6) [] 2 rfl rfl rfl rfl rfl ?_)
  rintro _ _ _ ⟨rfl, rfl, rfl⟩
  revert H; refine ggI ?_; intro g7 H
  refine sv (EV.ix 0 rfl rfl rfl g5 g7 rfl) rfl ?_
  revert H; refine bdI ?_; intro s8 A8 H; have q8 := stl (Option.some.inj A8)
  exact so rfl (op_stg x2_4 0 0 z73 (⟨t6_0, t6_1, t6_2⟩ : S73) (Option.some.inj A8) rfl rfl rfl rfl g5 g7 rfl rfl rfl rfl dq rfl (rlT 3 (v' := .slice Ax2_3 s8.length cx2_3) rfl (slq _ _ q8) (rlT 14 (v' := .slice Ax2_3 s8.length cx2_3) rfl (slq _ _ q8) (nmE (en := [.sl 0 k75 Al0 cl0 l0 0 false, .sl 2 k73 Ax2_3 cx2_3 s8 1 true]) (by kernel_rfl) (re (pr [0, 3, 4] [] [0, 1] rfl rfl rfl rfl (ge (rg (sv (EV.mv rfl) rfl (sv (EV.add rfl rfl) rfl (sv (EV.as rfl) rfl (re (wk [0, 3, 4] [] [⟨1, 2, 1, true⟩, ⟨0, 0, 0, false⟩] (ih0 _ (by omega) _ ⟨s8, Ax2_3, cx2_3, wrap64 (x2_4 + 1), H, rfl⟩))))))))))))))
 ·
  refine gf rfl (dF c4) (gx rfl (gs (rg (sv (EV.mv rfl) rfl (sv (EV.as rfl) rfl (re (pr [2] [] [0] rfl rfl rfl rfl ?_)))))))
  cases H
  exact rt Try.func13 rfl (.tmp rfl .nil) rfl [] [⟨0, 2, 1, true⟩] rfl rfl rfl rfl rfl ⟨_, _, rfl, rfl, rfl⟩
end Go.Proofs.Ytoncjohnkiilcaa.K
namespace Go.Proofs.Ytoncjohnkiilcaa.K
open Go Go.RowKit
set_option linter.unusedVariables false
set_option linter.unusedSimpArgs false
def laws_toGroupTask.f (k : Nat) (l0_0 : List S75) (a0_1 : Int) : Option ((List S73) × Int) := (laws_toRowS.f k l0_0).bind fun t1 => (some (t1, a0_1))
set_option maxHeartbeats 4000000 in
set_option maxRecDepth 100000 in
theorem laws_toGroupTask.ok (k : Nat) (l0_0 : List S75) (Al0_0 : Option Addr) (cl0_0 : Nat) (a0_1 : Int) (r0 : List S73) (r1 : Int) (H : laws_toGroupTask.f k l0_0 a0_1 = some (r0, r1)) : Fn Try.prog 85 [.agg #[.slice Al0_0 l0_0.length cl0_0, .int .i64 a0_1]] [] [.sl 0 k75 Al0_0 cl0_0 l0_0 0 false] (fun v bx en => ∃ A0 c0, v = .agg #[.slice A0 r0.length c0, .int .i64 r1] ∧ bx = [] ∧ en = [.sl 2 k73 A0 c0 r0 1 true]) := by
 refine fn_ 12 Try.func85 rfl rfl rfl (fun base T w0 => ?_)
 rw [laws_toGroupTask.f] at H
 refine gs (rg (so rfl (op_box (cs := [.slice Al0_0 l0_0.length cl0_0, .int .i64 a0_1]) rfl rfl rfl fun b1 => (so rfl (op_alloc (cs := [.slice none 0 0, .int .i64 0]) (by kernel_rfl) rfl fun b2 => (re (gs (rg (so rfl (op_alloc (cs := [.slice none 0 0, .int .i64 0]) (by kernel_rfl) rfl fun b3 => (re (gs (rg (sv (EV.fa 0 rfl) rfl (sv (EV.ld 0 none rfl rfl rfl) rfl ?_)))))))))))))))
 revert H; refine bdI ?_; rintro t1 A1 H
 refine so rfl (op_call (laws_toRowS.ok k l0_0 Al0_0 cl0_0 _ A1) [⟨0, 0, 0, false⟩] 1 rfl rfl rfl rfl rfl ?_)
 rintro _ _ _ ⟨At1, ct1, rfl, rfl, rfl⟩
 refine sv (EV.fa 0 rfl) rfl (so rfl (op_st (cs' := [.slice At1 t1.length ct1, .int .i64 0]) 2 rfl rfl rfl rfl rfl rfl (re (gs (rg (sv (EV.fa 1 rfl) rfl (sv (EV.ld 0 none rfl rfl rfl) rfl (sv (EV.fa 1 rfl) rfl (so rfl (op_st (cs' := [.slice At1 t1.length ct1, .int .i64 a0_1]) 2 rfl rfl rfl rfl rfl rfl (re (pr [2, 3] [1, 2] [1] rfl rfl rfl rfl (gs (rg (sv (EV.ld (v := .agg #[.slice At1 t1.length ct1, .int .i64 a0_1]) 1 (some 2) rfl rfl rfl) rfl (so rfl (op_st (cs' := [.slice At1 t1.length ct1, .int .i64 a0_1]) 0 rfl rfl rfl rfl rfl rfl (re ?_))))))))))))))))))
 cases H
 exact rt Try.func85 rfl (.cell 0 (some 2) rfl rfl rfl .nil) rfl [] [⟨0, 2, 1, true⟩] rfl rfl rfl rfl rfl ⟨_, _, rfl, rfl, rfl⟩
end Go.Proofs.Ytoncjohnkiilcaa.K
namespace Go.Proofs.Ytoncjohnkiilcaa.K
open Go Go.RowKit
set_option linter.unusedVariables false
set_option linter.unusedSimpArgs false
def laws_toGroupTaskS.l0 : Nat → (List S80) → Int → (List S107) → Option ((List S80))
 | 0, _, _, _ => none
 | k + 1, x2_3, x2_4, l0 => if x2_4 < (l0.length : Int) then (if 0 ≤ x2_4 then ((laws_toGroupTask.f k ((rd_T107 l0 x2_4).f0) ((rd_T107 l0 x2_4).f1)).bind fun bt7 => (if x2_4 < (x2_3.length : Int) then ((some (x2_3.set x2_4.toNat (⟨bt7.1, bt7.2⟩ : S80))).bind fun s10 => (laws_toGroupTaskS.l0 k s10 (wrap64 (x2_4 + 1)) l0)) else none)) else none) else (some x2_3)
def laws_toGroupTaskS.f (k : Nat) (l0 : List S107) : Option ((List S80)) := if 0 ≤ (l0.length : Int) then (if (l0.length : Int).toNat ≤ 4398046511104 then (laws_toGroupTaskS.l0 k (List.replicate (l0.length : Int).toNat z80) 0 l0) else none) else none
set_option maxHeartbeats 4000000 in
set_option maxRecDepth 100000 in
theorem laws_toGroupTaskS.ok (k : Nat) (l0 : List S107) (Al0 : Option Addr) (cl0 : Nat) (r0 : List S80) (H : laws_toGroupTaskS.f k l0 = some r0) : Fn Try.prog 55 [.slice Al0 l0.length cl0] [] [.sl 0 k107 Al0 cl0 l0 0 false] (fun v bx en => ∃ A0 c0, v = .slice A0 r0.length c0 ∧ bx = [] ∧ en = [.sl 2 k80 A0 c0 r0 1 true]) := by
 refine fn_ 23 Try.func55 rfl rfl rfl (fun base T w0 => ?_)
 rw [laws_toGroupTaskS.f] at H
 refine gs (rg (sv (EV.as rfl) rfl (re (gs (rg (sv (EV.mv rfl) rfl (sv (EV.ln rfl) rfl ?_)))))))
 revert H; refine ggI ?_; intro g1 H
 revert H; refine ggI ?_; intro g2 H
 refine so rfl (op_mk (s := 2) (by_ := 32) k80 z80 1 rfl rfl g1 (mk1 g2 dq) (mk2 g2 dq) mk38 rfl rfl dq rfl fun A7_3 c7_3 => (sv (EV.as rfl) rfl (re (gs (gs (rg (sv (EV.as rfl) rfl (re (gb ?_)))))))))
 refine lo (fun kk S => ∃ (x2_3 : List S80) (Ax2_3 : Option Addr) (cx2_3 : Nat) (x2_4 : Int), laws_toGroupTaskS.l0 kk x2_3 x2_4 l0 = some r0 ∧ S = ⟨[(0, .slice Al0 l0.length cl0), (3, .slice Ax2_3 x2_3.length cx2_3), (4, .int .i64 x2_4)], [], [.sl 2 k80 Ax2_3 cx2_3 x2_3 1 true, .sl 0 k107 Al0 cl0 l0 0 false]⟩) (fun S hS => ?_) (fun n0 ih0 S hS => ?_) ⟨List.replicate (l0.length : Int).toNat z80, A7_3, c7_3, 0, H, rfl⟩ (fun h => wk [0, 3, 4] [] [⟨1, 2, 1, true⟩, ⟨0, 0, 0, false⟩] h)
 · clear H; obtain ⟨_, _, _, _, H, _⟩ := hS; rw [laws_toGroupTaskS.l0] at H; cases H
 clear H
 obtain ⟨x2_3, Ax2_3, cx2_3, x2_4, H, rfl⟩ := hS
 rw [laws_toGroupTaskS.l0] at H
 refine gs (gs (rg (sv (EV.mv rfl) rfl (sv (EV.mv rfl) rfl (sv (EV.ln rfl) rfl (sv (EV.lss rfl rfl) rfl (re ?_)))))))
 revert H; refine ifsI ?_ ?_ <;> intro c4 H
 ·
  refine gt rfl (dT c4) (gk (gs (gb (rg (sv (EV.mv rfl) rfl (sv (EV.mv rfl) rfl (sv (EV.mv rfl) rfl (sv (EV.mv rfl) rfl ?_))))))))
  revert H; refine ggI ?_; intro g5 H
  refine sv (EV.ix 1 rfl rfl rfl g5 c4 rfl) rfl (opn (i := x2_4) 1 z107 rfl g5 c4 fun A_6 c_6 => (sv (EV.lc (v := .agg #[.slice A_6 ((rd_T107 l0 x2_4).f0).length c_6, .int .i64 ((rd_T107 l0 x2_4).f1)]) 0 (some 2) 2 rfl rfl rfl rfl) rfl ?_))
  revert H; refine bdI ?_; rintro ⟨t7_0, t7_1⟩ A7 H
  refine so rfl (op_call (laws_toGroupTask.ok n0 ((rd_T107 l0 x2_4).f0) A_6 c_6 ((rd_T107 l0 x2_4).f1) _ _ A7) [⟨3, 0, 0, false⟩] 2 rfl rfl rfl rfl rfl ?_)
  rintro _ _ _ ⟨At7_0, ct7_0, rfl, rfl, rfl⟩
  revert H; refine ggI ?_; intro g8 H
  refine sv (EV.ix 0 rfl rfl rfl g5 g8 rfl) rfl (opn (i := x2_4) 0 z80 rfl g5 g8 fun A_9 c_9 => (opnH (i := x2_4) (s := 2) (cls' := 1) [(A_9, c_9)] 0 5 4 z80 rfl rfl (by kernel_rfl) g5 g8 dq rfl rfl (nmE (en := [.sl 0 k107 Al0 cl0 l0 0 false, celE Al0 (x2_4.toNat * 2) [.slice A_6 ((rd_T107 l0 x2_4).f0).length c_6, .int .i64 ((rd_T107 l0 x2_4).f1)] 0, .sl 0 k75 A_6 c_6 ((rd_T107 l0 x2_4).f0) 0 false, .sl 2 k73 At7_0 ct7_0 t7_0 3 true, holE k80 2 Ax2_3 cx2_3 x2_3 x2_4.toNat [.slice A_9 ((rd_T80 x2_3 x2_4).f0).length c_9, .int .i64 ((rd_T80 x2_3 x2_4).f1)] 4, .sl 1 k73 A_9 c_9 ((rd_T80 x2_3 x2_4).f0) 5 true]) (by kernel_rfl) (so rfl (op_sth (cs' := [.slice At7_0 t7_0.length ct7_0, .int .i64 t7_1]) 0 4 rfl rfl rfl rfl rfl (by kernel_rfl) rfl rfl (nmE (en := [.sl 0 k107 Al0 cl0 l0 0 false, celE Al0 (x2_4.toNat * 2) [.slice A_6 ((rd_T107 l0 x2_4).f0).length c_6, .int .i64 ((rd_T107 l0 x2_4).f1)] 0, .sl 0 k75 A_6 c_6 ((rd_T107 l0 x2_4).f0) 0 false, .sl 2 k73 At7_0 ct7_0 t7_0 3 true, .sl 1 k73 A_9 c_9 ((rd_T80 x2_3 x2_4).f0) 5 true, holE k80 2 Ax2_3 cx2_3 x2_3 x2_4.toNat [.slice At7_0 t7_0.length ct7_0, .int .i64 t7_1] 4]) (by kernel_rfl) ?_))))))
  revert H; refine bdI ?_; intro s10 A10 H; have q10 := stl (Option.some.inj A10)
  exact hcl 5 (⟨t7_0, t7_1⟩ : S80) [(At7_0, ct7_0)] [3] (Option.some.inj A10) rfl (by kernel_rfl) rfl (by kernel_rfl) (by kernel_rfl) (by kernel_rfl) (nmE (en := [.sl 0 k107 Al0 cl0 l0 0 false, celE Al0 (x2_4.toNat * 2) [.slice A_6 ((rd_T107 l0 x2_4).f0).length c_6, .int .i64 ((rd_T107 l0 x2_4).f1)] 0, .sl 0 k75 A_6 c_6 ((rd_T107 l0 x2_4).f0) 0 false, .sl 2 k73 At7_0 ct7_0 t7_0 4 true, .sl 1 k73 A_9 c_9 ((rd_T80 x2_3 x2_4).f0) 5 true, .sl 2 k80 Ax2_3 cx2_3 s10 4 true]) (by kernel_rfl) (rlT 3 (v' := .slice Ax2_3 s10.length cx2_3) rfl (slq _ _ q10) (rlT 14 (v' := .slice Ax2_3 s10.length cx2_3) rfl (slq _ _ q10) (re (pr [0, 3, 4] [] [0, 5] rfl rfl rfl rfl (ge (rg (sv (EV.mv rfl) rfl (sv (EV.add rfl rfl) rfl (sv (EV.as rfl) rfl (re (wk [0, 3, 4] [] [⟨1, 2, 1, true⟩, ⟨0, 0, 0, false⟩] (ih0 _ (by omega) _ ⟨s10, Ax2_3, cx2_3, wrap64 (x2_4 + 1), H, rfl⟩)))))))))))))
 ·
  refine gf rfl (dF c4) (gx rfl (gs (rg (sv (EV.mv rfl) rfl (sv (EV.as rfl) rfl (re (pr [2] [] [0] rfl rfl rfl rfl ?_)))))))
  cases H
  exact rt Try.func55 rfl (.tmp rfl .nil) rfl [] [⟨0, 2, 1, true⟩] rfl rfl rfl rfl rfl ⟨_, _, rfl, rfl, rfl⟩
end Go.Proofs.Ytoncjohnkiilcaa.K
namespace Go.Proofs.Ytoncjohnkiilcaa.K
open Go Go.RowKit
set_option linter.unusedVariables false
set_option linter.unusedSimpArgs false
def laws_toAggregator.f (k : Nat) (l0_0 : List S107) (a0_1 : Int) (a0_2 : Bool) : Option ((List S80) × Int × Bool) := (laws_toGroupTaskS.f k l0_0).bind fun t1 => (some (t1, a0_1, a0_2))
set_option maxHeartbeats 4000000 in
set_option maxRecDepth 100000 in
theorem laws_toAggregator.ok (k : Nat) (l0_0 : List S107) (Al0_0 : Option Addr) (cl0_0 : Nat) (a0_1 : Int) (a0_2 : Bool) (r0 : List S80) (r1 : Int) (r2 : Bool) (H : laws_toAggregator.f k l0_0 a0_1 a0_2 = some (r0, r1, r2)) : Fn Try.prog 22 [.agg #[.slice Al0_0 l0_0.length cl0_0, .int .i64 a0_1, .bool a0_2]] [] [.sl 0 k107 Al0_0 cl0_0 l0_0 0 false] (fun v bx en => ∃ A0 c0, v = .agg #[.slice A0 r0.length c0, .int .i64 r1, .bool r2] ∧ bx = [] ∧ en = [.sl 2 k80 A0 c0 r0 1 true]) := by
 refine fn_ 15 Try.func22 rfl rfl rfl (fun base T w0 => ?_)
 rw [laws_toAggregator.f] at H
 refine gs (rg (so rfl (op_box (cs := [.slice Al0_0 l0_0.length cl0_0, .int .i64 a0_1, .bool a0_2]) rfl rfl rfl fun b1 => (so rfl (op_alloc (cs := [.slice none 0 0, .int .i64 0, .bool false]) (by kernel_rfl) rfl fun b2 => (re (gs (rg (so rfl (op_alloc (cs := [.slice none 0 0, .int .i64 0, .bool false]) (by kernel_rfl) rfl fun b3 => (re (gs (rg (sv (EV.fa 0 rfl) rfl (sv (EV.ld 0 none rfl rfl rfl) rfl ?_)))))))))))))))
 revert H; refine bdI ?_; rintro t1 A1 H
 refine so rfl (op_call (laws_toGroupTaskS.ok k l0_0 Al0_0 cl0_0 _ A1) [⟨0, 0, 0, false⟩] 1 rfl rfl rfl rfl rfl ?_)
 rintro _ _ _ ⟨At1, ct1, rfl, rfl, rfl⟩
 refine sv (EV.fa 0 rfl) rfl (so rfl (op_st (cs' := [.slice At1 t1.length ct1, .int .i64 0, .bool false]) 2 rfl rfl rfl rfl rfl rfl (re (gs (rg (sv (EV.fa 1 rfl) rfl (sv (EV.ld 0 none rfl rfl rfl) rfl (sv (EV.fa 1 rfl) rfl (so rfl (op_st (cs' := [.slice At1 t1.length ct1, .int .i64 a0_1, .bool false]) 2 rfl rfl rfl rfl rfl rfl (re (pr [1, 2, 3] [0, 1, 2] [0, 1] rfl rfl rfl rfl (gs (rg (sv (EV.fa 2 rfl) rfl (sv (EV.ld 0 none rfl rfl rfl) rfl (sv (EV.fa 2 rfl) rfl (so rfl (op_st (cs' := [.slice At1 t1.length ct1, .int .i64 a0_1, .bool a0_2]) 2 rfl rfl rfl rfl rfl rfl (re (gs (rg (sv (EV.ld (v := .agg #[.slice At1 t1.length ct1, .int .i64 a0_1, .bool a0_2]) 2 (some 3) rfl rfl rfl) rfl (so rfl (op_st (cs' := [.slice At1 t1.length ct1, .int .i64 a0_1, .bool a0_2]) 1 rfl rfl rfl rfl rfl rfl (re (pr [2] [1] [1] rfl rfl rfl rfl ?_)))))))))))))))))))))))))))
 cases H
 exact rt Try.func22 rfl (.cell 0 (some 3) rfl rfl rfl .nil) rfl [] [⟨0, 2, 1, true⟩] rfl rfl rfl rfl rfl ⟨_, _, rfl, rfl, rfl⟩
end Go.Proofs.Ytoncjohnkiilcaa.K
namespace Go.Proofs.Ytoncjohnkiilcaa.K
open Go Go.RowKit
set_option linter.unusedVariables false
set_option linter.unusedSimpArgs false
def laws_eqRow.f (a0_0 : Int) (a0_1 : Int) (a0_2 : Int) (a1_0 : Int) (a1_1 : Int) (a1_2 : Int) : Option (Bool) := if a0_0 = a1_0 then (if a0_1 = a1_1 then (if a0_2 = a1_2 then (some true) else (some false)) else (some false)) else (some false)
set_option maxHeartbeats 4000000 in
set_option maxRecDepth 100000 in
theorem laws_eqRow.ok (a0_0 : Int) (a0_1 : Int) (a0_2 : Int) (a1_0 : Int) (a1_1 : Int) (a1_2 : Int) (r0 : Bool) (H : laws_eqRow.f a0_0 a0_1 a0_2 a1_0 a1_1 a1_2 = some r0) : Fn Try.prog 52 [.agg #[.int .i64 a0_0, .int .i64 a0_1, .int .i64 a0_2], .agg #[.int .i64 a1_0, .int .i64 a1_1, .int .i64 a1_2]] [] [] (fun v bx en => v = .bool r0 ∧ bx = [] ∧ en = []) := by
 refine fn_ 20 Try.func52 rfl rfl rfl (fun base T w0 => ?_)
 rw [laws_eqRow.f] at H
 refine gs (rg (so rfl (op_box (cs := [.int .i64 a0_0, .int .i64 a0_1, .int .i64 a0_2]) rfl rfl rfl fun b2 => (so rfl (op_box (cs := [.int .i64 a1_0, .int .i64 a1_1, .int .i64 a1_2]) rfl rfl rfl fun b3 => (sv (EV.as rfl) rfl (re (gs (gs (rg (sv (EV.fa 0 rfl) rfl (sv (EV.ld 0 none rfl rfl rfl) rfl (sv (EV.fa 0 rfl) rfl (sv (EV.ld 1 none rfl rfl rfl) rfl (sv (EV.neq rfl rfl) rfl (re (pr [2, 3, 9] [0, 1] [] rfl rfl rfl rfl ?_)))))))))))))))))
 revert H; refine ifsI ?_ ?_ <;> intro c1 H
 ·
  refine gf rfl (nF c1) (gk (gs (gs (rg (sv (EV.fa 1 rfl) rfl (sv (EV.ld 0 none rfl rfl rfl) rfl (sv (EV.fa 1 rfl) rfl (sv (EV.ld 1 none rfl rfl rfl) rfl (sv (EV.neq rfl rfl) rfl (re ?_))))))))))
  revert H; refine ifsI ?_ ?_ <;> intro c2 H
  ·
   refine gf rfl (nF c2) (gk (gs (gs (rg (sv (EV.fa 2 rfl) rfl (sv (EV.ld 0 none rfl rfl rfl) rfl (sv (EV.fa 2 rfl) rfl (sv (EV.ld 1 none rfl rfl rfl) rfl (sv (EV.neq rfl rfl) rfl (re (pr [19] [] [] rfl rfl rfl rfl ?_)))))))))))
   revert H; refine ifsI ?_ ?_ <;> intro c3 H
   ·
    refine gf rfl (nF c3) (gk (gs (rg (sv (EV.as rfl) rfl (re ?_)))))
    cases H
    exact rt Try.func52 rfl (.tmp rfl .nil) rfl [] [] rfl rfl rfl rfl rfl ⟨rfl, rfl, rfl⟩
   ·
    refine gt rfl (nT c3) (gs (rg (sv (EV.as rfl) rfl (re ?_))))
    cases H
    exact rt Try.func52 rfl (.tmp rfl .nil) rfl [] [] rfl rfl rfl rfl rfl ⟨rfl, rfl, rfl⟩
  ·
   refine gt rfl (nT c2) (gs (rg (sv (EV.as rfl) rfl (re (pr [4] [] [] rfl rfl rfl rfl ?_)))))
   cases H
   exact rt Try.func52 rfl (.tmp rfl .nil) rfl [] [] rfl rfl rfl rfl rfl ⟨rfl, rfl, rfl⟩
 ·
  refine gt rfl (nT c1) (gs (rg (sv (EV.as rfl) rfl (re ?_))))
  cases H
  exact rt Try.func52 rfl (.tmp rfl .nil) rfl [] [] rfl rfl rfl rfl rfl ⟨rfl, rfl, rfl⟩
end Go.Proofs.Ytoncjohnkiilcaa.K
namespace Go.Proofs.Ytoncjohnkiilcaa.K
open Go Go.RowKit
set_option linter.unusedVariables false
set_option linter.unusedSimpArgs false
def laws_eqRowS.l0 : Nat → Int → (List S73) → (List S73) → Option (Bool)
 | 0, _, _, _ => none
 | k + 1, x2_5, l0, l1 => if x2_5 < (l0.length : Int) then (if 0 ≤ x2_5 then (if x2_5 < (l1.length : Int) then ((laws_eqRow.f ((rd_T73 l0 x2_5).f0) ((rd_T73 l0 x2_5).f1) ((rd_T73 l0 x2_5).f2) ((rd_T73 l1 x2_5).f0) ((rd_T73 l1 x2_5).f1) ((rd_T73 l1 x2_5).f2)).bind fun t5 => (if t5 = true then (laws_eqRowS.l0 k (wrap64 (x2_5 + 1)) l0 l1) else (some false))) else none) else none) else (some true)
def laws_eqRowS.f (k : Nat) (l0 : List S73) (l1 : List S73) : Option (Bool) := if (l0.length : Int) = (l1.length : Int) then (laws_eqRowS.l0 k 0 l0 l1) else (some false)
set_option maxHeartbeats 4000000 in
set_option maxRecDepth 100000 in
theorem laws_eqRowS.ok (k : Nat) (l0 : List S73) (Al0 : Option Addr) (cl0 : Nat) (l1 : List S73) (Al1 : Option Addr) (cl1 : Nat) (r0 : Bool) (H : laws_eqRowS.f k l0 l1 = some r0) : Fn Try.prog 16 [.slice Al0 l0.length cl0, .slice Al1 l1.length cl1] [] [.sl 0 k73 Al0 cl0 l0 0 false, .sl 0 k73 Al1 cl1 l1 0 false] (fun v bx en => v = .bool r0 ∧ bx = [] ∧ en = []) := by
 refine fn_ 27 Try.func16 rfl rfl rfl (fun base T w0 => ?_)
 rw [laws_eqRowS.f] at H
 refine gs (rg (sv (EV.as rfl) rfl (re (gs (gs (rg (sv (EV.mv rfl) rfl (sv (EV.ln rfl) rfl (sv (EV.mv rfl) rfl (sv (EV.ln rfl) rfl (sv (EV.neq rfl rfl) rfl (re ?_))))))))))))
 revert H; refine ifsI ?_ ?_ <;> intro c1 H
 ·
  refine gf rfl (nF c1) (gk (gs (gs (rg (sv (EV.as rfl) rfl (re (pr [0, 1, 5] [] [0, 1] rfl rfl rfl rfl (gb ?_))))))))
  refine lo (fun kk S => ∃ (x2_5 : Int), laws_eqRowS.l0 kk x2_5 l0 l1 = some r0 ∧ S = ⟨[(0, .slice Al0 l0.length cl0), (1, .slice Al1 l1.length cl1), (5, .int .i64 x2_5)], [], [.sl 0 k73 Al0 cl0 l0 0 false, .sl 0 k73 Al1 cl1 l1 0 false]⟩) (fun S hS => ?_) (fun n0 ih0 S hS => ?_) ⟨0, H, rfl⟩ (fun h => wk [0, 1, 5] [] [⟨0, 0, 0, false⟩, ⟨1, 0, 0, false⟩] h)
  · clear H; obtain ⟨_, H, _⟩ := hS; rw [laws_eqRowS.l0] at H; cases H
  clear H
  obtain ⟨x2_5, H, rfl⟩ := hS
  rw [laws_eqRowS.l0] at H
  refine gs (gs (rg (sv (EV.mv rfl) rfl (sv (EV.mv rfl) rfl (sv (EV.ln rfl) rfl (sv (EV.lss rfl rfl) rfl (re ?_)))))))
  revert H; refine ifsI ?_ ?_ <;> intro c2 H
  ·
   refine gt rfl (dT c2) (gk (gs (gb (gs ?_))))
   revert H; refine ggI ?_; intro g3 H
   revert H; refine ggI ?_; intro g4 H
   refine dr [] [0, 1] [] 10 rfl rfl rfl rfl (xv 0 [] [0, 1] rfl (EV.mv rfl) rfl rfl rfl rfl (xv 1 [] [0, 1] rfl (EV.mv rfl) rfl rfl rfl rfl (xv 2 [] [0, 1] rfl (EV.ix 0 rfl rfl rfl g3 c2 rfl) rfl rfl rfl rfl (xv 3 [] [0, 1] rfl (EV.le (v := .agg #[.int .i64 ((rd_T73 l0 x2_5).f0), .int .i64 ((rd_T73 l0 x2_5).f1), .int .i64 ((rd_T73 l0 x2_5).f2)]) x2_5 0 (some 3) 0 z73 rfl rfl rfl g3 c2 rfl rfl rfl) rfl rfl rfl rfl (xv 4 [] [0, 1] rfl (EV.mv rfl) rfl rfl rfl rfl (xv 5 [] [0, 1] rfl (EV.mv rfl) rfl rfl rfl rfl (xv 6 [] [0, 1] rfl (EV.ix 1 rfl rfl rfl g3 g4 rfl) rfl rfl rfl rfl (xv 7 [] [0, 1] rfl (EV.le (v := .agg #[.int .i64 ((rd_T73 l1 x2_5).f0), .int .i64 ((rd_T73 l1 x2_5).f1), .int .i64 ((rd_T73 l1 x2_5).f2)]) x2_5 0 (some 3) 1 z73 rfl rfl rfl g3 g4 rfl rfl rfl) rfl rfl rfl rfl (one1 8 rfl rfl ?_)))))))))
   revert H; refine bdI ?_; rintro t5 A5 H
   refine op_call (laws_eqRow.ok ((rd_T73 l0 x2_5).f0) ((rd_T73 l0 x2_5).f1) ((rd_T73 l0 x2_5).f2) ((rd_T73 l1 x2_5).f0) ((rd_T73 l1 x2_5).f1) ((rd_T73 l1 x2_5).f2) _ A5) [] 1 rfl rfl rfl rfl rfl ?_
   rintro _ _ _ ⟨rfl, rfl, rfl⟩
   refine xs [] [0, 1] rfl rfl rfl (xv 9 [] [0, 1] rfl (EV.nt rfl) rfl rfl rfl rfl (xd (pr [0, 1, 5, 26] [] [0, 1] rfl rfl rfl rfl ?_)))
   revert H; refine ifsI ?_ ?_ <;> intro c6 H
   ·
    subst c6
    exact gf rfl rfl (gk (ge (rg (sv (EV.mv rfl) rfl (sv (EV.add rfl rfl) rfl (sv (EV.as rfl) rfl (re (wk [0, 1, 5] [] [⟨0, 0, 0, false⟩, ⟨1, 0, 0, false⟩] (ih0 _ (by omega) _ ⟨wrap64 (x2_5 + 1), H, rfl⟩)))))))))
   ·
    obtain rfl := bF c6
    refine gt rfl rfl (gs (rg (sv (EV.as rfl) rfl (re ?_))))
    cases H
    exact rt Try.func16 rfl (.tmp rfl .nil) rfl [] [] rfl rfl rfl rfl rfl ⟨rfl, rfl, rfl⟩
  ·
   refine gf rfl (dF c2) (gx rfl (gs (rg (sv (EV.as rfl) rfl (re (pr [4] [] [] rfl rfl rfl rfl ?_))))))
   cases H
   exact rt Try.func16 rfl (.tmp rfl .nil) rfl [] [] rfl rfl rfl rfl rfl ⟨rfl, rfl, rfl⟩
 ·
  refine gt rfl (nT c1) (gs (rg (sv (EV.as rfl) rfl (re (pr [4] [] [] rfl rfl rfl rfl ?_)))))
  cases H
  exact rt Try.func16 rfl (.tmp rfl .nil) rfl [] [] rfl rfl rfl rfl rfl ⟨rfl, rfl, rfl⟩
end Go.Proofs.Ytoncjohnkiilcaa.K
namespace Go.Proofs.Ytoncjohnkiilcaa.K
open Go Go.RowKit
set_option linter.unusedVariables false
set_option linter.unusedSimpArgs false
def laws_eqGroupTask.f (k : Nat) (l0_0 : List S73) (a0_1 : Int) (l1_0 : List S73) (a1_1 : Int) : Option (Bool) := (laws_eqRowS.f k l0_0 l1_0).bind fun t1 => (if t1 = true then (if a0_1 = a1_1 then (some true) else (some false)) else (some false))
set_option maxHeartbeats 4000000 in
set_option maxRecDepth 100000 in
theorem laws_eqGroupTask.ok (k : Nat) (l0_0 : List S73) (Al0_0 : Option Addr) (cl0_0 : Nat) (a0_1 : Int) (l1_0 : List S73) (Al1_0 : Option Addr) (cl1_0 : Nat) (a1_1 : Int) (r0 : Bool) (H : laws_eqGroupTask.f k l0_0 a0_1 l1_0 a1_1 = some r0) : Fn Try.prog 86 [.agg #[.slice Al0_0 l0_0.length cl0_0, .int .i64 a0_1], .agg #[.slice Al1_0 l1_0.length cl1_0, .int .i64 a1_1]] [] [.sl 0 k73 Al0_0 cl0_0 l0_0 0 false, .sl 0 k73 Al1_0 cl1_0 l1_0 0 false] (fun v bx en => v = .bool r0 ∧ bx = [] ∧ en = []) := by
 refine fn_ 16 Try.func86 rfl rfl rfl (fun base T w0 => ?_)
 rw [laws_eqGroupTask.f] at H
 refine gs (rg (so rfl (op_box (cs := [.slice Al0_0 l0_0.length cl0_0, .int .i64 a0_1]) rfl rfl rfl fun b2 => (so rfl (op_box (cs := [.slice Al1_0 l1_0.length cl1_0, .int .i64 a1_1]) rfl rfl rfl fun b3 => (sv (EV.as rfl) rfl (re (gs (gs (rg (sv (EV.fa 0 rfl) rfl (sv (EV.ld 0 none rfl rfl rfl) rfl (sv (EV.fa 0 rfl) rfl (sv (EV.ld 1 none rfl rfl rfl) rfl ?_))))))))))))))
 revert H; refine bdI ?_; rintro t1 A1 H
 refine so rfl (op_call (laws_eqRowS.ok k l0_0 Al0_0 cl0_0 l1_0 Al1_0 cl1_0 _ A1) [⟨0, 0, 0, false⟩, ⟨1, 0, 0, false⟩] 1 rfl rfl rfl rfl rfl ?_)
 rintro _ _ _ ⟨rfl, rfl, rfl⟩
 refine sv (EV.nt rfl) rfl (re (pr [2, 3, 10] [0, 1] [0, 1] rfl rfl rfl rfl ?_))
 revert H; refine ifsI ?_ ?_ <;> intro c2 H
 ·
  subst c2
  refine gf rfl rfl (gk (gs (gs (rg (sv (EV.fa 1 rfl) rfl (sv (EV.ld 0 none rfl rfl rfl) rfl (sv (EV.fa 1 rfl) rfl (sv (EV.ld 1 none rfl rfl rfl) rfl (sv (EV.neq rfl rfl) rfl (re (pr [15] [] [] rfl rfl rfl rfl ?_)))))))))))
  revert H; refine ifsI ?_ ?_ <;> intro c3 H
  ·
   refine gf rfl (nF c3) (gk (gs (rg (sv (EV.as rfl) rfl (re ?_)))))
   cases H
   exact rt Try.func86 rfl (.tmp rfl .nil) rfl [] [] rfl rfl rfl rfl rfl ⟨rfl, rfl, rfl⟩
  ·
   refine gt rfl (nT c3) (gs (rg (sv (EV.as rfl) rfl (re ?_))))
   cases H
   exact rt Try.func86 rfl (.tmp rfl .nil) rfl [] [] rfl rfl rfl rfl rfl ⟨rfl, rfl, rfl⟩
 ·
  obtain rfl := bF c2
  refine gt rfl rfl (gs (rg (sv (EV.as rfl) rfl (re ?_))))
  cases H
  exact rt Try.func86 rfl (.tmp rfl .nil) rfl [] [] rfl rfl rfl rfl rfl ⟨rfl, rfl, rfl⟩
end Go.Proofs.Ytoncjohnkiilcaa.K
namespace Go.Proofs.Ytoncjohnkiilcaa.K
open Go Go.RowKit
set_option linter.unusedVariables false
set_option linter.unusedSimpArgs false
def laws_eqGroupTaskS.l0 : Nat → Int → (List S80) → (List S80) → Option (Bool)
 | 0, _, _, _ => none
 | k + 1, x2_5, l0, l1 => if x2_5 < (l0.length : Int) then (if 0 ≤ x2_5 then (if x2_5 < (l1.length : Int) then ((laws_eqGroupTask.f k ((rd_T80 l0 x2_5).f0) ((rd_T80 l0 x2_5).f1) ((rd_T80 l1 x2_5).f0) ((rd_T80 l1 x2_5).f1)).bind fun t7 => (if t7 = true then (laws_eqGroupTaskS.l0 k (wrap64 (x2_5 + 1)) l0 l1) else (some false))) else none) else none) else (some true)
def laws_eqGroupTaskS.f (k : Nat) (l0 : List S80) (l1 : List S80) : Option (Bool) := if (l0.length : Int) = (l1.length : Int) then (laws_eqGroupTaskS.l0 k 0 l0 l1) else (some false)
set_option maxHeartbeats 4000000 in
set_option maxRecDepth 100000 in
theorem laws_eqGroupTaskS.ok (k : Nat) (l0 : List S80) (Al0 : Option Addr) (cl0 : Nat) (l1 : List S80) (Al1 : Option Addr) (cl1 : Nat) (r0 : Bool) (H : laws_eqGroupTaskS.f k l0 l1 = some r0) : Fn Try.prog 57 [.slice Al0 l0.length cl0, .slice Al1 l1.length cl1] [] [.sl 0 k80 Al0 cl0 l0 0 false, .sl 0 k80 Al1 cl1 l1 0 false] (fun v bx en => v = .bool r0 ∧ bx = [] ∧ en = []) := by
 refine fn_ 27 Try.func57 rfl rfl rfl (fun base T w0 => ?_)
 rw [laws_eqGroupTaskS.f] at H
 refine gs (rg (sv (EV.as rfl) rfl (re (gs (gs (rg (sv (EV.mv rfl) rfl (sv (EV.ln rfl) rfl (sv (EV.mv rfl) rfl (sv (EV.ln rfl) rfl (sv (EV.neq rfl rfl) rfl (re ?_))))))))))))
 revert H; refine ifsI ?_ ?_ <;> intro c1 H
 ·
  refine gf rfl (nF c1) (gk (gs (gs (rg (sv (EV.as rfl) rfl (re (pr [0, 1, 5] [] [0, 1] rfl rfl rfl rfl (gb ?_))))))))
  refine lo (fun kk S => ∃ (x2_5 : Int), laws_eqGroupTaskS.l0 kk x2_5 l0 l1 = some r0 ∧ S = ⟨[(0, .slice Al0 l0.length cl0), (1, .slice Al1 l1.length cl1), (5, .int .i64 x2_5)], [], [.sl 0 k80 Al0 cl0 l0 0 false, .sl 0 k80 Al1 cl1 l1 0 false]⟩) (fun S hS => ?_) (fun n0 ih0 S hS => ?_) ⟨0, H, rfl⟩ (fun h => wk [0, 1, 5] [] [⟨0, 0, 0, false⟩, ⟨1, 0, 0, false⟩] h)
  · clear H; obtain ⟨_, H, _⟩ := hS; rw [laws_eqGroupTaskS.l0] at H; cases H
  clear H
  obtain ⟨x2_5, H, rfl⟩ := hS
  rw [laws_eqGroupTaskS.l0] at H
  refine gs (gs (rg (sv (EV.mv rfl) rfl (sv (EV.mv rfl) rfl (sv (EV.ln rfl) rfl (sv (EV.lss rfl rfl) rfl (re ?_)))))))
  revert H; refine ifsI ?_ ?_ <;> intro c2 H
  ·
   refine gt rfl (dT c2) (gk (gs (gb (gs ?_))))
   revert H; refine ggI ?_; intro g3 H
   refine opn (i := x2_5) 0 z80 rfl g3 c2 fun A_4 c_4 => ?_
   revert H; refine ggI ?_; intro g5 H
   refine opn (i := x2_5) 1 z80 rfl g3 g5 fun A_6 c_6 => (dr [] [0, 1, 2, 3, 4, 5] [] 10 rfl rfl rfl rfl (xv 0 [] [0, 1, 2, 3, 4, 5] rfl (EV.mv rfl) rfl rfl rfl rfl (xv 1 [] [0, 1, 2, 3, 4, 5] rfl (EV.mv rfl) rfl rfl rfl rfl (xv 2 [] [0, 1, 2, 3, 4, 5] rfl (EV.ix 0 rfl rfl rfl g3 c2 rfl) rfl rfl rfl rfl (xv 3 [] [0, 1, 2, 3, 4, 5] rfl (EV.lc (v := .agg #[.slice A_4 ((rd_T80 l0 x2_5).f0).length c_4, .int .i64 ((rd_T80 l0 x2_5).f1)]) 0 (some 2) 2 rfl rfl rfl rfl) rfl rfl rfl rfl (xv 4 [] [0, 1, 2, 3, 4, 5] rfl (EV.mv rfl) rfl rfl rfl rfl (xv 5 [] [0, 1, 2, 3, 4, 5] rfl (EV.mv rfl) rfl rfl rfl rfl (xv 6 [] [0, 1, 2, 3, 4, 5] rfl (EV.ix 1 rfl rfl rfl g3 g5 rfl) rfl rfl rfl rfl (xv 7 [] [0, 1, 2, 3, 4, 5] rfl (EV.lc (v := .agg #[.slice A_6 ((rd_T80 l1 x2_5).f0).length c_6, .int .i64 ((rd_T80 l1 x2_5).f1)]) 0 (some 2) 4 rfl rfl rfl rfl) rfl rfl rfl rfl (one1 8 rfl rfl ?_))))))))))
   revert H; refine bdI ?_; rintro t7 A7 H
   refine op_call (laws_eqGroupTask.ok n0 ((rd_T80 l0 x2_5).f0) A_4 c_4 ((rd_T80 l0 x2_5).f1) ((rd_T80 l1 x2_5).f0) A_6 c_6 ((rd_T80 l1 x2_5).f1) _ A7) [⟨3, 0, 0, false⟩, ⟨5, 0, 0, false⟩] 1 rfl rfl rfl rfl rfl ?_
   rintro _ _ _ ⟨rfl, rfl, rfl⟩
   refine xs [] [0, 1, 2, 3, 4, 5] rfl rfl rfl (xv 9 [] [0, 1, 2, 3, 4, 5] rfl (EV.nt rfl) rfl rfl rfl rfl (xd (pr [0, 1, 5, 26] [] [0, 1] rfl rfl rfl rfl ?_)))
   revert H; refine ifsI ?_ ?_ <;> intro c8 H
   ·
    subst c8
    exact gf rfl rfl (gk (ge (rg (sv (EV.mv rfl) rfl (sv (EV.add rfl rfl) rfl (sv (EV.as rfl) rfl (re (wk [0, 1, 5] [] [⟨0, 0, 0, false⟩, ⟨1, 0, 0, false⟩] (ih0 _ (by omega) _ ⟨wrap64 (x2_5 + 1), H, rfl⟩)))))))))
   ·
    obtain rfl := bF c8
    refine gt rfl rfl (gs (rg (sv (EV.as rfl) rfl (re ?_))))
    cases H
    exact rt Try.func57 rfl (.tmp rfl .nil) rfl [] [] rfl rfl rfl rfl rfl ⟨rfl, rfl, rfl⟩
  ·
   refine gf rfl (dF c2) (gx rfl (gs (rg (sv (EV.as rfl) rfl (re (pr [4] [] [] rfl rfl rfl rfl ?_))))))
   cases H
   exact rt Try.func57 rfl (.tmp rfl .nil) rfl [] [] rfl rfl rfl rfl rfl ⟨rfl, rfl, rfl⟩
 ·
  refine gt rfl (nT c1) (gs (rg (sv (EV.as rfl) rfl (re (pr [4] [] [] rfl rfl rfl rfl ?_)))))
  cases H
  exact rt Try.func57 rfl (.tmp rfl .nil) rfl [] [] rfl rfl rfl rfl rfl ⟨rfl, rfl, rfl⟩
end Go.Proofs.Ytoncjohnkiilcaa.K
namespace Go.Proofs.Ytoncjohnkiilcaa.K
open Go Go.RowKit
set_option linter.unusedVariables false
set_option linter.unusedSimpArgs false
def laws_eqAggregator.f (k : Nat) (l0_0 : List S80) (a0_1 : Int) (a0_2 : Bool) (l1_0 : List S80) (a1_1 : Int) (a1_2 : Bool) : Option (Bool) := (laws_eqGroupTaskS.f k l0_0 l1_0).bind fun t1 => (if t1 = true then (if a0_1 = a1_1 then (if (a0_2 == a1_2) = true then (some true) else (some false)) else (some false)) else (some false))
set_option maxHeartbeats 4000000 in
set_option maxRecDepth 100000 in
theorem laws_eqAggregator.ok (k : Nat) (l0_0 : List S80) (Al0_0 : Option Addr) (cl0_0 : Nat) (a0_1 : Int) (a0_2 : Bool) (l1_0 : List S80) (Al1_0 : Option Addr) (cl1_0 : Nat) (a1_1 : Int) (a1_2 : Bool) (r0 : Bool) (H : laws_eqAggregator.f k l0_0 a0_1 a0_2 l1_0 a1_1 a1_2 = some r0) : Fn Try.prog 24 [.agg #[.slice Al0_0 l0_0.length cl0_0, .int .i64 a0_1, .bool a0_2], .agg #[.slice Al1_0 l1_0.length cl1_0, .int .i64 a1_1, .bool a1_2]] [] [.sl 0 k80 Al0_0 cl0_0 l0_0 0 false, .sl 0 k80 Al1_0 cl1_0 l1_0 0 false] (fun v bx en => v = .bool r0 ∧ bx = [] ∧ en = []) := by
 refine fn_ 21 Try.func24 rfl rfl rfl (fun base T w0 => ?_)
 rw [laws_eqAggregator.f] at H
 refine gs (rg (so rfl (op_box (cs := [.slice Al0_0 l0_0.length cl0_0, .int .i64 a0_1, .bool a0_2]) rfl rfl rfl fun b2 => (so rfl (op_box (cs := [.slice Al1_0 l1_0.length cl1_0, .int .i64 a1_1, .bool a1_2]) rfl rfl rfl fun b3 => (sv (EV.as rfl) rfl (re (gs (gs (rg (sv (EV.fa 0 rfl) rfl (sv (EV.ld 0 none rfl rfl rfl) rfl (sv (EV.fa 0 rfl) rfl (sv (EV.ld 1 none rfl rfl rfl) rfl ?_))))))))))))))
 revert H; refine bdI ?_; rintro t1 A1 H
 refine so rfl (op_call (laws_eqGroupTaskS.ok k l0_0 Al0_0 cl0_0 l1_0 Al1_0 cl1_0 _ A1) [⟨0, 0, 0, false⟩, ⟨1, 0, 0, false⟩] 1 rfl rfl rfl rfl rfl ?_)
 rintro _ _ _ ⟨rfl, rfl, rfl⟩
 refine sv (EV.nt rfl) rfl (re (pr [2, 3, 10] [0, 1] [0, 1] rfl rfl rfl rfl ?_))
 revert H; refine ifsI ?_ ?_ <;> intro c2 H
 ·
  subst c2
  refine gf rfl rfl (gk (gs (gs (rg (sv (EV.fa 1 rfl) rfl (sv (EV.ld 0 none rfl rfl rfl) rfl (sv (EV.fa 1 rfl) rfl (sv (EV.ld 1 none rfl rfl rfl) rfl (sv (EV.neq rfl rfl) rfl (re ?_))))))))))
  revert H; refine ifsI ?_ ?_ <;> intro c3 H
  ·
   refine gf rfl (nF c3) (gk (gs (gs (rg (sv (EV.fa 2 rfl) rfl (sv (EV.ld 0 none rfl rfl rfl) rfl (sv (EV.fa 2 rfl) rfl (sv (EV.ld 1 none rfl rfl rfl) rfl (sv (EV.neb rfl rfl) rfl (re (pr [20] [] [] rfl rfl rfl rfl ?_)))))))))))
   revert H; refine ifsI ?_ ?_ <;> intro c4 H
   ·
    refine gf rfl (bN c4) (gk (gs (rg (sv (EV.as rfl) rfl (re ?_)))))
    cases H
    exact rt Try.func24 rfl (.tmp rfl .nil) rfl [] [] rfl rfl rfl rfl rfl ⟨rfl, rfl, rfl⟩
   ·
    refine gt rfl (bM c4) (gs (rg (sv (EV.as rfl) rfl (re ?_))))
    cases H
    exact rt Try.func24 rfl (.tmp rfl .nil) rfl [] [] rfl rfl rfl rfl rfl ⟨rfl, rfl, rfl⟩
  ·
   refine gt rfl (nT c3) (gs (rg (sv (EV.as rfl) rfl (re (pr [4] [] [] rfl rfl rfl rfl ?_)))))
   cases H
   exact rt Try.func24 rfl (.tmp rfl .nil) rfl [] [] rfl rfl rfl rfl rfl ⟨rfl, rfl, rfl⟩
 ·
  obtain rfl := bF c2
  refine gt rfl rfl (gs (rg (sv (EV.as rfl) rfl (re ?_))))
  cases H
  exact rt Try.func24 rfl (.tmp rfl .nil) rfl [] [] rfl rfl rfl rfl rfl ⟨rfl, rfl, rfl⟩
end Go.Proofs.Ytoncjohnkiilcaa.K
namespace Go.Proofs.Ytoncjohnkiilcaa.K
open Go Go.RowKit
set_option linter.unusedVariables false
set_option linter.unusedSimpArgs false
def laws_markRowS.l0 : Nat → (List S73) → Int → Int → Option (Int × (List S73))
 | 0, _, _, _ => none
 | k + 1, x2_ml0, x2_1, x2_5 => if x2_5 < (x2_ml0.length : Int) then (if 0 ≤ x2_5 then ((some (x2_ml0.set x2_5.toNat (⟨x2_1, (rd_T73 x2_ml0 x2_5).f1, (rd_T73 x2_ml0 x2_5).f2⟩ : S73))).bind fun s3 => (if x2_5 < (s3.length : Int) then ((some (s3.set x2_5.toNat (⟨(rd_T73 s3 x2_5).f0, wrap64 (x2_1 + 1), (rd_T73 s3 x2_5).f2⟩ : S73))).bind fun s5 => (if x2_5 < (s5.length : Int) then ((some (s5.set x2_5.toNat (⟨(rd_T73 s5 x2_5).f0, (rd_T73 s5 x2_5).f1, wrap64 ((wrap64 (x2_1 + 1)) + 1)⟩ : S73))).bind fun s7 => (laws_markRowS.l0 k s7 (wrap64 ((wrap64 ((wrap64 (x2_1 + 1)) + 1)) + 1)) (wrap64 (x2_5 + 1)))) else none)) else none)) else none) else (some (x2_1, x2_ml0))
def laws_markRowS.f (k : Nat) (l0 : List S73) (a1 : Int) : Option (Int × (List S73)) := laws_markRowS.l0 k l0 a1 0
set_option maxHeartbeats 4000000 in
set_option maxRecDepth 100000 in
theorem laws_markRowS.ok (k : Nat) (l0 : List S73) (Al0 : Option Addr) (cl0 : Nat) (a1 : Int) (r0 : Int) (r1 : List S73) (H : laws_markRowS.f k l0 a1 = some (r0, r1)) : Fn Try.prog 17 [.slice Al0 l0.length cl0, .int .i64 a1] [] [.sl 1 k73 Al0 cl0 l0 1 false] (fun v bx en => v = .int .i64 r0 ∧ bx = [] ∧ en = [.sl 1 k73 Al0 cl0 r1 1 false] ∧ r1.length = l0.length) := by
 refine fn_ 34 Try.func17 rfl rfl rfl (fun base T w0 => ?_)
 rw [laws_markRowS.f] at H
 refine gs (rg (sv (EV.as rfl) rfl (re (gs (gs (rg (sv (EV.as rfl) rfl (re (gb ?_)))))))))
 refine lo (fun kk S => ∃ (x2_ml0 : List S73) (x2_1 : Int) (x2_5 : Int), laws_markRowS.l0 kk x2_ml0 x2_1 x2_5 = some (r0, r1) ∧ x2_ml0.length = l0.length ∧ S = ⟨[(0, .slice Al0 x2_ml0.length cl0), (1, .int .i64 x2_1), (5, .int .i64 x2_5)], [], [.sl 1 k73 Al0 cl0 x2_ml0 1 false]⟩) (fun S hS => ?_) (fun n0 ih0 S hS => ?_) ⟨l0, a1, 0, H, (by first | rfl | assumption | omega | (simp only [List.length_set]; first | done | assumption | omega)), rfl⟩ (fun h => wk [0, 1, 5] [] [⟨0, 1, 1, false⟩] h)
 · clear H; obtain ⟨_, _, _, H, _⟩ := hS; rw [laws_markRowS.l0] at H; cases H
 clear H
 obtain ⟨x2_ml0, x2_1, x2_5, H, ex2_ml0, rfl⟩ := hS
 rw [laws_markRowS.l0] at H
 refine gs (gs (rg (sv (EV.mv rfl) rfl (sv (EV.mv rfl) rfl (sv (EV.ln rfl) rfl (sv (EV.lss rfl rfl) rfl (re ?_)))))))
 revert H; refine ifsI ?_ ?_ <;> intro c1 H
 ·
  refine gt rfl (dT c1) (gk (gs (gb (gs (rg (sv (EV.mv rfl) rfl (sv (EV.mv rfl) rfl (sv (EV.mv rfl) rfl ?_))))))))
  revert H; refine ggI ?_; intro g2 H
  refine sv (EV.ix 0 rfl rfl rfl g2 c1 rfl) rfl (sv (EV.fa 0 rfl) rfl ?_)
  revert H; refine bdI ?_; intro s3 A3 H; have q3 := stl (Option.some.inj A3)
  refine so rfl (op_stg x2_5 0 0 z73 (⟨x2_1, (rd_T73 x2_ml0 x2_5).f1, (rd_T73 x2_ml0 x2_5).f2⟩ : S73) (Option.some.inj A3) rfl rfl rfl rfl g2 c1 rfl rfl rfl rfl dq rfl (rlT 0 (v' := .slice Al0 s3.length cl0) rfl (slq _ _ q3) (rlT 7 (v' := .slice Al0 s3.length cl0) rfl (slq _ _ q3) (rlT 12 (v' := .slice Al0 s3.length cl0) rfl (slq _ _ q3) (nmE (en := [.sl 1 k73 Al0 cl0 s3 1 true]) (by kernel_rfl) (re (pr [0, 1, 5] [] [0] rfl rfl rfl rfl (gs (rg (sv (EV.mv rfl) rfl (sv (EV.add rfl rfl) rfl (sv (EV.as rfl) rfl (re (gs (rg (sv (EV.mv rfl) rfl (sv (EV.mv rfl) rfl (sv (EV.mv rfl) rfl ?_))))))))))))))))))
  revert H; refine ggI ?_; intro g4 H
  refine sv (EV.ix 0 rfl rfl rfl g2 g4 rfl) rfl (sv (EV.fa 1 rfl) rfl ?_)
  revert H; refine bdI ?_; intro s5 A5 H; have q5 := stl (Option.some.inj A5)
  refine so rfl (op_stg x2_5 1 0 z73 (⟨(rd_T73 s3 x2_5).f0, wrap64 (x2_1 + 1), (rd_T73 s3 x2_5).f2⟩ : S73) (Option.some.inj A5) rfl rfl rfl rfl g2 g4 rfl rfl rfl rfl dq rfl (rlT 0 (v' := .slice Al0 s5.length cl0) rfl (slq _ _ q5) (rlT 19 (v' := .slice Al0 s5.length cl0) rfl (slq _ _ q5) (nmE (en := [.sl 1 k73 Al0 cl0 s5 1 true]) (by kernel_rfl) (re (gs (rg (sv (EV.mv rfl) rfl (sv (EV.add rfl rfl) rfl (sv (EV.as rfl) rfl (re (pr [0, 1, 5] [] [0] rfl rfl rfl rfl (gs (rg (sv (EV.mv rfl) rfl (sv (EV.mv rfl) rfl (sv (EV.mv rfl) rfl ?_)))))))))))))))))
  revert H; refine ggI ?_; intro g6 H
  refine sv (EV.ix 0 rfl rfl rfl g2 g6 rfl) rfl (sv (EV.fa 2 rfl) rfl ?_)
  revert H; refine bdI ?_; intro s7 A7 H; have q7 := stl (Option.some.inj A7)
  exact so rfl (op_stg x2_5 2 0 z73 (⟨(rd_T73 s5 x2_5).f0, (rd_T73 s5 x2_5).f1, wrap64 ((wrap64 (x2_1 + 1)) + 1)⟩ : S73) (Option.some.inj A7) rfl rfl rfl rfl g2 g6 rfl rfl rfl rfl dq rfl (rlT 0 (v' := .slice Al0 s7.length cl0) rfl (slq _ _ q7) (rlT 26 (v' := .slice Al0 s7.length cl0) rfl (slq _ _ q7) (nmE (en := [.sl 1 k73 Al0 cl0 s7 1 true]) (by kernel_rfl) (re (rg (sv (EV.mv rfl) rfl (sv (EV.add rfl rfl) rfl (sv (EV.as rfl) rfl (re (ge (rg (sv (EV.mv rfl) rfl (sv (EV.add rfl rfl) rfl (sv (EV.as rfl) rfl (re (pr [0, 1, 5] [] [0] rfl rfl rfl rfl (wk [0, 1, 5] [] [⟨0, 1, 1, false⟩] (ih0 _ (by omega) _ ⟨s7, wrap64 ((wrap64 ((wrap64 (x2_1 + 1)) + 1)) + 1), wrap64 (x2_5 + 1), H, (by first | rfl | assumption | omega | (simp only [List.length_set]; first | done | assumption | omega)), rfl⟩)))))))))))))))))))
 ·
  refine gf rfl (dF c1) (gx rfl (gs (rg (sv (EV.mv rfl) rfl (sv (EV.as rfl) rfl (re (pr [4] [] [0] rfl rfl rfl rfl ?_)))))))
  cases H
  exact rt Try.func17 rfl (.tmp rfl .nil) rfl [] [⟨0, 1, 1, false⟩] rfl rfl rfl rfl rfl ⟨rfl, rfl, rfl, by first | rfl | assumption | omega | (simp only [List.length_set]; first | done | assumption | omega)⟩
end Go.Proofs.Ytoncjohnkiilcaa.K
namespace Go.Proofs.Ytoncjohnkiilcaa.K
open Go Go.RowKit
set_option linter.unusedVariables false
set_option linter.unusedSimpArgs false
def laws_markGroupTaskS.l0 : Nat → (List S80) → Int → Int → Option (Int × (List S80))
 | 0, _, _, _ => none
 | k + 1, x2_ml0, x2_1, x2_5 => if x2_5 < (x2_ml0.length : Int) then (if 0 ≤ x2_5 then ((laws_markRowS.f k ((rd_T80 x2_ml0 x2_5).f0) x2_1).bind fun bt4 => ((some (x2_ml0.set x2_5.toNat (⟨bt4.2, (rd_T80 x2_ml0 x2_5).f1⟩ : S80))).bind fun s5 => (if x2_5 < (s5.length : Int) then ((some (s5.set x2_5.toNat (⟨(rd_T80 s5 x2_5).f0, bt4.1⟩ : S80))).bind fun s8 => (laws_markGroupTaskS.l0 k s8 (wrap64 (bt4.1 + 1)) (wrap64 (x2_5 + 1)))) else none))) else none) else (some (x2_1, x2_ml0))
def laws_markGroupTaskS.f (k : Nat) (l0 : List S80) (a1 : Int) : Option (Int × (List S80)) := laws_markGroupTaskS.l0 k l0 a1 0
set_option maxHeartbeats 4000000 in
set_option maxRecDepth 100000 in
theorem laws_markGroupTaskS.ok (k : Nat) (l0 : List S80) (Al0 : Option Addr) (cl0 : Nat) (a1 : Int) (r0 : Int) (r1 : List S80) (H : laws_markGroupTaskS.f k l0 a1 = some (r0, r1)) : Fn Try.prog 63 [.slice Al0 l0.length cl0, .int .i64 a1] [] [.sl 1 k80 Al0 cl0 l0 1 true] (fun v bx en => v = .int .i64 r0 ∧ bx = [] ∧ en = [.sl 1 k80 Al0 cl0 r1 1 true] ∧ r1.length = l0.length) := by
 refine fn_ 27 Try.func63 rfl rfl rfl (fun base T w0 => ?_)
 rw [laws_markGroupTaskS.f] at H
 refine gs (rg (sv (EV.as rfl) rfl (re (gs (gs (rg (sv (EV.as rfl) rfl (re (gb ?_)))))))))
 refine lo (fun kk S => ∃ (x2_ml0 : List S80) (x2_1 : Int) (x2_5 : Int), laws_markGroupTaskS.l0 kk x2_ml0 x2_1 x2_5 = some (r0, r1) ∧ x2_ml0.length = l0.length ∧ S = ⟨[(0, .slice Al0 x2_ml0.length cl0), (1, .int .i64 x2_1), (5, .int .i64 x2_5)], [], [.sl 1 k80 Al0 cl0 x2_ml0 1 true]⟩) (fun S hS => ?_) (fun n0 ih0 S hS => ?_) ⟨l0, a1, 0, H, (by first | rfl | assumption | omega | (simp only [List.length_set]; first | done | assumption | omega)), rfl⟩ (fun h => wk [0, 1, 5] [] [⟨0, 1, 1, true⟩] h)
 · clear H; obtain ⟨_, _, _, H, _⟩ := hS; rw [laws_markGroupTaskS.l0] at H; cases H
 clear H
 obtain ⟨x2_ml0, x2_1, x2_5, H, ex2_ml0, rfl⟩ := hS
 rw [laws_markGroupTaskS.l0] at H
 refine gs (gs (rg (sv (EV.mv rfl) rfl (sv (EV.mv rfl) rfl (sv (EV.ln rfl) rfl (sv (EV.lss rfl rfl) rfl (re ?_)))))))
 revert H; refine ifsI ?_ ?_ <;> intro c1 H
 ·
  refine gt rfl (dT c1) (gk (gs (gb (gs (rg (sv (EV.mv rfl) rfl (sv (EV.mv rfl) rfl ?_)))))))
  revert H; refine ggI ?_; intro g2 H
  refine sv (EV.ix 0 rfl rfl rfl g2 c1 rfl) rfl (sv (EV.fa 0 rfl) rfl (opn (i := x2_5) 0 z80 rfl g2 c1 fun A_3 c_3 => (sv (EV.lc (v := .slice A_3 ((rd_T80 x2_ml0 x2_5).f0).length c_3) 0 none 1 rfl rfl rfl rfl) rfl (sv (EV.mv rfl) rfl (opnH (i := x2_5) (s := 2) (cls' := 1) [(A_3, c_3)] 0 1 2 z80 rfl rfl (by kernel_rfl) g2 c1 dq rfl rfl (nmE (en := [holE k80 1 Al0 cl0 x2_ml0 x2_5.toNat [.slice A_3 ((rd_T80 x2_ml0 x2_5).f0).length c_3, .int .i64 ((rd_T80 x2_ml0 x2_5).f1)] 2, .sl 1 k73 A_3 c_3 ((rd_T80 x2_ml0 x2_5).f0) 3 true]) (by kernel_rfl) ?_))))))
  revert H; refine bdI ?_; rintro ⟨t4_0, t4_1⟩ A4 H
  refine so rfl (op_callM (laws_markRowS.ok n0 ((rd_T80 x2_ml0 x2_5).f0) A_3 c_3 x2_1 _ _ A4) [⟨1, 1, 1, false⟩] [] [] 4 rfl rfl rfl rfl rfl rfl rfl rfl ?_)
  rintro _ _ _ ⟨rfl, rfl, rfl, q4_0⟩
  refine linF 1 rfl rfl ?_
  revert H; refine bdI ?_; intro s5 A5 H; have q5 := stl (Option.some.inj A5)
  refine hcl 0 (⟨t4_1, (rd_T80 x2_ml0 x2_5).f1⟩ : S80) [(A_3, c_3)] [2] (Option.some.inj A5) rfl (by rw [← q4_0]; rfl) rfl (by kernel_rfl) (by kernel_rfl) (by kernel_rfl) (nmE (en := [.sl 1 k73 A_3 c_3 t4_1 2 false, .sl 1 k73 A_3 c_3 t4_1 2 true, .sl 1 k80 Al0 cl0 s5 2 true]) (by kernel_rfl) (rlT 0 (v' := .slice Al0 s5.length cl0) rfl (slq _ _ q5) (rlT 7 (v' := .slice Al0 s5.length cl0) rfl (slq _ _ q5) (rlT 12 (v' := .slice Al0 s5.length cl0) rfl (slq _ _ q5) (nmE (en := [.sl 1 k73 A_3 c_3 t4_1 2 false, .sl 1 k73 A_3 c_3 t4_1 2 true, .sl 1 k80 Al0 cl0 s5 2 true]) (by kernel_rfl) (sv (EV.as rfl) rfl (re (pr [0, 1, 5] [] [2] rfl rfl rfl rfl (gs (rg (sv (EV.mv rfl) rfl (sv (EV.mv rfl) rfl (sv (EV.mv rfl) rfl ?_)))))))))))))
  revert H; refine ggI ?_; intro g6 H
  refine sv (EV.ix 0 rfl rfl rfl g2 g6 rfl) rfl (sv (EV.fa 1 rfl) rfl (opn (i := x2_5) 0 z80 rfl g2 g6 fun A_7 c_7 => (opnH (i := x2_5) (s := 2) (cls' := 2) [(A_7, c_7)] 0 1 3 z80 rfl rfl (by kernel_rfl) g2 g6 dq rfl rfl (nmE (en := [holE k80 1 Al0 cl0 s5 x2_5.toNat [.slice A_7 ((rd_T80 s5 x2_5).f0).length c_7, .int .i64 ((rd_T80 s5 x2_5).f1)] 3, .sl 1 k73 A_7 c_7 ((rd_T80 s5 x2_5).f0) 4 true]) (by kernel_rfl) (so rfl (op_sth (cs' := [.slice A_7 ((rd_T80 s5 x2_5).f0).length c_7, .int .i64 t4_0]) 1 0 rfl rfl rfl rfl rfl (by kernel_rfl) rfl rfl (nmE (en := [.sl 1 k73 A_7 c_7 ((rd_T80 s5 x2_5).f0) 4 true, holE k80 1 Al0 cl0 s5 x2_5.toNat [.slice A_7 ((rd_T80 s5 x2_5).f0).length c_7, .int .i64 t4_0] 3]) (by kernel_rfl) ?_)))))))
  revert H; refine bdI ?_; intro s8 A8 H; have q8 := stl (Option.some.inj A8)
  exact hcl 1 (⟨(rd_T80 s5 x2_5).f0, t4_0⟩ : S80) [(A_7, c_7)] [0] (Option.some.inj A8) rfl (by kernel_rfl) rfl (by kernel_rfl) (by kernel_rfl) (by kernel_rfl) (nmE (en := [.sl 1 k73 A_7 c_7 ((rd_T80 s5 x2_5).f0) 3 true, .sl 1 k80 Al0 cl0 s8 3 true]) (by kernel_rfl) (rlT 0 (v' := .slice Al0 s8.length cl0) rfl (slq _ _ q8) (rlT 19 (v' := .slice Al0 s8.length cl0) rfl (slq _ _ q8) (re (rg (sv (EV.mv rfl) rfl (sv (EV.add rfl rfl) rfl (sv (EV.as rfl) rfl (re (ge (rg (sv (EV.mv rfl) rfl (sv (EV.add rfl rfl) rfl (sv (EV.as rfl) rfl (re (pr [0, 1, 5] [] [1] rfl rfl rfl rfl (wk [0, 1, 5] [] [⟨0, 1, 1, true⟩] (ih0 _ (by omega) _ ⟨s8, wrap64 (t4_0 + 1), wrap64 (x2_5 + 1), H, (by first | rfl | assumption | omega | (simp only [List.length_set]; first | done | assumption | omega)), rfl⟩))))))))))))))))))
 ·
  refine gf rfl (dF c1) (gx rfl (gs (rg (sv (EV.mv rfl) rfl (sv (EV.as rfl) rfl (re (pr [4] [] [0] rfl rfl rfl rfl ?_)))))))
  cases H
  exact rt Try.func63 rfl (.tmp rfl .nil) rfl [] [⟨0, 1, 1, true⟩] rfl rfl rfl rfl rfl ⟨rfl, rfl, rfl, by first | rfl | assumption | omega | (simp only [List.length_set]; first | done | assumption | omega)⟩
end Go.Proofs.Ytoncjohnkiilcaa.K
namespace Go.Proofs.Ytoncjohnkiilcaa.K
open Go Go.RowKit
set_option linter.unusedVariables false
set_option linter.unusedSimpArgs false
def laws_markAggregator.f (k : Nat) (l0_0 : List S80) (a0_1 : Int) (a0_2 : Bool) (a1 : Int) : Option (Int × (List S80)) := (laws_markGroupTaskS.f k l0_0 a1).bind fun bt1 => (some (bt1.1, bt1.2))
set_option maxHeartbeats 4000000 in
set_option maxRecDepth 100000 in
theorem laws_markAggregator.ok (k : Nat) (l0_0 : List S80) (Al0_0 : Option Addr) (cl0_0 : Nat) (a0_1 : Int) (a0_2 : Bool) (a1 : Int) (r0 : Int) (r1 : List S80) (H : laws_markAggregator.f k l0_0 a0_1 a0_2 a1 = some (r0, r1)) : Fn Try.prog 29 [.agg #[.slice Al0_0 l0_0.length cl0_0, .int .i64 a0_1, .bool a0_2], .int .i64 a1] [] [.sl 1 k80 Al0_0 cl0_0 l0_0 1 true] (fun v bx en => v = .int .i64 r0 ∧ bx = [] ∧ en = [.sl 1 k80 Al0_0 cl0_0 r1 1 true] ∧ r1.length = l0_0.length) := by
 refine fn_ 10 Try.func29 rfl rfl rfl (fun base T w0 => ?_)
 rw [laws_markAggregator.f] at H
 refine gs (rg (so rfl (op_box (cs := [.slice Al0_0 l0_0.length cl0_0, .int .i64 a0_1, .bool a0_2]) rfl rfl rfl fun b2 => (sv (EV.as rfl) rfl (re (gs (rg (sv (EV.fa 0 rfl) rfl (sv (EV.ld 0 none rfl rfl rfl) rfl (sv (EV.mv rfl) rfl ?_))))))))))
 revert H; refine bdI ?_; rintro ⟨t1_0, t1_1⟩ A1 H
 refine so rfl (op_callM (laws_markGroupTaskS.ok k l0_0 Al0_0 cl0_0 a1 _ _ A1) [⟨0, 1, 1, true⟩] [] [0] 2 rfl rfl rfl rfl rfl rfl rfl rfl ?_)
 rintro _ _ _ ⟨rfl, rfl, rfl, q1_0⟩
 refine rlT 0 (v' := .agg #[.slice Al0_0 t1_1.length cl0_0, .int .i64 a0_1, .bool a0_2]) rfl (by simp only [q1_0]) (rlT 6 (v' := .slice Al0_0 t1_1.length cl0_0) rfl (slq _ _ q1_0) (rlB 0 (cs' := [.slice Al0_0 t1_1.length cl0_0, .int .i64 a0_1, .bool a0_2]) rfl (by simp only [q1_0]) (nmE (en := [.sl 1 k80 Al0_0 cl0_0 t1_1 3 true]) (by kernel_rfl) (sv (EV.as rfl) rfl (re (pr [1] [] [0] rfl rfl rfl rfl (gs (rg (sv (EV.mv rfl) rfl (sv (EV.as rfl) rfl (re ?_)))))))))))
 cases H
 exact rt Try.func29 rfl (.tmp rfl .nil) rfl [] [⟨0, 1, 1, true⟩] rfl rfl rfl rfl rfl ⟨rfl, rfl, rfl, by first | rfl | assumption | omega | (simp only [List.length_set]; first | done | assumption | omega)⟩
end Go.Proofs.Ytoncjohnkiilcaa.K
namespace Go.Proofs.Ytoncjohnkiilcaa.K
open Go Go.RowKit
set_option linter.unusedVariables false
set_option linter.unusedSimpArgs false
def laws_heldRowS.l0 : Nat → Int → Int → (List S73) → Option (Int)
 | 0, _, _, _ => none
 | k + 1, x2_1, x2_5, l0 => if x2_5 < (l0.length : Int) then (if 0 ≤ x2_5 then (if ((rd_T73 l0 x2_5).f0) = x2_1 then (if ((rd_T73 l0 x2_5).f1) = (wrap64 (x2_1 + 1)) then (if ((rd_T73 l0 x2_5).f2) = (wrap64 ((wrap64 (x2_1 + 1)) + 1)) then (laws_heldRowS.l0 k (wrap64 ((wrap64 ((wrap64 (x2_1 + 1)) + 1)) + 1)) (wrap64 (x2_5 + 1)) l0) else (some (-1))) else (some (-1))) else (some (-1))) else none) else (some x2_1)
def laws_heldRowS.f (k : Nat) (l0 : List S73) (a1 : Int) : Option (Int) := laws_heldRowS.l0 k a1 0 l0
set_option maxHeartbeats 4000000 in
set_option maxRecDepth 100000 in
theorem laws_heldRowS.ok (k : Nat) (l0 : List S73) (Al0 : Option Addr) (cl0 : Nat) (a1 : Int) (r0 : Int) (H : laws_heldRowS.f k l0 a1 = some r0) : Fn Try.prog 89 [.slice Al0 l0.length cl0, .int .i64 a1] [] [.sl 0 k73 Al0 cl0 l0 0 false] (fun v bx en => v = .int .i64 r0 ∧ bx = [] ∧ en = []) := by
 refine fn_ 40 Try.func89 rfl rfl rfl (fun base T w0 => ?_)
 rw [laws_heldRowS.f] at H
 refine gs (rg (sv (EV.as rfl) rfl (re (gs (gs (rg (sv (EV.as rfl) rfl (re (gb ?_)))))))))
 refine lo (fun kk S => ∃ (x2_1 : Int) (x2_5 : Int), laws_heldRowS.l0 kk x2_1 x2_5 l0 = some r0 ∧ S = ⟨[(0, .slice Al0 l0.length cl0), (1, .int .i64 x2_1), (5, .int .i64 x2_5)], [], [.sl 0 k73 Al0 cl0 l0 0 false]⟩) (fun S hS => ?_) (fun n0 ih0 S hS => ?_) ⟨a1, 0, H, rfl⟩ (fun h => wk [0, 1, 5] [] [⟨0, 0, 0, false⟩] h)
 · clear H; obtain ⟨_, _, H, _⟩ := hS; rw [laws_heldRowS.l0] at H; cases H
 clear H
 obtain ⟨x2_1, x2_5, H, rfl⟩ := hS
 rw [laws_heldRowS.l0] at H
 refine gs (gs (rg (sv (EV.mv rfl) rfl (sv (EV.mv rfl) rfl (sv (EV.ln rfl) rfl (sv (EV.lss rfl rfl) rfl (re ?_)))))))
 revert H; refine ifsI ?_ ?_ <;> intro c1 H
 ·
  refine gt rfl (dT c1) (gk (gs (gb (gs (gs (rg (sv (EV.mv rfl) rfl (sv (EV.mv rfl) rfl ?_))))))))
  revert H; refine ggI ?_; intro g2 H
  refine sv (EV.ix 0 rfl rfl rfl g2 c1 rfl) rfl (sv (EV.fa 0 rfl) rfl (sv (EV.le (v := .int .i64 ((rd_T73 l0 x2_5).f0)) x2_5 0 none 0 z73 rfl rfl rfl g2 c1 rfl rfl rfl) rfl (sv (EV.mv rfl) rfl (sv (EV.neq rfl rfl) rfl (re (pr [0, 1, 5, 18] [] [0] rfl rfl rfl rfl ?_))))))
  revert H; refine ifsI ?_ ?_ <;> intro c3 H
  ·
   refine gf rfl (nF c3) (gk (gs (rg (sv (EV.mv rfl) rfl (sv (EV.add rfl rfl) rfl (sv (EV.as rfl) rfl (re (gs (gs (rg (sv (EV.mv rfl) rfl (sv (EV.mv rfl) rfl (sv (EV.ix 0 rfl rfl rfl g2 c1 rfl) rfl (sv (EV.fa 1 rfl) rfl (sv (EV.le (v := .int .i64 ((rd_T73 l0 x2_5).f1)) x2_5 1 none 0 z73 rfl rfl rfl g2 c1 rfl rfl rfl) rfl (sv (EV.mv rfl) rfl (sv (EV.neq rfl rfl) rfl (re (pr [0, 1, 5, 27] [] [0] rfl rfl rfl rfl ?_)))))))))))))))))))
   revert H; refine ifsI ?_ ?_ <;> intro c4 H
   ·
    refine gf rfl (nF c4) (gk (gs (rg (sv (EV.mv rfl) rfl (sv (EV.add rfl rfl) rfl (sv (EV.as rfl) rfl (re (gs (gs (rg (sv (EV.mv rfl) rfl (sv (EV.mv rfl) rfl (sv (EV.ix 0 rfl rfl rfl g2 c1 rfl) rfl (sv (EV.fa 2 rfl) rfl (sv (EV.le (v := .int .i64 ((rd_T73 l0 x2_5).f2)) x2_5 2 none 0 z73 rfl rfl rfl g2 c1 rfl rfl rfl) rfl (sv (EV.mv rfl) rfl (sv (EV.neq rfl rfl) rfl (re (pr [0, 1, 5, 36] [] [0] rfl rfl rfl rfl ?_)))))))))))))))))))
    revert H; refine ifsI ?_ ?_ <;> intro c5 H
    ·
     exact gf rfl (nF c5) (gk (rg (sv (EV.mv rfl) rfl (sv (EV.add rfl rfl) rfl (sv (EV.as rfl) rfl (re (ge (rg (sv (EV.mv rfl) rfl (sv (EV.add rfl rfl) rfl (sv (EV.as rfl) rfl (re (wk [0, 1, 5] [] [⟨0, 0, 0, false⟩] (ih0 _ (by omega) _ ⟨wrap64 ((wrap64 ((wrap64 (x2_1 + 1)) + 1)) + 1), wrap64 (x2_5 + 1), H, rfl⟩))))))))))))))
    ·
     refine gt rfl (nT c5) (gs (rg (sv (EV.as rfl) rfl (re ?_))))
     cases H
     exact rt Try.func89 rfl (.tmp rfl .nil) rfl [] [] rfl rfl rfl rfl rfl ⟨rfl, rfl, rfl⟩
   ·
    refine gt rfl (nT c4) (gs (rg (sv (EV.as rfl) rfl (re ?_))))
    cases H
    exact rt Try.func89 rfl (.tmp rfl .nil) rfl [] [] rfl rfl rfl rfl rfl ⟨rfl, rfl, rfl⟩
  ·
   refine gt rfl (nT c3) (gs (rg (sv (EV.as rfl) rfl (re ?_))))
   cases H
   exact rt Try.func89 rfl (.tmp rfl .nil) rfl [] [] rfl rfl rfl rfl rfl ⟨rfl, rfl, rfl⟩
 ·
  refine gf rfl (dF c1) (gx rfl (gs (rg (sv (EV.mv rfl) rfl (sv (EV.as rfl) rfl (re (pr [4] [] [] rfl rfl rfl rfl ?_)))))))
  cases H
  exact rt Try.func89 rfl (.tmp rfl .nil) rfl [] [] rfl rfl rfl rfl rfl ⟨rfl, rfl, rfl⟩
end Go.Proofs.Ytoncjohnkiilcaa.K
namespace Go.Proofs.Ytoncjohnkiilcaa.K
open Go Go.RowKit
set_option linter.unusedVariables false
set_option linter.unusedSimpArgs false
def laws_heldGroupTaskS.l0 : Nat → Int → Int → (List S80) → Option (Int)
 | 0, _, _, _ => none
 | k + 1, x2_1, x2_5, l0 => if x2_5 < (l0.length : Int) then (if 0 ≤ x2_5 then ((laws_heldRowS.f k ((rd_T80 l0 x2_5).f0) x2_1).bind fun t4 => (if t4 < 0 then (some (-1)) else (if ((rd_T80 l0 x2_5).f1) = t4 then (laws_heldGroupTaskS.l0 k (wrap64 (t4 + 1)) (wrap64 (x2_5 + 1)) l0) else (some (-1))))) else none) else (some x2_1)
def laws_heldGroupTaskS.f (k : Nat) (l0 : List S80) (a1 : Int) : Option (Int) := laws_heldGroupTaskS.l0 k a1 0 l0
set_option maxHeartbeats 4000000 in
set_option maxRecDepth 100000 in
theorem laws_heldGroupTaskS.ok (k : Nat) (l0 : List S80) (Al0 : Option Addr) (cl0 : Nat) (a1 : Int) (r0 : Int) (H : laws_heldGroupTaskS.f k l0 a1 = some r0) : Fn Try.prog 64 [.slice Al0 l0.length cl0, .int .i64 a1] [] [.sl 0 k80 Al0 cl0 l0 0 false] (fun v bx en => v = .int .i64 r0 ∧ bx = [] ∧ en = []) := by
 refine fn_ 31 Try.func64 rfl rfl rfl (fun base T w0 => ?_)
 rw [laws_heldGroupTaskS.f] at H
 refine gs (rg (sv (EV.as rfl) rfl (re (gs (gs (rg (sv (EV.as rfl) rfl (re (gb ?_)))))))))
 refine lo (fun kk S => ∃ (x2_1 : Int) (x2_5 : Int), laws_heldGroupTaskS.l0 kk x2_1 x2_5 l0 = some r0 ∧ S = ⟨[(0, .slice Al0 l0.length cl0), (1, .int .i64 x2_1), (5, .int .i64 x2_5)], [], [.sl 0 k80 Al0 cl0 l0 0 false]⟩) (fun S hS => ?_) (fun n0 ih0 S hS => ?_) ⟨a1, 0, H, rfl⟩ (fun h => wk [0, 1, 5] [] [⟨0, 0, 0, false⟩] h)
 · clear H; obtain ⟨_, _, H, _⟩ := hS; rw [laws_heldGroupTaskS.l0] at H; cases H
 clear H
 obtain ⟨x2_1, x2_5, H, rfl⟩ := hS
 rw [laws_heldGroupTaskS.l0] at H
 refine gs (gs (rg (sv (EV.mv rfl) rfl (sv (EV.mv rfl) rfl (sv (EV.ln rfl) rfl (sv (EV.lss rfl rfl) rfl (re ?_)))))))
 revert H; refine ifsI ?_ ?_ <;> intro c1 H
 ·
  refine gt rfl (dT c1) (gk (gs (gb (gs (rg (sv (EV.mv rfl) rfl (sv (EV.mv rfl) rfl ?_)))))))
  revert H; refine ggI ?_; intro g2 H
  refine sv (EV.ix 0 rfl rfl rfl g2 c1 rfl) rfl (sv (EV.fa 0 rfl) rfl (opn (i := x2_5) 0 z80 rfl g2 c1 fun A_3 c_3 => (sv (EV.lc (v := .slice A_3 ((rd_T80 l0 x2_5).f0).length c_3) 0 none 1 rfl rfl rfl rfl) rfl (sv (EV.mv rfl) rfl ?_))))
  revert H; refine bdI ?_; rintro t4 A4 H
  refine so rfl (op_call (laws_heldRowS.ok n0 ((rd_T80 l0 x2_5).f0) A_3 c_3 x2_1 _ A4) [⟨2, 0, 0, false⟩] 1 rfl rfl rfl rfl rfl ?_)
  rintro _ _ _ ⟨rfl, rfl, rfl⟩
  refine sv (EV.as rfl) rfl (re (pr [0, 1, 5] [] [0] rfl rfl rfl rfl (gs (gs (rg (sv (EV.mv rfl) rfl (sv (EV.lss rfl rfl) rfl (re ?_))))))))
  revert H; refine ifsI ?_ ?_ <;> intro c5 H
  ·
   refine gt rfl (dT c5) (gs (rg (sv (EV.as rfl) rfl (re ?_))))
   cases H
   exact rt Try.func64 rfl (.tmp rfl .nil) rfl [] [] rfl rfl rfl rfl rfl ⟨rfl, rfl, rfl⟩
  ·
   refine gf rfl (dF c5) (gk (gs (gs (rg (sv (EV.mv rfl) rfl (sv (EV.mv rfl) rfl (sv (EV.ix 0 rfl rfl rfl g2 c1 rfl) rfl (sv (EV.fa 1 rfl) rfl (sv (EV.lf (v := .int .i64 ((rd_T80 l0 x2_5).f1)) x2_5 1 none 0 z80 rfl rfl rfl g2 c1 rfl (fun _ _ => rfl)) rfl (sv (EV.mv rfl) rfl (sv (EV.neq rfl rfl) rfl (re (pr [0, 1, 5, 27] [] [0] rfl rfl rfl rfl ?_)))))))))))))
   revert H; refine ifsI ?_ ?_ <;> intro c6 H
   ·
    exact gf rfl (nF c6) (gk (rg (sv (EV.mv rfl) rfl (sv (EV.add rfl rfl) rfl (sv (EV.as rfl) rfl (re (ge (rg (sv (EV.mv rfl) rfl (sv (EV.add rfl rfl) rfl (sv (EV.as rfl) rfl (re (wk [0, 1, 5] [] [⟨0, 0, 0, false⟩] (ih0 _ (by omega) _ ⟨wrap64 (t4 + 1), wrap64 (x2_5 + 1), H, rfl⟩))))))))))))))
   ·
    refine gt rfl (nT c6) (gs (rg (sv (EV.as rfl) rfl (re ?_))))
    cases H
    exact rt Try.func64 rfl (.tmp rfl .nil) rfl [] [] rfl rfl rfl rfl rfl ⟨rfl, rfl, rfl⟩
 ·
  refine gf rfl (dF c1) (gx rfl (gs (rg (sv (EV.mv rfl) rfl (sv (EV.as rfl) rfl (re (pr [4] [] [] rfl rfl rfl rfl ?_)))))))
  cases H
  exact rt Try.func64 rfl (.tmp rfl .nil) rfl [] [] rfl rfl rfl rfl rfl ⟨rfl, rfl, rfl⟩
end Go.Proofs.Ytoncjohnkiilcaa.K
namespace Go.Proofs.Ytoncjohnkiilcaa.K
open Go Go.RowKit
set_option linter.unusedVariables false
set_option linter.unusedSimpArgs false
def laws_heldAggregator.f (k : Nat) (l0_0 : List S80) (a0_1 : Int) (a0_2 : Bool) (a1 : Int) : Option (Int) := (laws_heldGroupTaskS.f k l0_0 a1).bind fun t1 => (if t1 < 0 then (some (-1)) else (some t1))
set_option maxHeartbeats 4000000 in
set_option maxRecDepth 100000 in
theorem laws_heldAggregator.ok (k : Nat) (l0_0 : List S80) (Al0_0 : Option Addr) (cl0_0 : Nat) (a0_1 : Int) (a0_2 : Bool) (a1 : Int) (r0 : Int) (H : laws_heldAggregator.f k l0_0 a0_1 a0_2 a1 = some r0) : Fn Try.prog 30 [.agg #[.slice Al0_0 l0_0.length cl0_0, .int .i64 a0_1, .bool a0_2], .int .i64 a1] [] [.sl 0 k80 Al0_0 cl0_0 l0_0 0 false] (fun v bx en => v = .int .i64 r0 ∧ bx = [] ∧ en = []) := by
 refine fn_ 12 Try.func30 rfl rfl rfl (fun base T w0 => ?_)
 rw [laws_heldAggregator.f] at H
 refine gs (rg (so rfl (op_box (cs := [.slice Al0_0 l0_0.length cl0_0, .int .i64 a0_1, .bool a0_2]) rfl rfl rfl fun b2 => (sv (EV.as rfl) rfl (re (gs (rg (sv (EV.fa 0 rfl) rfl (sv (EV.ld 0 none rfl rfl rfl) rfl (sv (EV.mv rfl) rfl ?_))))))))))
 revert H; refine bdI ?_; rintro t1 A1 H
 refine so rfl (op_call (laws_heldGroupTaskS.ok k l0_0 Al0_0 cl0_0 a1 _ A1) [⟨0, 0, 0, false⟩] 1 rfl rfl rfl rfl rfl ?_)
 rintro _ _ _ ⟨rfl, rfl, rfl⟩
 refine sv (EV.as rfl) rfl (re (pr [1] [] [] rfl rfl rfl rfl (gs (gs (rg (sv (EV.mv rfl) rfl (sv (EV.lss rfl rfl) rfl (re ?_))))))))
 revert H; refine ifsI ?_ ?_ <;> intro c2 H
 ·
  refine gt rfl (dT c2) (gs (rg (sv (EV.as rfl) rfl (re ?_))))
  cases H
  exact rt Try.func30 rfl (.tmp rfl .nil) rfl [] [] rfl rfl rfl rfl rfl ⟨rfl, rfl, rfl⟩
 ·
  refine gf rfl (dF c2) (gk (gs (rg (sv (EV.mv rfl) rfl (sv (EV.as rfl) rfl (re ?_))))))
  cases H
  exact rt Try.func30 rfl (.tmp rfl .nil) rfl [] [] rfl rfl rfl rfl rfl ⟨rfl, rfl, rfl⟩
end Go.Proofs.Ytoncjohnkiilcaa.K
namespace Go.Proofs.Ytoncjohnkiilcaa.K
open Go Go.RowKit
set_option linter.unusedVariables false
set_option linter.unusedSimpArgs false
def laws_eqGroup.f (a0_0 : Int) (a0_1 : Int) (a0_2 : Int) (a0_3 : Int) (a0_4 : Int) (a1_0 : Int) (a1_1 : Int) (a1_2 : Int) (a1_3 : Int) (a1_4 : Int) : Option (Bool) := if a0_0 = a1_0 then (if a0_1 = a1_1 then (if a0_2 = a1_2 then (if a0_3 = a1_3 then (if a0_4 = a1_4 then (some true) else (some false)) else (some false)) else (some false)) else (some false)) else (some false)
set_option maxHeartbeats 4000000 in
set_option maxRecDepth 100000 in
theorem laws_eqGroup.ok (a0_0 : Int) (a0_1 : Int) (a0_2 : Int) (a0_3 : Int) (a0_4 : Int) (a1_0 : Int) (a1_1 : Int) (a1_2 : Int) (a1_3 : Int) (a1_4 : Int) (r0 : Bool) (H : laws_eqGroup.f a0_0 a0_1 a0_2 a0_3 a0_4 a1_0 a1_1 a1_2 a1_3 a1_4 = some r0) : Fn Try.prog 71 [.agg #[.int .i64 a0_0, .int .i64 a0_1, .int .i64 a0_2, .int .i64 a0_3, .int .i64 a0_4], .agg #[.int .i64 a1_0, .int .i64 a1_1, .int .i64 a1_2, .int .i64 a1_3, .int .i64 a1_4]] [] [] (fun v bx en => v = .bool r0 ∧ bx = [] ∧ en = []) := by
 refine fn_ 30 Try.func71 rfl rfl rfl (fun base T w0 => ?_)
 rw [laws_eqGroup.f] at H
 refine gs (rg (so rfl (op_box (cs := [.int .i64 a0_0, .int .i64 a0_1, .int .i64 a0_2, .int .i64 a0_3, .int .i64 a0_4]) rfl rfl rfl fun b2 => (so rfl (op_box (cs := [.int .i64 a1_0, .int .i64 a1_1, .int .i64 a1_2, .int .i64 a1_3, .int .i64 a1_4]) rfl rfl rfl fun b3 => (sv (EV.as rfl) rfl (re (gs (gs (rg (sv (EV.fa 0 rfl) rfl (sv (EV.ld 0 none rfl rfl rfl) rfl (sv (EV.fa 0 rfl) rfl (sv (EV.ld 1 none rfl rfl rfl) rfl (sv (EV.neq rfl rfl) rfl (re (pr [2, 3, 9] [0, 1] [] rfl rfl rfl rfl ?_)))))))))))))))))
 revert H; refine ifsI ?_ ?_ <;> intro c1 H
 ·
  refine gf rfl (nF c1) (gk (gs (gs (rg (sv (EV.fa 1 rfl) rfl (sv (EV.ld 0 none rfl rfl rfl) rfl (sv (EV.fa 1 rfl) rfl (sv (EV.ld 1 none rfl rfl rfl) rfl (sv (EV.neq rfl rfl) rfl (re ?_))))))))))
  revert H; refine ifsI ?_ ?_ <;> intro c2 H
  ·
   refine gf rfl (nF c2) (gk (gs (gs (rg (sv (EV.fa 2 rfl) rfl (sv (EV.ld 0 none rfl rfl rfl) rfl (sv (EV.fa 2 rfl) rfl (sv (EV.ld 1 none rfl rfl rfl) rfl (sv (EV.neq rfl rfl) rfl (re (pr [2, 3, 19] [0, 1] [] rfl rfl rfl rfl ?_)))))))))))
   revert H; refine ifsI ?_ ?_ <;> intro c3 H
   ·
    refine gf rfl (nF c3) (gk (gs (gs (rg (sv (EV.fa 3 rfl) rfl (sv (EV.ld 0 none rfl rfl rfl) rfl (sv (EV.fa 3 rfl) rfl (sv (EV.ld 1 none rfl rfl rfl) rfl (sv (EV.neq rfl rfl) rfl (re ?_))))))))))
    revert H; refine ifsI ?_ ?_ <;> intro c4 H
    ·
     refine gf rfl (nF c4) (gk (gs (gs (rg (sv (EV.fa 4 rfl) rfl (sv (EV.ld 0 none rfl rfl rfl) rfl (sv (EV.fa 4 rfl) rfl (sv (EV.ld 1 none rfl rfl rfl) rfl (sv (EV.neq rfl rfl) rfl (re (pr [29] [] [] rfl rfl rfl rfl ?_)))))))))))
     revert H; refine ifsI ?_ ?_ <;> intro c5 H
     ·
      refine gf rfl (nF c5) (gk (gs (rg (sv (EV.as rfl) rfl (re ?_)))))
      cases H
      exact rt Try.func71 rfl (.tmp rfl .nil) rfl [] [] rfl rfl rfl rfl rfl ⟨rfl, rfl, rfl⟩
     ·
      refine gt rfl (nT c5) (gs (rg (sv (EV.as rfl) rfl (re ?_))))
      cases H
      exact rt Try.func71 rfl (.tmp rfl .nil) rfl [] [] rfl rfl rfl rfl rfl ⟨rfl, rfl, rfl⟩
    ·
     refine gt rfl (nT c4) (gs (rg (sv (EV.as rfl) rfl (re (pr [4] [] [] rfl rfl rfl rfl ?_)))))
     cases H
     exact rt Try.func71 rfl (.tmp rfl .nil) rfl [] [] rfl rfl rfl rfl rfl ⟨rfl, rfl, rfl⟩
   ·
    refine gt rfl (nT c3) (gs (rg (sv (EV.as rfl) rfl (re ?_))))
    cases H
    exact rt Try.func71 rfl (.tmp rfl .nil) rfl [] [] rfl rfl rfl rfl rfl ⟨rfl, rfl, rfl⟩
  ·
   refine gt rfl (nT c2) (gs (rg (sv (EV.as rfl) rfl (re (pr [4] [] [] rfl rfl rfl rfl ?_)))))
   cases H
   exact rt Try.func71 rfl (.tmp rfl .nil) rfl [] [] rfl rfl rfl rfl rfl ⟨rfl, rfl, rfl⟩
 ·
  refine gt rfl (nT c1) (gs (rg (sv (EV.as rfl) rfl (re ?_))))
  cases H
  exact rt Try.func71 rfl (.tmp rfl .nil) rfl [] [] rfl rfl rfl rfl rfl ⟨rfl, rfl, rfl⟩
end Go.Proofs.Ytoncjohnkiilcaa.K
namespace Go.Proofs.Ytoncjohnkiilcaa.K
open Go Go.RowKit
set_option linter.unusedVariables false
set_option linter.unusedSimpArgs false
def laws_eqGroupS.l0 : Nat → Int → (List S88) → (List S88) → Option (Bool)
 | 0, _, _, _ => none
 | k + 1, x2_5, l0, l1 => if x2_5 < (l0.length : Int) then (if 0 ≤ x2_5 then (if x2_5 < (l1.length : Int) then ((laws_eqGroup.f ((rd_T88 l0 x2_5).f0) ((rd_T88 l0 x2_5).f1) ((rd_T88 l0 x2_5).f2) ((rd_T88 l0 x2_5).f3) ((rd_T88 l0 x2_5).f4) ((rd_T88 l1 x2_5).f0) ((rd_T88 l1 x2_5).f1) ((rd_T88 l1 x2_5).f2) ((rd_T88 l1 x2_5).f3) ((rd_T88 l1 x2_5).f4)).bind fun t5 => (if t5 = true then (laws_eqGroupS.l0 k (wrap64 (x2_5 + 1)) l0 l1) else (some false))) else none) else none) else (some true)
def laws_eqGroupS.f (k : Nat) (l0 : List S88) (l1 : List S88) : Option (Bool) := if (l0.length : Int) = (l1.length : Int) then (laws_eqGroupS.l0 k 0 l0 l1) else (some false)
set_option maxHeartbeats 4000000 in
set_option maxRecDepth 100000 in
theorem laws_eqGroupS.ok (k : Nat) (l0 : List S88) (Al0 : Option Addr) (cl0 : Nat) (l1 : List S88) (Al1 : Option Addr) (cl1 : Nat) (r0 : Bool) (H : laws_eqGroupS.f k l0 l1 = some r0) : Fn Try.prog 36 [.slice Al0 l0.length cl0, .slice Al1 l1.length cl1] [] [.sl 0 k88 Al0 cl0 l0 0 false, .sl 0 k88 Al1 cl1 l1 0 false] (fun v bx en => v = .bool r0 ∧ bx = [] ∧ en = []) := by
 refine fn_ 27 Try.func36 rfl rfl rfl (fun base T w0 => ?_)
 rw [laws_eqGroupS.f] at H
 refine gs (rg (sv (EV.as rfl) rfl (re (gs (gs (rg (sv (EV.mv rfl) rfl (sv (EV.ln rfl) rfl (sv (EV.mv rfl) rfl (sv (EV.ln rfl) rfl (sv (EV.neq rfl rfl) rfl (re ?_))))))))))))
 revert H; refine ifsI ?_ ?_ <;> intro c1 H
 ·
  refine gf rfl (nF c1) (gk (gs (gs (rg (sv (EV.as rfl) rfl (re (pr [0, 1, 5] [] [0, 1] rfl rfl rfl rfl (gb ?_))))))))
  refine lo (fun kk S => ∃ (x2_5 : Int), laws_eqGroupS.l0 kk x2_5 l0 l1 = some r0 ∧ S = ⟨[(0, .slice Al0 l0.length cl0), (1, .slice Al1 l1.length cl1), (5, .int .i64 x2_5)], [], [.sl 0 k88 Al0 cl0 l0 0 false, .sl 0 k88 Al1 cl1 l1 0 false]⟩) (fun S hS => ?_) (fun n0 ih0 S hS => ?_) ⟨0, H, rfl⟩ (fun h => wk [0, 1, 5] [] [⟨0, 0, 0, false⟩, ⟨1, 0, 0, false⟩] h)
  · clear H; obtain ⟨_, H, _⟩ := hS; rw [laws_eqGroupS.l0] at H; cases H
  clear H
  obtain ⟨x2_5, H, rfl⟩ := hS
  rw [laws_eqGroupS.l0] at H
  refine gs (gs (rg (sv (EV.mv rfl) rfl (sv (EV.mv rfl) rfl (sv (EV.ln rfl) rfl (sv (EV.lss rfl rfl) rfl (re ?_)))))))
  revert H; refine ifsI ?_ ?_ <;> intro c2 H
  ·
   refine gt rfl (dT c2) (gk (gs (gb (gs ?_))))
   revert H; refine ggI ?_; intro g3 H
   revert H; refine ggI ?_; intro g4 H
   refine dr [] [0, 1] [] 10 rfl rfl rfl rfl (xv 0 [] [0, 1] rfl (EV.mv rfl) rfl rfl rfl rfl (xv 1 [] [0, 1] rfl (EV.mv rfl) rfl rfl rfl rfl (xv 2 [] [0, 1] rfl (EV.ix 0 rfl rfl rfl g3 c2 rfl) rfl rfl rfl rfl (xv 3 [] [0, 1] rfl (EV.le (v := .agg #[.int .i64 ((rd_T88 l0 x2_5).f0), .int .i64 ((rd_T88 l0 x2_5).f1), .int .i64 ((rd_T88 l0 x2_5).f2), .int .i64 ((rd_T88 l0 x2_5).f3), .int .i64 ((rd_T88 l0 x2_5).f4)]) x2_5 0 (some 5) 0 z88 rfl rfl rfl g3 c2 rfl rfl rfl) rfl rfl rfl rfl (xv 4 [] [0, 1] rfl (EV.mv rfl) rfl rfl rfl rfl (xv 5 [] [0, 1] rfl (EV.mv rfl) rfl rfl rfl rfl (xv 6 [] [0, 1] rfl (EV.ix 1 rfl rfl rfl g3 g4 rfl) rfl rfl rfl rfl (xv 7 [] [0, 1] rfl (EV.le (v := .agg #[.int .i64 ((rd_T88 l1 x2_5).f0), .int .i64 ((rd_T88 l1 x2_5).f1), .int .i64 ((rd_T88 l1 x2_5).f2), .int .i64 ((rd_T88 l1 x2_5).f3), .int .i64 ((rd_T88 l1 x2_5).f4)]) x2_5 0 (some 5) 1 z88 rfl rfl rfl g3 g4 rfl rfl rfl) rfl rfl rfl rfl (one1 8 rfl rfl ?_)))))))))
   revert H; refine bdI ?_; rintro t5 A5 H
   refine op_call (laws_eqGroup.ok ((rd_T88 l0 x2_5).f0) ((rd_T88 l0 x2_5).f1) ((rd_T88 l0 x2_5).f2) ((rd_T88 l0 x2_5).f3) ((rd_T88 l0 x2_5).f4) ((rd_T88 l1 x2_5).f0) ((rd_T88 l1 x2_5).f1) ((rd_T88 l1 x2_5).f2) ((rd_T88 l1 x2_5).f3) ((rd_T88 l1 x2_5).f4) _ A5) [] 1 rfl rfl rfl rfl rfl ?_
   rintro _ _ _ ⟨rfl, rfl, rfl⟩
   refine xs [] [0, 1] rfl rfl rfl (xv 9 [] [0, 1] rfl (EV.nt rfl) rfl rfl rfl rfl (xd (pr [0, 1, 5, 26] [] [0, 1] rfl rfl rfl rfl ?_)))
   revert H; refine ifsI ?_ ?_ <;> intro c6 H
   ·
    subst c6
    exact gf rfl rfl (gk (ge (rg (sv (EV.mv rfl) rfl (sv (EV.add rfl rfl) rfl (sv (EV.as rfl) rfl (re (wk [0, 1, 5] [] [⟨0, 0, 0, false⟩, ⟨1, 0, 0, false⟩] (ih0 _ (by omega) _ ⟨wrap64 (x2_5 + 1), H, rfl⟩)))))))))
   ·
    obtain rfl := bF c6
    refine gt rfl rfl (gs (rg (sv (EV.as rfl) rfl (re ?_))))
    cases H
    exact rt Try.func36 rfl (.tmp rfl .nil) rfl [] [] rfl rfl rfl rfl rfl ⟨rfl, rfl, rfl⟩
  ·
   refine gf rfl (dF c2) (gx rfl (gs (rg (sv (EV.as rfl) rfl (re (pr [4] [] [] rfl rfl rfl rfl ?_))))))
   cases H
   exact rt Try.func36 rfl (.tmp rfl .nil) rfl [] [] rfl rfl rfl rfl rfl ⟨rfl, rfl, rfl⟩
 ·
  refine gt rfl (nT c1) (gs (rg (sv (EV.as rfl) rfl (re (pr [4] [] [] rfl rfl rfl rfl ?_)))))
  cases H
  exact rt Try.func36 rfl (.tmp rfl .nil) rfl [] [] rfl rfl rfl rfl rfl ⟨rfl, rfl, rfl⟩
end Go.Proofs.Ytoncjohnkiilcaa.K
namespace Go.Proofs.Ytoncjohnkiilcaa.K
open Go Go.RowKit
set_option linter.unusedVariables false
set_option linter.unusedSimpArgs false
def laws_markGroupS.l0 : Nat → (List S88) → Int → Int → Option (Int × (List S88))
 | 0, _, _, _ => none
 | k + 1, x2_ml0, x2_1, x2_5 => if x2_5 < (x2_ml0.length : Int) then (if 0 ≤ x2_5 then ((some (x2_ml0.set x2_5.toNat (⟨x2_1, (rd_T88 x2_ml0 x2_5).f1, (rd_T88 x2_ml0 x2_5).f2, (rd_T88 x2_ml0 x2_5).f3, (rd_T88 x2_ml0 x2_5).f4⟩ : S88))).bind fun s3 => (if x2_5 < (s3.length : Int) then ((some (s3.set x2_5.toNat (⟨(rd_T88 s3 x2_5).f0, wrap64 (x2_1 + 1), (rd_T88 s3 x2_5).f2, (rd_T88 s3 x2_5).f3, (rd_T88 s3 x2_5).f4⟩ : S88))).bind fun s5 => (if x2_5 < (s5.length : Int) then ((some (s5.set x2_5.toNat (⟨(rd_T88 s5 x2_5).f0, (rd_T88 s5 x2_5).f1, wrap64 ((wrap64 (x2_1 + 1)) + 1), (rd_T88 s5 x2_5).f3, (rd_T88 s5 x2_5).f4⟩ : S88))).bind fun s7 => (if x2_5 < (s7.length : Int) then ((some (s7.set x2_5.toNat (⟨(rd_T88 s7 x2_5).f0, (rd_T88 s7 x2_5).f1, (rd_T88 s7 x2_5).f2, wrap64 ((wrap64 ((wrap64 (x2_1 + 1)) + 1)) + 1), (rd_T88 s7 x2_5).f4⟩ : S88))).bind fun s9 => (if x2_5 < (s9.length : Int) then ((some (s9.set x2_5.toNat (⟨(rd_T88 s9 x2_5).f0, (rd_T88 s9 x2_5).f1, (rd_T88 s9 x2_5).f2, (rd_T88 s9 x2_5).f3, wrap64 ((wrap64 ((wrap64 ((wrap64 (x2_1 + 1)) + 1)) + 1)) + 1)⟩ : S88))).bind fun s11 => (laws_markGroupS.l0 k s11 (wrap64 ((wrap64 ((wrap64 ((wrap64 ((wrap64 (x2_1 + 1)) + 1)) + 1)) + 1)) + 1)) (wrap64 (x2_5 + 1)))) else none)) else none)) else none)) else none)) else none) else (some (x2_1, x2_ml0))
def laws_markGroupS.f (k : Nat) (l0 : List S88) (a1 : Int) : Option (Int × (List S88)) := laws_markGroupS.l0 k l0 a1 0
set_option maxHeartbeats 4000000 in
set_option maxRecDepth 100000 in
theorem laws_markGroupS.ok (k : Nat) (l0 : List S88) (Al0 : Option Addr) (cl0 : Nat) (a1 : Int) (r0 : Int) (r1 : List S88) (H : laws_markGroupS.f k l0 a1 = some (r0, r1)) : Fn Try.prog 37 [.slice Al0 l0.length cl0, .int .i64 a1] [] [.sl 1 k88 Al0 cl0 l0 1 false] (fun v bx en => v = .int .i64 r0 ∧ bx = [] ∧ en = [.sl 1 k88 Al0 cl0 r1 1 false] ∧ r1.length = l0.length) := by
 refine fn_ 48 Try.func37 rfl rfl rfl (fun base T w0 => ?_)
 rw [laws_markGroupS.f] at H
 refine gs (rg (sv (EV.as rfl) rfl (re (gs (gs (rg (sv (EV.as rfl) rfl (re (gb ?_)))))))))
 refine lo (fun kk S => ∃ (x2_ml0 : List S88) (x2_1 : Int) (x2_5 : Int), laws_markGroupS.l0 kk x2_ml0 x2_1 x2_5 = some (r0, r1) ∧ x2_ml0.length = l0.length ∧ S = ⟨[(0, .slice Al0 x2_ml0.length cl0), (1, .int .i64 x2_1), (5, .int .i64 x2_5)], [], [.sl 1 k88 Al0 cl0 x2_ml0 1 false]⟩) (fun S hS => ?_) (fun n0 ih0 S hS => ?_) ⟨l0, a1, 0, H, (by first | rfl | assumption | omega | (simp only [List.length_set]; first | done | assumption | omega)), rfl⟩ (fun h => wk [0, 1, 5] [] [⟨0, 1, 1, false⟩] h)
 · clear H; obtain ⟨_, _, _, H, _⟩ := hS; rw [laws_markGroupS.l0] at H; cases H
 clear H
 obtain ⟨x2_ml0, x2_1, x2_5, H, ex2_ml0, rfl⟩ := hS
 rw [laws_markGroupS.l0] at H
 refine gs (gs (rg (sv (EV.mv rfl) rfl (sv (EV.mv rfl) rfl (sv (EV.ln rfl) rfl (sv (EV.lss rfl rfl) rfl (re ?_)))))))
 revert H; refine ifsI ?_ ?_ <;> intro c1 H
 ·
  refine gt rfl (dT c1) (gk (gs (gb (gs (rg (sv (EV.mv rfl) rfl (sv (EV.mv rfl) rfl (sv (EV.mv rfl) rfl ?_))))))))
  revert H; refine ggI ?_; intro g2 H
  refine sv (EV.ix 0 rfl rfl rfl g2 c1 rfl) rfl (sv (EV.fa 0 rfl) rfl ?_)
  revert H; refine bdI ?_; intro s3 A3 H; have q3 := stl (Option.some.inj A3)
  refine so rfl (op_stg x2_5 0 0 z88 (⟨x2_1, (rd_T88 x2_ml0 x2_5).f1, (rd_T88 x2_ml0 x2_5).f2, (rd_T88 x2_ml0 x2_5).f3, (rd_T88 x2_ml0 x2_5).f4⟩ : S88) (Option.some.inj A3) rfl rfl rfl rfl g2 c1 rfl rfl rfl rfl dq rfl (rlT 0 (v' := .slice Al0 s3.length cl0) rfl (slq _ _ q3) (rlT 7 (v' := .slice Al0 s3.length cl0) rfl (slq _ _ q3) (rlT 12 (v' := .slice Al0 s3.length cl0) rfl (slq _ _ q3) (nmE (en := [.sl 1 k88 Al0 cl0 s3 1 true]) (by kernel_rfl) (re (pr [0, 1, 5] [] [0] rfl rfl rfl rfl (gs (rg (sv (EV.mv rfl) rfl (sv (EV.add rfl rfl) rfl (sv (EV.as rfl) rfl (re (gs (rg (sv (EV.mv rfl) rfl (sv (EV.mv rfl) rfl (sv (EV.mv rfl) rfl ?_))))))))))))))))))
  revert H; refine ggI ?_; intro g4 H
  refine sv (EV.ix 0 rfl rfl rfl g2 g4 rfl) rfl (sv (EV.fa 1 rfl) rfl ?_)
  revert H; refine bdI ?_; intro s5 A5 H; have q5 := stl (Option.some.inj A5)
  refine so rfl (op_stg x2_5 1 0 z88 (⟨(rd_T88 s3 x2_5).f0, wrap64 (x2_1 + 1), (rd_T88 s3 x2_5).f2, (rd_T88 s3 x2_5).f3, (rd_T88 s3 x2_5).f4⟩ : S88) (Option.some.inj A5) rfl rfl rfl rfl g2 g4 rfl rfl rfl rfl dq rfl (rlT 0 (v' := .slice Al0 s5.length cl0) rfl (slq _ _ q5) (rlT 19 (v' := .slice Al0 s5.length cl0) rfl (slq _ _ q5) (nmE (en := [.sl 1 k88 Al0 cl0 s5 1 true]) (by kernel_rfl) (re (gs (rg (sv (EV.mv rfl) rfl (sv (EV.add rfl rfl) rfl (sv (EV.as rfl) rfl (re (pr [0, 1, 5] [] [0] rfl rfl rfl rfl (gs (rg (sv (EV.mv rfl) rfl (sv (EV.mv rfl) rfl (sv (EV.mv rfl) rfl ?_)))))))))))))))))
  revert H; refine ggI ?_; intro g6 H
  refine sv (EV.ix 0 rfl rfl rfl g2 g6 rfl) rfl (sv (EV.fa 2 rfl) rfl ?_)
  revert H; refine bdI ?_; intro s7 A7 H; have q7 := stl (Option.some.inj A7)
  refine so rfl (op_stg x2_5 2 0 z88 (⟨(rd_T88 s5 x2_5).f0, (rd_T88 s5 x2_5).f1, wrap64 ((wrap64 (x2_1 + 1)) + 1), (rd_T88 s5 x2_5).f3, (rd_T88 s5 x2_5).f4⟩ : S88) (Option.some.inj A7) rfl rfl rfl rfl g2 g6 rfl rfl rfl rfl dq rfl (rlT 0 (v' := .slice Al0 s7.length cl0) rfl (slq _ _ q7) (rlT 26 (v' := .slice Al0 s7.length cl0) rfl (slq _ _ q7) (nmE (en := [.sl 1 k88 Al0 cl0 s7 1 true]) (by kernel_rfl) (re (gs (rg (sv (EV.mv rfl) rfl (sv (EV.add rfl rfl) rfl (sv (EV.as rfl) rfl (re (gs (rg (sv (EV.mv rfl) rfl (sv (EV.mv rfl) rfl (sv (EV.mv rfl) rfl ?_))))))))))))))))
  revert H; refine ggI ?_; intro g8 H
  refine sv (EV.ix 0 rfl rfl rfl g2 g8 rfl) rfl (sv (EV.fa 3 rfl) rfl ?_)
  revert H; refine bdI ?_; intro s9 A9 H; have q9 := stl (Option.some.inj A9)
  refine so rfl (op_stg x2_5 3 0 z88 (⟨(rd_T88 s7 x2_5).f0, (rd_T88 s7 x2_5).f1, (rd_T88 s7 x2_5).f2, wrap64 ((wrap64 ((wrap64 (x2_1 + 1)) + 1)) + 1), (rd_T88 s7 x2_5).f4⟩ : S88) (Option.some.inj A9) rfl rfl rfl rfl g2 g8 rfl rfl rfl rfl dq rfl (rlT 0 (v' := .slice Al0 s9.length cl0) rfl (slq _ _ q9) (rlT 26 (v' := .slice Al0 s9.length cl0) rfl (slq _ _ q9) (rlT 33 (v' := .slice Al0 s9.length cl0) rfl (slq _ _ q9) (nmE (en := [.sl 1 k88 Al0 cl0 s9 1 true]) (by kernel_rfl) (re (pr [0, 1, 5] [] [0] rfl rfl rfl rfl (gs (rg (sv (EV.mv rfl) rfl (sv (EV.add rfl rfl) rfl (sv (EV.as rfl) rfl (re (gs (rg (sv (EV.mv rfl) rfl (sv (EV.mv rfl) rfl (sv (EV.mv rfl) rfl ?_))))))))))))))))))
  revert H; refine ggI ?_; intro g10 H
  refine sv (EV.ix 0 rfl rfl rfl g2 g10 rfl) rfl (sv (EV.fa 4 rfl) rfl ?_)
  revert H; refine bdI ?_; intro s11 A11 H; have q11 := stl (Option.some.inj A11)
  exact so rfl (op_stg x2_5 4 0 z88 (⟨(rd_T88 s9 x2_5).f0, (rd_T88 s9 x2_5).f1, (rd_T88 s9 x2_5).f2, (rd_T88 s9 x2_5).f3, wrap64 ((wrap64 ((wrap64 ((wrap64 (x2_1 + 1)) + 1)) + 1)) + 1)⟩ : S88) (Option.some.inj A11) rfl rfl rfl rfl g2 g10 rfl rfl rfl rfl dq rfl (rlT 0 (v' := .slice Al0 s11.length cl0) rfl (slq _ _ q11) (rlT 40 (v' := .slice Al0 s11.length cl0) rfl (slq _ _ q11) (nmE (en := [.sl 1 k88 Al0 cl0 s11 1 true]) (by kernel_rfl) (re (rg (sv (EV.mv rfl) rfl (sv (EV.add rfl rfl) rfl (sv (EV.as rfl) rfl (re (pr [0, 1, 5] [] [0] rfl rfl rfl rfl (ge (rg (sv (EV.mv rfl) rfl (sv (EV.add rfl rfl) rfl (sv (EV.as rfl) rfl (re (wk [0, 1, 5] [] [⟨0, 1, 1, false⟩] (ih0 _ (by omega) _ ⟨s11, wrap64 ((wrap64 ((wrap64 ((wrap64 ((wrap64 (x2_1 + 1)) + 1)) + 1)) + 1)) + 1), wrap64 (x2_5 + 1), H, (by first | rfl | assumption | omega | (simp only [List.length_set]; first | done | assumption | omega)), rfl⟩)))))))))))))))))))
 ·
  refine gf rfl (dF c1) (gx rfl (gs (rg (sv (EV.mv rfl) rfl (sv (EV.as rfl) rfl (re (pr [4] [] [0] rfl rfl rfl rfl ?_)))))))
  cases H
  exact rt Try.func37 rfl (.tmp rfl .nil) rfl [] [⟨0, 1, 1, false⟩] rfl rfl rfl rfl rfl ⟨rfl, rfl, rfl, by first | rfl | assumption | omega | (simp only [List.length_set]; first | done | assumption | omega)⟩
end Go.Proofs.Ytoncjohnkiilcaa.K
namespace Go.Proofs.Ytoncjohnkiilcaa.K
open Go Go.RowKit
set_option linter.unusedVariables false
set_option linter.unusedSimpArgs false
mutual
def spec_DistinctKeys.l1 : Nat → (List Int) → Int → Bool → Int → (List S73) → Option ((List Int))
 | 0, _, _, _, _, _ => none
 | k + 1, x18_3, x18_4, x18_5, x18_6, l0 => if x18_6 < (x18_3.length : Int) then (if x18_5 = true then (spec_DistinctKeys.l1 k x18_3 x18_4 true (wrap64 (x18_6 + 1)) l0) else (if 0 ≤ x18_6 then (if 0 ≤ x18_4 then (if x18_4 < (l0.length : Int) then (spec_DistinctKeys.l1 k x18_3 x18_4 (decide ((rdOf 0 x18_3 x18_6) = ((rd_T73 l0 x18_4).f0))) (wrap64 (x18_6 + 1)) l0) else none) else none) else none)) else (if x18_5 = true then (spec_DistinctKeys.l0 k x18_3 (wrap64 (x18_4 + 1)) l0) else (if 0 ≤ x18_4 then (if x18_4 < (l0.length : Int) then (if x18_3.length < 17592186044416 then (spec_DistinctKeys.l0 k (x18_3 ++ ([(rd_T73 l0 x18_4).f0] : List Int)) (wrap64 (x18_4 + 1)) l0) else none) else none) else none))
def spec_DistinctKeys.l0 : Nat → (List Int) → Int → (List S73) → Option ((List Int))
 | 0, _, _, _ => none
 | k + 1, x10_3, x10_4, l0 => if x10_4 < (l0.length : Int) then (spec_DistinctKeys.l1 k x10_3 x10_4 false 0 l0) else (some x10_3)
end
def spec_DistinctKeys.f (k : Nat) (l0 : List S73) : Option ((List Int)) := spec_DistinctKeys.l0 k [] 0 l0
set_option maxHeartbeats 4000000 in
set_option maxRecDepth 100000 in
theorem spec_DistinctKeys.ok (k : Nat) (l0 : List S73) (Al0 : Option Addr) (cl0 : Nat) (r0 : List Int) (H : spec_DistinctKeys.f k l0 = some r0) : Fn Try.prog 12 [.slice Al0 l0.length cl0] [] [.sl 0 k73 Al0 cl0 l0 0 false] (fun v bx en => ∃ A0 c0, v = .slice A0 r0.length c0 ∧ bx = [] ∧ en = [.sl 2 (.int .i64) A0 c0 r0 1 true]) := by
 refine fn_ 44 Try.func12 rfl rfl rfl (fun base T w0 => ?_)
 rw [spec_DistinctKeys.f] at H
 refine gs (rg (sv (EV.as rfl) rfl (re (gs (rg (so rfl (op_lit (s := 1) (by_ := 8) (.int .i64) ([] : List Int) [] [] 1 [] rfl rfl rfl rfl rfl rfl rfl rfl rfl rfl rfl rfl rfl dq rfl fun A7_1 c7_1 => (sv (EV.as rfl) rfl (re (gs (gs (rg (sv (EV.as rfl) rfl (re (gb ?_)))))))))))))))
 refine lo (fun kk S => ∃ (x10_3 : List Int) (Ax10_3 : Option Addr) (cx10_3 : Nat) (x10_4 : Int), spec_DistinctKeys.l0 kk x10_3 x10_4 l0 = some r0 ∧ S = ⟨[(0, .slice Al0 l0.length cl0), (3, .slice Ax10_3 x10_3.length cx10_3), (4, .int .i64 x10_4)], [], [.sl 2 (.int .i64) Ax10_3 cx10_3 x10_3 1 true, .sl 0 k73 Al0 cl0 l0 0 false]⟩) (fun S hS => ?_) (fun n0 ih0 S hS => ?_) ⟨[], A7_1, c7_1, 0, H, rfl⟩ (fun h => wk [0, 3, 4] [] [⟨1, 2, 1, true⟩, ⟨0, 0, 0, false⟩] h)
 · clear H; obtain ⟨_, _, _, _, H, _⟩ := hS; rw [spec_DistinctKeys.l0] at H; cases H
 clear H
 obtain ⟨x10_3, Ax10_3, cx10_3, x10_4, H, rfl⟩ := hS
 rw [spec_DistinctKeys.l0] at H
 refine gs (gs (rg (sv (EV.mv rfl) rfl (sv (EV.mv rfl) rfl (sv (EV.ln rfl) rfl (sv (EV.lss rfl rfl) rfl (re ?_)))))))
 revert H; refine ifsI ?_ ?_ <;> intro c2 H
 ·
  refine gt rfl (dT c2) (gk (gs (gb (gs (rg (sv (EV.as rfl) rfl (re (gs (gs (rg (sv (EV.as rfl) rfl (re (gb ?_)))))))))))))
  refine lo (fun kk S => ∃ (x18_3 : List Int) (Ax18_3 : Option Addr) (cx18_3 : Nat) (x18_4 : Int) (x18_5 : Bool) (x18_6 : Int), kk ≤ n0 ∧ spec_DistinctKeys.l1 kk x18_3 x18_4 x18_5 x18_6 l0 = some r0 ∧ S = ⟨[(0, .slice Al0 l0.length cl0), (3, .slice Ax18_3 x18_3.length cx18_3), (4, .int .i64 x18_4), (5, .bool x18_5), (6, .int .i64 x18_6)], [], [.sl 2 (.int .i64) Ax18_3 cx18_3 x18_3 1 true, .sl 0 k73 Al0 cl0 l0 0 false]⟩) (fun S hS => ?_) (fun n1 ih1 S hS => ?_) ⟨x10_3, Ax10_3, cx10_3, x10_4, false, 0, by omega, H, rfl⟩ (fun h => wk [0, 3, 4, 5, 6] [] [⟨0, 2, 1, true⟩, ⟨1, 0, 0, false⟩] h)
  · clear H; obtain ⟨_, _, _, _, _, _, _, H, _⟩ := hS; rw [spec_DistinctKeys.l1] at H; cases H
  clear H
  obtain ⟨x18_3, Ax18_3, cx18_3, x18_4, x18_5, x18_6, lk1, H, rfl⟩ := hS
  rw [spec_DistinctKeys.l1] at H
  refine gs (gs (rg (sv (EV.mv rfl) rfl (sv (EV.mv rfl) rfl (sv (EV.ln rfl) rfl (sv (EV.lss rfl rfl) rfl (re ?_)))))))
  revert H; refine ifsI ?_ ?_ <;> intro c3 H
  ·
   refine gt rfl (dT c3) (gk (gs (gb (dr [] [0, 1] [] 14 rfl rfl rfl rfl (xv 0 [] [0, 1] rfl (EV.mv rfl) rfl rfl rfl rfl (xv 1 [] [0, 1] rfl (EV.mv rfl) rfl rfl rfl rfl ?_))))))
   revert H; refine ifsI ?_ ?_ <;> intro c4 H
   ·
    subst c4
    exact ts 21 rfl rfl (xk 2 [] [0, 1] rfl rfl rfl rfl rfl (xk 3 [] [0, 1] rfl rfl rfl rfl rfl (xk 4 [] [0, 1] rfl rfl rfl rfl rfl (xk 5 [] [0, 1] rfl rfl rfl rfl rfl (xk 6 [] [0, 1] rfl rfl rfl rfl rfl (xk 7 [] [0, 1] rfl rfl rfl rfl rfl (xk 8 [] [0, 1] rfl rfl rfl rfl rfl (xk 9 [] [0, 1] rfl rfl rfl rfl rfl (xk 10 [] [0, 1] rfl rfl rfl rfl rfl (xk 11 [] [0, 1] rfl rfl rfl rfl rfl (xv 12 [] [0, 1] rfl (EV.pt rfl rfl rfl) rfl rfl rfl rfl (xv 13 [] [0, 1] rfl (EV.as rfl) rfl rfl rfl rfl (xd (pr [0, 3, 4, 5, 6] [] [0, 1] rfl rfl rfl rfl (ge (rg (sv (EV.mv rfl) rfl (sv (EV.add rfl rfl) rfl (sv (EV.as rfl) rfl (re (wk [0, 3, 4, 5, 6] [] [⟨0, 2, 1, true⟩, ⟨1, 0, 0, false⟩] (ih1 _ (by omega) _ ⟨x18_3, Ax18_3, cx18_3, x18_4, true, wrap64 (x18_6 + 1), by omega, H, rfl⟩))))))))))))))))))))))
   ·
    obtain rfl := bF c4
    refine ts 21 rfl rfl (xv 2 [] [0, 1] rfl (EV.mv rfl) rfl rfl rfl rfl (xv 3 [] [0, 1] rfl (EV.mv rfl) rfl rfl rfl rfl ?_))
    revert H; refine ggI ?_; intro g5 H
    refine xv 4 [] [0, 1] rfl (EV.ix 0 rfl rfl rfl g5 c3 rfl) rfl rfl rfl rfl (xv 5 [] [0, 1] rfl (EV.le (v := .int .i64 (rdOf 0 x18_3 x18_6)) x18_6 0 none 0 0 rfl rfl rfl g5 c3 rfl rfl rfl) rfl rfl rfl rfl (xv 6 [] [0, 1] rfl (EV.mv rfl) rfl rfl rfl rfl (xv 7 [] [0, 1] rfl (EV.mv rfl) rfl rfl rfl rfl ?_)))
    revert H; refine ggI ?_; intro g6 H
    revert H; refine ggI ?_; intro g7 H
    exact xv 8 [] [0, 1] rfl (EV.ix 1 rfl rfl rfl g6 g7 rfl) rfl rfl rfl rfl (xv 9 [] [0, 1] rfl (EV.fa 0 rfl) rfl rfl rfl rfl (xv 10 [] [0, 1] rfl (EV.le (v := .int .i64 ((rd_T73 l0 x18_4).f0)) x18_4 0 none 1 z73 rfl rfl rfl g6 g7 rfl rfl rfl) rfl rfl rfl rfl (xv 11 [] [0, 1] rfl (EV.eql rfl rfl) rfl rfl rfl rfl (xv 12 [] [0, 1] rfl (EV.pf rfl rfl rfl) rfl rfl rfl rfl (xv 13 [] [0, 1] rfl (EV.as rfl) rfl rfl rfl rfl (xd (pr [0, 3, 4, 5, 6, 22, 23, 24, 25, 26, 27, 28, 29, 30, 31] [] [0, 1] rfl rfl rfl rfl (ge (rg (sv (EV.mv rfl) rfl (sv (EV.add rfl rfl) rfl (sv (EV.as rfl) rfl (re (wk [0, 3, 4, 5, 6] [] [⟨0, 2, 1, true⟩, ⟨1, 0, 0, false⟩] (ih1 _ (by omega) _ ⟨x18_3, Ax18_3, cx18_3, x18_4, decide ((rdOf 0 x18_3 x18_6) = ((rd_T73 l0 x18_4).f0)), wrap64 (x18_6 + 1), by omega, H, rfl⟩)))))))))))))))
  ·
   refine gf rfl (dF c3) (gx rfl (gs (rg (sv (EV.mv rfl) rfl (sv (EV.nt rfl) rfl (re (pr [0, 3, 4, 34] [] [0, 1] rfl rfl rfl rfl ?_)))))))
   revert H; refine ifsI ?_ ?_ <;> intro c8 H
   ·
    subst c8
    exact gf rfl rfl (gk (ge (rg (sv (EV.mv rfl) rfl (sv (EV.add rfl rfl) rfl (sv (EV.as rfl) rfl (re (wk [0, 3, 4] [] [⟨0, 2, 1, true⟩, ⟨1, 0, 0, false⟩] (ih0 _ (by omega) _ ⟨x18_3, Ax18_3, cx18_3, wrap64 (x18_4 + 1), H, rfl⟩)))))))))
   ·
    obtain rfl := bF c8
    refine gt rfl rfl (rg (sv (EV.mv rfl) rfl (sv (EV.mv rfl) rfl (sv (EV.mv rfl) rfl ?_))))
    revert H; refine ggI ?_; intro g9 H
    revert H; refine ggI ?_; intro g10 H
    refine sv (EV.ix 1 rfl rfl rfl g9 g10 rfl) rfl (sv (EV.fa 0 rfl) rfl (sv (EV.le (v := .int .i64 ((rd_T73 l0 x18_4).f0)) x18_4 0 none 1 z73 rfl rfl rfl g9 g10 rfl rfl rfl) rfl (so rfl (op_lit (s := 1) (by_ := 8) (.int .i64) ([(rd_T73 l0 x18_4).f0] : List Int) [[]] [] 2 [.tmp 40] rfl rfl rfl rfl rfl rfl rfl rfl rfl rfl rfl rfl rfl dq rfl fun A41_11 c41_11 => ?_))))
    revert H; refine ggI ?_; intro g12 H
    exact so rfl (op_app (k := (.int .i64)) (s := 1) (by_ := 8) 0 2 rfl rfl rfl rfl (ap1 g12 dq) (ap1n g12 dq) (.inl rfl) true (fun _ => .inl rfl) rfl rfl fun A42_13 c42_13 => (nmE (en := [.sl 0 k73 Al0 cl0 l0 0 false, .sl 2 (.int .i64) A41_11 c41_11 ([(rd_T73 l0 x18_4).f0] : List Int) 2 true, .sl 2 (.int .i64) A42_13 c42_13 (x18_3 ++ ([(rd_T73 l0 x18_4).f0] : List Int)) 1 true]) (by kernel_rfl) (sv (EV.as rfl) rfl (re (pr [0, 3, 4] [] [0, 2] rfl rfl rfl rfl (ge (rg (sv (EV.mv rfl) rfl (sv (EV.add rfl rfl) rfl (sv (EV.as rfl) rfl (re (wk [0, 3, 4] [] [⟨1, 2, 1, true⟩, ⟨0, 0, 0, false⟩] (ih0 _ (by omega) _ ⟨x18_3 ++ ([(rd_T73 l0 x18_4).f0] : List Int), A42_13, c42_13, wrap64 (x18_4 + 1), H, rfl⟩)))))))))))))
 ·
  refine gf rfl (dF c2) (gx rfl (gs (rg (sv (EV.mv rfl) rfl (sv (EV.as rfl) rfl (re (pr [2] [] [0] rfl rfl rfl rfl ?_)))))))
  cases H
  exact rt Try.func12 rfl (.tmp rfl .nil) rfl [] [⟨0, 2, 1, true⟩] rfl rfl rfl rfl rfl ⟨_, _, rfl, rfl, rfl⟩
end Go.Proofs.Ytoncjohnkiilcaa.K
namespace Go.Proofs.Ytoncjohnkiilcaa.K
open Go Go.RowKit
set_option linter.unusedVariables false
set_option linter.unusedSimpArgs false
def spec_l1In.f (a0 : Int) (a1 : Int) (a2 : Int) : Option (Bool) := if a0 ≥ a1 then (some (decide (a0 ≤ a2))) else (some false)
set_option maxHeartbeats 4000000 in
set_option maxRecDepth 100000 in
theorem spec_l1In.ok (a0 : Int) (a1 : Int) (a2 : Int) (r0 : Bool) (H : spec_l1In.f a0 a1 a2 = some r0) : Fn Try.prog 59 [.int .i64 a0, .int .i64 a1, .int .i64 a2] [] [] (fun v bx en => v = .bool r0 ∧ bx = [] ∧ en = []) := by
 refine fn_ 15 Try.func59 rfl rfl rfl (fun base T w0 => ?_)
 rw [spec_l1In.f] at H
 refine gs (rg (sv (EV.as rfl) rfl (re (gs (rg (sv (EV.mv rfl) rfl (sv (EV.mv rfl) rfl (sv (EV.geq rfl rfl) rfl (sv (EV.mv rfl) rfl ?_)))))))))
 revert H; refine ifsI ?_ ?_ <;> intro c1 H
 ·
  refine ts 10 rfl (dT c1) (sv (EV.mv rfl) rfl (sv (EV.mv rfl) rfl (sv (EV.leq rfl rfl) rfl (sv (EV.pt rfl rfl rfl) rfl (sv (EV.as rfl) rfl (re (pr [6] [] [] rfl rfl rfl rfl ?_)))))))
  cases H
  exact rt Try.func59 rfl (.tmp rfl .nil) rfl [] [] rfl rfl rfl rfl rfl ⟨rfl, rfl, rfl⟩
 ·
  refine ts 10 rfl (dF c1) (sk rfl (sk rfl (sk rfl (sv (EV.pf rfl rfl rfl) rfl (sv (EV.as rfl) rfl (re (pr [6] [] [] rfl rfl rfl rfl ?_)))))))
  cases H
  exact rt Try.func59 rfl (.tmp rfl .nil) rfl [] [] rfl rfl rfl rfl rfl ⟨rfl, rfl, rfl⟩
end Go.Proofs.Ytoncjohnkiilcaa.K
namespace Go.Proofs.Ytoncjohnkiilcaa.K
open Go Go.RowKit
set_option linter.unusedVariables false
set_option linter.unusedSimpArgs false
def spec_IsValidRow.f (a0_0 : Int) (a0_1 : Int) (a0_2 : Int) : Option (Bool) := (spec_l1In.f a0_0 0 9).bind fun t1 => (if t1 = true then ((spec_l1In.f a0_1 0 99).bind fun t3 => (if t3 = true then ((spec_l1In.f a0_2 0 3).bind fun t5 => (some t5)) else (some false))) else (some false))
set_option maxHeartbeats 4000000 in
set_option maxRecDepth 100000 in
theorem spec_IsValidRow.ok (a0_0 : Int) (a0_1 : Int) (a0_2 : Int) (r0 : Bool) (H : spec_IsValidRow.f a0_0 a0_1 a0_2 = some r0) : Fn Try.prog 87 [.agg #[.int .i64 a0_0, .int .i64 a0_1, .int .i64 a0_2]] [] [] (fun v bx en => v = .bool r0 ∧ bx = [] ∧ en = []) := by
 refine fn_ 16 Try.func87 rfl rfl rfl (fun base T w0 => ?_)
 rw [spec_IsValidRow.f] at H
 refine gs (rg (so rfl (op_box (cs := [.int .i64 a0_0, .int .i64 a0_1, .int .i64 a0_2]) rfl rfl rfl fun b1 => (sv (EV.as rfl) rfl (re (gs (rg (sv (EV.fa 0 rfl) rfl (sv (EV.ld 0 none rfl rfl rfl) rfl ?_)))))))))
 revert H; refine bdI ?_; rintro t1 A1 H
 refine so rfl (op_call (spec_l1In.ok a0_0 0 9 _ A1) [] 1 rfl rfl rfl rfl rfl ?_)
 rintro _ _ _ ⟨rfl, rfl, rfl⟩
 refine sv (EV.mv rfl) rfl ?_
 revert H; refine ifsI ?_ ?_ <;> intro c2 H
 ·
  subst c2
  refine ts 6 rfl rfl (sv (EV.fa 1 rfl) rfl (sv (EV.ld 0 none rfl rfl rfl) rfl ?_))
  revert H; refine bdI ?_; rintro t3 A3 H
  refine so rfl (op_call (spec_l1In.ok a0_1 0 99 _ A3) [] 1 rfl rfl rfl rfl rfl ?_)
  rintro _ _ _ ⟨rfl, rfl, rfl⟩
  refine sv (EV.pt rfl rfl rfl) rfl (sv (EV.mv rfl) rfl ?_)
  revert H; refine ifsI ?_ ?_ <;> intro c4 H
  ·
   subst c4
   refine ts 11 rfl rfl (sv (EV.fa 2 rfl) rfl (sv (EV.ld 0 none rfl rfl rfl) rfl ?_))
   revert H; refine bdI ?_; rintro t5 A5 H
   refine so rfl (op_call (spec_l1In.ok a0_2 0 3 _ A5) [] 1 rfl rfl rfl rfl rfl ?_)
   rintro _ _ _ ⟨rfl, rfl, rfl⟩
   refine sv (EV.pt rfl rfl rfl) rfl (sv (EV.as rfl) rfl (re (pr [2] [] [] rfl rfl rfl rfl ?_)))
   cases H
   exact rt Try.func87 rfl (.tmp rfl .nil) rfl [] [] rfl rfl rfl rfl rfl ⟨rfl, rfl, rfl⟩
  ·
   obtain rfl := bF c4
   refine ts 11 rfl rfl (sk rfl (sk rfl (sk rfl (sv (EV.pf rfl rfl rfl) rfl (sv (EV.as rfl) rfl (re (pr [2] [] [] rfl rfl rfl rfl ?_)))))))
   cases H
   exact rt Try.func87 rfl (.tmp rfl .nil) rfl [] [] rfl rfl rfl rfl rfl ⟨rfl, rfl, rfl⟩
 ·
  obtain rfl := bF c2
  refine ts 6 rfl rfl (sk rfl (sk rfl (sk rfl (sv (EV.pf rfl rfl rfl) rfl (sv (EV.mv rfl) rfl (sk rfl (sk rfl (sk rfl (sv (EV.pf rfl rfl rfl) rfl (sv (EV.as rfl) rfl (re (pr [2] [] [] rfl rfl rfl rfl ?_))))))))))))
  cases H
  exact rt Try.func87 rfl (.tmp rfl .nil) rfl [] [] rfl rfl rfl rfl rfl ⟨rfl, rfl, rfl⟩
end Go.Proofs.Ytoncjohnkiilcaa.K
namespace Go.Proofs.Ytoncjohnkiilcaa.K
open Go Go.RowKit
set_option linter.unusedVariables false
set_option linter.unusedSimpArgs false
def spec_AreValidRows.l0 : Nat → Int → (List S73) → Option (Bool)
 | 0, _, _ => none
 | k + 1, x2_3, l0 => if x2_3 < (l0.length : Int) then (if 0 ≤ x2_3 then ((spec_IsValidRow.f ((rd_T73 l0 x2_3).f0) ((rd_T73 l0 x2_3).f1) ((rd_T73 l0 x2_3).f2)).bind fun t3 => (if t3 = true then (spec_AreValidRows.l0 k (wrap64 (x2_3 + 1)) l0) else (some false))) else none) else (some (decide ((l0.length : Int) ≤ 24)))
def spec_AreValidRows.f (k : Nat) (l0 : List S73) : Option (Bool) := spec_AreValidRows.l0 k 0 l0
set_option maxHeartbeats 4000000 in
set_option maxRecDepth 100000 in
theorem spec_AreValidRows.ok (k : Nat) (l0 : List S73) (Al0 : Option Addr) (cl0 : Nat) (r0 : Bool) (H : spec_AreValidRows.f k l0 = some r0) : Fn Try.prog 58 [.slice Al0 l0.length cl0] [] [.sl 0 k73 Al0 cl0 l0 0 false] (fun v bx en => v = .bool r0 ∧ bx = [] ∧ en = []) := by
 refine fn_ 19 Try.func58 rfl rfl rfl (fun base T w0 => ?_)
 rw [spec_AreValidRows.f] at H
 refine gs (rg (sv (EV.as rfl) rfl (re (gs (gs (rg (sv (EV.as rfl) rfl (re (gb ?_)))))))))
 refine lo (fun kk S => ∃ (x2_3 : Int), spec_AreValidRows.l0 kk x2_3 l0 = some r0 ∧ S = ⟨[(0, .slice Al0 l0.length cl0), (3, .int .i64 x2_3)], [], [.sl 0 k73 Al0 cl0 l0 0 false]⟩) (fun S hS => ?_) (fun n0 ih0 S hS => ?_) ⟨0, H, rfl⟩ (fun h => wk [0, 3] [] [⟨0, 0, 0, false⟩] h)
 · clear H; obtain ⟨_, H, _⟩ := hS; rw [spec_AreValidRows.l0] at H; cases H
 clear H
 obtain ⟨x2_3, H, rfl⟩ := hS
 rw [spec_AreValidRows.l0] at H
 refine gs (gs (rg (sv (EV.mv rfl) rfl (sv (EV.mv rfl) rfl (sv (EV.ln rfl) rfl (sv (EV.lss rfl rfl) rfl (re ?_)))))))
 revert H; refine ifsI ?_ ?_ <;> intro c1 H
 ·
  refine gt rfl (dT c1) (gk (gs (gb (gs (rg (sv (EV.mv rfl) rfl (sv (EV.mv rfl) rfl ?_)))))))
  revert H; refine ggI ?_; intro g2 H
  refine sv (EV.ix 0 rfl rfl rfl g2 c1 rfl) rfl (sv (EV.le (v := .agg #[.int .i64 ((rd_T73 l0 x2_3).f0), .int .i64 ((rd_T73 l0 x2_3).f1), .int .i64 ((rd_T73 l0 x2_3).f2)]) x2_3 0 (some 3) 0 z73 rfl rfl rfl g2 c1 rfl rfl rfl) rfl ?_)
  revert H; refine bdI ?_; rintro t3 A3 H
  refine so rfl (op_call (spec_IsValidRow.ok ((rd_T73 l0 x2_3).f0) ((rd_T73 l0 x2_3).f1) ((rd_T73 l0 x2_3).f2) _ A3) [] 1 rfl rfl rfl rfl rfl ?_)
  rintro _ _ _ ⟨rfl, rfl, rfl⟩
  refine sv (EV.nt rfl) rfl (re (pr [0, 3, 15] [] [0] rfl rfl rfl rfl ?_))
  revert H; refine ifsI ?_ ?_ <;> intro c4 H
  ·
   subst c4
   exact gf rfl rfl (gk (ge (rg (sv (EV.mv rfl) rfl (sv (EV.add rfl rfl) rfl (sv (EV.as rfl) rfl (re (wk [0, 3] [] [⟨0, 0, 0, false⟩] (ih0 _ (by omega) _ ⟨wrap64 (x2_3 + 1), H, rfl⟩)))))))))
  ·
   obtain rfl := bF c4
   refine gt rfl rfl (gs (rg (sv (EV.as rfl) rfl (re ?_))))
   cases H
   exact rt Try.func58 rfl (.tmp rfl .nil) rfl [] [] rfl rfl rfl rfl rfl ⟨rfl, rfl, rfl⟩
 ·
  refine gf rfl (dF c1) (gx rfl (gs (rg (sv (EV.mv rfl) rfl (sv (EV.ln rfl) rfl (sv (EV.leq rfl rfl) rfl (sv (EV.as rfl) rfl (re (pr [2] [] [] rfl rfl rfl rfl ?_)))))))))
  cases H
  exact rt Try.func58 rfl (.tmp rfl .nil) rfl [] [] rfl rfl rfl rfl rfl ⟨rfl, rfl, rfl⟩
end Go.Proofs.Ytoncjohnkiilcaa.K
namespace Go.Proofs.Ytoncjohnkiilcaa.K
open Go Go.RowKit
set_option linter.unusedVariables false
set_option linter.unusedSimpArgs false
def spec_IsValidAggregator.l0 : Nat → Int → Int → Int → Bool → (List S80) → Option (Bool)
 | 0, _, _, _, _, _ => none
 | k + 1, x2_3, x2_4, x2_1_1, x2_1_2, l0_0 => if x2_4 < (l0_0.length : Int) then (if 0 ≤ x2_4 then ((spec_AreValidRows.f k ((rd_T80 l0_0 x2_4).f0)).bind fun t4 => (if t4 = true then ((spec_l1In.f ((rd_T80 l0_0 x2_4).f1) 0 4).bind fun t6 => (if t6 = true then (spec_IsValidAggregator.l0 k (wrap64 (x2_3 + (((rd_T80 l0_0 x2_4).f0).length : Int))) (wrap64 (x2_4 + 1)) x2_1_1 x2_1_2 l0_0) else (some false))) else (some false))) else none) else (if x2_3 ≤ 24 then (if (l0_0.length : Int) ≤ 40 then ((spec_l1In.f x2_1_1 0 100000).bind fun t11 => (some t11)) else (some false)) else (some false))
def spec_IsValidAggregator.f (k : Nat) (l0_0 : List S80) (a0_1 : Int) (a0_2 : Bool) : Option (Bool) := spec_IsValidAggregator.l0 k 0 0 a0_1 a0_2 l0_0
set_option maxHeartbeats 4000000 in
set_option maxRecDepth 100000 in
theorem spec_IsValidAggregator.ok (k : Nat) (l0_0 : List S80) (Al0_0 : Option Addr) (cl0_0 : Nat) (a0_1 : Int) (a0_2 : Bool) (r0 : Bool) (H : spec_IsValidAggregator.f k l0_0 a0_1 a0_2 = some r0) : Fn Try.prog 25 [.agg #[.slice Al0_0 l0_0.length cl0_0, .int .i64 a0_1, .bool a0_2]] [] [.sl 0 k80 Al0_0 cl0_0 l0_0 0 false] (fun v bx en => v = .bool r0 ∧ bx = [] ∧ en = []) := by
 refine fn_ 52 Try.func25 rfl rfl rfl (fun base T w0 => ?_)
 rw [spec_IsValidAggregator.f] at H
 refine gs (rg (so rfl (op_box (cs := [.slice Al0_0 l0_0.length cl0_0, .int .i64 a0_1, .bool a0_2]) rfl rfl rfl fun b1 => (sv (EV.as rfl) rfl (re (gs (rg (sv (EV.as rfl) rfl (re (gs (gs (rg (sv (EV.as rfl) rfl (re (gb ?_)))))))))))))))
 refine lo (fun kk S => ∃ (x2_3 : Int) (x2_4 : Int) (x2_1_1 : Int) (x2_1_2 : Bool), spec_IsValidAggregator.l0 kk x2_3 x2_4 x2_1_1 x2_1_2 l0_0 = some r0 ∧ S = ⟨[(1, .pointer (some ⟨b1, 0, none⟩)), (3, .int .i64 x2_3), (4, .int .i64 x2_4)], [⟨b1, 40, [.slice Al0_0 l0_0.length cl0_0, .int .i64 x2_1_1, .bool x2_1_2]⟩], [.sl 0 k80 Al0_0 cl0_0 l0_0 0 false]⟩) (fun S hS => ?_) (fun n0 ih0 S hS => ?_) ⟨0, 0, a0_1, a0_2, H, rfl⟩ (fun h => wk [1, 3, 4] [0] [⟨0, 0, 0, false⟩] h)
 · clear H; obtain ⟨_, _, _, _, H, _⟩ := hS; rw [spec_IsValidAggregator.l0] at H; cases H
 clear H
 obtain ⟨x2_3, x2_4, x2_1_1, x2_1_2, H, rfl⟩ := hS
 rw [spec_IsValidAggregator.l0] at H
 refine gs (gs (rg (sv (EV.mv rfl) rfl (sv (EV.fa 0 rfl) rfl (sv (EV.ld 0 none rfl rfl rfl) rfl (sv (EV.ln rfl) rfl (sv (EV.lss rfl rfl) rfl (re ?_))))))))
 revert H; refine ifsI ?_ ?_ <;> intro c1 H
 ·
  refine gt rfl (dT c1) (gk (gs (gb (gs (gs (rg (sv (EV.fa 0 rfl) rfl (sv (EV.ld 0 none rfl rfl rfl) rfl (sv (EV.mv rfl) rfl ?_)))))))))
  revert H; refine ggI ?_; intro g2 H
  refine sv (EV.ix 0 rfl rfl rfl g2 c1 rfl) rfl (sv (EV.fa 0 rfl) rfl (opn (i := x2_4) 0 z80 rfl g2 c1 fun A_3 c_3 => (sv (EV.lc (v := .slice A_3 ((rd_T80 l0_0 x2_4).f0).length c_3) 0 none 1 rfl rfl rfl rfl) rfl ?_)))
  revert H; refine bdI ?_; rintro t4 A4 H
  refine so rfl (op_call (spec_AreValidRows.ok n0 ((rd_T80 l0_0 x2_4).f0) A_3 c_3 _ A4) [⟨2, 0, 0, false⟩] 1 rfl rfl rfl rfl rfl ?_)
  rintro _ _ _ ⟨rfl, rfl, rfl⟩
  refine sv (EV.nt rfl) rfl (sv (EV.mv rfl) rfl ?_)
  revert H; refine ifsI ?_ ?_ <;> intro c5 H
  ·
   subst c5
   refine ts 20 rfl rfl (sv (EV.fa 0 rfl) rfl (sv (EV.ld 0 none rfl rfl rfl) rfl (sv (EV.mv rfl) rfl (sv (EV.ix 0 rfl rfl rfl g2 c1 rfl) rfl (sv (EV.fa 1 rfl) rfl (sv (EV.lf (v := .int .i64 ((rd_T80 l0_0 x2_4).f1)) x2_4 1 none 0 z80 rfl rfl rfl g2 c1 rfl (fun _ _ => rfl)) rfl ?_))))))
   revert H; refine bdI ?_; rintro t6 A6 H
   refine so rfl (op_call (spec_l1In.ok ((rd_T80 l0_0 x2_4).f1) 0 4 _ A6) [] 1 rfl rfl rfl rfl rfl ?_)
   rintro _ _ _ ⟨rfl, rfl, rfl⟩
   refine sv (EV.nt rfl) rfl (sv (EV.pf rfl rfl rfl) rfl (re (pr [1, 3, 4, 21, 22, 23, 24, 25, 26, 27, 28, 29] [0] [0] rfl rfl rfl rfl ?_)))
   revert H; refine ifsI ?_ ?_ <;> intro c7 H
   ·
    subst c7
    exact gf rfl rfl (gk (rg (sv (EV.mv rfl) rfl (sv (EV.fa 0 rfl) rfl (sv (EV.ld 0 none rfl rfl rfl) rfl (sv (EV.mv rfl) rfl (sv (EV.ix 0 rfl rfl rfl g2 c1 rfl) rfl (sv (EV.fa 0 rfl) rfl (opn (i := x2_4) 0 z80 rfl g2 c1 fun A_8 c_8 => (sv (EV.lc (v := .slice A_8 ((rd_T80 l0_0 x2_4).f0).length c_8) 0 none 1 rfl rfl rfl rfl) rfl (sv (EV.ln rfl) rfl (sv (EV.add rfl rfl) rfl (sv (EV.as rfl) rfl (re (pr [1, 3, 4, 21, 22, 23, 24, 25, 26, 27, 28] [0] [0] rfl rfl rfl rfl (ge (rg (sv (EV.mv rfl) rfl (sv (EV.add rfl rfl) rfl (sv (EV.as rfl) rfl (re (wk [1, 3, 4] [0] [⟨0, 0, 0, false⟩] (ih0 _ (by omega) _ ⟨wrap64 (x2_3 + (((rd_T80 l0_0 x2_4).f0).length : Int)), wrap64 (x2_4 + 1), x2_1_1, x2_1_2, H, rfl⟩)))))))))))))))))))))))
   ·
    obtain rfl := bF c7
    refine gt rfl rfl (gs (rg (sv (EV.as rfl) rfl (re (pr [2] [] [] rfl rfl rfl rfl ?_)))))
    cases H
    exact rt Try.func25 rfl (.tmp rfl .nil) rfl [] [] rfl rfl rfl rfl rfl ⟨rfl, rfl, rfl⟩
  ·
   obtain rfl := bF c5
   refine ts 20 rfl rfl (sk rfl (sk rfl (sk rfl (sk rfl (sk rfl (sk rfl (sk rfl (sk rfl (sv (EV.pt rfl rfl rfl) rfl (re (pr [1, 3, 4, 29] [0] [0] rfl rfl rfl rfl (gt rfl rfl (gs (rg (sv (EV.as rfl) rfl (re ?_))))))))))))))))
   cases H
   exact rt Try.func25 rfl (.tmp rfl .nil) rfl [] [] rfl rfl rfl rfl rfl ⟨rfl, rfl, rfl⟩
 ·
  refine gf rfl (dF c1) (gx rfl (gs (rg (sv (EV.mv rfl) rfl (sv (EV.leq rfl rfl) rfl (sv (EV.mv rfl) rfl ?_))))))
  revert H; refine ifsI ?_ ?_ <;> intro c9 H
  ·
   refine ts 41 rfl (dT c9) (sv (EV.fa 0 rfl) rfl (sv (EV.ld 0 none rfl rfl rfl) rfl (sv (EV.ln rfl) rfl (sv (EV.leq rfl rfl) rfl (sv (EV.pt rfl rfl rfl) rfl (sv (EV.mv rfl) rfl ?_))))))
   revert H; refine ifsI ?_ ?_ <;> intro c10 H
   ·
    refine ts 47 rfl (dT c10) (sv (EV.fa 1 rfl) rfl (sv (EV.ld 0 none rfl rfl rfl) rfl ?_))
    revert H; refine bdI ?_; rintro t11 A11 H
    refine so rfl (op_call (spec_l1In.ok x2_1_1 0 100000 _ A11) [] 1 rfl rfl rfl rfl rfl ?_)
    rintro _ _ _ ⟨rfl, rfl, rfl⟩
    refine sv (EV.pt rfl rfl rfl) rfl (sv (EV.as rfl) rfl (re (pr [2] [] [] rfl rfl rfl rfl ?_)))
    cases H
    exact rt Try.func25 rfl (.tmp rfl .nil) rfl [] [] rfl rfl rfl rfl rfl ⟨rfl, rfl, rfl⟩
   ·
    refine ts 47 rfl (dF c10) (sk rfl (sk rfl (sk rfl (sv (EV.pf rfl rfl rfl) rfl (sv (EV.as rfl) rfl (re (pr [2] [] [] rfl rfl rfl rfl ?_)))))))
    cases H
    exact rt Try.func25 rfl (.tmp rfl .nil) rfl [] [] rfl rfl rfl rfl rfl ⟨rfl, rfl, rfl⟩
  ·
   refine ts 41 rfl (dF c9) (sk rfl (sk rfl (sk rfl (sk rfl (sv (EV.pf rfl rfl rfl) rfl (sv (EV.mv rfl) rfl (sk rfl (sk rfl (sk rfl (sv (EV.pf rfl rfl rfl) rfl (sv (EV.as rfl) rfl (re (pr [2] [] [] rfl rfl rfl rfl ?_)))))))))))))
   cases H
   exact rt Try.func25 rfl (.tmp rfl .nil) rfl [] [] rfl rfl rfl rfl rfl ⟨rfl, rfl, rfl⟩
end Go.Proofs.Ytoncjohnkiilcaa.K
namespace Go.Proofs.Ytoncjohnkiilcaa.K
open Go Go.RowKit
set_option linter.unusedVariables false
set_option linter.unusedSimpArgs false
def spec_CombineGroups.f (a0_0 : Int) (a0_1 : Int) (a0_2 : Int) (a0_3 : Int) (a0_4 : Int) (a1_0 : Int) (a1_1 : Int) (a1_2 : Int) (a1_3 : Int) (a1_4 : Int) : Option (Int × Int × Int × Int × Int) := if a0_0 = a1_0 then (some (a0_0, wrap64 (a0_1 + a1_1), wrap64 (a0_2 + a1_2), mn a0_3 a1_3, mx a0_4 a1_4)) else (some (a0_0, a0_1, a0_2, a0_3, a0_4))
set_option maxHeartbeats 4000000 in
set_option maxRecDepth 100000 in
theorem spec_CombineGroups.ok (a0_0 : Int) (a0_1 : Int) (a0_2 : Int) (a0_3 : Int) (a0_4 : Int) (a1_0 : Int) (a1_1 : Int) (a1_2 : Int) (a1_3 : Int) (a1_4 : Int) (r0 : Int) (r1 : Int) (r2 : Int) (r3 : Int) (r4 : Int) (H : spec_CombineGroups.f a0_0 a0_1 a0_2 a0_3 a0_4 a1_0 a1_1 a1_2 a1_3 a1_4 = some (r0, r1, r2, r3, r4)) : Fn Try.prog 90 [.agg #[.int .i64 a0_0, .int .i64 a0_1, .int .i64 a0_2, .int .i64 a0_3, .int .i64 a0_4], .agg #[.int .i64 a1_0, .int .i64 a1_1, .int .i64 a1_2, .int .i64 a1_3, .int .i64 a1_4]] [] [] (fun v bx en => v = .agg #[.int .i64 r0, .int .i64 r1, .int .i64 r2, .int .i64 r3, .int .i64 r4] ∧ bx = [] ∧ en = []) := by
 refine fn_ 34 Try.func90 rfl rfl rfl (fun base T w0 => ?_)
 rw [spec_CombineGroups.f] at H
 refine gs (rg (so rfl (op_box (cs := [.int .i64 a0_0, .int .i64 a0_1, .int .i64 a0_2, .int .i64 a0_3, .int .i64 a0_4]) rfl rfl rfl fun b2 => (so rfl (op_box (cs := [.int .i64 a1_0, .int .i64 a1_1, .int .i64 a1_2, .int .i64 a1_3, .int .i64 a1_4]) rfl rfl rfl fun b3 => (so rfl (op_alloc (cs := [.int .i64 0, .int .i64 0, .int .i64 0, .int .i64 0, .int .i64 0]) (by kernel_rfl) rfl fun b4 => (re (gs (gs (rg (sv (EV.fa 0 rfl) rfl (sv (EV.ld 0 none rfl rfl rfl) rfl (sv (EV.fa 0 rfl) rfl (sv (EV.ld 1 none rfl rfl rfl) rfl (sv (EV.neq rfl rfl) rfl (re (pr [2, 3, 4, 9] [0, 1, 2] [] rfl rfl rfl rfl ?_))))))))))))))))))
 revert H; refine ifsI ?_ ?_ <;> intro c1 H
 ·
  refine gf rfl (nF c1) (gk (gs (rg (sv (EV.fa 0 rfl) rfl (sv (EV.ld 0 none rfl rfl rfl) rfl (sv (EV.fa 1 rfl) rfl (sv (EV.ld 0 none rfl rfl rfl) rfl (sv (EV.fa 1 rfl) rfl (sv (EV.ld 1 none rfl rfl rfl) rfl (sv (EV.add rfl rfl) rfl (sv (EV.fa 2 rfl) rfl (sv (EV.ld 0 none rfl rfl rfl) rfl (sv (EV.fa 2 rfl) rfl (sv (EV.ld 1 none rfl rfl rfl) rfl (sv (EV.add rfl rfl) rfl (sv (EV.fa 3 rfl) rfl (sv (EV.ld 0 none rfl rfl rfl) rfl (sv (EV.fa 3 rfl) rfl (sv (EV.ld 1 none rfl rfl rfl) rfl (sv (EV.mn rfl rfl) rfl (sv (EV.fa 4 rfl) rfl (sv (EV.ld 0 none rfl rfl rfl) rfl (sv (EV.fa 4 rfl) rfl (sv (EV.ld 1 none rfl rfl rfl) rfl (sv (EV.mx rfl rfl) rfl (sv (EV.bd (v := .agg #[.int .i64 a0_0, .int .i64 (wrap64 (a0_1 + a1_1)), .int .i64 (wrap64 (a0_2 + a1_2)), .int .i64 (mn a0_3 a1_3), .int .i64 (mx a0_4 a1_4)]) rfl (by kernel_rfl)) rfl (so rfl (op_st (cs' := [.int .i64 a0_0, .int .i64 (wrap64 (a0_1 + a1_1)), .int .i64 (wrap64 (a0_2 + a1_2)), .int .i64 (mn a0_3 a1_3), .int .i64 (mx a0_4 a1_4)]) 2 rfl rfl rfl rfl rfl rfl (re ?_)))))))))))))))))))))))))))))
  refine pr [4] [2] [] rfl rfl rfl rfl ?_
  cases H
  exact rt Try.func90 rfl (.cell 0 (some 5) rfl rfl rfl .nil) rfl [] [] rfl rfl rfl rfl rfl ⟨rfl, rfl, rfl⟩
 ·
  refine gt rfl (nT c1) (gs (rg (sv (EV.ld (v := .agg #[.int .i64 a0_0, .int .i64 a0_1, .int .i64 a0_2, .int .i64 a0_3, .int .i64 a0_4]) 0 (some 5) rfl rfl rfl) rfl (so rfl (op_st (cs' := [.int .i64 a0_0, .int .i64 a0_1, .int .i64 a0_2, .int .i64 a0_3, .int .i64 a0_4]) 2 rfl rfl rfl rfl rfl rfl (re ?_))))))
  cases H
  exact rt Try.func90 rfl (.cell 2 (some 5) rfl rfl rfl .nil) rfl [] [] rfl rfl rfl rfl rfl ⟨rfl, rfl, rfl⟩
end Go.Proofs.Ytoncjohnkiilcaa.K
namespace Go.Proofs.Ytoncjohnkiilcaa.K
open Go Go.RowKit
set_option linter.unusedVariables false
set_option linter.unusedSimpArgs false
mutual
def spec_MergeGroups.j1 : Nat → (List S88) → Int → Int → (List S88) → Option ((List S88))
 | 0, _, _, _, _ => none
 | k + 1, x33_3, x33_4, x33_5, l0 => if 0 ≤ x33_4 then (if x33_4 < (l0.length : Int) then (if 0 ≤ x33_5 then (if x33_5 ≤ (x33_3.length : Int) then (if ([(⟨(rd_T88 l0 x33_4).f0, (rd_T88 l0 x33_4).f1, (rd_T88 l0 x33_4).f2, (rd_T88 l0 x33_4).f3, (rd_T88 l0 x33_4).f4⟩ : S88)] : List S88).length + (x33_3.drop x33_5.toNat).length ≤ 3518437208883 then (if (x33_3.take x33_5.toNat).length ≤ 3518437208883 then (if (x33_3.take x33_5.toNat).length + (([(⟨(rd_T88 l0 x33_4).f0, (rd_T88 l0 x33_4).f1, (rd_T88 l0 x33_4).f2, (rd_T88 l0 x33_4).f3, (rd_T88 l0 x33_4).f4⟩ : S88)] : List S88) ++ (x33_3.drop x33_5.toNat)).length ≤ 3518437208883 then (spec_MergeGroups.l0 k ((x33_3.take x33_5.toNat) ++ (([(⟨(rd_T88 l0 x33_4).f0, (rd_T88 l0 x33_4).f1, (rd_T88 l0 x33_4).f2, (rd_T88 l0 x33_4).f3, (rd_T88 l0 x33_4).f4⟩ : S88)] : List S88) ++ (x33_3.drop x33_5.toNat))) (wrap64 (x33_4 + 1)) l0) else none) else none) else none) else none) else none) else none) else none
def spec_MergeGroups.j0 : Nat → (List S88) → Int → Int → (List S88) → Option ((List S88))
 | 0, _, _, _, _ => none
 | k + 1, x32_3, x32_4, x32_5, l0 => if x32_5 < (x32_3.length : Int) then (if 0 ≤ x32_5 then (if 0 ≤ x32_4 then (if x32_4 < (l0.length : Int) then (if ((rd_T88 x32_3 x32_5).f0) = ((rd_T88 l0 x32_4).f0) then ((spec_CombineGroups.f ((rd_T88 x32_3 x32_5).f0) ((rd_T88 x32_3 x32_5).f1) ((rd_T88 x32_3 x32_5).f2) ((rd_T88 x32_3 x32_5).f3) ((rd_T88 x32_3 x32_5).f4) ((rd_T88 l0 x32_4).f0) ((rd_T88 l0 x32_4).f1) ((rd_T88 l0 x32_4).f2) ((rd_T88 l0 x32_4).f3) ((rd_T88 l0 x32_4).f4)).bind fun bt22 => ((some (x32_3.set x32_5.toNat (⟨bt22.1, bt22.2.1, bt22.2.2.1, bt22.2.2.2.1, bt22.2.2.2.2⟩ : S88))).bind fun s23 => (spec_MergeGroups.l0 k s23 (wrap64 (x32_4 + 1)) l0))) else (spec_MergeGroups.j1 k x32_3 x32_4 x32_5 l0)) else none) else none) else none) else (spec_MergeGroups.j1 k x32_3 x32_4 x32_5 l0)
def spec_MergeGroups.l1 : Nat → (List S88) → Int → Int → (List S88) → Option ((List S88))
 | 0, _, _, _, _ => none
 | k + 1, x34_3, x34_4, x34_5, l0 => if x34_5 < (x34_3.length : Int) then (if 0 ≤ x34_5 then (if 0 ≤ x34_4 then (if x34_4 < (l0.length : Int) then (if ((rd_T88 x34_3 x34_5).f0) < ((rd_T88 l0 x34_4).f0) then (spec_MergeGroups.l1 k x34_3 x34_4 (wrap64 (x34_5 + 1)) l0) else (spec_MergeGroups.j0 k x34_3 x34_4 x34_5 l0)) else none) else none) else none) else (spec_MergeGroups.j0 k x34_3 x34_4 x34_5 l0)
def spec_MergeGroups.l0 : Nat → (List S88) → Int → (List S88) → Option ((List S88))
 | 0, _, _, _ => none
 | k + 1, x18_3, x18_4, l0 => if x18_4 < (l0.length : Int) then (spec_MergeGroups.l1 k x18_3 x18_4 0 l0) else (some x18_3)
end
def spec_MergeGroups.f (k : Nat) (l0 : List S88) : Option ((List S88)) := spec_MergeGroups.l0 k [] 0 l0
set_option maxHeartbeats 4000000 in
set_option maxRecDepth 100000 in
theorem spec_MergeGroups.ok (k : Nat) (l0 : List S88) (Al0 : Option Addr) (cl0 : Nat) (r0 : List S88) (H : spec_MergeGroups.f k l0 = some r0) : Fn Try.prog 66 [.slice Al0 l0.length cl0] [] [.sl 0 k88 Al0 cl0 l0 0 false] (fun v bx en => ∃ A0 c0, v = .slice A0 r0.length c0 ∧ bx = [] ∧ en = [.sl 2 k88 A0 c0 r0 1 true]) := by
 refine fn_ 79 Try.func66 rfl rfl rfl (fun base T w0 => ?_)
 rw [spec_MergeGroups.f] at H
 refine gs (rg (sv (EV.as rfl) rfl (re (gs (rg (so rfl (op_lit (s := 5) (by_ := 40) k88 ([] : List S88) [] [] 1 [] rfl rfl rfl rfl rfl rfl rfl rfl rfl rfl rfl rfl rfl dq rfl fun A7_1 c7_1 => (sv (EV.as rfl) rfl (re (gs (gs (rg (sv (EV.as rfl) rfl (re (gb ?_)))))))))))))))
 refine lo (fun kk S => ∃ (x18_3 : List S88) (Ax18_3 : Option Addr) (cx18_3 : Nat) (x18_4 : Int), spec_MergeGroups.l0 kk x18_3 x18_4 l0 = some r0 ∧ S = ⟨[(0, .slice Al0 l0.length cl0), (3, .slice Ax18_3 x18_3.length cx18_3), (4, .int .i64 x18_4)], [], [.sl 2 k88 Ax18_3 cx18_3 x18_3 1 true, .sl 0 k88 Al0 cl0 l0 0 false]⟩) (fun S hS => ?_) (fun n0 ih0 S hS => ?_) ⟨[], A7_1, c7_1, 0, H, rfl⟩ (fun h => wk [0, 3, 4] [] [⟨1, 2, 1, true⟩, ⟨0, 0, 0, false⟩] h)
 · clear H; obtain ⟨_, _, _, _, H, _⟩ := hS; rw [spec_MergeGroups.l0] at H; cases H
 clear H
 obtain ⟨x18_3, Ax18_3, cx18_3, x18_4, H, rfl⟩ := hS
 rw [spec_MergeGroups.l0] at H
 refine gs (gs (rg (sv (EV.mv rfl) rfl (sv (EV.mv rfl) rfl (sv (EV.ln rfl) rfl (sv (EV.lss rfl rfl) rfl (re ?_)))))))
 revert H; refine ifsI ?_ ?_ <;> intro c2 H
 ·
  refine gt rfl (dT c2) (gk (gs (gb (gs (rg (sv (EV.as rfl) rfl (re ?_)))))))
  refine jo (fun S => ∃ (m : Nat) (x32_3 : List S88) (Ax32_3 : Option Addr) (cx32_3 : Nat) (x32_4 : Int) (x32_5 : Int), m ≤ n0 ∧ spec_MergeGroups.j0 m x32_3 x32_4 x32_5 l0 = some r0 ∧ S = ⟨[(0, .slice Al0 l0.length cl0), (3, .slice Ax32_3 x32_3.length cx32_3), (4, .int .i64 x32_4), (5, .int .i64 x32_5)], [], [.sl 2 k88 Ax32_3 cx32_3 x32_3 1 true, .sl 0 k88 Al0 cl0 l0 0 false]⟩) (fun S hS => ?_) (fun jh0 => ?_)
  ·
   clear H
   obtain ⟨m3, x32_3, Ax32_3, cx32_3, x32_4, x32_5, lm3, H, rfl⟩ := hS
   rcases m3 with _ | m3
   · rw [spec_MergeGroups.j0] at H; cases H
   rw [spec_MergeGroups.j0] at H
   refine jo (fun S => ∃ (m : Nat) (x33_3 : List S88) (Ax33_3 : Option Addr) (cx33_3 : Nat) (x33_4 : Int) (x33_5 : Int), m ≤ m3 ∧ spec_MergeGroups.j1 m x33_3 x33_4 x33_5 l0 = some r0 ∧ S = ⟨[(0, .slice Al0 l0.length cl0), (3, .slice Ax33_3 x33_3.length cx33_3), (4, .int .i64 x33_4), (5, .int .i64 x33_5)], [], [.sl 2 k88 Ax33_3 cx33_3 x33_3 1 true, .sl 0 k88 Al0 cl0 l0 0 false]⟩) (fun S hS => ?_) (fun jh1 => ?_)
   ·
    clear H
    obtain ⟨m4, x33_3, Ax33_3, cx33_3, x33_4, x33_5, lm4, H, rfl⟩ := hS
    rcases m4 with _ | m4
    · rw [spec_MergeGroups.j1] at H; cases H
    rw [spec_MergeGroups.j1] at H
    refine gs ?_
    revert H; refine ggI ?_; intro g5 H
    revert H; refine ggI ?_; intro g6 H
    revert H; refine ggI ?_; intro g7 H
    revert H; refine ggI ?_; intro g8 H
    refine dr [] [0, 1] [9] 10 rfl rfl rfl rfl (xv 0 [] [0, 1] rfl (EV.mv rfl) rfl rfl rfl rfl (xv 1 [] [0, 1] rfl (EV.mv rfl) rfl rfl rfl rfl (xv 2 [] [0, 1] rfl (EV.ix 1 rfl rfl rfl g5 g6 rfl) rfl rfl rfl rfl (xv 3 [] [0, 1] rfl (EV.le (v := .agg #[.int .i64 ((rd_T88 l0 x33_4).f0), .int .i64 ((rd_T88 l0 x33_4).f1), .int .i64 ((rd_T88 l0 x33_4).f2), .int .i64 ((rd_T88 l0 x33_4).f3), .int .i64 ((rd_T88 l0 x33_4).f4)]) x33_4 0 (some 5) 1 z88 rfl rfl rfl g5 g6 rfl rfl rfl) rfl rfl rfl rfl (xv 5 [] [0, 1] rfl (EV.mv rfl) rfl rfl rfl rfl (xv 6 [] [0, 1] rfl (EV.mv rfl) rfl rfl rfl rfl (cutp (l' := x33_3.drop x33_5.toNat) x33_5 (x33_3.length : Int) 0 rfl g7 g8 (Int.le_refl _) rfl 1 dq (.inl dq) ctl (xv 7 [] [0, 1] rfl (EV.ct x33_5 (x33_3.length : Int) 0 rfl rfl rfl rfl g7 g8 (Int.le_refl _) rfl rfl ctnl) rfl rfl rfl rfl (one1 4 rfl rfl (op_lit (s := 5) (by_ := 40) k88 ([(⟨(rd_T88 l0 x33_4).f0, (rd_T88 l0 x33_4).f1, (rd_T88 l0 x33_4).f2, (rd_T88 l0 x33_4).f3, (rd_T88 l0 x33_4).f4⟩ : S88)] : List S88) [[]] [] 2 [.tmp 65] rfl rfl rfl rfl rfl rfl rfl rfl rfl rfl rfl rfl rfl dq rfl fun A66_9 c66_9 => (xs [] [0, 1] rfl rfl rfl (one1 8 rfl rfl ?_))))))))))))
    revert H; refine ggI ?_; intro g10 H
    refine op_app (k := k88) (s := 5) (by_ := 40) 3 2 rfl rfl rfl rfl (ap2 g10 dq) (ap2n g10 dq) (.inl rfl) true (fun _ => .inl rfl) rfl rfl fun A70_11 c70_11 => (nmE (en := [.sl 2 k88 Ax33_3 cx33_3 x33_3 1 true, .sl 0 k88 Al0 cl0 l0 0 false, .sl 1 k88 (cutA Ax33_3 cx33_3 x33_5.toNat 5) (cx33_3 - x33_5.toNat) (x33_3.drop x33_5.toNat) 1 true, .sl 2 k88 A70_11 c70_11 (([(⟨(rd_T88 l0 x33_4).f0, (rd_T88 l0 x33_4).f1, (rd_T88 l0 x33_4).f2, (rd_T88 l0 x33_4).f3, (rd_T88 l0 x33_4).f4⟩ : S88)] : List S88) ++ (x33_3.drop x33_5.toNat)) 2 true]) (by kernel_rfl) (xs [] [0, 1] rfl rfl rfl (one1 9 rfl rfl (ov (EV.as rfl) rfl (xn rfl (xd (pr [0, 3, 4, 5, 6] [] [0, 1, 3] rfl rfl rfl rfl (rg (so rfl (op_lit (s := 5) (by_ := 40) k88 ([] : List S88) [] [] 3 [] rfl rfl rfl rfl rfl rfl rfl rfl rfl rfl rfl rfl rfl dq rfl fun A71_12 c71_12 => (sv (EV.mv rfl) rfl (sv (EV.mv rfl) rfl (cutp (l' := x33_3.take x33_5.toNat) 0 x33_5 0 rfl (Int.le_refl 0) g7 g8 rfl 2 dq (.inr rfl) rfl (sv (EV.ct 0 x33_5 0 rfl rfl rfl rfl (Int.le_refl 0) g7 g8 rfl rfl ctnh) rfl ?_))))))))))))))
    revert H; refine ggI ?_; intro g13 H
    refine so rfl (op_app (k := k88) (s := 5) (by_ := 40) 3 4 rfl rfl rfl rfl (ap0 g13 dq) (ap0n g13 dq) (.inl rfl) true (fun _ => .inl rfl) rfl rfl fun A75_14 c75_14 => (nmE (en := [.sl 2 k88 Ax33_3 cx33_3 x33_3 1 true, .sl 0 k88 Al0 cl0 l0 0 false, .sl 2 k88 A70_11 c70_11 (([(⟨(rd_T88 l0 x33_4).f0, (rd_T88 l0 x33_4).f1, (rd_T88 l0 x33_4).f2, (rd_T88 l0 x33_4).f3, (rd_T88 l0 x33_4).f4⟩ : S88)] : List S88) ++ (x33_3.drop x33_5.toNat)) 2 true, .sl 2 k88 (cutA Ax33_3 cx33_3 (0 : Int).toNat 5) (cx33_3 - (0 : Int).toNat) (x33_3.take x33_5.toNat) 1 true, .sl 2 k88 A75_14 c75_14 (x33_3.take x33_5.toNat) 3 true]) (by kernel_rfl) (sv (EV.mv rfl) rfl ?_)))
    revert H; refine ggI ?_; intro g15 H
    exact so rfl (op_app (k := k88) (s := 5) (by_ := 40) 4 2 rfl rfl rfl rfl (ap2 g15 dq) (ap2n g15 dq) (.inl rfl) true (fun _ => .inl rfl) rfl rfl fun A77_16 c77_16 => (nmE (en := [.sl 2 k88 Ax33_3 cx33_3 x33_3 1 true, .sl 0 k88 Al0 cl0 l0 0 false, .sl 2 k88 A70_11 c70_11 (([(⟨(rd_T88 l0 x33_4).f0, (rd_T88 l0 x33_4).f1, (rd_T88 l0 x33_4).f2, (rd_T88 l0 x33_4).f3, (rd_T88 l0 x33_4).f4⟩ : S88)] : List S88) ++ (x33_3.drop x33_5.toNat)) 2 true, .sl 2 k88 (cutA Ax33_3 cx33_3 (0 : Int).toNat 5) (cx33_3 - (0 : Int).toNat) (x33_3.take x33_5.toNat) 1 true, .sl 2 k88 A77_16 c77_16 ((x33_3.take x33_5.toNat) ++ (([(⟨(rd_T88 l0 x33_4).f0, (rd_T88 l0 x33_4).f1, (rd_T88 l0 x33_4).f2, (rd_T88 l0 x33_4).f3, (rd_T88 l0 x33_4).f4⟩ : S88)] : List S88) ++ (x33_3.drop x33_5.toNat))) 3 true]) (by kernel_rfl) (sv (EV.as rfl) rfl (re (pr [0, 3, 4] [] [1, 4] rfl rfl rfl rfl (ge (rg (sv (EV.mv rfl) rfl (sv (EV.add rfl rfl) rfl (sv (EV.as rfl) rfl (re (wk [0, 3, 4] [] [⟨1, 2, 1, true⟩, ⟨0, 0, 0, false⟩] (ih0 _ (by omega) _ ⟨(x33_3.take x33_5.toNat) ++ (([(⟨(rd_T88 l0 x33_4).f0, (rd_T88 l0 x33_4).f1, (rd_T88 l0 x33_4).f2, (rd_T88 l0 x33_4).f3, (rd_T88 l0 x33_4).f4⟩ : S88)] : List S88) ++ (x33_3.drop x33_5.toNat)), A77_16, c77_16, wrap64 (x33_4 + 1), H, rfl⟩)))))))))))))
   ·
    refine gs (dr [] [0, 1] [] 17 rfl rfl rfl rfl (xv 0 [] [0, 1] rfl (EV.mv rfl) rfl rfl rfl rfl (xv 1 [] [0, 1] rfl (EV.mv rfl) rfl rfl rfl rfl (xv 2 [] [0, 1] rfl (EV.ln rfl) rfl rfl rfl rfl (xv 3 [] [0, 1] rfl (EV.lss rfl rfl) rfl rfl rfl rfl (xv 4 [] [0, 1] rfl (EV.mv rfl) rfl rfl rfl rfl ?_))))))
    revert H; refine ifsI ?_ ?_ <;> intro c17 H
    ·
     refine ts 37 rfl (dT c17) (xv 5 [] [0, 1] rfl (EV.mv rfl) rfl rfl rfl rfl (xv 6 [] [0, 1] rfl (EV.mv rfl) rfl rfl rfl rfl ?_))
     revert H; refine ggI ?_; intro g18 H
     refine xv 7 [] [0, 1] rfl (EV.ix 0 rfl rfl rfl g18 c17 rfl) rfl rfl rfl rfl (xv 8 [] [0, 1] rfl (EV.fa 0 rfl) rfl rfl rfl rfl (xv 9 [] [0, 1] rfl (EV.le (v := .int .i64 ((rd_T88 x32_3 x32_5).f0)) x32_5 0 none 0 z88 rfl rfl rfl g18 c17 rfl rfl rfl) rfl rfl rfl rfl (xv 10 [] [0, 1] rfl (EV.mv rfl) rfl rfl rfl rfl (xv 11 [] [0, 1] rfl (EV.mv rfl) rfl rfl rfl rfl ?_))))
     revert H; refine ggI ?_; intro g19 H
     revert H; refine ggI ?_; intro g20 H
     refine xv 12 [] [0, 1] rfl (EV.ix 1 rfl rfl rfl g19 g20 rfl) rfl rfl rfl rfl (xv 13 [] [0, 1] rfl (EV.fa 0 rfl) rfl rfl rfl rfl (xv 14 [] [0, 1] rfl (EV.le (v := .int .i64 ((rd_T88 l0 x32_4).f0)) x32_4 0 none 1 z88 rfl rfl rfl g19 g20 rfl rfl rfl) rfl rfl rfl rfl (xv 15 [] [0, 1] rfl (EV.eql rfl rfl) rfl rfl rfl rfl (xv 16 [] [0, 1] rfl (EV.pt rfl rfl rfl) rfl rfl rfl rfl (xd ?_)))))
     revert H; refine ifsI ?_ ?_ <;> intro c21 H
     ·
      refine gt rfl (dT c21) (gs (dr [] [0, 1] [12] 13 rfl rfl rfl rfl (xv 0 [] [0, 1] rfl (EV.mv rfl) rfl rfl rfl rfl (xv 1 [] [0, 1] rfl (EV.mv rfl) rfl rfl rfl rfl (xv 2 [] [0, 1] rfl (EV.mv rfl) rfl rfl rfl rfl (xv 3 [] [0, 1] rfl (EV.mv rfl) rfl rfl rfl rfl (xv 4 [] [0, 1] rfl (EV.ix 0 rfl rfl rfl g18 c17 rfl) rfl rfl rfl rfl (xv 5 [] [0, 1] rfl (EV.le (v := .agg #[.int .i64 ((rd_T88 x32_3 x32_5).f0), .int .i64 ((rd_T88 x32_3 x32_5).f1), .int .i64 ((rd_T88 x32_3 x32_5).f2), .int .i64 ((rd_T88 x32_3 x32_5).f3), .int .i64 ((rd_T88 x32_3 x32_5).f4)]) x32_5 0 (some 5) 0 z88 rfl rfl rfl g18 c17 rfl rfl rfl) rfl rfl rfl rfl (xv 6 [] [0, 1] rfl (EV.mv rfl) rfl rfl rfl rfl (xv 7 [] [0, 1] rfl (EV.mv rfl) rfl rfl rfl rfl (xv 8 [] [0, 1] rfl (EV.ix 1 rfl rfl rfl g19 g20 rfl) rfl rfl rfl rfl (xv 9 [] [0, 1] rfl (EV.le (v := .agg #[.int .i64 ((rd_T88 l0 x32_4).f0), .int .i64 ((rd_T88 l0 x32_4).f1), .int .i64 ((rd_T88 l0 x32_4).f2), .int .i64 ((rd_T88 l0 x32_4).f3), .int .i64 ((rd_T88 l0 x32_4).f4)]) x32_4 0 (some 5) 1 z88 rfl rfl rfl g19 g20 rfl rfl rfl) rfl rfl rfl rfl (one1 10 rfl rfl ?_)))))))))))))
      revert H; refine bdI ?_; rintro ⟨t22_0, t22_1, t22_2, t22_3, t22_4⟩ A22 H
      refine op_call (spec_CombineGroups.ok ((rd_T88 x32_3 x32_5).f0) ((rd_T88 x32_3 x32_5).f1) ((rd_T88 x32_3 x32_5).f2) ((rd_T88 x32_3 x32_5).f3) ((rd_T88 x32_3 x32_5).f4) ((rd_T88 l0 x32_4).f0) ((rd_T88 l0 x32_4).f1) ((rd_T88 l0 x32_4).f2) ((rd_T88 l0 x32_4).f3) ((rd_T88 l0 x32_4).f4) _ _ _ _ _ A22) [] 2 rfl rfl rfl rfl rfl ?_
      rintro _ _ _ ⟨rfl, rfl, rfl⟩
      refine xs [] [0, 1] rfl rfl rfl (xv 11 [] [0, 1] rfl (EV.ix 0 rfl rfl rfl g18 c17 rfl) rfl rfl rfl rfl (one1 12 rfl rfl ?_))
      revert H; refine bdI ?_; intro s23 A23 H; have q23 := stl (Option.some.inj A23)
      exact op_stg x32_5 0 0 z88 (⟨t22_0, t22_1, t22_2, t22_3, t22_4⟩ : S88) (Option.some.inj A23) rfl rfl rfl rfl g18 c17 rfl rfl rfl rfl dq rfl (rlT 3 (v' := .slice Ax32_3 s23.length cx32_3) rfl (slq _ _ q23) (rlT 34 (v' := .slice Ax32_3 s23.length cx32_3) rfl (slq _ _ q23) (rlT 38 (v' := .slice Ax32_3 s23.length cx32_3) rfl (slq _ _ q23) (rlT 50 (v' := .slice Ax32_3 s23.length cx32_3) rfl (slq _ _ q23) (rlT 52 (v' := .slice Ax32_3 s23.length cx32_3) rfl (slq _ _ q23) (nmE (en := [.sl 0 k88 Al0 cl0 l0 0 false, .sl 2 k88 Ax32_3 cx32_3 s23 1 true]) (by kernel_rfl) (xn rfl (xd (pr [0, 3, 4, 38, 39, 42, 43, 44, 45, 46, 47, 48] [] [0, 1] rfl rfl rfl rfl (gx rfl (rg (sv (EV.mv rfl) rfl (sv (EV.add rfl rfl) rfl (sv (EV.as rfl) rfl (re (wk [0, 3, 4] [] [⟨1, 2, 1, true⟩, ⟨0, 0, 0, false⟩] (ih0 _ (by omega) _ ⟨s23, Ax32_3, cx32_3, wrap64 (x32_4 + 1), H, rfl⟩)))))))))))))))))
     ·
      exact gf rfl (dF c21) (gk (wk [0, 3, 4, 5] [] [⟨0, 2, 1, true⟩, ⟨1, 0, 0, false⟩] (jh1 _ ⟨_, x32_3, Ax32_3, cx32_3, x32_4, x32_5, by omega, H, rfl⟩)))
    ·
     exact ts 37 rfl (dF c17) (xk 5 [] [0, 1] rfl rfl rfl rfl rfl (xk 6 [] [0, 1] rfl rfl rfl rfl rfl (xk 7 [] [0, 1] rfl rfl rfl rfl rfl (xk 8 [] [0, 1] rfl rfl rfl rfl rfl (xk 9 [] [0, 1] rfl rfl rfl rfl rfl (xk 10 [] [0, 1] rfl rfl rfl rfl rfl (xk 11 [] [0, 1] rfl rfl rfl rfl rfl (xk 12 [] [0, 1] rfl rfl rfl rfl rfl (xk 13 [] [0, 1] rfl rfl rfl rfl rfl (xk 14 [] [0, 1] rfl rfl rfl rfl rfl (xk 15 [] [0, 1] rfl rfl rfl rfl rfl (xv 16 [] [0, 1] rfl (EV.pf rfl rfl rfl) rfl rfl rfl rfl (xd (pr [0, 3, 4, 5, 49] [] [0, 1] rfl rfl rfl rfl (gf rfl rfl (gk (wk [0, 3, 4, 5] [] [⟨0, 2, 1, true⟩, ⟨1, 0, 0, false⟩] (jh1 _ ⟨_, x32_3, Ax32_3, cx32_3, x32_4, x32_5, by omega, H, rfl⟩))))))))))))))))))
  ·
   refine gb ?_
   refine lo (fun kk S => ∃ (x34_3 : List S88) (Ax34_3 : Option Addr) (cx34_3 : Nat) (x34_4 : Int) (x34_5 : Int), kk ≤ n0 ∧ spec_MergeGroups.l1 kk x34_3 x34_4 x34_5 l0 = some r0 ∧ S = ⟨[(0, .slice Al0 l0.length cl0), (3, .slice Ax34_3 x34_3.length cx34_3), (4, .int .i64 x34_4), (5, .int .i64 x34_5)], [], [.sl 2 k88 Ax34_3 cx34_3 x34_3 1 true, .sl 0 k88 Al0 cl0 l0 0 false]⟩) (fun S hS => ?_) (fun n1 ih1 S hS => ?_) ⟨x18_3, Ax18_3, cx18_3, x18_4, 0, by omega, H, rfl⟩ (fun h => wk [0, 3, 4, 5] [] [⟨0, 2, 1, true⟩, ⟨1, 0, 0, false⟩] h)
   · clear H; obtain ⟨_, _, _, _, _, _, H, _⟩ := hS; rw [spec_MergeGroups.l1] at H; cases H
   clear H
   obtain ⟨x34_3, Ax34_3, cx34_3, x34_4, x34_5, lk1, H, rfl⟩ := hS
   rw [spec_MergeGroups.l1] at H
   refine gs (gs (dr [] [0, 1] [] 17 rfl rfl rfl rfl (xv 0 [] [0, 1] rfl (EV.mv rfl) rfl rfl rfl rfl (xv 1 [] [0, 1] rfl (EV.mv rfl) rfl rfl rfl rfl (xv 2 [] [0, 1] rfl (EV.ln rfl) rfl rfl rfl rfl (xv 3 [] [0, 1] rfl (EV.lss rfl rfl) rfl rfl rfl rfl (xv 4 [] [0, 1] rfl (EV.mv rfl) rfl rfl rfl rfl ?_)))))))
   revert H; refine ifsI ?_ ?_ <;> intro c24 H
   ·
    refine ts 18 rfl (dT c24) (xv 5 [] [0, 1] rfl (EV.mv rfl) rfl rfl rfl rfl (xv 6 [] [0, 1] rfl (EV.mv rfl) rfl rfl rfl rfl ?_))
    revert H; refine ggI ?_; intro g25 H
    refine xv 7 [] [0, 1] rfl (EV.ix 0 rfl rfl rfl g25 c24 rfl) rfl rfl rfl rfl (xv 8 [] [0, 1] rfl (EV.fa 0 rfl) rfl rfl rfl rfl (xv 9 [] [0, 1] rfl (EV.le (v := .int .i64 ((rd_T88 x34_3 x34_5).f0)) x34_5 0 none 0 z88 rfl rfl rfl g25 c24 rfl rfl rfl) rfl rfl rfl rfl (xv 10 [] [0, 1] rfl (EV.mv rfl) rfl rfl rfl rfl (xv 11 [] [0, 1] rfl (EV.mv rfl) rfl rfl rfl rfl ?_))))
    revert H; refine ggI ?_; intro g26 H
    revert H; refine ggI ?_; intro g27 H
    refine xv 12 [] [0, 1] rfl (EV.ix 1 rfl rfl rfl g26 g27 rfl) rfl rfl rfl rfl (xv 13 [] [0, 1] rfl (EV.fa 0 rfl) rfl rfl rfl rfl (xv 14 [] [0, 1] rfl (EV.le (v := .int .i64 ((rd_T88 l0 x34_4).f0)) x34_4 0 none 1 z88 rfl rfl rfl g26 g27 rfl rfl rfl) rfl rfl rfl rfl (xv 15 [] [0, 1] rfl (EV.lss rfl rfl) rfl rfl rfl rfl (xv 16 [] [0, 1] rfl (EV.pt rfl rfl rfl) rfl rfl rfl rfl (xd ?_)))))
    revert H; refine ifsI ?_ ?_ <;> intro c28 H
    ·
     exact gt rfl (dT c28) (gk (gb (rg (sv (EV.mv rfl) rfl (sv (EV.add rfl rfl) rfl (sv (EV.as rfl) rfl (re (pr [0, 3, 4, 5, 19, 20, 21, 22, 23, 24, 25, 26, 27, 28, 29] [] [0, 1] rfl rfl rfl rfl (ge (wk [0, 3, 4, 5] [] [⟨0, 2, 1, true⟩, ⟨1, 0, 0, false⟩] (ih1 _ (by omega) _ ⟨x34_3, Ax34_3, cx34_3, x34_4, wrap64 (x34_5 + 1), by omega, H, rfl⟩)))))))))))
    ·
     exact gf rfl (dF c28) (gx rfl (wk [0, 3, 4, 5] [] [⟨0, 2, 1, true⟩, ⟨1, 0, 0, false⟩] (jh0 _ ⟨_, x34_3, Ax34_3, cx34_3, x34_4, x34_5, by omega, H, rfl⟩)))
   ·
    exact ts 18 rfl (dF c24) (xk 5 [] [0, 1] rfl rfl rfl rfl rfl (xk 6 [] [0, 1] rfl rfl rfl rfl rfl (xk 7 [] [0, 1] rfl rfl rfl rfl rfl (xk 8 [] [0, 1] rfl rfl rfl rfl rfl (xk 9 [] [0, 1] rfl rfl rfl rfl rfl (xk 10 [] [0, 1] rfl rfl rfl rfl rfl (xk 11 [] [0, 1] rfl rfl rfl rfl rfl (xk 12 [] [0, 1] rfl rfl rfl rfl rfl (xk 13 [] [0, 1] rfl rfl rfl rfl rfl (xk 14 [] [0, 1] rfl rfl rfl rfl rfl (xk 15 [] [0, 1] rfl rfl rfl rfl rfl (xv 16 [] [0, 1] rfl (EV.pf rfl rfl rfl) rfl rfl rfl rfl (xd (pr [0, 3, 4, 5, 30] [] [0, 1] rfl rfl rfl rfl (gf rfl rfl (gx rfl (wk [0, 3, 4, 5] [] [⟨0, 2, 1, true⟩, ⟨1, 0, 0, false⟩] (jh0 _ ⟨_, x34_3, Ax34_3, cx34_3, x34_4, x34_5, by omega, H, rfl⟩))))))))))))))))))
 ·
  refine gf rfl (dF c2) (gx rfl (gs (rg (sv (EV.mv rfl) rfl (sv (EV.as rfl) rfl (re (pr [2] [] [0] rfl rfl rfl rfl ?_)))))))
  cases H
  exact rt Try.func66 rfl (.tmp rfl .nil) rfl [] [⟨0, 2, 1, true⟩] rfl rfl rfl rfl rfl ⟨_, _, rfl, rfl, rfl⟩
end Go.Proofs.Ytoncjohnkiilcaa.K
namespace Go.Proofs.Ytoncjohnkiilcaa.K
open Go Go.RowKit
set_option linter.unusedVariables false
set_option linter.unusedSimpArgs false
def spec_GroupFromRow.f (a0_0 : Int) (a0_1 : Int) (a0_2 : Int) : Option (Int × Int × Int × Int × Int) := some (a0_0, 1, a0_1, a0_1, a0_1)
set_option maxHeartbeats 4000000 in
set_option maxRecDepth 100000 in
theorem spec_GroupFromRow.ok (a0_0 : Int) (a0_1 : Int) (a0_2 : Int) (r0 : Int) (r1 : Int) (r2 : Int) (r3 : Int) (r4 : Int) (H : spec_GroupFromRow.f a0_0 a0_1 a0_2 = some (r0, r1, r2, r3, r4)) : Fn Try.prog 95 [.agg #[.int .i64 a0_0, .int .i64 a0_1, .int .i64 a0_2]] [] [] (fun v bx en => v = .agg #[.int .i64 r0, .int .i64 r1, .int .i64 r2, .int .i64 r3, .int .i64 r4] ∧ bx = [] ∧ en = []) := by
 refine fn_ 12 Try.func95 rfl rfl rfl (fun base T w0 => ?_)
 rw [spec_GroupFromRow.f] at H
 refine gs (rg (so rfl (op_box (cs := [.int .i64 a0_0, .int .i64 a0_1, .int .i64 a0_2]) rfl rfl rfl fun b1 => (so rfl (op_alloc (cs := [.int .i64 0, .int .i64 0, .int .i64 0, .int .i64 0, .int .i64 0]) (by kernel_rfl) rfl fun b2 => (re (gs (rg (sv (EV.fa 0 rfl) rfl (sv (EV.ld 0 none rfl rfl rfl) rfl (sv (EV.fa 1 rfl) rfl (sv (EV.ld 0 none rfl rfl rfl) rfl (sv (EV.fa 1 rfl) rfl (sv (EV.ld 0 none rfl rfl rfl) rfl (sv (EV.fa 1 rfl) rfl (sv (EV.ld 0 none rfl rfl rfl) rfl (sv (EV.bd (v := .agg #[.int .i64 a0_0, .int .i64 1, .int .i64 a0_1, .int .i64 a0_1, .int .i64 a0_1]) rfl (by kernel_rfl)) rfl (so rfl (op_st (cs' := [.int .i64 a0_0, .int .i64 1, .int .i64 a0_1, .int .i64 a0_1, .int .i64 a0_1]) 1 rfl rfl rfl rfl rfl rfl (re (pr [2] [1] [] rfl rfl rfl rfl ?_)))))))))))))))))))))
 cases H
 exact rt Try.func95 rfl (.cell 0 (some 5) rfl rfl rfl .nil) rfl [] [] rfl rfl rfl rfl rfl ⟨rfl, rfl, rfl⟩
end Go.Proofs.Ytoncjohnkiilcaa.K
namespace Go.Proofs.Ytoncjohnkiilcaa.K
open Go Go.RowKit
set_option linter.unusedVariables false
set_option linter.unusedSimpArgs false
def spec_ReferenceGroups.l0 : Nat → (List S88) → Int → (List S73) → Option ((List S88))
 | 0, _, _, _ => none
 | k + 1, x2_3, x2_4, l0 => if x2_4 < (l0.length : Int) then (if 0 ≤ x2_4 then ((spec_GroupFromRow.f ((rd_T73 l0 x2_4).f0) ((rd_T73 l0 x2_4).f1) ((rd_T73 l0 x2_4).f2)).bind fun bt4 => (if x2_3.length < 3518437208883 then (spec_ReferenceGroups.l0 k (x2_3 ++ ([(⟨bt4.1, bt4.2.1, bt4.2.2.1, bt4.2.2.2.1, bt4.2.2.2.2⟩ : S88)] : List S88)) (wrap64 (x2_4 + 1)) l0) else none)) else none) else ((spec_MergeGroups.f k x2_3).bind fun t8 => (some t8))
def spec_ReferenceGroups.f (k : Nat) (l0 : List S73) : Option ((List S88)) := spec_ReferenceGroups.l0 k [] 0 l0
set_option maxHeartbeats 4000000 in
set_option maxRecDepth 100000 in
theorem spec_ReferenceGroups.ok (k : Nat) (l0 : List S73) (Al0 : Option Addr) (cl0 : Nat) (r0 : List S88) (H : spec_ReferenceGroups.f k l0 = some r0) : Fn Try.prog 72 [.slice Al0 l0.length cl0] [] [.sl 0 k73 Al0 cl0 l0 0 false] (fun v bx en => ∃ A0 c0, v = .slice A0 r0.length c0 ∧ bx = [] ∧ en = [.sl 2 k88 A0 c0 r0 1 true]) := by
 refine fn_ 22 Try.func72 rfl rfl rfl (fun base T w0 => ?_)
 rw [spec_ReferenceGroups.f] at H
 refine gs (rg (sv (EV.as rfl) rfl (re (gs (rg (so rfl (op_lit (s := 5) (by_ := 40) k88 ([] : List S88) [] [] 1 [] rfl rfl rfl rfl rfl rfl rfl rfl rfl rfl rfl rfl rfl dq rfl fun A5_1 c5_1 => (sv (EV.as rfl) rfl (re (gs (gs (rg (sv (EV.as rfl) rfl (re (gb ?_)))))))))))))))
 refine lo (fun kk S => ∃ (x2_3 : List S88) (Ax2_3 : Option Addr) (cx2_3 : Nat) (x2_4 : Int), spec_ReferenceGroups.l0 kk x2_3 x2_4 l0 = some r0 ∧ S = ⟨[(0, .slice Al0 l0.length cl0), (3, .slice Ax2_3 x2_3.length cx2_3), (4, .int .i64 x2_4)], [], [.sl 2 k88 Ax2_3 cx2_3 x2_3 1 true, .sl 0 k73 Al0 cl0 l0 0 false]⟩) (fun S hS => ?_) (fun n0 ih0 S hS => ?_) ⟨[], A5_1, c5_1, 0, H, rfl⟩ (fun h => wk [0, 3, 4] [] [⟨1, 2, 1, true⟩, ⟨0, 0, 0, false⟩] h)
 · clear H; obtain ⟨_, _, _, _, H, _⟩ := hS; rw [spec_ReferenceGroups.l0] at H; cases H
 clear H
 obtain ⟨x2_3, Ax2_3, cx2_3, x2_4, H, rfl⟩ := hS
 rw [spec_ReferenceGroups.l0] at H
 refine gs (gs (rg (sv (EV.mv rfl) rfl (sv (EV.mv rfl) rfl (sv (EV.ln rfl) rfl (sv (EV.lss rfl rfl) rfl (re ?_)))))))
 revert H; refine ifsI ?_ ?_ <;> intro c2 H
 ·
  refine gt rfl (dT c2) (gk (gs (gb (rg (sv (EV.mv rfl) rfl (sv (EV.mv rfl) rfl (sv (EV.mv rfl) rfl ?_)))))))
  revert H; refine ggI ?_; intro g3 H
  refine sv (EV.ix 1 rfl rfl rfl g3 c2 rfl) rfl (sv (EV.le (v := .agg #[.int .i64 ((rd_T73 l0 x2_4).f0), .int .i64 ((rd_T73 l0 x2_4).f1), .int .i64 ((rd_T73 l0 x2_4).f2)]) x2_4 0 (some 3) 1 z73 rfl rfl rfl g3 c2 rfl rfl rfl) rfl ?_)
  revert H; refine bdI ?_; rintro ⟨t4_0, t4_1, t4_2, t4_3, t4_4⟩ A4 H
  refine so rfl (op_call (spec_GroupFromRow.ok ((rd_T73 l0 x2_4).f0) ((rd_T73 l0 x2_4).f1) ((rd_T73 l0 x2_4).f2) _ _ _ _ _ A4) [] 2 rfl rfl rfl rfl rfl ?_)
  rintro _ _ _ ⟨rfl, rfl, rfl⟩
  refine so rfl (op_lit (s := 5) (by_ := 40) k88 ([(⟨t4_0, t4_1, t4_2, t4_3, t4_4⟩ : S88)] : List S88) [[]] [] 2 [.tmp 17] rfl rfl rfl rfl rfl rfl rfl rfl rfl rfl rfl rfl rfl dq rfl fun A18_5 c18_5 => ?_)
  revert H; refine ggI ?_; intro g6 H
  exact so rfl (op_app (k := k88) (s := 5) (by_ := 40) 0 2 rfl rfl rfl rfl (ap1 g6 dq) (ap1n g6 dq) (.inl rfl) true (fun _ => .inl rfl) rfl rfl fun A19_7 c19_7 => (nmE (en := [.sl 0 k73 Al0 cl0 l0 0 false, .sl 2 k88 A18_5 c18_5 ([(⟨t4_0, t4_1, t4_2, t4_3, t4_4⟩ : S88)] : List S88) 2 true, .sl 2 k88 A19_7 c19_7 (x2_3 ++ ([(⟨t4_0, t4_1, t4_2, t4_3, t4_4⟩ : S88)] : List S88)) 1 true]) (by kernel_rfl) (sv (EV.as rfl) rfl (re (pr [0, 3, 4] [] [0, 2] rfl rfl rfl rfl (ge (rg (sv (EV.mv rfl) rfl (sv (EV.add rfl rfl) rfl (sv (EV.as rfl) rfl (re (wk [0, 3, 4] [] [⟨1, 2, 1, true⟩, ⟨0, 0, 0, false⟩] (ih0 _ (by omega) _ ⟨x2_3 ++ ([(⟨t4_0, t4_1, t4_2, t4_3, t4_4⟩ : S88)] : List S88), A19_7, c19_7, wrap64 (x2_4 + 1), H, rfl⟩)))))))))))))
 ·
  refine gf rfl (dF c2) (gx rfl (gs (rg (sv (EV.mv rfl) rfl ?_))))
  revert H; refine bdI ?_; rintro t8 A8 H
  refine so rfl (op_call (spec_MergeGroups.ok n0 x2_3 Ax2_3 cx2_3 _ A8) [⟨0, 0, 0, false⟩] 2 rfl rfl rfl rfl rfl ?_)
  rintro _ _ _ ⟨At8, ct8, rfl, rfl, rfl⟩
  refine sv (EV.as rfl) rfl (re (pr [2] [] [2] rfl rfl rfl rfl ?_))
  cases H
  exact rt Try.func72 rfl (.tmp rfl .nil) rfl [] [⟨0, 2, 1, true⟩] rfl rfl rfl rfl rfl ⟨_, _, rfl, rfl, rfl⟩
end Go.Proofs.Ytoncjohnkiilcaa.K
namespace Go.Proofs.Ytoncjohnkiilcaa.K
open Go Go.RowKit
set_option linter.unusedVariables false
set_option linter.unusedSimpArgs false
def spec_l22Copy.l0 : Nat → Int → Int → Bool → (List S80) → Int → Bool → (List S80) → Int → Bool → (List S80) → Option ((List S80) × Int × Bool)
 | 0, _, _, _, _, _, _, _, _, _, _ => none
 | k + 1, x2_4, x2_1_1, x2_1_2, x2_2_0, x2_2_1, x2_2_2, x2_3_0, x2_3_1, x2_3_2, l0_0 => if x2_4 < (l0_0.length : Int) then (if 0 ≤ x2_4 then (if ((rd_T80 l0_0 x2_4).f0).length ≤ 5864062014805 then (if x2_3_0.length < 4398046511104 then (spec_l22Copy.l0 k (wrap64 (x2_4 + 1)) x2_1_1 x2_1_2 x2_2_0 x2_2_1 x2_2_2 (x2_3_0 ++ ([(⟨(rd_T80 l0_0 x2_4).f0, (rd_T80 l0_0 x2_4).f1⟩ : S80)] : List S80)) x2_3_1 x2_3_2 l0_0) else none) else none) else none) else (some (x2_3_0, x2_3_1, x2_3_2))
def spec_l22Copy.f (k : Nat) (l0_0 : List S80) (a0_1 : Int) (a0_2 : Bool) : Option ((List S80) × Int × Bool) := spec_l22Copy.l0 k 0 a0_1 a0_2 [] 0 false [] a0_1 a0_2 l0_0
set_option maxHeartbeats 4000000 in
set_option maxRecDepth 100000 in
theorem spec_l22Copy.ok (k : Nat) (l0_0 : List S80) (Al0_0 : Option Addr) (cl0_0 : Nat) (a0_1 : Int) (a0_2 : Bool) (r0 : List S80) (r1 : Int) (r2 : Bool) (H : spec_l22Copy.f k l0_0 a0_1 a0_2 = some (r0, r1, r2)) : Fn Try.prog 76 [.agg #[.slice Al0_0 l0_0.length cl0_0, .int .i64 a0_1, .bool a0_2]] [] [.sl 0 k80 Al0_0 cl0_0 l0_0 0 false] (fun v bx en => ∃ A0 c0, v = .agg #[.slice A0 r0.length c0, .int .i64 r1, .bool r2] ∧ bx = [] ∧ en = [.sl 2 k80 A0 c0 r0 1 true]) := by
 refine fn_ 38 Try.func76 rfl rfl rfl (fun base T w0 => ?_)
 rw [spec_l22Copy.f] at H
 refine gs (rg (so rfl (op_box (cs := [.slice Al0_0 l0_0.length cl0_0, .int .i64 a0_1, .bool a0_2]) rfl rfl rfl fun b1 => (so rfl (op_alloc (cs := [.slice none 0 0, .int .i64 0, .bool false]) (by kernel_rfl) rfl fun b2 => (re (gs (rg (sv (EV.fa 1 rfl) rfl (sv (EV.ld 0 none rfl rfl rfl) rfl (sv (EV.fa 2 rfl) rfl (sv (EV.ld 0 none rfl rfl rfl) rfl (sv (EV.bd (v := .agg #[.slice none 0 0, .int .i64 a0_1, .bool a0_2]) rfl (by kernel_rfl)) rfl (so rfl (op_alloc (cs := [.slice none 0 0, .int .i64 0, .bool false]) (by kernel_rfl) rfl fun b3 => (so rfl (op_st (cs' := [.slice none 0 0, .int .i64 a0_1, .bool a0_2]) 2 rfl rfl rfl rfl rfl rfl (re (pr [1, 2, 3] [0, 1, 2] [0] rfl rfl rfl rfl (gs (gs (rg (sv (EV.as rfl) rfl (re (gb (nil_ k80 1 dq (nil_ k80 2 dq ?_)))))))))))))))))))))))))))
 refine lo (fun kk S => ∃ (x2_4 : Int) (x2_1_1 : Int) (x2_1_2 : Bool) (x2_2_0 : List S80) (Ax2_2_0 : Option Addr) (cx2_2_0 : Nat) (x2_2_1 : Int) (x2_2_2 : Bool) (x2_3_0 : List S80) (Ax2_3_0 : Option Addr) (cx2_3_0 : Nat) (x2_3_1 : Int) (x2_3_2 : Bool), spec_l22Copy.l0 kk x2_4 x2_1_1 x2_1_2 x2_2_0 x2_2_1 x2_2_2 x2_3_0 x2_3_1 x2_3_2 l0_0 = some (r0, r1, r2) ∧ S = ⟨[(1, .pointer (some ⟨b1, 0, none⟩)), (2, .pointer (some ⟨b2, 0, none⟩)), (3, .pointer (some ⟨b3, 0, none⟩)), (4, .int .i64 x2_4)], [⟨b1, 40, [.slice Al0_0 l0_0.length cl0_0, .int .i64 x2_1_1, .bool x2_1_2]⟩, ⟨b2, 40, [.slice Ax2_2_0 x2_2_0.length cx2_2_0, .int .i64 x2_2_1, .bool x2_2_2]⟩, ⟨b3, 40, [.slice Ax2_3_0 x2_3_0.length cx2_3_0, .int .i64 x2_3_1, .bool x2_3_2]⟩], [.sl 2 k80 Ax2_2_0 cx2_2_0 x2_2_0 1 true, .sl 2 k80 Ax2_3_0 cx2_3_0 x2_3_0 2 true, .sl 0 k80 Al0_0 cl0_0 l0_0 0 false]⟩) (fun S hS => ?_) (fun n0 ih0 S hS => ?_) ⟨0, a0_1, a0_2, [], none, 0, 0, false, [], none, 0, a0_1, a0_2, H, rfl⟩ (fun h => wk [1, 2, 3, 4] [0, 1, 2] [⟨1, 2, 1, true⟩, ⟨2, 2, 2, true⟩, ⟨0, 0, 0, false⟩] h)
 · clear H; obtain ⟨_, _, _, _, _, _, _, _, _, _, _, _, _, H, _⟩ := hS; rw [spec_l22Copy.l0] at H; cases H
 clear H
 obtain ⟨x2_4, x2_1_1, x2_1_2, x2_2_0, Ax2_2_0, cx2_2_0, x2_2_1, x2_2_2, x2_3_0, Ax2_3_0, cx2_3_0, x2_3_1, x2_3_2, H, rfl⟩ := hS
 rw [spec_l22Copy.l0] at H
 refine gs (gs (rg (sv (EV.mv rfl) rfl (sv (EV.fa 0 rfl) rfl (sv (EV.ld 0 none rfl rfl rfl) rfl (sv (EV.ln rfl) rfl (sv (EV.lss rfl rfl) rfl (re ?_))))))))
 revert H; refine ifsI ?_ ?_ <;> intro c1 H
 ·
  refine gt rfl (dT c1) (gk (gs (gb ?_)))
  revert H; refine ggI ?_; intro g2 H
  refine opn (i := x2_4) 2 z80 rfl g2 c1 fun A_3 c_3 => ?_
  revert H; refine ggI ?_; intro g4 H
  revert H; refine ggI ?_; intro g5 H
  refine dr [0, 1, 2] [0, 2, 3, 4] [19, 20] 21 rfl rfl rfl rfl (xv 0 [0, 1, 2] [0, 2, 3, 4] rfl (EV.fa 0 rfl) rfl rfl rfl rfl (xv 1 [0, 1, 2] [0, 2, 3, 4] rfl (EV.ld 2 none rfl rfl rfl) rfl rfl rfl rfl (xv 3 [0, 1, 2] [0, 2, 3, 4] rfl (EV.fa 0 rfl) rfl rfl rfl rfl (xv 4 [0, 1, 2] [0, 2, 3, 4] rfl (EV.ld 0 none rfl rfl rfl) rfl rfl rfl rfl (xv 5 [0, 1, 2] [0, 2, 3, 4] rfl (EV.mv rfl) rfl rfl rfl rfl (xv 6 [0, 1, 2] [0, 2, 3, 4] rfl (EV.ix 1 rfl rfl rfl g2 c1 rfl) rfl rfl rfl rfl (xv 7 [0, 1, 2] [0, 2, 3, 4] rfl (EV.fa 0 rfl) rfl rfl rfl rfl (xv 8 [0, 1, 2] [0, 2, 3, 4] rfl (EV.lc (v := .slice A_3 ((rd_T80 l0_0 x2_4).f0).length c_3) 0 none 2 rfl rfl rfl rfl) rfl rfl rfl rfl (xv 10 [0, 1, 2] [0, 2, 3, 4] rfl (EV.fa 0 rfl) rfl rfl rfl rfl (xv 11 [0, 1, 2] [0, 2, 3, 4] rfl (EV.ld 0 none rfl rfl rfl) rfl rfl rfl rfl (xv 12 [0, 1, 2] [0, 2, 3, 4] rfl (EV.mv rfl) rfl rfl rfl rfl (xv 13 [0, 1, 2] [0, 2, 3, 4] rfl (EV.ix 1 rfl rfl rfl g2 c1 rfl) rfl rfl rfl rfl (xv 14 [0, 1, 2] [0, 2, 3, 4] rfl (EV.fa 1 rfl) rfl rfl rfl rfl (xv 15 [0, 1, 2] [0, 2, 3, 4] rfl (EV.lf (v := .int .i64 ((rd_T80 l0_0 x2_4).f1)) x2_4 1 none 1 z80 rfl rfl rfl g2 c1 rfl (fun _ _ => rfl)) rfl rfl rfl rfl (one1 2 rfl rfl (op_lit (s := 3) (by_ := 24) k73 ([] : List S73) [] [] 3 [] rfl rfl rfl rfl rfl rfl rfl rfl rfl rfl rfl rfl rfl dq rfl fun A19_6 c19_6 => (xs [0, 1, 2] [0, 2, 3, 4] rfl rfl rfl (one1 9 rfl rfl (op_app (k := k73) (s := 3) (by_ := 24) 5 4 rfl rfl rfl rfl (ap0 g4 dq) (ap0n g4 dq) (.inl rfl) true (fun _ => .inl rfl) rfl rfl fun A26_7 c26_7 => (nmE (en := [.sl 2 k80 Ax2_2_0 cx2_2_0 x2_2_0 1 true, .sl 2 k80 Ax2_3_0 cx2_3_0 x2_3_0 2 true, .sl 0 k80 Al0_0 cl0_0 l0_0 0 false, celE Al0_0 (x2_4.toNat * 2) [.slice A_3 ((rd_T80 l0_0 x2_4).f0).length c_3, .int .i64 ((rd_T80 l0_0 x2_4).f1)] 0, .sl 0 k73 A_3 c_3 ((rd_T80 l0_0 x2_4).f0) 0 false, .sl 2 k73 A26_7 c26_7 ((rd_T80 l0_0 x2_4).f0) 3 true]) (by kernel_rfl) (xs [0, 1, 2] [0, 2, 3, 4] rfl rfl rfl (one1 16 rfl rfl (ov (EV.bd (v := .agg #[.slice A26_7 ((rd_T80 l0_0 x2_4).f0).length c26_7, .int .i64 ((rd_T80 l0_0 x2_4).f1)]) rfl (by kernel_rfl)) rfl (xs [0, 1, 2] [0, 2, 3, 4] rfl rfl rfl (one1 17 rfl rfl (op_lit (s := 2) (by_ := 32) k80 ([(⟨(rd_T80 l0_0 x2_4).f0, (rd_T80 l0_0 x2_4).f1⟩ : S80)] : List S80) [[(A26_7, c26_7)]] [5] 4 [.tmp 33] rfl rfl rfl rfl rfl rfl rfl rfl rfl rfl rfl rfl rfl dq rfl fun A34_8 c34_8 => (nmE (en := [.sl 2 k80 Ax2_2_0 cx2_2_0 x2_2_0 1 true, .sl 2 k80 Ax2_3_0 cx2_3_0 x2_3_0 2 true, .sl 0 k80 Al0_0 cl0_0 l0_0 0 false, celE Al0_0 (x2_4.toNat * 2) [.slice A_3 ((rd_T80 l0_0 x2_4).f0).length c_3, .int .i64 ((rd_T80 l0_0 x2_4).f1)] 0, .sl 0 k73 A_3 c_3 ((rd_T80 l0_0 x2_4).f0) 0 false, .sl 2 k73 A26_7 c26_7 ((rd_T80 l0_0 x2_4).f0) 4 true, .sl 2 k80 A34_8 c34_8 ([(⟨(rd_T80 l0_0 x2_4).f0, (rd_T80 l0_0 x2_4).f1⟩ : S80)] : List S80) 4 true]) (by kernel_rfl) (xs [0, 1, 2] [0, 2, 3, 4] rfl rfl rfl (one1 18 rfl rfl ?_)))))))))))))))))))))))))))))
  exact op_app (k := k80) (s := 2) (by_ := 32) 1 6 rfl rfl rfl rfl (ap1 g5 dq) (ap1n g5 dq) (.inr ⟨dq, dq, rfl, dq⟩) true (fun _ => .inr ⟨rfl, rfl, dq⟩) rfl rfl fun A35_9 c35_9 => (nmE (en := [.sl 2 k80 Ax2_2_0 cx2_2_0 x2_2_0 1 true, .sl 0 k80 Al0_0 cl0_0 l0_0 0 false, celE Al0_0 (x2_4.toNat * 2) [.slice A_3 ((rd_T80 l0_0 x2_4).f0).length c_3, .int .i64 ((rd_T80 l0_0 x2_4).f1)] 0, .sl 0 k73 A_3 c_3 ((rd_T80 l0_0 x2_4).f0) 0 false, .sl 2 k73 A26_7 c26_7 ((rd_T80 l0_0 x2_4).f0) 2 true, .sl 2 k80 A34_8 c34_8 ([(⟨(rd_T80 l0_0 x2_4).f0, (rd_T80 l0_0 x2_4).f1⟩ : S80)] : List S80) 2 true, .sl 2 k80 A35_9 c35_9 (x2_3_0 ++ ([(⟨(rd_T80 l0_0 x2_4).f0, (rd_T80 l0_0 x2_4).f1⟩ : S80)] : List S80)) 2 true]) (by kernel_rfl) (xs [0, 1, 2] [0, 1, 2, 3] rfl rfl rfl (one1 19 rfl rfl (ov (EV.fa 0 rfl) rfl (xn rfl (one1 20 rfl rfl (op_st (cs' := [.slice A35_9 (x2_3_0 ++ ([(⟨(rd_T80 l0_0 x2_4).f0, (rd_T80 l0_0 x2_4).f1⟩ : S80)] : List S80)).length c35_9, .int .i64 x2_3_1, .bool x2_3_2]) 2 rfl rfl rfl rfl rfl rfl (xn rfl (xd (pr [1, 2, 3, 4] [0, 1, 2] [0, 1, 6] rfl rfl rfl rfl (ge (rg (sv (EV.mv rfl) rfl (sv (EV.add rfl rfl) rfl (sv (EV.as rfl) rfl (re (wk [1, 2, 3, 4] [0, 1, 2] [⟨0, 2, 1, true⟩, ⟨2, 2, 2, true⟩, ⟨1, 0, 0, false⟩] (ih0 _ (by omega) _ ⟨wrap64 (x2_4 + 1), x2_1_1, x2_1_2, x2_2_0, Ax2_2_0, cx2_2_0, x2_2_1, x2_2_2, x2_3_0 ++ ([(⟨(rd_T80 l0_0 x2_4).f0, (rd_T80 l0_0 x2_4).f1⟩ : S80)] : List S80), A35_9, c35_9, x2_3_1, x2_3_2, H, rfl⟩))))))))))))))))))
 ·
  refine gf rfl (dF c1) (gx rfl (gs (rg (sv (EV.ld (v := .agg #[.slice Ax2_3_0 x2_3_0.length cx2_3_0, .int .i64 x2_3_1, .bool x2_3_2]) 2 (some 3) rfl rfl rfl) rfl (so rfl (op_st (cs' := [.slice Ax2_3_0 x2_3_0.length cx2_3_0, .int .i64 x2_3_1, .bool x2_3_2]) 1 rfl rfl rfl rfl rfl rfl (re (pr [2] [1] [1] rfl rfl rfl rfl ?_))))))))
  cases H
  exact rt Try.func76 rfl (.cell 0 (some 3) rfl rfl rfl .nil) rfl [] [⟨0, 2, 1, true⟩] rfl rfl rfl rfl rfl ⟨_, _, rfl, rfl, rfl⟩
end Go.Proofs.Ytoncjohnkiilcaa.K
namespace Go.Proofs.Ytoncjohnkiilcaa.K
open Go Go.RowKit
set_option linter.unusedVariables false
set_option linter.unusedSimpArgs false
mutual
def spec_l22Early.j1 : Nat → Int → (List S88) → (List S80) → Int → Bool → (List S80) → Int → Bool → Option ((List S80) × Int × Bool × (List S88) × Int × Bool)
 | 0, _, _, _, _, _, _, _, _ => none
 | k + 1, x3_13, x3_14, x3_4_0, x3_4_1, x3_4_2, x3_8_0, x3_8_1, x3_8_2 => some (x3_4_0, x3_4_1, x3_4_2, x3_14, wrap64 (x3_13 * 3), true)
def spec_l22Early.j0 : Nat → (List S80) → Int → Int → Bool → (List S73) → Int → (List S80) → Int → Bool → Option ((List S80) × Int × Bool × (List S88) × Int × Bool)
 | 0, _, _, _, _, _, _, _, _, _ => none
 | k + 1, x2_2, x2_12, x2_4_1, x2_4_2, x2_5_0, x2_5_1, x2_8_0, x2_8_1, x2_8_2 => if 0 ≤ x2_12 then (if x2_12 ≤ (x2_5_0.length : Int) then ((spec_DistinctKeys.f k (x2_5_0.take x2_12.toNat)).bind fun t4 => ((spec_ReferenceGroups.f k (x2_5_0.take x2_12.toNat)).bind fun t5 => (if x2_12 < (x2_5_0.length : Int) then (if ([(⟨x2_5_0.drop x2_12.toNat, x2_5_1⟩ : S80)] : List S80).length + x2_2.length ≤ 4398046511104 then (spec_l22Early.j1 k (t4.length : Int) t5 (([(⟨x2_5_0.drop x2_12.toNat, x2_5_1⟩ : S80)] : List S80) ++ x2_2) x2_4_1 x2_4_2 x2_8_0 x2_8_1 x2_8_2) else none) else (spec_l22Early.j1 k (t4.length : Int) t5 x2_2 x2_4_1 x2_4_2 x2_8_0 x2_8_1 x2_8_2)))) else none) else none
def spec_l22Early.l0 : Nat → (List S80) → Int → Int → Int → Bool → (List S73) → Int → (List S80) → Int → Bool → Option ((List S80) × Int × Bool × (List S88) × Int × Bool)
 | 0, _, _, _, _, _, _, _, _, _, _ => none
 | k + 1, x4_2, x4_3, x4_12, x4_4_1, x4_4_2, x4_5_0, x4_5_1, x4_8_0, x4_8_1, x4_8_2 => if x4_12 < (x4_5_0.length : Int) then (if 0 ≤ (wrap64 (x4_12 + 1)) then (if (wrap64 (x4_12 + 1)) ≤ (x4_5_0.length : Int) then ((spec_DistinctKeys.f k (x4_5_0.take (wrap64 (x4_12 + 1)).toNat)).bind fun t14 => (if (t14.length : Int) ≤ x4_3 then (spec_l22Early.l0 k x4_2 x4_3 (wrap64 (x4_12 + 1)) x4_4_1 x4_4_2 x4_5_0 x4_5_1 x4_8_0 x4_8_1 x4_8_2) else (spec_l22Early.j0 k x4_2 x4_12 x4_4_1 x4_4_2 x4_5_0 x4_5_1 x4_8_0 x4_8_1 x4_8_2))) else none) else none) else (spec_l22Early.j0 k x4_2 x4_12 x4_4_1 x4_4_2 x4_5_0 x4_5_1 x4_8_0 x4_8_1 x4_8_2)
end
def spec_l22Early.f (k : Nat) (l0_0 : List S80) (a0_1 : Int) (a0_2 : Bool) (l1_0 : List S73) (a1_1 : Int) (l2 : List S80) (a3 : Int) : Option ((List S80) × Int × Bool × (List S88) × Int × Bool) := spec_l22Early.l0 k l2 a3 0 a0_1 a0_2 l1_0 a1_1 [] 0 false
set_option maxHeartbeats 4000000 in
set_option maxRecDepth 100000 in
theorem spec_l22Early.ok (k : Nat) (l0_0 : List S80) (Al0_0 : Option Addr) (cl0_0 : Nat) (a0_1 : Int) (a0_2 : Bool) (l1_0 : List S73) (Al1_0 : Option Addr) (cl1_0 : Nat) (a1_1 : Int) (l2 : List S80) (Al2 : Option Addr) (cl2 : Nat) (a3 : Int) (r0 : List S80) (r1 : Int) (r2 : Bool) (r3 : List S88) (r4 : Int) (r5 : Bool) (H : spec_l22Early.f k l0_0 a0_1 a0_2 l1_0 a1_1 l2 a3 = some (r0, r1, r2, r3, r4, r5)) : Fn Try.prog 77 [.agg #[.slice Al0_0 l0_0.length cl0_0, .int .i64 a0_1, .bool a0_2], .agg #[.slice Al1_0 l1_0.length cl1_0, .int .i64 a1_1], .slice Al2 l2.length cl2, .int .i64 a3] [] [.sl 1 k73 Al1_0 cl1_0 l1_0 1 true, .sl 1 k80 Al2 cl2 l2 2 true] (fun v bx en => ∃ A0 c0 A3 c3, v = .tuple #[.agg #[.slice A0 r0.length c0, .int .i64 r1, .bool r2], .slice A3 r3.length c3, .int .i64 r4, .bool r5] ∧ bx = [] ∧ en = [.sl 1 k80 A0 c0 r0 1 true, .sl 2 k88 A3 c3 r3 2 true]) := by
 refine fn_ 66 Try.func77 rfl rfl rfl (fun base T w0 => ?_)
 rw [spec_l22Early.f] at H
 refine gs (rg (so rfl (op_box (cs := [.slice Al0_0 l0_0.length cl0_0, .int .i64 a0_1, .bool a0_2]) rfl rfl rfl fun b4 => (so rfl (op_box (cs := [.slice Al1_0 l1_0.length cl1_0, .int .i64 a1_1]) rfl rfl rfl fun b5 => (so rfl (op_alloc (cs := [.slice none 0 0, .int .i64 0, .bool false]) (by kernel_rfl) rfl fun b8 => (sv (EV.as rfl) rfl (sv (EV.as rfl) rfl (sv (EV.as rfl) rfl (re (gs (rg (sv (EV.as rfl) rfl (re ?_)))))))))))))))
 refine jo (fun S => ∃ (m : Nat) (x2_2 : List S80) (Ax2_2 : Option Addr) (cx2_2 : Nat) (x2_12 : Int) (x2_4_1 : Int) (x2_4_2 : Bool) (x2_5_0 : List S73) (Ax2_5_0 : Option Addr) (cx2_5_0 : Nat) (x2_5_1 : Int) (x2_8_0 : List S80) (Ax2_8_0 : Option Addr) (cx2_8_0 : Nat) (x2_8_1 : Int) (x2_8_2 : Bool), spec_l22Early.j0 m x2_2 x2_12 x2_4_1 x2_4_2 x2_5_0 x2_5_1 x2_8_0 x2_8_1 x2_8_2 = some (r0, r1, r2, r3, r4, r5) ∧ S = ⟨[(2, .slice Ax2_2 x2_2.length cx2_2), (4, .pointer (some ⟨b4, 0, none⟩)), (5, .pointer (some ⟨b5, 0, none⟩)), (8, .pointer (some ⟨b8, 0, none⟩)), (12, .int .i64 x2_12)], [⟨b4, 40, [.slice Al0_0 l0_0.length cl0_0, .int .i64 x2_4_1, .bool x2_4_2]⟩, ⟨b5, 80, [.slice Ax2_5_0 x2_5_0.length cx2_5_0, .int .i64 x2_5_1]⟩, ⟨b8, 40, [.slice Ax2_8_0 x2_8_0.length cx2_8_0, .int .i64 x2_8_1, .bool x2_8_2]⟩], [.sl 1 k80 Ax2_2 cx2_2 x2_2 1 true, .sl 1 k73 Ax2_5_0 cx2_5_0 x2_5_0 2 true, .sl 2 k80 Ax2_8_0 cx2_8_0 x2_8_0 3 true]⟩) (fun S hS => ?_) (fun jh0 => ?_)
 ·
  clear H
  obtain ⟨m1, x2_2, Ax2_2, cx2_2, x2_12, x2_4_1, x2_4_2, x2_5_0, Ax2_5_0, cx2_5_0, x2_5_1, x2_8_0, Ax2_8_0, cx2_8_0, x2_8_1, x2_8_2, H, rfl⟩ := hS
  rcases m1 with _ | m1
  · rw [spec_l22Early.j0] at H; cases H
  rw [spec_l22Early.j0] at H
  refine gs (rg (sv (EV.fa 0 rfl) rfl (sv (EV.ld 1 none rfl rfl rfl) rfl (sv (EV.mv rfl) rfl ?_))))
  revert H; refine ggI ?_; intro g2 H
  revert H; refine ggI ?_; intro g3 H
  refine cutp (l' := x2_5_0.take x2_12.toNat) 0 x2_12 1 rfl (Int.le_refl 0) g2 g3 rfl 1 dq (.inr rfl) rfl (sv (EV.ct 0 x2_12 1 rfl rfl rfl rfl (Int.le_refl 0) g2 g3 rfl rfl ctnh) rfl ?_)
  revert H; refine bdI ?_; rintro t4 A4 H
  refine so rfl (op_call (spec_DistinctKeys.ok m1 (x2_5_0.take x2_12.toNat) (cutA Ax2_5_0 cx2_5_0 (0 : Int).toNat 3) (cx2_5_0 - (0 : Int).toNat) _ A4) [⟨3, 0, 0, false⟩] 4 rfl rfl rfl rfl rfl ?_)
  rintro _ _ _ ⟨At4, ct4, rfl, rfl, rfl⟩
  refine sv (EV.ln rfl) rfl (sv (EV.as rfl) rfl (re (pr [2, 4, 5, 8, 12, 13] [0, 1, 2] [0, 1, 2] rfl rfl rfl rfl (gs (rg (sv (EV.fa 0 rfl) rfl (sv (EV.ld 1 none rfl rfl rfl) rfl (sv (EV.mv rfl) rfl (cutp (l' := x2_5_0.take x2_12.toNat) 0 x2_12 1 rfl (Int.le_refl 0) g2 g3 rfl 1 dq (.inr rfl) rfl (sv (EV.ct 0 x2_12 1 rfl rfl rfl rfl (Int.le_refl 0) g2 g3 rfl rfl ctnh) rfl ?_))))))))))
  revert H; refine bdI ?_; rintro t5 A5 H
  refine so rfl (op_call (spec_ReferenceGroups.ok m1 (x2_5_0.take x2_12.toNat) (cutA Ax2_5_0 cx2_5_0 (0 : Int).toNat 3) (cx2_5_0 - (0 : Int).toNat) _ A5) [⟨3, 0, 0, false⟩] 4 rfl rfl rfl rfl rfl ?_)
  rintro _ _ _ ⟨At5, ct5, rfl, rfl, rfl⟩
  refine sv (EV.as rfl) rfl (re (gs (rg (sv (EV.mv rfl) rfl (sv (EV.fa 0 rfl) rfl (so rfl (op_st (cs' := [.slice Ax2_2 x2_2.length cx2_2, .int .i64 x2_4_1, .bool x2_4_2]) 0 rfl rfl rfl rfl rfl rfl (re (pr [2, 4, 5, 8, 12, 13, 14] [0, 1, 2] [0, 1, 2, 4] rfl rfl rfl rfl ?_)))))))))
  refine jo (fun S => ∃ (m : Nat) (x3_13 : Int) (x3_14 : List S88) (Ax3_14 : Option Addr) (cx3_14 : Nat) (x3_4_0 : List S80) (Ax3_4_0 : Option Addr) (cx3_4_0 : Nat) (x3_4_1 : Int) (x3_4_2 : Bool) (x3_8_0 : List S80) (Ax3_8_0 : Option Addr) (cx3_8_0 : Nat) (x3_8_1 : Int) (x3_8_2 : Bool), m ≤ m1 ∧ spec_l22Early.j1 m x3_13 x3_14 x3_4_0 x3_4_1 x3_4_2 x3_8_0 x3_8_1 x3_8_2 = some (r0, r1, r2, r3, r4, r5) ∧ S = ⟨[(4, .pointer (some ⟨b4, 0, none⟩)), (8, .pointer (some ⟨b8, 0, none⟩)), (13, .int .i64 x3_13), (14, .slice Ax3_14 x3_14.length cx3_14)], [⟨b4, 40, [.slice Ax3_4_0 x3_4_0.length cx3_4_0, .int .i64 x3_4_1, .bool x3_4_2]⟩, ⟨b8, 40, [.slice Ax3_8_0 x3_8_0.length cx3_8_0, .int .i64 x3_8_1, .bool x3_8_2]⟩], [.sl 2 k88 Ax3_14 cx3_14 x3_14 1 true, .sl 1 k80 Ax3_4_0 cx3_4_0 x3_4_0 2 true, .sl 2 k80 Ax3_8_0 cx3_8_0 x3_8_0 3 true]⟩) (fun S hS => ?_) (fun jh1 => ?_)
  ·
   clear H
   obtain ⟨m6, x3_13, x3_14, Ax3_14, cx3_14, x3_4_0, Ax3_4_0, cx3_4_0, x3_4_1, x3_4_2, x3_8_0, Ax3_8_0, cx3_8_0, x3_8_1, x3_8_2, lm6, H, rfl⟩ := hS
   rcases m6 with _ | m6
   · rw [spec_l22Early.j1] at H; cases H
   rw [spec_l22Early.j1] at H
   refine gs (rg (sv (EV.ld (v := .agg #[.slice Ax3_4_0 x3_4_0.length cx3_4_0, .int .i64 x3_4_1, .bool x3_4_2]) 0 (some 3) rfl rfl rfl) rfl (sv (EV.mv rfl) rfl (sv (EV.mv rfl) rfl (sv (EV.mul rfl rfl) rfl (so rfl (op_st (cs' := [.slice Ax3_4_0 x3_4_0.length cx3_4_0, .int .i64 x3_4_1, .bool x3_4_2]) 1 rfl rfl rfl rfl rfl rfl (sv (EV.as rfl) rfl (sv (EV.as rfl) rfl (sv (EV.as rfl) rfl (re (pr [8, 9, 10, 11] [1] [0, 1] rfl rfl rfl rfl ?_))))))))))))
   cases H
   exact rt Try.func77 rfl (.cell 0 (some 3) rfl rfl rfl (.tmp rfl (.tmp rfl (.tmp rfl .nil)))) rfl [] [⟨1, 1, 1, true⟩, ⟨0, 2, 2, true⟩] rfl rfl rfl rfl rfl ⟨_, _, _, _, rfl, rfl, rfl⟩
  ·
   refine gs (rg (sv (EV.mv rfl) rfl (sv (EV.fa 0 rfl) rfl (sv (EV.ld 1 none rfl rfl rfl) rfl (sv (EV.ln rfl) rfl (sv (EV.lss rfl rfl) rfl (re ?_)))))))
   revert H; refine ifsI ?_ ?_ <;> intro c7 H
   ·
    refine gt rfl (dT c7) (dr [0, 1, 2] [2, 3] [10, 11] 12 rfl rfl rfl rfl (xv 0 [0, 1, 2] [2, 3] rfl (EV.fa 0 rfl) rfl rfl rfl rfl (xv 1 [0, 1, 2] [2, 3] rfl (EV.ld 1 none rfl rfl rfl) rfl rfl rfl rfl (xv 2 [0, 1, 2] [2, 3] rfl (EV.mv rfl) rfl rfl rfl rfl (xv 4 [0, 1, 2] [2, 3] rfl (EV.fa 1 rfl) rfl rfl rfl rfl (xv 5 [0, 1, 2] [2, 3] rfl (EV.ld 1 none rfl rfl rfl) rfl rfl rfl rfl (xv 8 [0, 1, 2] [2, 3] rfl (EV.mv rfl) rfl rfl rfl rfl (one1 3 rfl rfl (cutp (l' := x2_5_0.drop x2_12.toNat) x2_12 (x2_5_0.length : Int) 1 rfl g2 g3 (Int.le_refl _) rfl 1 dq (.inl dq) ctl (ov (EV.ct x2_12 (x2_5_0.length : Int) 1 rfl rfl rfl rfl g2 g3 (Int.le_refl _) rfl rfl ctnl) rfl (xs [0, 1, 2] [2, 3] rfl rfl rfl (xv 6 [0, 1, 2] [2, 3] rfl (EV.bd (v := .agg #[.slice (cutA Ax2_5_0 cx2_5_0 x2_12.toNat 3) (x2_5_0.drop x2_12.toNat).length (cx2_5_0 - x2_12.toNat), .int .i64 x2_5_1]) rfl (by kernel_rfl)) rfl rfl rfl rfl (one1 7 rfl rfl (op_lit (s := 2) (by_ := 32) k80 ([(⟨x2_5_0.drop x2_12.toNat, x2_5_1⟩ : S80)] : List S80) [[((cutA Ax2_5_0 cx2_5_0 x2_12.toNat 3), (cx2_5_0 - x2_12.toNat))]] [4] 6 [.tmp 57] rfl rfl rfl rfl rfl rfl rfl rfl rfl rfl rfl rfl rfl dq rfl fun A58_8 c58_8 => (nmE (en := [.sl 1 k80 Ax2_2 cx2_2 x2_2 1 true, .sl 1 k73 Ax2_5_0 cx2_5_0 x2_5_0 6 true, .sl 2 k80 Ax2_8_0 cx2_8_0 x2_8_0 3 true, .sl 2 k88 At5 ct5 t5 5 true, .sl 1 k73 (cutA Ax2_5_0 cx2_5_0 x2_12.toNat 3) (cx2_5_0 - x2_12.toNat) (x2_5_0.drop x2_12.toNat) 6 true, .sl 2 k80 A58_8 c58_8 ([(⟨x2_5_0.drop x2_12.toNat, x2_5_1⟩ : S80)] : List S80) 6 true]) (by kernel_rfl) (xs [0, 1, 2] [2, 3] rfl rfl rfl (one1 9 rfl rfl ?_)))))))))))))))))
    revert H; refine ggI ?_; intro g9 H
    exact op_app (k := k80) (s := 2) (by_ := 32) 5 0 rfl rfl rfl rfl (ap2 g9 dq) (ap2n g9 dq) (.inr ⟨dq, dq, rfl, dq⟩) true (fun _ => .inr ⟨rfl, rfl, dq⟩) rfl rfl fun A60_10 c60_10 => (nmE (en := [.sl 1 k80 Ax2_2 cx2_2 x2_2 6 true, .sl 2 k80 Ax2_8_0 cx2_8_0 x2_8_0 3 true, .sl 2 k88 At5 ct5 t5 5 true, .sl 2 k80 A60_10 c60_10 (([(⟨x2_5_0.drop x2_12.toNat, x2_5_1⟩ : S80)] : List S80) ++ x2_2) 6 true]) (by kernel_rfl) (xs [0, 1, 2] [1, 2] rfl rfl rfl (one1 10 rfl rfl (ov (EV.fa 0 rfl) rfl (xn rfl (one1 11 rfl rfl (op_st (cs' := [.slice A60_10 (([(⟨x2_5_0.drop x2_12.toNat, x2_5_1⟩ : S80)] : List S80) ++ x2_2).length c60_10, .int .i64 x2_4_1, .bool x2_4_2]) 0 rfl rfl rfl rfl rfl rfl (xn rfl (xd (pr [4, 8, 13, 14] [0, 2] [1, 2, 3] rfl rfl rfl rfl (wk [4, 8, 13, 14] [0, 1] [⟨1, 2, 1, true⟩, ⟨2, 1, 2, true⟩, ⟨0, 2, 3, true⟩] (jh1 _ ⟨_, (t4.length : Int), t5, At5, ct5, ([(⟨x2_5_0.drop x2_12.toNat, x2_5_1⟩ : S80)] : List S80) ++ x2_2, A60_10, c60_10, x2_4_1, x2_4_2, x2_8_0, Ax2_8_0, cx2_8_0, x2_8_1, x2_8_2, by omega, H, rfl⟩))))))))))))
   ·
    exact gf rfl (dF c7) (gk (wk [4, 8, 13, 14] [0, 2] [⟨3, 2, 1, true⟩, ⟨0, 1, 2, true⟩, ⟨2, 2, 3, true⟩] (jh1 _ ⟨_, (t4.length : Int), t5, At5, ct5, x2_2, Ax2_2, cx2_2, x2_4_1, x2_4_2, x2_8_0, Ax2_8_0, cx2_8_0, x2_8_1, x2_8_2, by omega, H, rfl⟩)))
 ·
  refine gb (nil_ k80 3 dq ?_)
  refine lo (fun kk S => ∃ (x4_2 : List S80) (Ax4_2 : Option Addr) (cx4_2 : Nat) (x4_3 : Int) (x4_12 : Int) (x4_4_1 : Int) (x4_4_2 : Bool) (x4_5_0 : List S73) (Ax4_5_0 : Option Addr) (cx4_5_0 : Nat) (x4_5_1 : Int) (x4_8_0 : List S80) (Ax4_8_0 : Option Addr) (cx4_8_0 : Nat) (x4_8_1 : Int) (x4_8_2 : Bool), spec_l22Early.l0 kk x4_2 x4_3 x4_12 x4_4_1 x4_4_2 x4_5_0 x4_5_1 x4_8_0 x4_8_1 x4_8_2 = some (r0, r1, r2, r3, r4, r5) ∧ S = ⟨[(2, .slice Ax4_2 x4_2.length cx4_2), (3, .int .i64 x4_3), (4, .pointer (some ⟨b4, 0, none⟩)), (5, .pointer (some ⟨b5, 0, none⟩)), (8, .pointer (some ⟨b8, 0, none⟩)), (12, .int .i64 x4_12)], [⟨b4, 40, [.slice Al0_0 l0_0.length cl0_0, .int .i64 x4_4_1, .bool x4_4_2]⟩, ⟨b5, 80, [.slice Ax4_5_0 x4_5_0.length cx4_5_0, .int .i64 x4_5_1]⟩, ⟨b8, 40, [.slice Ax4_8_0 x4_8_0.length cx4_8_0, .int .i64 x4_8_1, .bool x4_8_2]⟩], [.sl 1 k80 Ax4_2 cx4_2 x4_2 1 true, .sl 1 k73 Ax4_5_0 cx4_5_0 x4_5_0 2 true, .sl 2 k80 Ax4_8_0 cx4_8_0 x4_8_0 3 true]⟩) (fun S hS => ?_) (fun n0 ih0 S hS => ?_) ⟨l2, Al2, cl2, a3, 0, a0_1, a0_2, l1_0, Al1_0, cl1_0, a1_1, [], none, 0, 0, false, H, rfl⟩ (fun h => wk [2, 3, 4, 5, 8, 12] [0, 1, 2] [⟨1, 1, 1, true⟩, ⟨0, 1, 2, true⟩, ⟨2, 2, 3, true⟩] h)
  · clear H; obtain ⟨_, _, _, _, _, _, _, _, _, _, _, _, _, _, _, _, H, _⟩ := hS; rw [spec_l22Early.l0] at H; cases H
  clear H
  obtain ⟨x4_2, Ax4_2, cx4_2, x4_3, x4_12, x4_4_1, x4_4_2, x4_5_0, Ax4_5_0, cx4_5_0, x4_5_1, x4_8_0, Ax4_8_0, cx4_8_0, x4_8_1, x4_8_2, H, rfl⟩ := hS
  rw [spec_l22Early.l0] at H
  refine gs (gs (rg (sv (EV.mv rfl) rfl (sv (EV.fa 0 rfl) rfl (sv (EV.ld 1 none rfl rfl rfl) rfl (sv (EV.ln rfl) rfl (sv (EV.lss rfl rfl) rfl (sv (EV.mv rfl) rfl ?_))))))))
  revert H; refine ifsI ?_ ?_ <;> intro c11 H
  ·
   refine ts 20 rfl (dT c11) (sv (EV.fa 0 rfl) rfl (sv (EV.ld 1 none rfl rfl rfl) rfl (sv (EV.mv rfl) rfl (sv (EV.add rfl rfl) rfl ?_))))
   revert H; refine ggI ?_; intro g12 H
   revert H; refine ggI ?_; intro g13 H
   refine cutp (l' := x4_5_0.take (wrap64 (x4_12 + 1)).toNat) 0 (wrap64 (x4_12 + 1)) 1 rfl (Int.le_refl 0) g12 g13 rfl 1 dq (.inr rfl) rfl (sv (EV.ct 0 (wrap64 (x4_12 + 1)) 1 rfl rfl rfl rfl (Int.le_refl 0) g12 g13 rfl rfl ctnh) rfl ?_)
   revert H; refine bdI ?_; rintro t14 A14 H
   refine so rfl (op_call (spec_DistinctKeys.ok n0 (x4_5_0.take (wrap64 (x4_12 + 1)).toNat) (cutA Ax4_5_0 cx4_5_0 (0 : Int).toNat 3) (cx4_5_0 - (0 : Int).toNat) _ A14) [⟨3, 0, 0, false⟩] 4 rfl rfl rfl rfl rfl ?_)
   rintro _ _ _ ⟨At14, ct14, rfl, rfl, rfl⟩
   refine sv (EV.ln rfl) rfl (sv (EV.mv rfl) rfl (sv (EV.leq rfl rfl) rfl (sv (EV.pt rfl rfl rfl) rfl (re (pr [2, 3, 4, 5, 8, 12, 21, 22, 23, 24, 25, 26, 27, 28, 29, 30] [0, 1, 2] [0, 1, 2, 3, 4] rfl rfl rfl rfl ?_)))))
   revert H; refine ifsI ?_ ?_ <;> intro c15 H
   ·
    exact gt rfl (dT c15) (gk (gb (rg (sv (EV.mv rfl) rfl (sv (EV.add rfl rfl) rfl (sv (EV.as rfl) rfl (re (ge (wk [2, 3, 4, 5, 8, 12] [0, 1, 2] [⟨0, 1, 1, true⟩, ⟨1, 1, 2, true⟩, ⟨2, 2, 3, true⟩] (ih0 _ (by omega) _ ⟨x4_2, Ax4_2, cx4_2, x4_3, wrap64 (x4_12 + 1), x4_4_1, x4_4_2, x4_5_0, Ax4_5_0, cx4_5_0, x4_5_1, x4_8_0, Ax4_8_0, cx4_8_0, x4_8_1, x4_8_2, H, rfl⟩))))))))))
   ·
    exact gf rfl (dF c15) (gx rfl (wk [2, 4, 5, 8, 12] [0, 1, 2] [⟨0, 1, 1, true⟩, ⟨1, 1, 2, true⟩, ⟨2, 2, 3, true⟩] (jh0 _ ⟨_, x4_2, Ax4_2, cx4_2, x4_12, x4_4_1, x4_4_2, x4_5_0, Ax4_5_0, cx4_5_0, x4_5_1, x4_8_0, Ax4_8_0, cx4_8_0, x4_8_1, x4_8_2, H, rfl⟩)))
  ·
   exact ts 20 rfl (dF c11) (sk rfl (sk rfl (sk rfl (sk rfl (sk rfl (sk rfl (sk rfl (sk rfl (sk rfl (sv (EV.pf rfl rfl rfl) rfl (re (pr [2, 3, 4, 5, 8, 12, 30] [0, 1, 2] [0, 1, 2] rfl rfl rfl rfl (gf rfl rfl (gx rfl (wk [2, 4, 5, 8, 12] [0, 1, 2] [⟨0, 1, 1, true⟩, ⟨1, 1, 2, true⟩, ⟨2, 2, 3, true⟩] (jh0 _ ⟨_, x4_2, Ax4_2, cx4_2, x4_12, x4_4_1, x4_4_2, x4_5_0, Ax4_5_0, cx4_5_0, x4_5_1, x4_8_0, Ax4_8_0, cx4_8_0, x4_8_1, x4_8_2, H, rfl⟩))))))))))))))))
end Go.Proofs.Ytoncjohnkiilcaa.K
namespace Go.Proofs.Ytoncjohnkiilcaa.K
open Go Go.RowKit
set_option linter.unusedVariables false
set_option linter.unusedSimpArgs false
def spec_RowCost.f (a0_0 : Int) (a0_1 : Int) (a0_2 : Int) : Option (Int) := (spec_IsValidRow.f a0_0 a0_1 a0_2).bind fun t1 => (if t1 = true then (some (wrap64 (1 + a0_2))) else (some 0))
set_option maxHeartbeats 4000000 in
set_option maxRecDepth 100000 in
theorem spec_RowCost.ok (a0_0 : Int) (a0_1 : Int) (a0_2 : Int) (r0 : Int) (H : spec_RowCost.f a0_0 a0_1 a0_2 = some r0) : Fn Try.prog 97 [.agg #[.int .i64 a0_0, .int .i64 a0_1, .int .i64 a0_2]] [] [] (fun v bx en => v = .int .i64 r0 ∧ bx = [] ∧ en = []) := by
 refine fn_ 9 Try.func97 rfl rfl rfl (fun base T w0 => ?_)
 rw [spec_RowCost.f] at H
 refine gs (rg (so rfl (op_box (cs := [.int .i64 a0_0, .int .i64 a0_1, .int .i64 a0_2]) rfl rfl rfl fun b1 => (sv (EV.as rfl) rfl (re (gs (gs (rg (sv (EV.ld (v := .agg #[.int .i64 a0_0, .int .i64 a0_1, .int .i64 a0_2]) 0 (some 3) rfl rfl rfl) rfl ?_)))))))))
 revert H; refine bdI ?_; rintro t1 A1 H
 refine so rfl (op_call (spec_IsValidRow.ok a0_0 a0_1 a0_2 _ A1) [] 1 rfl rfl rfl rfl rfl ?_)
 rintro _ _ _ ⟨rfl, rfl, rfl⟩
 refine sv (EV.nt rfl) rfl (re ?_)
 revert H; refine ifsI ?_ ?_ <;> intro c2 H
 ·
  subst c2
  refine gf rfl rfl (gk (gs (rg (sv (EV.fa 2 rfl) rfl (sv (EV.ld 0 none rfl rfl rfl) rfl (sv (EV.add rfl rfl) rfl (sv (EV.as rfl) rfl (re (pr [2] [] [] rfl rfl rfl rfl ?_)))))))))
  cases H
  exact rt Try.func97 rfl (.tmp rfl .nil) rfl [] [] rfl rfl rfl rfl rfl ⟨rfl, rfl, rfl⟩
 ·
  obtain rfl := bF c2
  refine gt rfl rfl (gs (rg (sv (EV.as rfl) rfl (re ?_))))
  cases H
  exact rt Try.func97 rfl (.tmp rfl .nil) rfl [] [] rfl rfl rfl rfl rfl ⟨rfl, rfl, rfl⟩
end Go.Proofs.Ytoncjohnkiilcaa.K
namespace Go.Proofs.Ytoncjohnkiilcaa.K
open Go Go.RowKit
set_option linter.unusedVariables false
set_option linter.unusedSimpArgs false
def spec_TotalCost.l0 : Nat → Int → Int → (List S73) → Option (Int)
 | 0, _, _, _ => none
 | k + 1, x2_3, x2_4, l0 => if x2_4 < (l0.length : Int) then (if 0 ≤ x2_4 then ((spec_RowCost.f ((rd_T73 l0 x2_4).f0) ((rd_T73 l0 x2_4).f1) ((rd_T73 l0 x2_4).f2)).bind fun t3 => (spec_TotalCost.l0 k (wrap64 (x2_3 + t3)) (wrap64 (x2_4 + 1)) l0)) else none) else (some x2_3)
def spec_TotalCost.f (k : Nat) (l0 : List S73) : Option (Int) := spec_TotalCost.l0 k 0 0 l0
set_option maxHeartbeats 4000000 in
set_option maxRecDepth 100000 in
theorem spec_TotalCost.ok (k : Nat) (l0 : List S73) (Al0 : Option Addr) (cl0 : Nat) (r0 : Int) (H : spec_TotalCost.f k l0 = some r0) : Fn Try.prog 78 [.slice Al0 l0.length cl0] [] [.sl 0 k73 Al0 cl0 l0 0 false] (fun v bx en => v = .int .i64 r0 ∧ bx = [] ∧ en = []) := by
 refine fn_ 19 Try.func78 rfl rfl rfl (fun base T w0 => ?_)
 rw [spec_TotalCost.f] at H
 refine gs (rg (sv (EV.as rfl) rfl (re (gs (rg (sv (EV.as rfl) rfl (re (gs (gs (rg (sv (EV.as rfl) rfl (re (gb ?_)))))))))))))
 refine lo (fun kk S => ∃ (x2_3 : Int) (x2_4 : Int), spec_TotalCost.l0 kk x2_3 x2_4 l0 = some r0 ∧ S = ⟨[(0, .slice Al0 l0.length cl0), (3, .int .i64 x2_3), (4, .int .i64 x2_4)], [], [.sl 0 k73 Al0 cl0 l0 0 false]⟩) (fun S hS => ?_) (fun n0 ih0 S hS => ?_) ⟨0, 0, H, rfl⟩ (fun h => wk [0, 3, 4] [] [⟨0, 0, 0, false⟩] h)
 · clear H; obtain ⟨_, _, H, _⟩ := hS; rw [spec_TotalCost.l0] at H; cases H
 clear H
 obtain ⟨x2_3, x2_4, H, rfl⟩ := hS
 rw [spec_TotalCost.l0] at H
 refine gs (gs (rg (sv (EV.mv rfl) rfl (sv (EV.mv rfl) rfl (sv (EV.ln rfl) rfl (sv (EV.lss rfl rfl) rfl (re ?_)))))))
 revert H; refine ifsI ?_ ?_ <;> intro c1 H
 ·
  refine gt rfl (dT c1) (gk (gs (gb (rg (sv (EV.mv rfl) rfl (sv (EV.mv rfl) rfl (sv (EV.mv rfl) rfl ?_)))))))
  revert H; refine ggI ?_; intro g2 H
  refine sv (EV.ix 0 rfl rfl rfl g2 c1 rfl) rfl (sv (EV.le (v := .agg #[.int .i64 ((rd_T73 l0 x2_4).f0), .int .i64 ((rd_T73 l0 x2_4).f1), .int .i64 ((rd_T73 l0 x2_4).f2)]) x2_4 0 (some 3) 0 z73 rfl rfl rfl g2 c1 rfl rfl rfl) rfl ?_)
  revert H; refine bdI ?_; rintro t3 A3 H
  refine so rfl (op_call (spec_RowCost.ok ((rd_T73 l0 x2_4).f0) ((rd_T73 l0 x2_4).f1) ((rd_T73 l0 x2_4).f2) _ A3) [] 1 rfl rfl rfl rfl rfl ?_)
  rintro _ _ _ ⟨rfl, rfl, rfl⟩
  exact sv (EV.add rfl rfl) rfl (sv (EV.as rfl) rfl (re (pr [0, 3, 4] [] [0] rfl rfl rfl rfl (ge (rg (sv (EV.mv rfl) rfl (sv (EV.add rfl rfl) rfl (sv (EV.as rfl) rfl (re (wk [0, 3, 4] [] [⟨0, 0, 0, false⟩] (ih0 _ (by omega) _ ⟨wrap64 (x2_3 + t3), wrap64 (x2_4 + 1), H, rfl⟩)))))))))))
 ·
  refine gf rfl (dF c1) (gx rfl (gs (rg (sv (EV.mv rfl) rfl (sv (EV.as rfl) rfl (re (pr [2] [] [] rfl rfl rfl rfl ?_)))))))
  cases H
  exact rt Try.func78 rfl (.tmp rfl .nil) rfl [] [] rfl rfl rfl rfl rfl ⟨rfl, rfl, rfl⟩
end Go.Proofs.Ytoncjohnkiilcaa.K
namespace Go.Proofs.Ytoncjohnkiilcaa.K
open Go Go.RowKit
set_option linter.unusedVariables false
set_option linter.unusedSimpArgs false
def spec_HashBit.f (a0 : Int) (a1 : Int) : Option (Int) := (spec_l1In.f a1 0 3).bind fun t1 => (if t1 = true then ((spec_l1In.f a0 0 9).bind fun t3 => (if t3 = true then (if 0 ≤ a1 then (some (andI (shrI (Int.tmod (wrap64 (a0 * 7)) 16) a1) 1)) else none) else (some 0))) else (some 0))
set_option maxHeartbeats 4000000 in
set_option maxRecDepth 100000 in
theorem spec_HashBit.ok (a0 : Int) (a1 : Int) (r0 : Int) (H : spec_HashBit.f a0 a1 = some r0) : Fn Try.prog 98 [.int .i64 a0, .int .i64 a1] [] [] (fun v bx en => v = .int .i64 r0 ∧ bx = [] ∧ en = []) := by
 refine fn_ 19 Try.func98 rfl rfl rfl (fun base T w0 => ?_)
 rw [spec_HashBit.f] at H
 refine gs (rg (sv (EV.as rfl) rfl (re (gs (gs (rg (sv (EV.mv rfl) rfl ?_)))))))
 revert H; refine bdI ?_; rintro t1 A1 H
 refine so rfl (op_call (spec_l1In.ok a1 0 3 _ A1) [] 1 rfl rfl rfl rfl rfl ?_)
 rintro _ _ _ ⟨rfl, rfl, rfl⟩
 refine sv (EV.nt rfl) rfl (sv (EV.mv rfl) rfl ?_)
 revert H; refine ifsI ?_ ?_ <;> intro c2 H
 ·
  subst c2
  refine ts 8 rfl rfl (sv (EV.mv rfl) rfl ?_)
  revert H; refine bdI ?_; rintro t3 A3 H
  refine so rfl (op_call (spec_l1In.ok a0 0 9 _ A3) [] 1 rfl rfl rfl rfl rfl ?_)
  rintro _ _ _ ⟨rfl, rfl, rfl⟩
  refine sv (EV.nt rfl) rfl (sv (EV.pf rfl rfl rfl) rfl (re (pr [0, 1, 12] [] [] rfl rfl rfl rfl ?_)))
  revert H; refine ifsI ?_ ?_ <;> intro c4 H
  ·
   subst c4
   refine gf rfl rfl (gk (gs (rg (sv (EV.mv rfl) rfl (sv (EV.mul rfl rfl) rfl (sv (EV.rem rfl rfl dq) rfl (sv (EV.mv rfl) rfl ?_)))))))
   revert H; refine ggI ?_; intro g5 H
   refine sv (EV.shr rfl rfl g5) rfl (sv (EV.andI rfl rfl) rfl (sv (EV.as rfl) rfl (re (pr [4] [] [] rfl rfl rfl rfl ?_))))
   cases H
   exact rt Try.func98 rfl (.tmp rfl .nil) rfl [] [] rfl rfl rfl rfl rfl ⟨rfl, rfl, rfl⟩
  ·
   obtain rfl := bF c4
   refine gt rfl rfl (gs (rg (sv (EV.as rfl) rfl (re ?_))))
   cases H
   exact rt Try.func98 rfl (.tmp rfl .nil) rfl [] [] rfl rfl rfl rfl rfl ⟨rfl, rfl, rfl⟩
 ·
  obtain rfl := bF c2
  refine ts 8 rfl rfl (sk rfl (sk rfl (sk rfl (sv (EV.pt rfl rfl rfl) rfl (re (pr [0, 1, 12] [] [] rfl rfl rfl rfl (gt rfl rfl (gs (rg (sv (EV.as rfl) rfl (re ?_)))))))))))
  cases H
  exact rt Try.func98 rfl (.tmp rfl .nil) rfl [] [] rfl rfl rfl rfl rfl ⟨rfl, rfl, rfl⟩
end Go.Proofs.Ytoncjohnkiilcaa.K
namespace Go.Proofs.Ytoncjohnkiilcaa.K
open Go Go.RowKit
set_option linter.unusedVariables false
set_option linter.unusedSimpArgs false
def spec_SplitByHashBit.l0 : Nat → Int → (List S73) → (List S73) → Int → (List S73) → Option ((List S73) × (List S73))
 | 0, _, _, _, _, _ => none
 | k + 1, x2_1, x2_6, x2_7, x2_8, l0 => if x2_8 < (l0.length : Int) then (if 0 ≤ x2_8 then ((spec_HashBit.f ((rd_T73 l0 x2_8).f0) x2_1).bind fun t5 => (if t5 = 0 then (if x2_6.length < 5864062014805 then (spec_SplitByHashBit.l0 k x2_1 (x2_6 ++ ([(⟨(rd_T73 l0 x2_8).f0, (rd_T73 l0 x2_8).f1, (rd_T73 l0 x2_8).f2⟩ : S73)] : List S73)) x2_7 (wrap64 (x2_8 + 1)) l0) else none) else (if x2_7.length < 5864062014805 then (spec_SplitByHashBit.l0 k x2_1 x2_6 (x2_7 ++ ([(⟨(rd_T73 l0 x2_8).f0, (rd_T73 l0 x2_8).f1, (rd_T73 l0 x2_8).f2⟩ : S73)] : List S73)) (wrap64 (x2_8 + 1)) l0) else none))) else none) else (some (x2_6, x2_7))
def spec_SplitByHashBit.f (k : Nat) (l0 : List S73) (a1 : Int) : Option ((List S73) × (List S73)) := spec_SplitByHashBit.l0 k a1 [] [] 0 l0
set_option maxHeartbeats 4000000 in
set_option maxRecDepth 100000 in
theorem spec_SplitByHashBit.ok (k : Nat) (l0 : List S73) (Al0 : Option Addr) (cl0 : Nat) (a1 : Int) (r0 : List S73) (r1 : List S73) (H : spec_SplitByHashBit.f k l0 a1 = some (r0, r1)) : Fn Try.prog 79 [.slice Al0 l0.length cl0, .int .i64 a1] [] [.sl 0 k73 Al0 cl0 l0 0 false] (fun v bx en => ∃ A0 c0 A1 c1, v = .tuple #[.slice A0 r0.length c0, .slice A1 r1.length c1] ∧ bx = [] ∧ en = [.sl 2 k73 A0 c0 r0 1 true, .sl 2 k73 A1 c1 r1 2 true]) := by
 refine fn_ 41 Try.func79 rfl rfl rfl (fun base T w0 => ?_)
 rw [spec_SplitByHashBit.f] at H
 refine gs (rg (sv (EV.as rfl) rfl (sv (EV.as rfl) rfl (re (gs (rg (so rfl (op_lit (s := 3) (by_ := 24) k73 ([] : List S73) [] [] 1 [] rfl rfl rfl rfl rfl rfl rfl rfl rfl rfl rfl rfl rfl dq rfl fun A9_1 c9_1 => (sv (EV.as rfl) rfl (re (gs (rg (so rfl (op_lit (s := 3) (by_ := 24) k73 ([] : List S73) [] [] 2 [] rfl rfl rfl rfl rfl rfl rfl rfl rfl rfl rfl rfl rfl dq rfl fun A10_2 c10_2 => (sv (EV.as rfl) rfl (re (gs (gs (rg (sv (EV.as rfl) rfl (re (gb ?_))))))))))))))))))))))
 refine lo (fun kk S => ∃ (x2_1 : Int) (x2_6 : List S73) (Ax2_6 : Option Addr) (cx2_6 : Nat) (x2_7 : List S73) (Ax2_7 : Option Addr) (cx2_7 : Nat) (x2_8 : Int), spec_SplitByHashBit.l0 kk x2_1 x2_6 x2_7 x2_8 l0 = some (r0, r1) ∧ S = ⟨[(0, .slice Al0 l0.length cl0), (1, .int .i64 x2_1), (6, .slice Ax2_6 x2_6.length cx2_6), (7, .slice Ax2_7 x2_7.length cx2_7), (8, .int .i64 x2_8)], [], [.sl 2 k73 Ax2_6 cx2_6 x2_6 1 true, .sl 2 k73 Ax2_7 cx2_7 x2_7 2 true, .sl 0 k73 Al0 cl0 l0 0 false]⟩) (fun S hS => ?_) (fun n0 ih0 S hS => ?_) ⟨a1, [], A9_1, c9_1, [], A10_2, c10_2, 0, H, rfl⟩ (fun h => wk [0, 1, 6, 7, 8] [] [⟨1, 2, 1, true⟩, ⟨2, 2, 2, true⟩, ⟨0, 0, 0, false⟩] h)
 · clear H; obtain ⟨_, _, _, _, _, _, _, _, H, _⟩ := hS; rw [spec_SplitByHashBit.l0] at H; cases H
 clear H
 obtain ⟨x2_1, x2_6, Ax2_6, cx2_6, x2_7, Ax2_7, cx2_7, x2_8, H, rfl⟩ := hS
 rw [spec_SplitByHashBit.l0] at H
 refine gs (gs (rg (sv (EV.mv rfl) rfl (sv (EV.mv rfl) rfl (sv (EV.ln rfl) rfl (sv (EV.lss rfl rfl) rfl (re ?_)))))))
 revert H; refine ifsI ?_ ?_ <;> intro c3 H
 ·
  refine gt rfl (dT c3) (gk (gs (gb (gs (rg (sv (EV.mv rfl) rfl (sv (EV.mv rfl) rfl ?_)))))))
  revert H; refine ggI ?_; intro g4 H
  refine sv (EV.ix 2 rfl rfl rfl g4 c3 rfl) rfl (sv (EV.fa 0 rfl) rfl (sv (EV.le (v := .int .i64 ((rd_T73 l0 x2_8).f0)) x2_8 0 none 2 z73 rfl rfl rfl g4 c3 rfl rfl rfl) rfl (sv (EV.mv rfl) rfl ?_)))
  revert H; refine bdI ?_; rintro t5 A5 H
  refine so rfl (op_call (spec_HashBit.ok ((rd_T73 l0 x2_8).f0) x2_1 _ A5) [] 3 rfl rfl rfl rfl rfl ?_)
  rintro _ _ _ ⟨rfl, rfl, rfl⟩
  refine sv (EV.eql rfl rfl) rfl (re (pr [0, 1, 6, 7, 8, 24] [] [0, 1, 2] rfl rfl rfl rfl ?_))
  revert H; refine ifsI ?_ ?_ <;> intro c6 H
  ·
   refine gt rfl (dT c6) (rg (sv (EV.mv rfl) rfl (sv (EV.mv rfl) rfl (sv (EV.mv rfl) rfl (sv (EV.ix 2 rfl rfl rfl g4 c3 rfl) rfl (sv (EV.le (v := .agg #[.int .i64 ((rd_T73 l0 x2_8).f0), .int .i64 ((rd_T73 l0 x2_8).f1), .int .i64 ((rd_T73 l0 x2_8).f2)]) x2_8 0 (some 3) 2 z73 rfl rfl rfl g4 c3 rfl rfl rfl) rfl (so rfl (op_lit (s := 3) (by_ := 24) k73 ([(⟨(rd_T73 l0 x2_8).f0, (rd_T73 l0 x2_8).f1, (rd_T73 l0 x2_8).f2⟩ : S73)] : List S73) [[]] [] 3 [.tmp 29] rfl rfl rfl rfl rfl rfl rfl rfl rfl rfl rfl rfl rfl dq rfl fun A30_7 c30_7 => ?_))))))))
   revert H; refine ggI ?_; intro g8 H
   exact so rfl (op_app (k := k73) (s := 3) (by_ := 24) 0 3 rfl rfl rfl rfl (ap1 g8 dq) (ap1n g8 dq) (.inl rfl) true (fun _ => .inl rfl) rfl rfl fun A31_9 c31_9 => (nmE (en := [.sl 2 k73 Ax2_7 cx2_7 x2_7 2 true, .sl 0 k73 Al0 cl0 l0 0 false, .sl 2 k73 A30_7 c30_7 ([(⟨(rd_T73 l0 x2_8).f0, (rd_T73 l0 x2_8).f1, (rd_T73 l0 x2_8).f2⟩ : S73)] : List S73) 3 true, .sl 2 k73 A31_9 c31_9 (x2_6 ++ ([(⟨(rd_T73 l0 x2_8).f0, (rd_T73 l0 x2_8).f1, (rd_T73 l0 x2_8).f2⟩ : S73)] : List S73)) 1 true]) (by kernel_rfl) (sv (EV.as rfl) rfl (re (pr [0, 1, 6, 7, 8] [] [0, 1, 3] rfl rfl rfl rfl (ge (rg (sv (EV.mv rfl) rfl (sv (EV.add rfl rfl) rfl (sv (EV.as rfl) rfl (re (wk [0, 1, 6, 7, 8] [] [⟨2, 2, 1, true⟩, ⟨0, 2, 2, true⟩, ⟨1, 0, 0, false⟩] (ih0 _ (by omega) _ ⟨x2_1, x2_6 ++ ([(⟨(rd_T73 l0 x2_8).f0, (rd_T73 l0 x2_8).f1, (rd_T73 l0 x2_8).f2⟩ : S73)] : List S73), A31_9, c31_9, x2_7, Ax2_7, cx2_7, wrap64 (x2_8 + 1), H, rfl⟩)))))))))))))
  ·
   refine gf rfl (dF c6) (rg (sv (EV.mv rfl) rfl (sv (EV.mv rfl) rfl (sv (EV.mv rfl) rfl (sv (EV.ix 2 rfl rfl rfl g4 c3 rfl) rfl (sv (EV.le (v := .agg #[.int .i64 ((rd_T73 l0 x2_8).f0), .int .i64 ((rd_T73 l0 x2_8).f1), .int .i64 ((rd_T73 l0 x2_8).f2)]) x2_8 0 (some 3) 2 z73 rfl rfl rfl g4 c3 rfl rfl rfl) rfl (so rfl (op_lit (s := 3) (by_ := 24) k73 ([(⟨(rd_T73 l0 x2_8).f0, (rd_T73 l0 x2_8).f1, (rd_T73 l0 x2_8).f2⟩ : S73)] : List S73) [[]] [] 3 [.tmp 36] rfl rfl rfl rfl rfl rfl rfl rfl rfl rfl rfl rfl rfl dq rfl fun A37_10 c37_10 => ?_))))))))
   revert H; refine ggI ?_; intro g11 H
   exact so rfl (op_app (k := k73) (s := 3) (by_ := 24) 1 3 rfl rfl rfl rfl (ap1 g11 dq) (ap1n g11 dq) (.inl rfl) true (fun _ => .inl rfl) rfl rfl fun A38_12 c38_12 => (nmE (en := [.sl 2 k73 Ax2_6 cx2_6 x2_6 1 true, .sl 0 k73 Al0 cl0 l0 0 false, .sl 2 k73 A37_10 c37_10 ([(⟨(rd_T73 l0 x2_8).f0, (rd_T73 l0 x2_8).f1, (rd_T73 l0 x2_8).f2⟩ : S73)] : List S73) 3 true, .sl 2 k73 A38_12 c38_12 (x2_7 ++ ([(⟨(rd_T73 l0 x2_8).f0, (rd_T73 l0 x2_8).f1, (rd_T73 l0 x2_8).f2⟩ : S73)] : List S73)) 2 true]) (by kernel_rfl) (sv (EV.as rfl) rfl (re (pr [0, 1, 6, 7, 8] [] [0, 1, 3] rfl rfl rfl rfl (ge (rg (sv (EV.mv rfl) rfl (sv (EV.add rfl rfl) rfl (sv (EV.as rfl) rfl (re (wk [0, 1, 6, 7, 8] [] [⟨0, 2, 1, true⟩, ⟨2, 2, 2, true⟩, ⟨1, 0, 0, false⟩] (ih0 _ (by omega) _ ⟨x2_1, x2_6, Ax2_6, cx2_6, x2_7 ++ ([(⟨(rd_T73 l0 x2_8).f0, (rd_T73 l0 x2_8).f1, (rd_T73 l0 x2_8).f2⟩ : S73)] : List S73), A38_12, c38_12, wrap64 (x2_8 + 1), H, rfl⟩)))))))))))))
 ·
  refine gf rfl (dF c3) (gx rfl (gs (rg (sv (EV.mv rfl) rfl (sv (EV.mv rfl) rfl (sv (EV.as rfl) rfl (sv (EV.as rfl) rfl (re (pr [4, 5] [] [0, 1] rfl rfl rfl rfl ?_)))))))))
  cases H
  exact rt Try.func79 rfl (.tmp rfl (.tmp rfl .nil)) rfl [] [⟨0, 2, 1, true⟩, ⟨1, 2, 2, true⟩] rfl rfl rfl rfl rfl ⟨_, _, _, _, rfl, rfl, rfl⟩
end Go.Proofs.Ytoncjohnkiilcaa.K
