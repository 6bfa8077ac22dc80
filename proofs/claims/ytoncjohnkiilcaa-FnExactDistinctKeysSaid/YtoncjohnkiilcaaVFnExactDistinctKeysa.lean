/- Walks: what the functions compute. Printed by gen.py; no condition. -/
import Derived.Test.YtoncjohnkiilcaaProg
import Derived.Test.YtoncjohnkiilcaaSB
namespace Go.Proofs.Ytoncjohnkiilcaa.K
open Go Go.RowKit
set_option linter.unusedVariables false
set_option linter.unusedSimpArgs false
structure S75 where
  f0 : Int
  f1 : Int
  f2 : Int
def z75 : S75 := ⟨0, 0, 0⟩
def k75 : Kd S75 := .iso (fun p => ⟨p.1, p.2.1, p.2.2⟩) (fun x => (x.f0, x.f1, x.f2)) (fun _ => rfl) (.pair (.int .i64) (.pair (.int .i64) (.int .i64)))
def rd_T75 (xs : List S75) (i : Int) : S75 := xs.getD i.toNat z75
structure S107 where
  f0 : List S75
  f1 : Int
def z107 : S107 := ⟨[], 0⟩
def k107 : Kd S107 := .iso (fun p => ⟨p.1, p.2⟩) (fun x => (x.f0, x.f1)) (fun _ => rfl) (.pair (.slice k75) (.int .i64))
def rd_T107 (xs : List S107) (i : Int) : S107 := xs.getD i.toNat z107
structure S35 where
  f0 : List S107
  f1 : Int
  f2 : Bool
def z35 : S35 := ⟨[], 0, false⟩
def k35 : Kd S35 := .iso (fun p => ⟨p.1, p.2.1, p.2.2⟩) (fun x => (x.f0, x.f1, x.f2)) (fun _ => rfl) (.pair (.slice k107) (.pair (.int .i64) .bool))
def rd_T35 (xs : List S35) (i : Int) : S35 := xs.getD i.toNat z35
structure S73 where
  f0 : Int
  f1 : Int
  f2 : Int
def z73 : S73 := ⟨0, 0, 0⟩
def k73 : Kd S73 := .iso (fun p => ⟨p.1, p.2.1, p.2.2⟩) (fun x => (x.f0, x.f1, x.f2)) (fun _ => rfl) (.pair (.int .i64) (.pair (.int .i64) (.int .i64)))
def rd_T73 (xs : List S73) (i : Int) : S73 := xs.getD i.toNat z73
structure S80 where
  f0 : List S73
  f1 : Int
def z80 : S80 := ⟨[], 0⟩
def k80 : Kd S80 := .iso (fun p => ⟨p.1, p.2⟩) (fun x => (x.f0, x.f1)) (fun _ => rfl) (.pair (.slice k73) (.int .i64))
def rd_T80 (xs : List S80) (i : Int) : S80 := xs.getD i.toNat z80
structure S40 where
  f0 : List S80
  f1 : Int
  f2 : Bool
def z40 : S40 := ⟨[], 0, false⟩
def k40 : Kd S40 := .iso (fun p => ⟨p.1, p.2.1, p.2.2⟩) (fun x => (x.f0, x.f1, x.f2)) (fun _ => rfl) (.pair (.slice k80) (.pair (.int .i64) .bool))
def rd_T40 (xs : List S40) (i : Int) : S40 := xs.getD i.toNat z40
structure S88 where
  f0 : Int
  f1 : Int
  f2 : Int
  f3 : Int
  f4 : Int
def z88 : S88 := ⟨0, 0, 0, 0, 0⟩
def k88 : Kd S88 := .iso (fun p => ⟨p.1, p.2.1, p.2.2.1, p.2.2.2.1, p.2.2.2.2⟩) (fun x => (x.f0, x.f1, x.f2, x.f3, x.f4)) (fun _ => rfl) (.pair (.int .i64) (.pair (.int .i64) (.pair (.int .i64) (.pair (.int .i64) (.int .i64)))))
def rd_T88 (xs : List S88) (i : Int) : S88 := xs.getD i.toNat z88
structure S62 where
  f0 : List S88
  f1 : Int
  f2 : Int
  f3 : Int
def z62 : S62 := ⟨[], 0, 0, 0⟩
def k62 : Kd S62 := .iso (fun p => ⟨p.1, p.2.1, p.2.2.1, p.2.2.2⟩) (fun x => (x.f0, x.f1, x.f2, x.f3)) (fun _ => rfl) (.pair (.slice k88) (.pair (.int .i64) (.pair (.int .i64) (.int .i64))))
def rd_T62 (xs : List S62) (i : Int) : S62 := xs.getD i.toNat z62
structure S92 where
  f0 : Int
  f1 : S88
def z92 : S92 := ⟨0, z88⟩
def k92 : Kd S92 := .iso (fun p => ⟨p.1, p.2⟩) (fun x => (x.f0, x.f1)) (fun _ => rfl) (.pair (.int .i64) k88)
def rd_T92 (xs : List S92) (i : Int) : S92 := xs.getD i.toNat z92
structure S94 where
  f0 : Int
  f1 : Int
  f2 : Int
  f3 : Int
  f4 : Int
def z94 : S94 := ⟨0, 0, 0, 0, 0⟩
def k94 : Kd S94 := .iso (fun p => ⟨p.1, p.2.1, p.2.2.1, p.2.2.2.1, p.2.2.2.2⟩) (fun x => (x.f0, x.f1, x.f2, x.f3, x.f4)) (fun _ => rfl) (.pair (.int .i64) (.pair (.int .i64) (.pair (.int .i64) (.pair (.int .i64) (.int .i64)))))
def rd_T94 (xs : List S94) (i : Int) : S94 := xs.getD i.toNat z94
theorem eqD73 (d : Nat) (w : World) (x0 y0 : Int) (x1 y1 : Int) (x2 y2 : Int) : (Op.equalIn (d + 2) 73 (.agg #[.int .i64 x0, .int .i64 x1, .int .i64 x2]) (.agg #[.int .i64 y0, .int .i64 y1, .int .i64 y2])).run Try.prog w = .ok (x0 == y0 && (x1 == y1 && (x2 == y2))) w := by
  refine eq_of (d := d + 1) Try.underlying73 (by kernel_rfl) ?_
  refine eq_cons (by rfl) (by first | (go_simp; done) | (go_simp; rfl)) (by first | (go_simp; done) | (go_simp; rfl)) (by go_simp) ?_
  refine eq_cons (by rfl) (by first | (go_simp; done) | (go_simp; rfl)) (by first | (go_simp; done) | (go_simp; rfl)) (by go_simp) ?_
  exact eq_last (by rfl) (by first | (go_simp; done) | (go_simp; rfl)) (by first | (go_simp; done) | (go_simp; rfl)) (by go_simp)
theorem eq73 (d : Nat) (w : World) (x0 y0 : Int) (x1 y1 : Int) (x2 y2 : Int) : (Op.equalIn (d + 20) 73 (.agg #[.int .i64 x0, .int .i64 x1, .int .i64 x2]) (.agg #[.int .i64 y0, .int .i64 y1, .int .i64 y2])).run Try.prog w = .ok (x0 == y0 && (x1 == y1 && (x2 == y2))) w := eqD73 (d + 18) w x0 y0 x1 y1 x2 y2
theorem mk24 : ∀ (zz : Value) (e : TypeId) (i : TypeInfo), Try.prog.underlying 24 = some (.slice e) → Try.prog.info? e = some i → i.zero = some zz → ∀ w, Kd.rep (.int .i64) 1 w zz.cells.toList 0 [] := by
  intro zz e i hu hi hz w
  have h1 : (Try.prog.underlying 24).bind (fun d => match d with | .slice e => (Try.prog.info? e).bind (fun i => i.zero) | _ => none) = some (.int .i64 0) := by kernel_rfl
  rw [hu] at h1
  simp only [Option.bind_some, hi, hz, Option.some.injEq] at h1
  subst h1
  exact Kd.closed (.int .i64) (o := 1) (w := w) (x := 0) (hs := []) (bs := []) 0 false (Nat.le_refl 1) rfl .nil
theorem mk26 : ∀ (zz : Value) (e : TypeId) (i : TypeInfo), Try.prog.underlying 26 = some (.slice e) → Try.prog.info? e = some i → i.zero = some zz → ∀ w, Kd.rep k73 1 w zz.cells.toList z73 [] := by
  intro zz e i hu hi hz w
  have h1 : (Try.prog.underlying 26).bind (fun d => match d with | .slice e => (Try.prog.info? e).bind (fun i => i.zero) | _ => none) = some (.agg #[.int .i64 0, .int .i64 0, .int .i64 0]) := by kernel_rfl
  rw [hu] at h1
  simp only [Option.bind_some, hi, hz, Option.some.injEq] at h1
  subst h1
  exact Kd.closed k73 (o := 1) (w := w) (x := z73) (hs := []) (bs := []) 0 false (Nat.le_refl 1) rfl .nil
theorem mk38 : ∀ (zz : Value) (e : TypeId) (i : TypeInfo), Try.prog.underlying 38 = some (.slice e) → Try.prog.info? e = some i → i.zero = some zz → ∀ w, Kd.rep k80 1 w zz.cells.toList z80 [] := by
  intro zz e i hu hi hz w
  have h1 : (Try.prog.underlying 38).bind (fun d => match d with | .slice e => (Try.prog.info? e).bind (fun i => i.zero) | _ => none) = some (.agg #[.slice none 0 0, .int .i64 0]) := by kernel_rfl
  rw [hu] at h1
  simp only [Option.bind_some, hi, hz, Option.some.injEq] at h1
  subst h1
  exact Kd.closed k80 (o := 1) (w := w) (x := z80) (hs := [(none, 0)]) (bs := [[]]) 0 false (Nat.le_refl 1) rfl (.cons ⟨Nat.zero_le _, .inl ⟨rfl, rfl, rfl⟩⟩ .nil)
theorem mk53 : ∀ (zz : Value) (e : TypeId) (i : TypeInfo), Try.prog.underlying 53 = some (.slice e) → Try.prog.info? e = some i → i.zero = some zz → ∀ w, Kd.rep k88 1 w zz.cells.toList z88 [] := by
  intro zz e i hu hi hz w
  have h1 : (Try.prog.underlying 53).bind (fun d => match d with | .slice e => (Try.prog.info? e).bind (fun i => i.zero) | _ => none) = some (.agg #[.int .i64 0, .int .i64 0, .int .i64 0, .int .i64 0, .int .i64 0]) := by kernel_rfl
  rw [hu] at h1
  simp only [Option.bind_some, hi, hz, Option.some.injEq] at h1
  subst h1
  exact Kd.closed k88 (o := 1) (w := w) (x := z88) (hs := []) (bs := []) 0 false (Nat.le_refl 1) rfl .nil
end Go.Proofs.Ytoncjohnkiilcaa.K
namespace Go.Proofs.Ytoncjohnkiilcaa.K
open Go Go.RowKit
set_option linter.unusedVariables false
set_option linter.unusedSimpArgs false
def good75 (x : S75) : Prop := ((Lit.int .i64 x.f0).wf = true) ∧ ((Lit.int .i64 x.f1).wf = true) ∧ ((Lit.int .i64 x.f2).wf = true)
theorem open75 : Opens Try.prog 75 k75 good75 := opens_struct Try.underlying75 (by kernel_rfl) (.cons rfl (opens_int Try.underlying3 (by kernel_rfl)) (.cons rfl (opens_int Try.underlying3 (by kernel_rfl)) (.one rfl (opens_int Try.underlying3 (by kernel_rfl))))) (fun _ => rfl) (fun _ h => h)
def good107 (x : S107) : Prop := ((x.f0.length ≤ maxLen ∧ ∀ y ∈ x.f0, good75 y)) ∧ ((Lit.int .i64 x.f1).wf = true)
theorem open107 : Opens Try.prog 107 k107 good107 := opens_struct Try.underlying107 (by kernel_rfl) (.cons rfl (opens_slice Try.underlying22 (by kernel_rfl) (by kernel_rfl) open75) (.one rfl (opens_int Try.underlying3 (by kernel_rfl)))) (fun _ => rfl) (fun _ h => h)
def good35 (x : S35) : Prop := ((x.f0.length ≤ maxLen ∧ ∀ y ∈ x.f0, good107 y)) ∧ ((Lit.int .i64 x.f1).wf = true) ∧ (True)
theorem open35 : Opens Try.prog 35 k35 good35 := opens_struct Try.underlying35 (by kernel_rfl) (.cons rfl (opens_slice Try.underlying33 (by kernel_rfl) (by kernel_rfl) open107) (.cons rfl (opens_int Try.underlying3 (by kernel_rfl)) (.one rfl (opens_bool Try.underlying4 (by kernel_rfl))))) (fun _ => rfl) (fun _ h => h)
def good94 (x : S94) : Prop := ((Lit.int .i64 x.f0).wf = true) ∧ ((Lit.int .i64 x.f1).wf = true) ∧ ((Lit.int .i64 x.f2).wf = true) ∧ ((Lit.int .i64 x.f3).wf = true) ∧ ((Lit.int .i64 x.f4).wf = true)
theorem open94 : Opens Try.prog 94 k94 good94 := opens_struct Try.underlying94 (by kernel_rfl) (.cons rfl (opens_int Try.underlying3 (by kernel_rfl)) (.cons rfl (opens_int Try.underlying3 (by kernel_rfl)) (.cons rfl (opens_int Try.underlying3 (by kernel_rfl)) (.cons rfl (opens_int Try.underlying3 (by kernel_rfl)) (.one rfl (opens_int Try.underlying3 (by kernel_rfl))))))) (fun _ => rfl) (fun _ h => h)
end Go.Proofs.Ytoncjohnkiilcaa.K
namespace Go.Proofs.Ytoncjohnkiilcaa.K
open Go Go.RowKit
set_option linter.unusedVariables false
set_option linter.unusedSimpArgs false
def laws_szRowS.f (l0 : List S75) (a1 : Int) : Option (Int) := if (wrap64 (a1 - (l0.length : Int))) < 0 then (some (-1)) else (some (wrap64 (a1 - (l0.length : Int))))
set_option maxHeartbeats 4000000 in
set_option maxRecDepth 100000 in
theorem laws_szRowS.ok (l0 : List S75) (Al0 : Option Addr) (cl0 : Nat) (a1 : Int) (r0 : Int) (H : laws_szRowS.f l0 a1 = some r0) : Fn Try.prog 11 [.slice Al0 l0.length cl0, .int .i64 a1] [] [.sl 0 k75 Al0 cl0 l0 0 false] (fun v bx en => v = .int .i64 r0 ∧ bx = [] ∧ en = []) := by
 refine fn_ 12 Try.func11 rfl rfl rfl (fun base T w0 => ?_)
 rw [laws_szRowS.f] at H
 refine gs (rg (sv (EV.as rfl) rfl (re (gs (rg (sv (EV.mv rfl) rfl (sv (EV.mv rfl) rfl (sv (EV.ln rfl) rfl (sv (EV.sub rfl rfl) rfl (sv (EV.as rfl) rfl (re (pr [1] [] [] rfl rfl rfl rfl (gs (gs (rg (sv (EV.mv rfl) rfl (sv (EV.lss rfl rfl) rfl (re ?_))))))))))))))))))
 revert H; refine ifsI ?_ ?_ <;> intro c1 H
 ·
  refine gt rfl (dT c1) (gs (rg (sv (EV.as rfl) rfl (re ?_))))
  cases H
  exact rt Try.func11 rfl (.tmp rfl .nil) rfl [] [] rfl rfl rfl rfl rfl ⟨rfl, rfl, rfl⟩
 ·
  refine gf rfl (dF c1) (gk (gs (rg (sv (EV.mv rfl) rfl (sv (EV.as rfl) rfl (re ?_))))))
  cases H
  exact rt Try.func11 rfl (.tmp rfl .nil) rfl [] [] rfl rfl rfl rfl rfl ⟨rfl, rfl, rfl⟩
end Go.Proofs.Ytoncjohnkiilcaa.K
namespace Go.Proofs.Ytoncjohnkiilcaa.K
open Go Go.RowKit
set_option linter.unusedVariables false
set_option linter.unusedSimpArgs false
mutual
def spec_DistinctKeys.l1 : Nat → (List Int) → Int → Bool → Int → (List S73) → Option ((List Int))
 | 0, _, _, _, _, _ => none
 | k + 1, x18_3, x18_4, x18_5, x18_6, l0 => if x18_6 < (x18_3.length : Int) then (if x18_5 = true then (spec_DistinctKeys.l1 k x18_3 x18_4 true (wrap64 (x18_6 + 1)) l0) else (if 0 ≤ x18_6 then (if 0 ≤ x18_4 then (if x18_4 < (l0.length : Int) then (spec_DistinctKeys.l1 k x18_3 x18_4 (decide ((rdOf 0 x18_3 x18_6) = ((rd_T73 l0 x18_4).f0))) (wrap64 (x18_6 + 1)) l0) else none) else none) else none)) else (if x18_5 = true then (spec_DistinctKeys.l0 k x18_3 (wrap64 (x18_4 + 1)) l0) else (if 0 ≤ x18_4 then (if x18_4 < (l0.length : Int) then (if x18_3.length < 17592186044416 then (spec_DistinctKeys.l0 k (x18_3 ++ ([(rd_T73 l0 x18_4).f0] : List Int)) (wrap64 (x18_4 + 1)) l0) else none) else none) else none))
def spec_DistinctKeys.l0 : Nat → (List Int) → Int → (List S73) → Option ((List Int))
 | 0, _, _, _ => none
 | k + 1, x10_3, x10_4, l0 => if x10_4 < (l0.length : Int) then (spec_DistinctKeys.l1 k x10_3 x10_4 false 0 l0) else (some x10_3)
end
def spec_DistinctKeys.f (k : Nat) (l0 : List S73) : Option ((List Int)) := spec_DistinctKeys.l0 k [] 0 l0
set_option maxHeartbeats 4000000 in
set_option maxRecDepth 100000 in
theorem spec_DistinctKeys.ok (k : Nat) (l0 : List S73) (Al0 : Option Addr) (cl0 : Nat) (r0 : List Int) (H : spec_DistinctKeys.f k l0 = some r0) : Fn Try.prog 12 [.slice Al0 l0.length cl0] [] [.sl 0 k73 Al0 cl0 l0 0 false] (fun v bx en => ∃ A0 c0, v = .slice A0 r0.length c0 ∧ bx = [] ∧ en = [.sl 2 (.int .i64) A0 c0 r0 1 true]) := by
 refine fn_ 44 Try.func12 rfl rfl rfl (fun base T w0 => ?_)
 rw [spec_DistinctKeys.f] at H
 refine gs (rg (sv (EV.as rfl) rfl (re (gs (rg (so rfl (op_lit (s := 1) (by_ := 8) (.int .i64) ([] : List Int) [] [] 1 [] rfl rfl rfl rfl rfl rfl rfl rfl rfl rfl rfl rfl rfl dq rfl fun A7_1 c7_1 => (sv (EV.as rfl) rfl (re (gs (gs (rg (sv (EV.as rfl) rfl (re (gb ?_)))))))))))))))
 refine lo (fun kk S => ∃ (x10_3 : List Int) (Ax10_3 : Option Addr) (cx10_3 : Nat) (x10_4 : Int), spec_DistinctKeys.l0 kk x10_3 x10_4 l0 = some r0 ∧ S = ⟨[(0, .slice Al0 l0.length cl0), (3, .slice Ax10_3 x10_3.length cx10_3), (4, .int .i64 x10_4)], [], [.sl 2 (.int .i64) Ax10_3 cx10_3 x10_3 1 true, .sl 0 k73 Al0 cl0 l0 0 false]⟩) (fun S hS => ?_) (fun n0 ih0 S hS => ?_) ⟨[], A7_1, c7_1, 0, H, rfl⟩ (fun h => wk [0, 3, 4] [] [⟨1, 2, 1, true⟩, ⟨0, 0, 0, false⟩] h)
 · clear H; obtain ⟨_, _, _, _, H, _⟩ := hS; rw [spec_DistinctKeys.l0] at H; cases H
 clear H
 obtain ⟨x10_3, Ax10_3, cx10_3, x10_4, H, rfl⟩ := hS
 rw [spec_DistinctKeys.l0] at H
 refine gs (gs (rg (sv (EV.mv rfl) rfl (sv (EV.mv rfl) rfl (sv (EV.ln rfl) rfl (sv (EV.lss rfl rfl) rfl (re ?_)))))))
 revert H; refine ifsI ?_ ?_ <;> intro c2 H
 ·
  refine gt rfl (dT c2) (gk (gs (gb (gs (rg (sv (EV.as rfl) rfl (re (gs (gs (rg (sv (EV.as rfl) rfl (re (gb ?_)))))))))))))
  refine lo (fun kk S => ∃ (x18_3 : List Int) (Ax18_3 : Option Addr) (cx18_3 : Nat) (x18_4 : Int) (x18_5 : Bool) (x18_6 : Int), kk ≤ n0 ∧ spec_DistinctKeys.l1 kk x18_3 x18_4 x18_5 x18_6 l0 = some r0 ∧ S = ⟨[(0, .slice Al0 l0.length cl0), (3, .slice Ax18_3 x18_3.length cx18_3), (4, .int .i64 x18_4), (5, .bool x18_5), (6, .int .i64 x18_6)], [], [.sl 2 (.int .i64) Ax18_3 cx18_3 x18_3 1 true, .sl 0 k73 Al0 cl0 l0 0 false]⟩) (fun S hS => ?_) (fun n1 ih1 S hS => ?_) ⟨x10_3, Ax10_3, cx10_3, x10_4, false, 0, by omega, H, rfl⟩ (fun h => wk [0, 3, 4, 5, 6] [] [⟨0, 2, 1, true⟩, ⟨1, 0, 0, false⟩] h)
  · clear H; obtain ⟨_, _, _, _, _, _, _, H, _⟩ := hS; rw [spec_DistinctKeys.l1] at H; cases H
  clear H
  obtain ⟨x18_3, Ax18_3, cx18_3, x18_4, x18_5, x18_6, lk1, H, rfl⟩ := hS
  rw [spec_DistinctKeys.l1] at H
  refine gs (gs (rg (sv (EV.mv rfl) rfl (sv (EV.mv rfl) rfl (sv (EV.ln rfl) rfl (sv (EV.lss rfl rfl) rfl (re ?_)))))))
  revert H; refine ifsI ?_ ?_ <;> intro c3 H
  ·
   refine gt rfl (dT c3) (gk (gs (gb (dr [] [0, 1] [] 14 rfl rfl rfl rfl (xv 0 [] [0, 1] rfl (EV.mv rfl) rfl rfl rfl rfl (xv 1 [] [0, 1] rfl (EV.mv rfl) rfl rfl rfl rfl ?_))))))
   revert H; refine ifsI ?_ ?_ <;> intro c4 H
   ·
    subst c4
    exact ts 21 rfl rfl (xk 2 [] [0, 1] rfl rfl rfl rfl rfl (xk 3 [] [0, 1] rfl rfl rfl rfl rfl (xk 4 [] [0, 1] rfl rfl rfl rfl rfl (xk 5 [] [0, 1] rfl rfl rfl rfl rfl (xk 6 [] [0, 1] rfl rfl rfl rfl rfl (xk 7 [] [0, 1] rfl rfl rfl rfl rfl (xk 8 [] [0, 1] rfl rfl rfl rfl rfl (xk 9 [] [0, 1] rfl rfl rfl rfl rfl (xk 10 [] [0, 1] rfl rfl rfl rfl rfl (xk 11 [] [0, 1] rfl rfl rfl rfl rfl (xv 12 [] [0, 1] rfl (EV.pt rfl rfl rfl) rfl rfl rfl rfl (xv 13 [] [0, 1] rfl (EV.as rfl) rfl rfl rfl rfl (xd (pr [0, 3, 4, 5, 6] [] [0, 1] rfl rfl rfl rfl (ge (rg (sv (EV.mv rfl) rfl (sv (EV.add rfl rfl) rfl (sv (EV.as rfl) rfl (re (wk [0, 3, 4, 5, 6] [] [⟨0, 2, 1, true⟩, ⟨1, 0, 0, false⟩] (ih1 _ (by omega) _ ⟨x18_3, Ax18_3, cx18_3, x18_4, true, wrap64 (x18_6 + 1), by omega, H, rfl⟩))))))))))))))))))))))
   ·
    obtain rfl := bF c4
    refine ts 21 rfl rfl (xv 2 [] [0, 1] rfl (EV.mv rfl) rfl rfl rfl rfl (xv 3 [] [0, 1] rfl (EV.mv rfl) rfl rfl rfl rfl ?_))
    revert H; refine ggI ?_; intro g5 H
    refine xv 4 [] [0, 1] rfl (EV.ix 0 rfl rfl rfl g5 c3 rfl) rfl rfl rfl rfl (xv 5 [] [0, 1] rfl (EV.le (v := .int .i64 (rdOf 0 x18_3 x18_6)) x18_6 0 none 0 0 rfl rfl rfl g5 c3 rfl rfl rfl) rfl rfl rfl rfl (xv 6 [] [0, 1] rfl (EV.mv rfl) rfl rfl rfl rfl (xv 7 [] [0, 1] rfl (EV.mv rfl) rfl rfl rfl rfl ?_)))
    revert H; refine ggI ?_; intro g6 H
    revert H; refine ggI ?_; intro g7 H
    exact xv 8 [] [0, 1] rfl (EV.ix 1 rfl rfl rfl g6 g7 rfl) rfl rfl rfl rfl (xv 9 [] [0, 1] rfl (EV.fa 0 rfl) rfl rfl rfl rfl (xv 10 [] [0, 1] rfl (EV.le (v := .int .i64 ((rd_T73 l0 x18_4).f0)) x18_4 0 none 1 z73 rfl rfl rfl g6 g7 rfl rfl rfl) rfl rfl rfl rfl (xv 11 [] [0, 1] rfl (EV.eql rfl rfl) rfl rfl rfl rfl (xv 12 [] [0, 1] rfl (EV.pf rfl rfl rfl) rfl rfl rfl rfl (xv 13 [] [0, 1] rfl (EV.as rfl) rfl rfl rfl rfl (xd (pr [0, 3, 4, 5, 6, 22, 23, 24, 25, 26, 27, 28, 29, 30, 31] [] [0, 1] rfl rfl rfl rfl (ge (rg (sv (EV.mv rfl) rfl (sv (EV.add rfl rfl) rfl (sv (EV.as rfl) rfl (re (wk [0, 3, 4, 5, 6] [] [⟨0, 2, 1, true⟩, ⟨1, 0, 0, false⟩] (ih1 _ (by omega) _ ⟨x18_3, Ax18_3, cx18_3, x18_4, decide ((rdOf 0 x18_3 x18_6) = ((rd_T73 l0 x18_4).f0)), wrap64 (x18_6 + 1), by omega, H, rfl⟩)))))))))))))))
  ·
   refine gf rfl (dF c3) (gx rfl (gs (rg (sv (EV.mv rfl) rfl (sv (EV.nt rfl) rfl (re (pr [0, 3, 4, 34] [] [0, 1] rfl rfl rfl rfl ?_)))))))
   revert H; refine ifsI ?_ ?_ <;> intro c8 H
   ·
    subst c8
    exact gf rfl rfl (gk (ge (rg (sv (EV.mv rfl) rfl (sv (EV.add rfl rfl) rfl (sv (EV.as rfl) rfl (re (wk [0, 3, 4] [] [⟨0, 2, 1, true⟩, ⟨1, 0, 0, false⟩] (ih0 _ (by omega) _ ⟨x18_3, Ax18_3, cx18_3, wrap64 (x18_4 + 1), H, rfl⟩)))))))))
   ·
    obtain rfl := bF c8
    refine gt rfl rfl (rg (sv (EV.mv rfl) rfl (sv (EV.mv rfl) rfl (sv (EV.mv rfl) rfl ?_))))
    revert H; refine ggI ?_; intro g9 H
    revert H; refine ggI ?_; intro g10 H
    refine sv (EV.ix 1 rfl rfl rfl g9 g10 rfl) rfl (sv (EV.fa 0 rfl) rfl (sv (EV.le (v := .int .i64 ((rd_T73 l0 x18_4).f0)) x18_4 0 none 1 z73 rfl rfl rfl g9 g10 rfl rfl rfl) rfl (so rfl (op_lit (s := 1) (by_ := 8) (.int .i64) ([(rd_T73 l0 x18_4).f0] : List Int) [[]] [] 2 [.tmp 40] rfl rfl rfl rfl rfl rfl rfl rfl rfl rfl rfl rfl rfl dq rfl fun A41_11 c41_11 => ?_))))
    revert H; refine ggI ?_; intro g12 H
    exact so rfl (op_app (k := (.int .i64)) (s := 1) (by_ := 8) 0 2 rfl rfl rfl rfl (ap1 g12 dq) (ap1n g12 dq) (.inl rfl) true (fun _ => .inl rfl) rfl rfl fun A42_13 c42_13 => (nmE (en := [.sl 0 k73 Al0 cl0 l0 0 false, .sl 2 (.int .i64) A41_11 c41_11 ([(rd_T73 l0 x18_4).f0] : List Int) 2 true, .sl 2 (.int .i64) A42_13 c42_13 (x18_3 ++ ([(rd_T73 l0 x18_4).f0] : List Int)) 1 true]) (by kernel_rfl) (sv (EV.as rfl) rfl (re (pr [0, 3, 4] [] [0, 2] rfl rfl rfl rfl (ge (rg (sv (EV.mv rfl) rfl (sv (EV.add rfl rfl) rfl (sv (EV.as rfl) rfl (re (wk [0, 3, 4] [] [⟨1, 2, 1, true⟩, ⟨0, 0, 0, false⟩] (ih0 _ (by omega) _ ⟨x18_3 ++ ([(rd_T73 l0 x18_4).f0] : List Int), A42_13, c42_13, wrap64 (x18_4 + 1), H, rfl⟩)))))))))))))
 ·
  refine gf rfl (dF c2) (gx rfl (gs (rg (sv (EV.mv rfl) rfl (sv (EV.as rfl) rfl (re (pr [2] [] [0] rfl rfl rfl rfl ?_)))))))
  cases H
  exact rt Try.func12 rfl (.tmp rfl .nil) rfl [] [⟨0, 2, 1, true⟩] rfl rfl rfl rfl rfl ⟨_, _, rfl, rfl, rfl⟩
end Go.Proofs.Ytoncjohnkiilcaa.K
namespace Go.Proofs.Ytoncjohnkiilcaa.K
open Go Go.RowKit
set_option linter.unusedVariables false
set_option linter.unusedSimpArgs false
def laws_toRow.f (a0_0 : Int) (a0_1 : Int) (a0_2 : Int) : Option (Int × Int × Int) := some (a0_0, a0_1, a0_2)
set_option maxHeartbeats 4000000 in
set_option maxRecDepth 100000 in
theorem laws_toRow.ok (a0_0 : Int) (a0_1 : Int) (a0_2 : Int) (r0 : Int) (r1 : Int) (r2 : Int) (H : laws_toRow.f a0_0 a0_1 a0_2 = some (r0, r1, r2)) : Fn Try.prog 51 [.agg #[.int .i64 a0_0, .int .i64 a0_1, .int .i64 a0_2]] [] [] (fun v bx en => v = .agg #[.int .i64 r0, .int .i64 r1, .int .i64 r2] ∧ bx = [] ∧ en = []) := by
 refine fn_ 14 Try.func51 rfl rfl rfl (fun base T w0 => ?_)
 rw [laws_toRow.f] at H
 refine gs (rg (so rfl (op_box (cs := [.int .i64 a0_0, .int .i64 a0_1, .int .i64 a0_2]) rfl rfl rfl fun b1 => (so rfl (op_alloc (cs := [.int .i64 0, .int .i64 0, .int .i64 0]) (by kernel_rfl) rfl fun b2 => (re (gs (rg (so rfl (op_alloc (cs := [.int .i64 0, .int .i64 0, .int .i64 0]) (by kernel_rfl) rfl fun b3 => (re (gs (rg (sv (EV.fa 0 rfl) rfl (sv (EV.ld 0 none rfl rfl rfl) rfl (sv (EV.fa 0 rfl) rfl (so rfl (op_st (cs' := [.int .i64 a0_0, .int .i64 0, .int .i64 0]) 2 rfl rfl rfl rfl rfl rfl (re (gs (rg (sv (EV.fa 1 rfl) rfl (sv (EV.ld 0 none rfl rfl rfl) rfl (sv (EV.fa 1 rfl) rfl (so rfl (op_st (cs' := [.int .i64 a0_0, .int .i64 a0_1, .int .i64 0]) 2 rfl rfl rfl rfl rfl rfl (re (pr [1, 2, 3] [0, 1, 2] [] rfl rfl rfl rfl (gs ?_)))))))))))))))))))))))))))))
 refine rg (sv (EV.fa 2 rfl) rfl (sv (EV.ld 0 none rfl rfl rfl) rfl (sv (EV.fa 2 rfl) rfl (so rfl (op_st (cs' := [.int .i64 a0_0, .int .i64 a0_1, .int .i64 a0_2]) 2 rfl rfl rfl rfl rfl rfl (re (gs (rg (sv (EV.ld (v := .agg #[.int .i64 a0_0, .int .i64 a0_1, .int .i64 a0_2]) 2 (some 3) rfl rfl rfl) rfl (so rfl (op_st (cs' := [.int .i64 a0_0, .int .i64 a0_1, .int .i64 a0_2]) 1 rfl rfl rfl rfl rfl rfl (re (pr [2] [1] [] rfl rfl rfl rfl ?_)))))))))))))
 cases H
 exact rt Try.func51 rfl (.cell 0 (some 3) rfl rfl rfl .nil) rfl [] [] rfl rfl rfl rfl rfl ⟨rfl, rfl, rfl⟩
end Go.Proofs.Ytoncjohnkiilcaa.K
namespace Go.Proofs.Ytoncjohnkiilcaa.K
open Go Go.RowKit
set_option linter.unusedVariables false
set_option linter.unusedSimpArgs false
def laws_toRowS.l0 : Nat → (List S73) → Int → (List S75) → Option ((List S73))
 | 0, _, _, _ => none
 | k + 1, x2_3, x2_4, l0 => if x2_4 < (l0.length : Int) then (if 0 ≤ x2_4 then ((laws_toRow.f ((rd_T75 l0 x2_4).f0) ((rd_T75 l0 x2_4).f1) ((rd_T75 l0 x2_4).f2)).bind fun bt6 => (if x2_4 < (x2_3.length : Int) then ((some (x2_3.set x2_4.toNat (⟨bt6.1, bt6.2.1, bt6.2.2⟩ : S73))).bind fun s8 => (laws_toRowS.l0 k s8 (wrap64 (x2_4 + 1)) l0)) else none)) else none) else (some x2_3)
def laws_toRowS.f (k : Nat) (l0 : List S75) : Option ((List S73)) := if 0 ≤ (l0.length : Int) then (if (l0.length : Int).toNat ≤ 5864062014805 then (laws_toRowS.l0 k (List.replicate (l0.length : Int).toNat z73) 0 l0) else none) else none
set_option maxHeartbeats 4000000 in
set_option maxRecDepth 100000 in
theorem laws_toRowS.ok (k : Nat) (l0 : List S75) (Al0 : Option Addr) (cl0 : Nat) (r0 : List S73) (H : laws_toRowS.f k l0 = some r0) : Fn Try.prog 13 [.slice Al0 l0.length cl0] [] [.sl 0 k75 Al0 cl0 l0 0 false] (fun v bx en => ∃ A0 c0, v = .slice A0 r0.length c0 ∧ bx = [] ∧ en = [.sl 2 k73 A0 c0 r0 1 true]) := by
 refine fn_ 23 Try.func13 rfl rfl rfl (fun base T w0 => ?_)
 rw [laws_toRowS.f] at H
 refine gs (rg (sv (EV.as rfl) rfl (re (gs (rg (sv (EV.mv rfl) rfl (sv (EV.ln rfl) rfl ?_)))))))
 revert H; refine ggI ?_; intro g1 H
 revert H; refine ggI ?_; intro g2 H
 refine so rfl (op_mk (s := 3) (by_ := 24) k73 z73 1 rfl rfl g1 (mk1 g2 dq) (mk2 g2 dq) mk26 rfl rfl dq rfl fun A7_3 c7_3 => (sv (EV.as rfl) rfl (re (gs (gs (rg (sv (EV.as rfl) rfl (re (gb ?_)))))))))
 refine lo (fun kk S => ∃ (x2_3 : List S73) (Ax2_3 : Option Addr) (cx2_3 : Nat) (x2_4 : Int), laws_toRowS.l0 kk x2_3 x2_4 l0 = some r0 ∧ S = ⟨[(0, .slice Al0 l0.length cl0), (3, .slice Ax2_3 x2_3.length cx2_3), (4, .int .i64 x2_4)], [], [.sl 2 k73 Ax2_3 cx2_3 x2_3 1 true, .sl 0 k75 Al0 cl0 l0 0 false]⟩) (fun S hS => ?_) (fun n0 ih0 S hS => ?_) ⟨List.replicate (l0.length : Int).toNat z73, A7_3, c7_3, 0, H, rfl⟩ (fun h => wk [0, 3, 4] [] [⟨1, 2, 1, true⟩, ⟨0, 0, 0, false⟩] h)
 · clear H; obtain ⟨_, _, _, _, H, _⟩ := hS; rw [laws_toRowS.l0] at H; cases H
 clear H
 obtain ⟨x2_3, Ax2_3, cx2_3, x2_4, H, rfl⟩ := hS
 rw [laws_toRowS.l0] at H
 refine gs (gs (rg (sv (EV.mv rfl) rfl (sv (EV.mv rfl) rfl (sv (EV.ln rfl) rfl (sv (EV.lss rfl rfl) rfl (re ?_)))))))
 revert H; refine ifsI ?_ ?_ <;> intro c4 H
 ·
  refine gt rfl (dT c4) (gk (gs (gb (rg (sv (EV.mv rfl) rfl (sv (EV.mv rfl) rfl (sv (EV.mv rfl) rfl (sv (EV.mv rfl) rfl ?_))))))))
  revert H; refine ggI ?_; intro g5 H
  refine sv (EV.ix 1 rfl rfl rfl g5 c4 rfl) rfl (sv (EV.le (v := .agg #[.int .i64 ((rd_T75 l0 x2_4).f0), .int .i64 ((rd_T75 l0 x2_4).f1), .int .i64 ((rd_T75 l0 x2_4).f2)]) x2_4 0 (some 3) 1 z75 rfl rfl rfl g5 c4 rfl rfl rfl) rfl ?_)
  revert H; refine bdI ?_; rintro ⟨t6_0, t6_1, t6_2⟩ A6 H
  refine so rfl (op_call (laws_toRow.ok ((rd_T75 l0 x2_4).f0) ((rd_T75 l0 x2_4).f1) ((rd_T75 l0 x2_4).f2) _ _ _ A6) [] 2 rfl rfl rfl rfl rfl ?_)
  rintro _ _ _ ⟨rfl, rfl, rfl⟩
  revert H; refine ggI ?_; intro g7 H
  refine sv (EV.ix 0 rfl rfl rfl g5 g7 rfl) rfl ?_
  revert H; refine bdI ?_; intro s8 A8 H; have q8 := stl (Option.some.inj A8)
  exact so rfl (op_stg x2_4 0 0 z73 (⟨t6_0, t6_1, t6_2⟩ : S73) (Option.some.inj A8) rfl rfl rfl rfl g5 g7 rfl rfl rfl rfl dq rfl (rlT 3 (v' := .slice Ax2_3 s8.length cx2_3) rfl (slq _ _ q8) (rlT 14 (v' := .slice Ax2_3 s8.length cx2_3) rfl (slq _ _ q8) (nmE (en := [.sl 0 k75 Al0 cl0 l0 0 false, .sl 2 k73 Ax2_3 cx2_3 s8 1 true]) (by kernel_rfl) (re (pr [0, 3, 4] [] [0, 1] rfl rfl rfl rfl (ge (rg (sv (EV.mv rfl) rfl (sv (EV.add rfl rfl) rfl (sv (EV.as rfl) rfl (re (wk [0, 3, 4] [] [⟨1, 2, 1, true⟩, ⟨0, 0, 0, false⟩] (ih0 _ (by omega) _ ⟨s8, Ax2_3, cx2_3, wrap64 (x2_4 + 1), H, rfl⟩))))))))))))))
 ·
  refine gf rfl (dF c4) (gx rfl (gs (rg (sv (EV.mv rfl) rfl (sv (EV.as rfl) rfl (re (pr [2] [] [0] rfl rfl rfl rfl ?_)))))))
  cases H
  exact rt Try.func13 rfl (.tmp rfl .nil) rfl [] [⟨0, 2, 1, true⟩] rfl rfl rfl rfl rfl ⟨_, _, rfl, rfl, rfl⟩
end Go.Proofs.Ytoncjohnkiilcaa.K
namespace Go.Proofs.Ytoncjohnkiilcaa.K
open Go Go.RowKit
set_option linter.unusedVariables false
set_option linter.unusedSimpArgs false
def impl_DistinctKeys.l0 : Nat → (List Int) → (List (Int × Bool)) → Int → Int → (List S73) → Option ((List Int))
 | 0, _, _, _, _, _ => none
 | k + 1, x2_3, x2_4, x2_10, x2_11, l0 => if x2_11 < x2_10 then (if 0 ≤ x2_11 then (if x2_11 < (l0.length : Int) then (if ((mGet x2_4 ((rd_T73 l0 x2_11).f0)).getD false) = true then (impl_DistinctKeys.l0 k x2_3 x2_4 x2_10 (wrap64 (x2_11 + 1)) l0) else (if x2_3.length < 17592186044416 then (impl_DistinctKeys.l0 k (x2_3 ++ ([(rd_T73 l0 x2_11).f0] : List Int)) (mSet x2_4 ((rd_T73 l0 x2_11).f0) true) x2_10 (wrap64 (x2_11 + 1)) l0) else none)) else none) else none) else (some x2_3)
def impl_DistinctKeys.f (k : Nat) (l0 : List S73) : Option ((List Int)) := impl_DistinctKeys.l0 k [] ([] : List (Int × Bool)) (l0.length : Int) 0 l0
set_option maxHeartbeats 4000000 in
set_option maxRecDepth 100000 in
theorem impl_DistinctKeys.ok (k : Nat) (l0 : List S73) (Al0 : Option Addr) (cl0 : Nat) (r0 : List Int) (H : impl_DistinctKeys.f k l0 = some r0) : Fn Try.prog 14 [.slice Al0 l0.length cl0] [] [.sl 0 k73 Al0 cl0 l0 0 false] (fun v bx en => ∃ A0 c0, v = .slice A0 r0.length c0 ∧ bx = [] ∧ en = [.sl 2 (.int .i64) A0 c0 r0 1 true]) := by
 refine fn_ 30 Try.func14 rfl rfl rfl (fun base T w0 => ?_)
 rw [impl_DistinctKeys.f] at H
 refine gs (rg (sv (EV.as rfl) rfl (re (gs (rg (so rfl (op_lit (s := 1) (by_ := 8) (.int .i64) ([] : List Int) [] [] 1 [] rfl rfl rfl rfl rfl rfl rfl rfl rfl rfl rfl rfl rfl dq rfl fun A7_1 c7_1 => (so rfl (op_mkm (β := Bool) .i64 Value.bool 2 rfl dq rfl fun r8_2 => (sv (EV.as rfl) rfl (sv (EV.as rfl) rfl (re (gs (gs (rg (sv (EV.mv rfl) rfl (sv (EV.ln rfl) rfl (sv (EV.mv rfl) rfl (re (gb ?_))))))))))))))))))))
 refine lo (fun kk S => ∃ (x2_3 : List Int) (Ax2_3 : Option Addr) (cx2_3 : Nat) (x2_4 : List (Int × Bool)) (rx2_4 : Nat) (x2_10 : Int) (x2_11 : Int), impl_DistinctKeys.l0 kk x2_3 x2_4 x2_10 x2_11 l0 = some r0 ∧ S = ⟨[(3, .slice Ax2_3 x2_3.length cx2_3), (4, .map (some rx2_4)), (9, .slice Al0 l0.length cl0), (10, .int .i64 x2_10), (11, .int .i64 x2_11)], [], [.sl 2 (.int .i64) Ax2_3 cx2_3 x2_3 1 true, mapE .i64 Value.bool rx2_4 x2_4 2, .sl 0 k73 Al0 cl0 l0 0 false]⟩) (fun S hS => ?_) (fun n0 ih0 S hS => ?_) ⟨[], A7_1, c7_1, ([] : List (Int × Bool)), r8_2, (l0.length : Int), 0, H, rfl⟩ (fun h => wk [3, 4, 9, 10, 11] [] [⟨1, 2, 1, true⟩, ⟨2, 1, 2, false⟩, ⟨0, 0, 0, false⟩] h)
 · clear H; obtain ⟨_, _, _, _, _, _, _, H, _⟩ := hS; rw [impl_DistinctKeys.l0] at H; cases H
 clear H
 obtain ⟨x2_3, Ax2_3, cx2_3, x2_4, rx2_4, x2_10, x2_11, H, rfl⟩ := hS
 rw [impl_DistinctKeys.l0] at H
 refine gs (rg (sv (EV.lss rfl rfl) rfl (re (gs ?_))))
 revert H; refine ifsI ?_ ?_ <;> intro c3 H
 ·
  refine gt rfl (dT c3) (gk (gs (gb (gs (rg ?_)))))
  revert H; refine ggI ?_; intro g4 H
  revert H; refine ggI ?_; intro g5 H
  refine sv (EV.ix 2 rfl rfl rfl g4 g5 rfl) rfl (sv (EV.le (v := .agg #[.int .i64 ((rd_T73 l0 x2_11).f0), .int .i64 ((rd_T73 l0 x2_11).f1), .int .i64 ((rd_T73 l0 x2_11).f2)]) x2_11 0 (some 3) 2 z73 rfl rfl rfl g4 g5 rfl rfl rfl) rfl (so rfl (op_alloc (cs := [.int .i64 0, .int .i64 0, .int .i64 0]) (by kernel_rfl) rfl fun b6 => (so rfl (op_st (cs' := [.int .i64 ((rd_T73 l0 x2_11).f0), .int .i64 ((rd_T73 l0 x2_11).f1), .int .i64 ((rd_T73 l0 x2_11).f2)]) 0 rfl rfl rfl rfl rfl rfl (re (gs (rg (sv (EV.mv rfl) rfl (sv (EV.fa 0 rfl) rfl (sv (EV.ld 0 none rfl rfl rfl) rfl (sv (EV.lk (vf := Value.bool) (zz := false) 1 rfl rfl rfl) rfl (sv (EV.nt rfl) rfl (re (pr [3, 4, 6, 9, 10, 11, 19] [0] [0, 1, 2] rfl rfl rfl rfl ?_)))))))))))))))
  revert H; refine ifsI ?_ ?_ <;> intro c6 H
  ·
   exact gf rfl (bN c6) (gk (ge (rg (sv (EV.add rfl rfl) rfl (sv (EV.mv rfl) rfl (re (wk [3, 4, 9, 10, 11] [] [⟨0, 2, 1, true⟩, ⟨1, 1, 2, false⟩, ⟨2, 0, 0, false⟩] (ih0 _ (by omega) _ ⟨x2_3, Ax2_3, cx2_3, x2_4, rx2_4, x2_10, wrap64 (x2_11 + 1), H, rfl⟩))))))))
  ·
   refine gt rfl (bM c6) (gs (rg (sv (EV.mv rfl) rfl (sv (EV.fa 0 rfl) rfl (sv (EV.ld 0 none rfl rfl rfl) rfl (so rfl (op_mu 1 true rfl rfl rfl rfl rfl (nmE (en := [.sl 2 (.int .i64) Ax2_3 cx2_3 x2_3 1 true, .sl 0 k73 Al0 cl0 l0 0 false, mapE .i64 Value.bool rx2_4 (mSet x2_4 ((rd_T73 l0 x2_11).f0) true) 2]) (by kernel_rfl) (re (rg (sv (EV.mv rfl) rfl (sv (EV.fa 0 rfl) rfl (sv (EV.ld 0 none rfl rfl rfl) rfl (so rfl (op_lit (s := 1) (by_ := 8) (.int .i64) ([(rd_T73 l0 x2_11).f0] : List Int) [[]] [] 3 [.tmp 25] rfl rfl rfl rfl rfl rfl rfl rfl rfl rfl rfl rfl rfl dq rfl fun A26_7 c26_7 => ?_)))))))))))))))
   revert H; refine ggI ?_; intro g8 H
   exact so rfl (op_app (k := (.int .i64)) (s := 1) (by_ := 8) 0 3 rfl rfl rfl rfl (ap1 g8 dq) (ap1n g8 dq) (.inl rfl) true (fun _ => .inl rfl) rfl rfl fun A27_9 c27_9 => (nmE (en := [.sl 0 k73 Al0 cl0 l0 0 false, mapE .i64 Value.bool rx2_4 (mSet x2_4 ((rd_T73 l0 x2_11).f0) true) 2, .sl 2 (.int .i64) A26_7 c26_7 ([(rd_T73 l0 x2_11).f0] : List Int) 3 true, .sl 2 (.int .i64) A27_9 c27_9 (x2_3 ++ ([(rd_T73 l0 x2_11).f0] : List Int)) 1 true]) (by kernel_rfl) (sv (EV.as rfl) rfl (re (pr [3, 4, 9, 10, 11] [] [0, 1, 3] rfl rfl rfl rfl (ge (rg (sv (EV.add rfl rfl) rfl (sv (EV.mv rfl) rfl (re (wk [3, 4, 9, 10, 11] [] [⟨2, 2, 1, true⟩, ⟨1, 1, 2, false⟩, ⟨0, 0, 0, false⟩] (ih0 _ (by omega) _ ⟨x2_3 ++ ([(rd_T73 l0 x2_11).f0] : List Int), A27_9, c27_9, mSet x2_4 ((rd_T73 l0 x2_11).f0) true, rx2_4, x2_10, wrap64 (x2_11 + 1), H, rfl⟩))))))))))))
 ·
  refine gf rfl (dF c3) (gx rfl (gs (rg (sv (EV.mv rfl) rfl (sv (EV.as rfl) rfl (re (pr [2] [] [0] rfl rfl rfl rfl ?_)))))))
  cases H
  exact rt Try.func14 rfl (.tmp rfl .nil) rfl [] [⟨0, 2, 1, true⟩] rfl rfl rfl rfl rfl ⟨_, _, rfl, rfl, rfl⟩
end Go.Proofs.Ytoncjohnkiilcaa.K
namespace Go.Proofs.Ytoncjohnkiilcaa.K
open Go Go.RowKit
set_option linter.unusedVariables false
set_option linter.unusedSimpArgs false
def laws_eqIntS.l0 : Nat → Int → (List Int) → (List Int) → Option (Bool)
 | 0, _, _, _ => none
 | k + 1, x2_5, l0, l1 => if x2_5 < (l0.length : Int) then (if 0 ≤ x2_5 then (if x2_5 < (l1.length : Int) then (if (rdOf 0 l0 x2_5) = (rdOf 0 l1 x2_5) then (laws_eqIntS.l0 k (wrap64 (x2_5 + 1)) l0 l1) else (some false)) else none) else none) else (some true)
def laws_eqIntS.f (k : Nat) (l0 : List Int) (l1 : List Int) : Option (Bool) := if (l0.length : Int) = (l1.length : Int) then (laws_eqIntS.l0 k 0 l0 l1) else (some false)
set_option maxHeartbeats 4000000 in
set_option maxRecDepth 100000 in
theorem laws_eqIntS.ok (k : Nat) (l0 : List Int) (Al0 : Option Addr) (cl0 : Nat) (l1 : List Int) (Al1 : Option Addr) (cl1 : Nat) (r0 : Bool) (H : laws_eqIntS.f k l0 l1 = some r0) : Fn Try.prog 15 [.slice Al0 l0.length cl0, .slice Al1 l1.length cl1] [] [.sl 0 (.int .i64) Al0 cl0 l0 0 false, .sl 0 (.int .i64) Al1 cl1 l1 0 false] (fun v bx en => v = .bool r0 ∧ bx = [] ∧ en = []) := by
 refine fn_ 26 Try.func15 rfl rfl rfl (fun base T w0 => ?_)
 rw [laws_eqIntS.f] at H
 refine gs (rg (sv (EV.as rfl) rfl (re (gs (gs (rg (sv (EV.mv rfl) rfl (sv (EV.ln rfl) rfl (sv (EV.mv rfl) rfl (sv (EV.ln rfl) rfl (sv (EV.neq rfl rfl) rfl (re ?_))))))))))))
 revert H; refine ifsI ?_ ?_ <;> intro c1 H
 ·
  refine gf rfl (nF c1) (gk (gs (gs (rg (sv (EV.as rfl) rfl (re (pr [0, 1, 5] [] [0, 1] rfl rfl rfl rfl (gb ?_))))))))
  refine lo (fun kk S => ∃ (x2_5 : Int), laws_eqIntS.l0 kk x2_5 l0 l1 = some r0 ∧ S = ⟨[(0, .slice Al0 l0.length cl0), (1, .slice Al1 l1.length cl1), (5, .int .i64 x2_5)], [], [.sl 0 (.int .i64) Al0 cl0 l0 0 false, .sl 0 (.int .i64) Al1 cl1 l1 0 false]⟩) (fun S hS => ?_) (fun n0 ih0 S hS => ?_) ⟨0, H, rfl⟩ (fun h => wk [0, 1, 5] [] [⟨0, 0, 0, false⟩, ⟨1, 0, 0, false⟩] h)
  · clear H; obtain ⟨_, H, _⟩ := hS; rw [laws_eqIntS.l0] at H; cases H
  clear H
  obtain ⟨x2_5, H, rfl⟩ := hS
  rw [laws_eqIntS.l0] at H
  refine gs (gs (rg (sv (EV.mv rfl) rfl (sv (EV.mv rfl) rfl (sv (EV.ln rfl) rfl (sv (EV.lss rfl rfl) rfl (re ?_)))))))
  revert H; refine ifsI ?_ ?_ <;> intro c2 H
  ·
   refine gt rfl (dT c2) (gk (gs (gb (gs ?_))))
   revert H; refine ggI ?_; intro g3 H
   revert H; refine ggI ?_; intro g4 H
   refine dr [] [0, 1] [] 9 rfl rfl rfl rfl (xv 0 [] [0, 1] rfl (EV.mv rfl) rfl rfl rfl rfl (xv 1 [] [0, 1] rfl (EV.mv rfl) rfl rfl rfl rfl (xv 2 [] [0, 1] rfl (EV.ix 0 rfl rfl rfl g3 c2 rfl) rfl rfl rfl rfl (xv 3 [] [0, 1] rfl (EV.le (v := .int .i64 (rdOf 0 l0 x2_5)) x2_5 0 none 0 0 rfl rfl rfl g3 c2 rfl rfl rfl) rfl rfl rfl rfl (xv 4 [] [0, 1] rfl (EV.mv rfl) rfl rfl rfl rfl (xv 5 [] [0, 1] rfl (EV.mv rfl) rfl rfl rfl rfl (xv 6 [] [0, 1] rfl (EV.ix 1 rfl rfl rfl g3 g4 rfl) rfl rfl rfl rfl (xv 7 [] [0, 1] rfl (EV.le (v := .int .i64 (rdOf 0 l1 x2_5)) x2_5 0 none 1 0 rfl rfl rfl g3 g4 rfl rfl rfl) rfl rfl rfl rfl (xv 8 [] [0, 1] rfl (EV.neq rfl rfl) rfl rfl rfl rfl (xd (pr [0, 1, 5, 25] [] [0, 1] rfl rfl rfl rfl ?_)))))))))))
   revert H; refine ifsI ?_ ?_ <;> intro c5 H
   ·
    exact gf rfl (nF c5) (gk (ge (rg (sv (EV.mv rfl) rfl (sv (EV.add rfl rfl) rfl (sv (EV.as rfl) rfl (re (wk [0, 1, 5] [] [⟨0, 0, 0, false⟩, ⟨1, 0, 0, false⟩] (ih0 _ (by omega) _ ⟨wrap64 (x2_5 + 1), H, rfl⟩)))))))))
   ·
    refine gt rfl (nT c5) (gs (rg (sv (EV.as rfl) rfl (re ?_))))
    cases H
    exact rt Try.func15 rfl (.tmp rfl .nil) rfl [] [] rfl rfl rfl rfl rfl ⟨rfl, rfl, rfl⟩
  ·
   refine gf rfl (dF c2) (gx rfl (gs (rg (sv (EV.as rfl) rfl (re (pr [4] [] [] rfl rfl rfl rfl ?_))))))
   cases H
   exact rt Try.func15 rfl (.tmp rfl .nil) rfl [] [] rfl rfl rfl rfl rfl ⟨rfl, rfl, rfl⟩
 ·
  refine gt rfl (nT c1) (gs (rg (sv (EV.as rfl) rfl (re (pr [4] [] [] rfl rfl rfl rfl ?_)))))
  cases H
  exact rt Try.func15 rfl (.tmp rfl .nil) rfl [] [] rfl rfl rfl rfl rfl ⟨rfl, rfl, rfl⟩
end Go.Proofs.Ytoncjohnkiilcaa.K
namespace Go.Proofs.Ytoncjohnkiilcaa.K
open Go Go.RowKit
set_option linter.unusedVariables false
set_option linter.unusedSimpArgs false
def laws_eqRow.f (a0_0 : Int) (a0_1 : Int) (a0_2 : Int) (a1_0 : Int) (a1_1 : Int) (a1_2 : Int) : Option (Bool) := if a0_0 = a1_0 then (if a0_1 = a1_1 then (if a0_2 = a1_2 then (some true) else (some false)) else (some false)) else (some false)
set_option maxHeartbeats 4000000 in
set_option maxRecDepth 100000 in
theorem laws_eqRow.ok (a0_0 : Int) (a0_1 : Int) (a0_2 : Int) (a1_0 : Int) (a1_1 : Int) (a1_2 : Int) (r0 : Bool) (H : laws_eqRow.f a0_0 a0_1 a0_2 a1_0 a1_1 a1_2 = some r0) : Fn Try.prog 52 [.agg #[.int .i64 a0_0, .int .i64 a0_1, .int .i64 a0_2], .agg #[.int .i64 a1_0, .int .i64 a1_1, .int .i64 a1_2]] [] [] (fun v bx en => v = .bool r0 ∧ bx = [] ∧ en = []) := by
 refine fn_ 20 Try.func52 rfl rfl rfl (fun base T w0 => ?_)
 rw [laws_eqRow.f] at H
 refine gs (rg (so rfl (op_box (cs := [.int .i64 a0_0, .int .i64 a0_1, .int .i64 a0_2]) rfl rfl rfl fun b2 => (so rfl (op_box (cs := [.int .i64 a1_0, .int .i64 a1_1, .int .i64 a1_2]) rfl rfl rfl fun b3 => (sv (EV.as rfl) rfl (re (gs (gs (rg (sv (EV.fa 0 rfl) rfl (sv (EV.ld 0 none rfl rfl rfl) rfl (sv (EV.fa 0 rfl) rfl (sv (EV.ld 1 none rfl rfl rfl) rfl (sv (EV.neq rfl rfl) rfl (re (pr [2, 3, 9] [0, 1] [] rfl rfl rfl rfl ?_)))))))))))))))))
 revert H; refine ifsI ?_ ?_ <;> intro c1 H
 ·
  refine gf rfl (nF c1) (gk (gs (gs (rg (sv (EV.fa 1 rfl) rfl (sv (EV.ld 0 none rfl rfl rfl) rfl (sv (EV.fa 1 rfl) rfl (sv (EV.ld 1 none rfl rfl rfl) rfl (sv (EV.neq rfl rfl) rfl (re ?_))))))))))
  revert H; refine ifsI ?_ ?_ <;> intro c2 H
  ·
   refine gf rfl (nF c2) (gk (gs (gs (rg (sv (EV.fa 2 rfl) rfl (sv (EV.ld 0 none rfl rfl rfl) rfl (sv (EV.fa 2 rfl) rfl (sv (EV.ld 1 none rfl rfl rfl) rfl (sv (EV.neq rfl rfl) rfl (re (pr [19] [] [] rfl rfl rfl rfl ?_)))))))))))
   revert H; refine ifsI ?_ ?_ <;> intro c3 H
   ·
    refine gf rfl (nF c3) (gk (gs (rg (sv (EV.as rfl) rfl (re ?_)))))
    cases H
    exact rt Try.func52 rfl (.tmp rfl .nil) rfl [] [] rfl rfl rfl rfl rfl ⟨rfl, rfl, rfl⟩
   ·
    refine gt rfl (nT c3) (gs (rg (sv (EV.as rfl) rfl (re ?_))))
    cases H
    exact rt Try.func52 rfl (.tmp rfl .nil) rfl [] [] rfl rfl rfl rfl rfl ⟨rfl, rfl, rfl⟩
  ·
   refine gt rfl (nT c2) (gs (rg (sv (EV.as rfl) rfl (re (pr [4] [] [] rfl rfl rfl rfl ?_)))))
   cases H
   exact rt Try.func52 rfl (.tmp rfl .nil) rfl [] [] rfl rfl rfl rfl rfl ⟨rfl, rfl, rfl⟩
 ·
  refine gt rfl (nT c1) (gs (rg (sv (EV.as rfl) rfl (re ?_))))
  cases H
  exact rt Try.func52 rfl (.tmp rfl .nil) rfl [] [] rfl rfl rfl rfl rfl ⟨rfl, rfl, rfl⟩
end Go.Proofs.Ytoncjohnkiilcaa.K
namespace Go.Proofs.Ytoncjohnkiilcaa.K
open Go Go.RowKit
set_option linter.unusedVariables false
set_option linter.unusedSimpArgs false
def laws_eqRowS.l0 : Nat → Int → (List S73) → (List S73) → Option (Bool)
 | 0, _, _, _ => none
 | k + 1, x2_5, l0, l1 => if x2_5 < (l0.length : Int) then (if 0 ≤ x2_5 then (if x2_5 < (l1.length : Int) then ((laws_eqRow.f ((rd_T73 l0 x2_5).f0) ((rd_T73 l0 x2_5).f1) ((rd_T73 l0 x2_5).f2) ((rd_T73 l1 x2_5).f0) ((rd_T73 l1 x2_5).f1) ((rd_T73 l1 x2_5).f2)).bind fun t5 => (if t5 = true then (laws_eqRowS.l0 k (wrap64 (x2_5 + 1)) l0 l1) else (some false))) else none) else none) else (some true)
def laws_eqRowS.f (k : Nat) (l0 : List S73) (l1 : List S73) : Option (Bool) := if (l0.length : Int) = (l1.length : Int) then (laws_eqRowS.l0 k 0 l0 l1) else (some false)
set_option maxHeartbeats 4000000 in
set_option maxRecDepth 100000 in
theorem laws_eqRowS.ok (k : Nat) (l0 : List S73) (Al0 : Option Addr) (cl0 : Nat) (l1 : List S73) (Al1 : Option Addr) (cl1 : Nat) (r0 : Bool) (H : laws_eqRowS.f k l0 l1 = some r0) : Fn Try.prog 16 [.slice Al0 l0.length cl0, .slice Al1 l1.length cl1] [] [.sl 0 k73 Al0 cl0 l0 0 false, .sl 0 k73 Al1 cl1 l1 0 false] (fun v bx en => v = .bool r0 ∧ bx = [] ∧ en = []) := by
 refine fn_ 27 Try.func16 rfl rfl rfl (fun base T w0 => ?_)
 rw [laws_eqRowS.f] at H
 refine gs (rg (sv (EV.as rfl) rfl (re (gs (gs (rg (sv (EV.mv rfl) rfl (sv (EV.ln rfl) rfl (sv (EV.mv rfl) rfl (sv (EV.ln rfl) rfl (sv (EV.neq rfl rfl) rfl (re ?_))))))))))))
 revert H; refine ifsI ?_ ?_ <;> intro c1 H
 ·
  refine gf rfl (nF c1) (gk (gs (gs (rg (sv (EV.as rfl) rfl (re (pr [0, 1, 5] [] [0, 1] rfl rfl rfl rfl (gb ?_))))))))
  refine lo (fun kk S => ∃ (x2_5 : Int), laws_eqRowS.l0 kk x2_5 l0 l1 = some r0 ∧ S = ⟨[(0, .slice Al0 l0.length cl0), (1, .slice Al1 l1.length cl1), (5, .int .i64 x2_5)], [], [.sl 0 k73 Al0 cl0 l0 0 false, .sl 0 k73 Al1 cl1 l1 0 false]⟩) (fun S hS => ?_) (fun n0 ih0 S hS => ?_) ⟨0, H, rfl⟩ (fun h => wk [0, 1, 5] [] [⟨0, 0, 0, false⟩, ⟨1, 0, 0, false⟩] h)
  · clear H; obtain ⟨_, H, _⟩ := hS; rw [laws_eqRowS.l0] at H; cases H
  clear H
  obtain ⟨x2_5, H, rfl⟩ := hS
  rw [laws_eqRowS.l0] at H
  refine gs (gs (rg (sv (EV.mv rfl) rfl (sv (EV.mv rfl) rfl (sv (EV.ln rfl) rfl (sv (EV.lss rfl rfl) rfl (re ?_)))))))
  revert H; refine ifsI ?_ ?_ <;> intro c2 H
  ·
   refine gt rfl (dT c2) (gk (gs (gb (gs ?_))))
   revert H; refine ggI ?_; intro g3 H
   revert H; refine ggI ?_; intro g4 H
   refine dr [] [0, 1] [] 10 rfl rfl rfl rfl (xv 0 [] [0, 1] rfl (EV.mv rfl) rfl rfl rfl rfl (xv 1 [] [0, 1] rfl (EV.mv rfl) rfl rfl rfl rfl (xv 2 [] [0, 1] rfl (EV.ix 0 rfl rfl rfl g3 c2 rfl) rfl rfl rfl rfl (xv 3 [] [0, 1] rfl (EV.le (v := .agg #[.int .i64 ((rd_T73 l0 x2_5).f0), .int .i64 ((rd_T73 l0 x2_5).f1), .int .i64 ((rd_T73 l0 x2_5).f2)]) x2_5 0 (some 3) 0 z73 rfl rfl rfl g3 c2 rfl rfl rfl) rfl rfl rfl rfl (xv 4 [] [0, 1] rfl (EV.mv rfl) rfl rfl rfl rfl (xv 5 [] [0, 1] rfl (EV.mv rfl) rfl rfl rfl rfl (xv 6 [] [0, 1] rfl (EV.ix 1 rfl rfl rfl g3 g4 rfl) rfl rfl rfl rfl (xv 7 [] [0, 1] rfl (EV.le (v := .agg #[.int .i64 ((rd_T73 l1 x2_5).f0), .int .i64 ((rd_T73 l1 x2_5).f1), .int .i64 ((rd_T73 l1 x2_5).f2)]) x2_5 0 (some 3) 1 z73 rfl rfl rfl g3 g4 rfl rfl rfl) rfl rfl rfl rfl (one1 8 rfl rfl ?_)))))))))
   revert H; refine bdI ?_; rintro t5 A5 H
   refine op_call (laws_eqRow.ok ((rd_T73 l0 x2_5).f0) ((rd_T73 l0 x2_5).f1) ((rd_T73 l0 x2_5).f2) ((rd_T73 l1 x2_5).f0) ((rd_T73 l1 x2_5).f1) ((rd_T73 l1 x2_5).f2) _ A5) [] 1 rfl rfl rfl rfl rfl ?_
   rintro _ _ _ ⟨rfl, rfl, rfl⟩
   refine xs [] [0, 1] rfl rfl rfl (xv 9 [] [0, 1] rfl (EV.nt rfl) rfl rfl rfl rfl (xd (pr [0, 1, 5, 26] [] [0, 1] rfl rfl rfl rfl ?_)))
   revert H; refine ifsI ?_ ?_ <;> intro c6 H
   ·
    subst c6
    exact gf rfl rfl (gk (ge (rg (sv (EV.mv rfl) rfl (sv (EV.add rfl rfl) rfl (sv (EV.as rfl) rfl (re (wk [0, 1, 5] [] [⟨0, 0, 0, false⟩, ⟨1, 0, 0, false⟩] (ih0 _ (by omega) _ ⟨wrap64 (x2_5 + 1), H, rfl⟩)))))))))
   ·
    obtain rfl := bF c6
    refine gt rfl rfl (gs (rg (sv (EV.as rfl) rfl (re ?_))))
    cases H
    exact rt Try.func16 rfl (.tmp rfl .nil) rfl [] [] rfl rfl rfl rfl rfl ⟨rfl, rfl, rfl⟩
  ·
   refine gf rfl (dF c2) (gx rfl (gs (rg (sv (EV.as rfl) rfl (re (pr [4] [] [] rfl rfl rfl rfl ?_))))))
   cases H
   exact rt Try.func16 rfl (.tmp rfl .nil) rfl [] [] rfl rfl rfl rfl rfl ⟨rfl, rfl, rfl⟩
 ·
  refine gt rfl (nT c1) (gs (rg (sv (EV.as rfl) rfl (re (pr [4] [] [] rfl rfl rfl rfl ?_)))))
  cases H
  exact rt Try.func16 rfl (.tmp rfl .nil) rfl [] [] rfl rfl rfl rfl rfl ⟨rfl, rfl, rfl⟩
end Go.Proofs.Ytoncjohnkiilcaa.K
namespace Go.Proofs.Ytoncjohnkiilcaa.K
open Go Go.RowKit
set_option linter.unusedVariables false
set_option linter.unusedSimpArgs false
def laws_markRowS.l0 : Nat → (List S73) → Int → Int → Option (Int × (List S73))
 | 0, _, _, _ => none
 | k + 1, x2_ml0, x2_1, x2_5 => if x2_5 < (x2_ml0.length : Int) then (if 0 ≤ x2_5 then ((some (x2_ml0.set x2_5.toNat (⟨x2_1, (rd_T73 x2_ml0 x2_5).f1, (rd_T73 x2_ml0 x2_5).f2⟩ : S73))).bind fun s3 => (if x2_5 < (s3.length : Int) then ((some (s3.set x2_5.toNat (⟨(rd_T73 s3 x2_5).f0, wrap64 (x2_1 + 1), (rd_T73 s3 x2_5).f2⟩ : S73))).bind fun s5 => (if x2_5 < (s5.length : Int) then ((some (s5.set x2_5.toNat (⟨(rd_T73 s5 x2_5).f0, (rd_T73 s5 x2_5).f1, wrap64 ((wrap64 (x2_1 + 1)) + 1)⟩ : S73))).bind fun s7 => (laws_markRowS.l0 k s7 (wrap64 ((wrap64 ((wrap64 (x2_1 + 1)) + 1)) + 1)) (wrap64 (x2_5 + 1)))) else none)) else none)) else none) else (some (x2_1, x2_ml0))
def laws_markRowS.f (k : Nat) (l0 : List S73) (a1 : Int) : Option (Int × (List S73)) := laws_markRowS.l0 k l0 a1 0
set_option maxHeartbeats 4000000 in
set_option maxRecDepth 100000 in
theorem laws_markRowS.ok (k : Nat) (l0 : List S73) (Al0 : Option Addr) (cl0 : Nat) (a1 : Int) (r0 : Int) (r1 : List S73) (H : laws_markRowS.f k l0 a1 = some (r0, r1)) : Fn Try.prog 17 [.slice Al0 l0.length cl0, .int .i64 a1] [] [.sl 1 k73 Al0 cl0 l0 1 false] (fun v bx en => v = .int .i64 r0 ∧ bx = [] ∧ en = [.sl 1 k73 Al0 cl0 r1 1 false] ∧ r1.length = l0.length) := by
 refine fn_ 34 Try.func17 rfl rfl rfl (fun base T w0 => ?_)
 rw [laws_markRowS.f] at H
 refine gs (rg (sv (EV.as rfl) rfl (re (gs (gs (rg (sv (EV.as rfl) rfl (re (gb ?_)))))))))
 refine lo (fun kk S => ∃ (x2_ml0 : List S73) (x2_1 : Int) (x2_5 : Int), laws_markRowS.l0 kk x2_ml0 x2_1 x2_5 = some (r0, r1) ∧ x2_ml0.length = l0.length ∧ S = ⟨[(0, .slice Al0 x2_ml0.length cl0), (1, .int .i64 x2_1), (5, .int .i64 x2_5)], [], [.sl 1 k73 Al0 cl0 x2_ml0 1 false]⟩) (fun S hS => ?_) (fun n0 ih0 S hS => ?_) ⟨l0, a1, 0, H, (by first | rfl | assumption | omega | (simp only [List.length_set]; first | done | assumption | omega)), rfl⟩ (fun h => wk [0, 1, 5] [] [⟨0, 1, 1, false⟩] h)
 · clear H; obtain ⟨_, _, _, H, _⟩ := hS; rw [laws_markRowS.l0] at H; cases H
 clear H
 obtain ⟨x2_ml0, x2_1, x2_5, H, ex2_ml0, rfl⟩ := hS
 rw [laws_markRowS.l0] at H
 refine gs (gs (rg (sv (EV.mv rfl) rfl (sv (EV.mv rfl) rfl (sv (EV.ln rfl) rfl (sv (EV.lss rfl rfl) rfl (re ?_)))))))
 revert H; refine ifsI ?_ ?_ <;> intro c1 H
 ·
  refine gt rfl (dT c1) (gk (gs (gb (gs (rg (sv (EV.mv rfl) rfl (sv (EV.mv rfl) rfl (sv (EV.mv rfl) rfl ?_))))))))
  revert H; refine ggI ?_; intro g2 H
  refine sv (EV.ix 0 rfl rfl rfl g2 c1 rfl) rfl (sv (EV.fa 0 rfl) rfl ?_)
  revert H; refine bdI ?_; intro s3 A3 H; have q3 := stl (Option.some.inj A3)
  refine so rfl (op_stg x2_5 0 0 z73 (⟨x2_1, (rd_T73 x2_ml0 x2_5).f1, (rd_T73 x2_ml0 x2_5).f2⟩ : S73) (Option.some.inj A3) rfl rfl rfl rfl g2 c1 rfl rfl rfl rfl dq rfl (rlT 0 (v' := .slice Al0 s3.length cl0) rfl (slq _ _ q3) (rlT 7 (v' := .slice Al0 s3.length cl0) rfl (slq _ _ q3) (rlT 12 (v' := .slice Al0 s3.length cl0) rfl (slq _ _ q3) (nmE (en := [.sl 1 k73 Al0 cl0 s3 1 true]) (by kernel_rfl) (re (pr [0, 1, 5] [] [0] rfl rfl rfl rfl (gs (rg (sv (EV.mv rfl) rfl (sv (EV.add rfl rfl) rfl (sv (EV.as rfl) rfl (re (gs (rg (sv (EV.mv rfl) rfl (sv (EV.mv rfl) rfl (sv (EV.mv rfl) rfl ?_))))))))))))))))))
  revert H; refine ggI ?_; intro g4 H
  refine sv (EV.ix 0 rfl rfl rfl g2 g4 rfl) rfl (sv (EV.fa 1 rfl) rfl ?_)
  revert H; refine bdI ?_; intro s5 A5 H; have q5 := stl (Option.some.inj A5)
  refine so rfl (op_stg x2_5 1 0 z73 (⟨(rd_T73 s3 x2_5).f0, wrap64 (x2_1 + 1), (rd_T73 s3 x2_5).f2⟩ : S73) (Option.some.inj A5) rfl rfl rfl rfl g2 g4 rfl rfl rfl rfl dq rfl (rlT 0 (v' := .slice Al0 s5.length cl0) rfl (slq _ _ q5) (rlT 19 (v' := .slice Al0 s5.length cl0) rfl (slq _ _ q5) (nmE (en := [.sl 1 k73 Al0 cl0 s5 1 true]) (by kernel_rfl) (re (gs (rg (sv (EV.mv rfl) rfl (sv (EV.add rfl rfl) rfl (sv (EV.as rfl) rfl (re (pr [0, 1, 5] [] [0] rfl rfl rfl rfl (gs (rg (sv (EV.mv rfl) rfl (sv (EV.mv rfl) rfl (sv (EV.mv rfl) rfl ?_)))))))))))))))))
  revert H; refine ggI ?_; intro g6 H
  refine sv (EV.ix 0 rfl rfl rfl g2 g6 rfl) rfl (sv (EV.fa 2 rfl) rfl ?_)
  revert H; refine bdI ?_; intro s7 A7 H; have q7 := stl (Option.some.inj A7)
  exact so rfl (op_stg x2_5 2 0 z73 (⟨(rd_T73 s5 x2_5).f0, (rd_T73 s5 x2_5).f1, wrap64 ((wrap64 (x2_1 + 1)) + 1)⟩ : S73) (Option.some.inj A7) rfl rfl rfl rfl g2 g6 rfl rfl rfl rfl dq rfl (rlT 0 (v' := .slice Al0 s7.length cl0) rfl (slq _ _ q7) (rlT 26 (v' := .slice Al0 s7.length cl0) rfl (slq _ _ q7) (nmE (en := [.sl 1 k73 Al0 cl0 s7 1 true]) (by kernel_rfl) (re (rg (sv (EV.mv rfl) rfl (sv (EV.add rfl rfl) rfl (sv (EV.as rfl) rfl (re (ge (rg (sv (EV.mv rfl) rfl (sv (EV.add rfl rfl) rfl (sv (EV.as rfl) rfl (re (pr [0, 1, 5] [] [0] rfl rfl rfl rfl (wk [0, 1, 5] [] [⟨0, 1, 1, false⟩] (ih0 _ (by omega) _ ⟨s7, wrap64 ((wrap64 ((wrap64 (x2_1 + 1)) + 1)) + 1), wrap64 (x2_5 + 1), H, (by first | rfl | assumption | omega | (simp only [List.length_set]; first | done | assumption | omega)), rfl⟩)))))))))))))))))))
 ·
  refine gf rfl (dF c1) (gx rfl (gs (rg (sv (EV.mv rfl) rfl (sv (EV.as rfl) rfl (re (pr [4] [] [0] rfl rfl rfl rfl ?_)))))))
  cases H
  exact rt Try.func17 rfl (.tmp rfl .nil) rfl [] [⟨0, 1, 1, false⟩] rfl rfl rfl rfl rfl ⟨rfl, rfl, rfl, by first | rfl | assumption | omega | (simp only [List.length_set]; first | done | assumption | omega)⟩
end Go.Proofs.Ytoncjohnkiilcaa.K
namespace Go.Proofs.Ytoncjohnkiilcaa.K
open Go Go.RowKit
set_option linter.unusedVariables false
set_option linter.unusedSimpArgs false
def laws_markIntS.l0 : Nat → (List Int) → Int → Int → Option (Int × (List Int))
 | 0, _, _, _ => none
 | k + 1, x2_ml0, x2_1, x2_5 => if x2_5 < (x2_ml0.length : Int) then (if 0 ≤ x2_5 then (laws_markIntS.l0 k (x2_ml0.set x2_5.toNat x2_1) (wrap64 (x2_1 + 1)) (wrap64 (x2_5 + 1))) else none) else (some (x2_1, x2_ml0))
def laws_markIntS.f (k : Nat) (l0 : List Int) (a1 : Int) : Option (Int × (List Int)) := laws_markIntS.l0 k l0 a1 0
set_option maxHeartbeats 4000000 in
set_option maxRecDepth 100000 in
theorem laws_markIntS.ok (k : Nat) (l0 : List Int) (Al0 : Option Addr) (cl0 : Nat) (a1 : Int) (r0 : Int) (r1 : List Int) (H : laws_markIntS.f k l0 a1 = some (r0, r1)) : Fn Try.prog 18 [.slice Al0 l0.length cl0, .int .i64 a1] [] [.sl 1 (.int .i64) Al0 cl0 l0 1 false] (fun v bx en => v = .int .i64 r0 ∧ bx = [] ∧ en = [.sl 1 (.int .i64) Al0 cl0 r1 1 false] ∧ r1.length = l0.length) := by
 refine fn_ 19 Try.func18 rfl rfl rfl (fun base T w0 => ?_)
 rw [laws_markIntS.f] at H
 refine gs (rg (sv (EV.as rfl) rfl (re (gs (gs (rg (sv (EV.as rfl) rfl (re (gb ?_)))))))))
 refine lo (fun kk S => ∃ (x2_ml0 : List Int) (x2_1 : Int) (x2_5 : Int), laws_markIntS.l0 kk x2_ml0 x2_1 x2_5 = some (r0, r1) ∧ x2_ml0.length = l0.length ∧ S = ⟨[(0, .slice Al0 x2_ml0.length cl0), (1, .int .i64 x2_1), (5, .int .i64 x2_5)], [], [.sl 1 (.int .i64) Al0 cl0 x2_ml0 1 false]⟩) (fun S hS => ?_) (fun n0 ih0 S hS => ?_) ⟨l0, a1, 0, H, (by first | rfl | assumption | omega | (simp only [List.length_set]; first | done | assumption | omega)), rfl⟩ (fun h => wk [0, 1, 5] [] [⟨0, 1, 1, false⟩] h)
 · clear H; obtain ⟨_, _, _, H, _⟩ := hS; rw [laws_markIntS.l0] at H; cases H
 clear H
 obtain ⟨x2_ml0, x2_1, x2_5, H, ex2_ml0, rfl⟩ := hS
 rw [laws_markIntS.l0] at H
 refine gs (gs (rg (sv (EV.mv rfl) rfl (sv (EV.mv rfl) rfl (sv (EV.ln rfl) rfl (sv (EV.lss rfl rfl) rfl (re ?_)))))))
 revert H; refine ifsI ?_ ?_ <;> intro c1 H
 ·
  refine gt rfl (dT c1) (gk (gs (gb (gs (rg (sv (EV.mv rfl) rfl (sv (EV.mv rfl) rfl (sv (EV.mv rfl) rfl ?_))))))))
  revert H; refine ggI ?_; intro g2 H
  exact sv (EV.ix 0 rfl rfl rfl g2 c1 rfl) rfl (so rfl (op_stf x2_5 0 0 0 x2_1 rfl rfl rfl rfl g2 c1 rfl rfl rfl rfl dq rfl (rlT 0 (v' := .slice Al0 (x2_ml0.set x2_5.toNat x2_1).length cl0) rfl (sle _ _ _ _ _) (rlT 7 (v' := .slice Al0 (x2_ml0.set x2_5.toNat x2_1).length cl0) rfl (sle _ _ _ _ _) (rlT 12 (v' := .slice Al0 (x2_ml0.set x2_5.toNat x2_1).length cl0) rfl (sle _ _ _ _ _) (nmE (en := [.sl 1 (.int .i64) Al0 cl0 (x2_ml0.set x2_5.toNat x2_1) 1 true]) (by kernel_rfl) (re (pr [0, 1, 5] [] [0] rfl rfl rfl rfl (rg (sv (EV.mv rfl) rfl (sv (EV.add rfl rfl) rfl (sv (EV.as rfl) rfl (re (ge (rg (sv (EV.mv rfl) rfl (sv (EV.add rfl rfl) rfl (sv (EV.as rfl) rfl (re (wk [0, 1, 5] [] [⟨0, 1, 1, false⟩] (ih0 _ (by omega) _ ⟨x2_ml0.set x2_5.toNat x2_1, wrap64 (x2_1 + 1), wrap64 (x2_5 + 1), H, (by first | rfl | assumption | omega | (simp only [List.length_set]; first | done | assumption | omega)), rfl⟩)))))))))))))))))))))
 ·
  refine gf rfl (dF c1) (gx rfl (gs (rg (sv (EV.mv rfl) rfl (sv (EV.as rfl) rfl (re (pr [4] [] [0] rfl rfl rfl rfl ?_)))))))
  cases H
  exact rt Try.func18 rfl (.tmp rfl .nil) rfl [] [⟨0, 1, 1, false⟩] rfl rfl rfl rfl rfl ⟨rfl, rfl, rfl, by first | rfl | assumption | omega | (simp only [List.length_set]; first | done | assumption | omega)⟩
end Go.Proofs.Ytoncjohnkiilcaa.K
namespace Go.Proofs.Ytoncjohnkiilcaa.K
open Go Go.RowKit
set_option linter.unusedVariables false
set_option linter.unusedSimpArgs false
def laws_heldIntS.l0 : Nat → Int → Int → (List Int) → Option (Int)
 | 0, _, _, _ => none
 | k + 1, x2_1, x2_5, l0 => if x2_5 < (l0.length : Int) then (if 0 ≤ x2_5 then (if (rdOf 0 l0 x2_5) = x2_1 then (laws_heldIntS.l0 k (wrap64 (x2_1 + 1)) (wrap64 (x2_5 + 1)) l0) else (some (-1))) else none) else (some x2_1)
def laws_heldIntS.f (k : Nat) (l0 : List Int) (a1 : Int) : Option (Int) := laws_heldIntS.l0 k a1 0 l0
set_option maxHeartbeats 4000000 in
set_option maxRecDepth 100000 in
theorem laws_heldIntS.ok (k : Nat) (l0 : List Int) (Al0 : Option Addr) (cl0 : Nat) (a1 : Int) (r0 : Int) (H : laws_heldIntS.f k l0 a1 = some r0) : Fn Try.prog 19 [.slice Al0 l0.length cl0, .int .i64 a1] [] [.sl 0 (.int .i64) Al0 cl0 l0 0 false] (fun v bx en => v = .int .i64 r0 ∧ bx = [] ∧ en = []) := by
 refine fn_ 21 Try.func19 rfl rfl rfl (fun base T w0 => ?_)
 rw [laws_heldIntS.f] at H
 refine gs (rg (sv (EV.as rfl) rfl (re (gs (gs (rg (sv (EV.as rfl) rfl (re (gb ?_)))))))))
 refine lo (fun kk S => ∃ (x2_1 : Int) (x2_5 : Int), laws_heldIntS.l0 kk x2_1 x2_5 l0 = some r0 ∧ S = ⟨[(0, .slice Al0 l0.length cl0), (1, .int .i64 x2_1), (5, .int .i64 x2_5)], [], [.sl 0 (.int .i64) Al0 cl0 l0 0 false]⟩) (fun S hS => ?_) (fun n0 ih0 S hS => ?_) ⟨a1, 0, H, rfl⟩ (fun h => wk [0, 1, 5] [] [⟨0, 0, 0, false⟩] h)
 · clear H; obtain ⟨_, _, H, _⟩ := hS; rw [laws_heldIntS.l0] at H; cases H
 clear H
 obtain ⟨x2_1, x2_5, H, rfl⟩ := hS
 rw [laws_heldIntS.l0] at H
 refine gs (gs (rg (sv (EV.mv rfl) rfl (sv (EV.mv rfl) rfl (sv (EV.ln rfl) rfl (sv (EV.lss rfl rfl) rfl (re ?_)))))))
 revert H; refine ifsI ?_ ?_ <;> intro c1 H
 ·
  refine gt rfl (dT c1) (gk (gs (gb (gs (gs (rg (sv (EV.mv rfl) rfl (sv (EV.mv rfl) rfl ?_))))))))
  revert H; refine ggI ?_; intro g2 H
  refine sv (EV.ix 0 rfl rfl rfl g2 c1 rfl) rfl (sv (EV.le (v := .int .i64 (rdOf 0 l0 x2_5)) x2_5 0 none 0 0 rfl rfl rfl g2 c1 rfl rfl rfl) rfl (sv (EV.mv rfl) rfl (sv (EV.neq rfl rfl) rfl (re (pr [0, 1, 5, 17] [] [0] rfl rfl rfl rfl ?_)))))
  revert H; refine ifsI ?_ ?_ <;> intro c3 H
  ·
   exact gf rfl (nF c3) (gk (rg (sv (EV.mv rfl) rfl (sv (EV.add rfl rfl) rfl (sv (EV.as rfl) rfl (re (ge (rg (sv (EV.mv rfl) rfl (sv (EV.add rfl rfl) rfl (sv (EV.as rfl) rfl (re (wk [0, 1, 5] [] [⟨0, 0, 0, false⟩] (ih0 _ (by omega) _ ⟨wrap64 (x2_1 + 1), wrap64 (x2_5 + 1), H, rfl⟩))))))))))))))
  ·
   refine gt rfl (nT c3) (gs (rg (sv (EV.as rfl) rfl (re ?_))))
   cases H
   exact rt Try.func19 rfl (.tmp rfl .nil) rfl [] [] rfl rfl rfl rfl rfl ⟨rfl, rfl, rfl⟩
 ·
  refine gf rfl (dF c1) (gx rfl (gs (rg (sv (EV.mv rfl) rfl (sv (EV.as rfl) rfl (re (pr [4] [] [] rfl rfl rfl rfl ?_)))))))
  cases H
  exact rt Try.func19 rfl (.tmp rfl .nil) rfl [] [] rfl rfl rfl rfl rfl ⟨rfl, rfl, rfl⟩
end Go.Proofs.Ytoncjohnkiilcaa.K
namespace Go.Proofs.Ytoncjohnkiilcaa.K
open Go Go.RowKit
set_option linter.unusedVariables false
set_option linter.unusedSimpArgs false
def laws_FnExactDistinctKeys.f (k : Nat) (l0 : List S75) : Option (Bool) := (laws_szRowS.f l0 1048576).bind fun t1 => (if t1 < 0 then (some true) else ((laws_toRowS.f k l0).bind fun t3 => ((spec_DistinctKeys.f k t3).bind fun t4 => ((laws_toRowS.f k l0).bind fun t5 => ((impl_DistinctKeys.f k t5).bind fun t6 => ((laws_eqIntS.f k t6 t4).bind fun t7 => (if t7 = true then ((laws_toRowS.f k l0).bind fun t9 => ((laws_eqRowS.f k t5 t9).bind fun t10 => (if t10 = true then ((laws_markRowS.f k t5 1).bind fun bt12 => (if bt12.1 < 0 then (some false) else ((laws_eqIntS.f k t6 t4).bind fun t14 => (if t14 = true then ((laws_markIntS.f k t6 1).bind fun bt16 => ((laws_heldIntS.f k bt16.2 1).bind fun t17 => (if t17 < 0 then (some false) else (if t17 = bt16.1 then ((laws_toRowS.f k l0).bind fun t20 => ((impl_DistinctKeys.f k t20).bind fun t21 => ((laws_eqIntS.f k t21 t4).bind fun t22 => (if t22 = true then ((laws_heldIntS.f k bt16.2 1).bind fun t24 => (if t24 < 0 then (some false) else (if t24 = bt16.1 then (some true) else (some false)))) else (some false))))) else (some false))))) else (some false))))) else (some false)))) else (some false))))))))
set_option maxHeartbeats 4000000 in
set_option maxRecDepth 100000 in
theorem laws_FnExactDistinctKeys.ok (k : Nat) (l0 : List S75) (Al0 : Option Addr) (cl0 : Nat) (r0 : Bool) (H : laws_FnExactDistinctKeys.f k l0 = some r0) : Fn Try.prog 3 [.slice Al0 l0.length cl0] [] [.sl 0 k75 Al0 cl0 l0 0 false] (fun v bx en => v = .bool r0 ∧ bx = [] ∧ en = []) := by
 refine fn_ 69 Try.func3 rfl rfl rfl (fun base T w0 => ?_)
 rw [laws_FnExactDistinctKeys.f] at H
 refine gs (rg (sv (EV.as rfl) rfl (re (gs (rg (sv (EV.as rfl) rfl (re (gs (rg (sv (EV.mv rfl) rfl (sv (EV.mv rfl) rfl ?_)))))))))))
 revert H; refine bdI ?_; rintro t1 A1 H
 refine so rfl (op_call (laws_szRowS.ok l0 Al0 cl0 1048576 _ A1) [⟨0, 0, 0, false⟩] 1 rfl rfl rfl rfl rfl ?_)
 rintro _ _ _ ⟨rfl, rfl, rfl⟩
 refine sv (EV.as rfl) rfl (re (gs (gs (rg (sv (EV.mv rfl) rfl (sv (EV.lss rfl rfl) rfl (re (pr [0, 15] [] [0] rfl rfl rfl rfl ?_))))))))
 revert H; refine ifsI ?_ ?_ <;> intro c2 H
 ·
  refine gt rfl (dT c2) (gs (rg (sv (EV.as rfl) rfl (re ?_))))
  cases H
  exact rt Try.func3 rfl (.tmp rfl .nil) rfl [] [] rfl rfl rfl rfl rfl ⟨rfl, rfl, rfl⟩
 ·
  refine gf rfl (dF c2) (gk (gs (rg (sv (EV.mv rfl) rfl ?_))))
  revert H; refine bdI ?_; rintro t3 A3 H
  refine so rfl (op_call (laws_toRowS.ok k l0 Al0 cl0 _ A3) [⟨0, 0, 0, false⟩] 1 rfl rfl rfl rfl rfl ?_)
  rintro _ _ _ ⟨At3, ct3, rfl, rfl, rfl⟩
  revert H; refine bdI ?_; rintro t4 A4 H
  refine so rfl (op_call (spec_DistinctKeys.ok k t3 At3 ct3 _ A4) [⟨1, 0, 0, false⟩] 3 rfl rfl rfl rfl rfl ?_)
  rintro _ _ _ ⟨At4, ct4, rfl, rfl, rfl⟩
  refine sv (EV.as rfl) rfl (re (gs (rg (sv (EV.mv rfl) rfl ?_))))
  revert H; refine bdI ?_; rintro t5 A5 H
  refine so rfl (op_call (laws_toRowS.ok k l0 Al0 cl0 _ A5) [⟨0, 0, 0, false⟩] 5 rfl rfl rfl rfl rfl ?_)
  rintro _ _ _ ⟨At5, ct5, rfl, rfl, rfl⟩
  refine sv (EV.as rfl) rfl (re (pr [0, 4, 5] [] [0, 2, 3] rfl rfl rfl rfl (gs (rg (sv (EV.mv rfl) rfl ?_)))))
  revert H; refine bdI ?_; rintro t6 A6 H
  refine so rfl (op_call (impl_DistinctKeys.ok k t5 At5 ct5 _ A6) [⟨2, 0, 0, false⟩] 7 rfl rfl rfl rfl rfl ?_)
  rintro _ _ _ ⟨At6, ct6, rfl, rfl, rfl⟩
  refine sv (EV.as rfl) rfl (re (gs (gs (rg (sv (EV.mv rfl) rfl (sv (EV.mv rfl) rfl ?_))))))
  revert H; refine bdI ?_; rintro t7 A7 H
  refine so rfl (op_call (laws_eqIntS.ok k t6 At6 ct6 t4 At4 ct4 _ A7) [⟨3, 0, 0, false⟩, ⟨1, 0, 0, false⟩] 9 rfl rfl rfl rfl rfl ?_)
  rintro _ _ _ ⟨rfl, rfl, rfl⟩
  refine sv (EV.nt rfl) rfl (re ?_)
  revert H; refine ifsI ?_ ?_ <;> intro c8 H
  ·
   subst c8
   refine gf rfl rfl (gk (gs (gs (rg (sv (EV.mv rfl) rfl (sv (EV.mv rfl) rfl ?_))))))
   revert H; refine bdI ?_; rintro t9 A9 H
   refine so rfl (op_call (laws_toRowS.ok k l0 Al0 cl0 _ A9) [⟨0, 0, 0, false⟩] 9 rfl rfl rfl rfl rfl ?_)
   rintro _ _ _ ⟨At9, ct9, rfl, rfl, rfl⟩
   revert H; refine bdI ?_; rintro t10 A10 H
   refine so rfl (op_call (laws_eqRowS.ok k t5 At5 ct5 t9 At9 ct9 _ A10) [⟨2, 0, 0, false⟩, ⟨4, 0, 0, false⟩] 11 rfl rfl rfl rfl rfl ?_)
   rintro _ _ _ ⟨rfl, rfl, rfl⟩
   refine sv (EV.nt rfl) rfl (re (pr [0, 4, 5, 6, 31] [] [0, 1, 2, 3] rfl rfl rfl rfl ?_))
   revert H; refine ifsI ?_ ?_ <;> intro c11 H
   ·
    subst c11
    refine gf rfl rfl (gk (gs (rg (sv (EV.as rfl) rfl (re (gs (rg (sv (EV.mv rfl) rfl (sv (EV.mv rfl) rfl ?_)))))))))
    revert H; refine bdI ?_; rintro ⟨t12_0, t12_1⟩ A12 H
    refine so rfl (op_callM (laws_markRowS.ok k t5 At5 ct5 1 _ _ A12) [⟨2, 1, 1, false⟩] [] [] 9 rfl rfl rfl rfl rfl rfl rfl rfl ?_)
    rintro _ _ _ ⟨rfl, rfl, rfl, q12_0⟩
    refine rlT 5 (v' := .slice At5 t12_1.length ct5) rfl (slq _ _ q12_0) (rlT 32 (v' := .slice At5 t12_1.length ct5) rfl (slq _ _ q12_0) (nmE (en := [.sl 0 k75 Al0 cl0 l0 0 false, .sl 2 (.int .i64) At4 ct4 t4 4 true, .sl 2 (.int .i64) At6 ct6 t6 8 true, .sl 1 k73 At5 ct5 t12_1 10 false]) (by kernel_rfl) (sv (EV.as rfl) rfl (re (gs (gs (rg (sv (EV.mv rfl) rfl (sv (EV.lss rfl rfl) rfl (sv (EV.mv rfl) rfl ?_))))))))))
    revert H; refine ifsI ?_ ?_ <;> intro c13 H
    ·
     refine ts 37 rfl (dT c13) (sk rfl (sk rfl (sk rfl (sk rfl (sv (EV.pt rfl rfl rfl) rfl (re (pr [0, 4, 6, 42] [] [0, 1, 2] rfl rfl rfl rfl (gt rfl rfl (gs (rg (sv (EV.as rfl) rfl (re ?_))))))))))))
     cases H
     exact rt Try.func3 rfl (.tmp rfl .nil) rfl [] [] rfl rfl rfl rfl rfl ⟨rfl, rfl, rfl⟩
    ·
     refine ts 37 rfl (dF c13) (sv (EV.mv rfl) rfl (sv (EV.mv rfl) rfl ?_))
     revert H; refine bdI ?_; rintro t14 A14 H
     refine so rfl (op_call (laws_eqIntS.ok k t6 At6 ct6 t4 At4 ct4 _ A14) [⟨2, 0, 0, false⟩, ⟨1, 0, 0, false⟩] 11 rfl rfl rfl rfl rfl ?_)
     rintro _ _ _ ⟨rfl, rfl, rfl⟩
     refine sv (EV.nt rfl) rfl (sv (EV.pf rfl rfl rfl) rfl (re (pr [0, 4, 6, 42] [] [0, 1, 2] rfl rfl rfl rfl ?_)))
     revert H; refine ifsI ?_ ?_ <;> intro c15 H
     ·
      subst c15
      refine gf rfl rfl (gk (gs (rg (sv (EV.as rfl) rfl (re (gs (rg (sv (EV.mv rfl) rfl (sv (EV.mv rfl) rfl ?_)))))))))
      revert H; refine bdI ?_; rintro ⟨t16_0, t16_1⟩ A16 H
      refine so rfl (op_callM (laws_markIntS.ok k t6 At6 ct6 1 _ _ A16) [⟨2, 1, 1, false⟩] [] [] 9 rfl rfl rfl rfl rfl rfl rfl rfl ?_)
      rintro _ _ _ ⟨rfl, rfl, rfl, q16_0⟩
      refine rlT 6 (v' := .slice At6 t16_1.length ct6) rfl (slq _ _ q16_0) (rlT 43 (v' := .slice At6 t16_1.length ct6) rfl (slq _ _ q16_0) (nmE (en := [.sl 0 k75 Al0 cl0 l0 0 false, .sl 2 (.int .i64) At4 ct4 t4 4 true, .sl 1 (.int .i64) At6 ct6 t16_1 10 false]) (by kernel_rfl) (sv (EV.as rfl) rfl (re (gs (rg (sv (EV.as rfl) rfl (re (gs (rg (sv (EV.mv rfl) rfl (sv (EV.mv rfl) rfl ?_))))))))))))
      revert H; refine bdI ?_; rintro t17 A17 H
      refine so rfl (op_call (laws_heldIntS.ok k t16_1 At6 ct6 1 _ A17) [⟨2, 0, 0, false⟩] 11 rfl rfl rfl rfl rfl ?_)
      rintro _ _ _ ⟨rfl, rfl, rfl⟩
      refine sv (EV.as rfl) rfl (re (pr [0, 4, 6, 8, 9] [] [0, 1, 2] rfl rfl rfl rfl (gs (gs (rg (sv (EV.mv rfl) rfl (sv (EV.lss rfl rfl) rfl (re ?_))))))))
      revert H; refine ifsI ?_ ?_ <;> intro c18 H
      ·
       refine gt rfl (dT c18) (gs (rg (sv (EV.as rfl) rfl (re (pr [2] [] [] rfl rfl rfl rfl ?_)))))
       cases H
       exact rt Try.func3 rfl (.tmp rfl .nil) rfl [] [] rfl rfl rfl rfl rfl ⟨rfl, rfl, rfl⟩
      ·
       refine gf rfl (dF c18) (gk (gs (gs (rg (sv (EV.mv rfl) rfl (sv (EV.mv rfl) rfl (sv (EV.neq rfl rfl) rfl (re ?_))))))))
       revert H; refine ifsI ?_ ?_ <;> intro c19 H
       ·
        refine gf rfl (nF c19) (gk (gs (rg (sv (EV.mv rfl) rfl ?_))))
        revert H; refine bdI ?_; rintro t20 A20 H
        refine so rfl (op_call (laws_toRowS.ok k l0 Al0 cl0 _ A20) [⟨0, 0, 0, false⟩] 11 rfl rfl rfl rfl rfl ?_)
        rintro _ _ _ ⟨At20, ct20, rfl, rfl, rfl⟩
        revert H; refine bdI ?_; rintro t21 A21 H
        refine so rfl (op_call (impl_DistinctKeys.ok k t20 At20 ct20 _ A21) [⟨3, 0, 0, false⟩] 13 rfl rfl rfl rfl rfl ?_)
        rintro _ _ _ ⟨At21, ct21, rfl, rfl, rfl⟩
        refine sv (EV.as rfl) rfl (re (pr [4, 6, 8, 10] [] [1, 2, 4] rfl rfl rfl rfl (gs (gs (rg (sv (EV.mv rfl) rfl (sv (EV.mv rfl) rfl ?_)))))))
        revert H; refine bdI ?_; rintro t22 A22 H
        refine so rfl (op_call (laws_eqIntS.ok k t21 At21 ct21 t4 At4 ct4 _ A22) [⟨2, 0, 0, false⟩, ⟨0, 0, 0, false⟩] 15 rfl rfl rfl rfl rfl ?_)
        rintro _ _ _ ⟨rfl, rfl, rfl⟩
        refine sv (EV.nt rfl) rfl (re ?_)
        revert H; refine ifsI ?_ ?_ <;> intro c23 H
        ·
         subst c23
         refine gf rfl rfl (gk (gs (rg (sv (EV.as rfl) rfl (re (pr [6, 8, 9] [] [1] rfl rfl rfl rfl (gs (rg (sv (EV.mv rfl) rfl (sv (EV.mv rfl) rfl ?_))))))))))
         revert H; refine bdI ?_; rintro t24 A24 H
         refine so rfl (op_call (laws_heldIntS.ok k t16_1 At6 ct6 1 _ A24) [⟨0, 0, 0, false⟩] 11 rfl rfl rfl rfl rfl ?_)
         rintro _ _ _ ⟨rfl, rfl, rfl⟩
         refine sv (EV.as rfl) rfl (re (gs (gs (rg (sv (EV.mv rfl) rfl (sv (EV.lss rfl rfl) rfl (re ?_)))))))
         revert H; refine ifsI ?_ ?_ <;> intro c25 H
         ·
          refine gt rfl (dT c25) (gs (rg (sv (EV.as rfl) rfl (re (pr [2] [] [] rfl rfl rfl rfl ?_)))))
          cases H
          exact rt Try.func3 rfl (.tmp rfl .nil) rfl [] [] rfl rfl rfl rfl rfl ⟨rfl, rfl, rfl⟩
         ·
          refine gf rfl (dF c25) (gk (gs (gs (rg (sv (EV.mv rfl) rfl (sv (EV.mv rfl) rfl (sv (EV.neq rfl rfl) rfl (re (pr [68] [] [] rfl rfl rfl rfl ?_)))))))))
          revert H; refine ifsI ?_ ?_ <;> intro c26 H
          ·
           refine gf rfl (nF c26) (gk (gs (rg (sv (EV.as rfl) rfl (re ?_)))))
           cases H
           exact rt Try.func3 rfl (.tmp rfl .nil) rfl [] [] rfl rfl rfl rfl rfl ⟨rfl, rfl, rfl⟩
          ·
           refine gt rfl (nT c26) (gs (rg (sv (EV.as rfl) rfl (re ?_))))
           cases H
           exact rt Try.func3 rfl (.tmp rfl .nil) rfl [] [] rfl rfl rfl rfl rfl ⟨rfl, rfl, rfl⟩
        ·
         obtain rfl := bF c23
         refine gt rfl rfl (gs (rg (sv (EV.as rfl) rfl (re (pr [2] [] [] rfl rfl rfl rfl ?_)))))
         cases H
         exact rt Try.func3 rfl (.tmp rfl .nil) rfl [] [] rfl rfl rfl rfl rfl ⟨rfl, rfl, rfl⟩
       ·
        refine gt rfl (nT c19) (gs (rg (sv (EV.as rfl) rfl (re (pr [2] [] [] rfl rfl rfl rfl ?_)))))
        cases H
        exact rt Try.func3 rfl (.tmp rfl .nil) rfl [] [] rfl rfl rfl rfl rfl ⟨rfl, rfl, rfl⟩
     ·
      obtain rfl := bF c15
      refine gt rfl rfl (gs (rg (sv (EV.as rfl) rfl (re ?_))))
      cases H
      exact rt Try.func3 rfl (.tmp rfl .nil) rfl [] [] rfl rfl rfl rfl rfl ⟨rfl, rfl, rfl⟩
   ·
    obtain rfl := bF c11
    refine gt rfl rfl (gs (rg (sv (EV.as rfl) rfl (re ?_))))
    cases H
    exact rt Try.func3 rfl (.tmp rfl .nil) rfl [] [] rfl rfl rfl rfl rfl ⟨rfl, rfl, rfl⟩
  ·
   obtain rfl := bF c8
   refine gt rfl rfl (gs (rg (sv (EV.as rfl) rfl (re (pr [2] [] [] rfl rfl rfl rfl ?_)))))
   cases H
   exact rt Try.func3 rfl (.tmp rfl .nil) rfl [] [] rfl rfl rfl rfl rfl ⟨rfl, rfl, rfl⟩
end Go.Proofs.Ytoncjohnkiilcaa.K
