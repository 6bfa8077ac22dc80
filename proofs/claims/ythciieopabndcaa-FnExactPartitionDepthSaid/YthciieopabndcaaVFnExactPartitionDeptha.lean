/- Walks: what the functions compute. Printed by gen.py; no condition. -/
import Derived.Test.YthciieopabndcaaProg
import Derived.Test.YthciieopabndcaaSB
namespace Go.Proofs.Ythciieopabndcaa.K
open Go Go.RowKit
set_option linter.unusedVariables false
set_option linter.unusedSimpArgs false
structure S64 where
  f0 : Int
  f1 : Int
  f2 : Int
def z64 : S64 := ⟨0, 0, 0⟩
def k64 : Kd S64 := .iso (fun p => ⟨p.1, p.2.1, p.2.2⟩) (fun x => (x.f0, x.f1, x.f2)) (fun _ => rfl) (.pair (.int .i64) (.pair (.int .i64) (.int .i64)))
def rd_T64 (xs : List S64) (i : Int) : S64 := xs.getD i.toNat z64
structure S33 where
  f0 : Int
  f1 : List S64
  f2 : List S64
  f3 : List Bool
  f4 : Int
def z33 : S33 := ⟨0, [], [], [], 0⟩
def k33 : Kd S33 := .iso (fun p => ⟨p.1, p.2.1, p.2.2.1, p.2.2.2.1, p.2.2.2.2⟩) (fun x => (x.f0, x.f1, x.f2, x.f3, x.f4)) (fun _ => rfl) (.pair (.int .i64) (.pair (.slice k64) (.pair (.slice k64) (.pair (.slice .bool) (.int .i64)))))
def rd_T33 (xs : List S33) (i : Int) : S33 := xs.getD i.toNat z33
structure S62 where
  f0 : Int
  f1 : Int
  f2 : Int
def z62 : S62 := ⟨0, 0, 0⟩
def k62 : Kd S62 := .iso (fun p => ⟨p.1, p.2.1, p.2.2⟩) (fun x => (x.f0, x.f1, x.f2)) (fun _ => rfl) (.pair (.int .i64) (.pair (.int .i64) (.int .i64)))
def rd_T62 (xs : List S62) (i : Int) : S62 := xs.getD i.toNat z62
structure S37 where
  f0 : Int
  f1 : List S62
  f2 : List S62
  f3 : List Bool
  f4 : Int
def z37 : S37 := ⟨0, [], [], [], 0⟩
def k37 : Kd S37 := .iso (fun p => ⟨p.1, p.2.1, p.2.2.1, p.2.2.2.1, p.2.2.2.2⟩) (fun x => (x.f0, x.f1, x.f2, x.f3, x.f4)) (fun _ => rfl) (.pair (.int .i64) (.pair (.slice k62) (.pair (.slice k62) (.pair (.slice .bool) (.int .i64)))))
def rd_T37 (xs : List S37) (i : Int) : S37 := xs.getD i.toNat z37
structure S75 where
  f0 : S62
  f1 : S62
  f2 : Bool
def z75 : S75 := ⟨z62, z62, false⟩
def k75 : Kd S75 := .iso (fun p => ⟨p.1, p.2.1, p.2.2⟩) (fun x => (x.f0, x.f1, x.f2)) (fun _ => rfl) (.pair k62 (.pair k62 .bool))
def rd_T75 (xs : List S75) (i : Int) : S75 := xs.getD i.toNat z75
theorem eqD62 (d : Nat) (w : World) (x0 y0 : Int) (x1 y1 : Int) (x2 y2 : Int) : (Op.equalIn (d + 2) 62 (.agg #[.int .i64 x0, .int .i64 x1, .int .i64 x2]) (.agg #[.int .i64 y0, .int .i64 y1, .int .i64 y2])).run Try.prog w = .ok (x0 == y0 && (x1 == y1 && (x2 == y2))) w := by
  refine eq_of (d := d + 1) Try.underlying62 (by kernel_rfl) ?_
  refine eq_cons (by rfl) (by first | (go_simp; done) | (go_simp; rfl)) (by first | (go_simp; done) | (go_simp; rfl)) (by go_simp) ?_
  refine eq_cons (by rfl) (by first | (go_simp; done) | (go_simp; rfl)) (by first | (go_simp; done) | (go_simp; rfl)) (by go_simp) ?_
  exact eq_last (by rfl) (by first | (go_simp; done) | (go_simp; rfl)) (by first | (go_simp; done) | (go_simp; rfl)) (by go_simp)
theorem eq62 (d : Nat) (w : World) (x0 y0 : Int) (x1 y1 : Int) (x2 y2 : Int) : (Op.equalIn (d + 20) 62 (.agg #[.int .i64 x0, .int .i64 x1, .int .i64 x2]) (.agg #[.int .i64 y0, .int .i64 y1, .int .i64 y2])).run Try.prog w = .ok (x0 == y0 && (x1 == y1 && (x2 == y2))) w := eqD62 (d + 18) w x0 y0 x1 y1 x2 y2
theorem mk24 : ∀ (zz : Value) (e : TypeId) (i : TypeInfo), Try.prog.underlying 24 = some (.slice e) → Try.prog.info? e = some i → i.zero = some zz → ∀ w, Kd.rep k62 1 w zz.cells.toList z62 [] := by
  intro zz e i hu hi hz w
  have h1 : (Try.prog.underlying 24).bind (fun d => match d with | .slice e => (Try.prog.info? e).bind (fun i => i.zero) | _ => none) = some (.agg #[.int .i64 0, .int .i64 0, .int .i64 0]) := by kernel_rfl
  rw [hu] at h1
  simp only [Option.bind_some, hi, hz, Option.some.injEq] at h1
  subst h1
  exact Kd.closed k62 (o := 1) (w := w) (x := z62) (hs := []) (bs := []) 0 false (Nat.le_refl 1) rfl .nil
theorem mk31 : ∀ (zz : Value) (e : TypeId) (i : TypeInfo), Try.prog.underlying 31 = some (.slice e) → Try.prog.info? e = some i → i.zero = some zz → ∀ w, Kd.rep .bool 1 w zz.cells.toList false [] := by
  intro zz e i hu hi hz w
  have h1 : (Try.prog.underlying 31).bind (fun d => match d with | .slice e => (Try.prog.info? e).bind (fun i => i.zero) | _ => none) = some (.bool false) := by kernel_rfl
  rw [hu] at h1
  simp only [Option.bind_some, hi, hz, Option.some.injEq] at h1
  subst h1
  exact Kd.closed .bool (o := 1) (w := w) (x := false) (hs := []) (bs := []) 0 false (Nat.le_refl 1) rfl .nil
end Go.Proofs.Ythciieopabndcaa.K
namespace Go.Proofs.Ythciieopabndcaa.K
open Go Go.RowKit
set_option linter.unusedVariables false
set_option linter.unusedSimpArgs false
def good64 (x : S64) : Prop := ((Lit.int .i64 x.f0).wf = true) ∧ ((Lit.int .i64 x.f1).wf = true) ∧ ((Lit.int .i64 x.f2).wf = true)
theorem open64 : Opens Try.prog 64 k64 good64 := opens_struct Try.underlying64 (by kernel_rfl) (.cons rfl (opens_int Try.underlying3 (by kernel_rfl)) (.cons rfl (opens_int Try.underlying3 (by kernel_rfl)) (.one rfl (opens_int Try.underlying3 (by kernel_rfl))))) (fun _ => rfl) (fun _ h => h)
def good33 (x : S33) : Prop := ((Lit.int .i64 x.f0).wf = true) ∧ ((x.f1.length ≤ maxLen ∧ ∀ y ∈ x.f1, good64 y)) ∧ ((x.f2.length ≤ maxLen ∧ ∀ y ∈ x.f2, good64 y)) ∧ ((x.f3.length ≤ maxLen ∧ ∀ y ∈ x.f3, True)) ∧ ((Lit.int .i64 x.f4).wf = true)
theorem open33 : Opens Try.prog 33 k33 good33 := opens_struct Try.underlying33 (by kernel_rfl) (.cons rfl (opens_int Try.underlying3 (by kernel_rfl)) (.cons rfl (opens_slice Try.underlying22 (by kernel_rfl) (by kernel_rfl) open64) (.cons rfl (opens_slice Try.underlying22 (by kernel_rfl) (by kernel_rfl) open64) (.cons rfl (opens_slice Try.underlying31 (by kernel_rfl) (by kernel_rfl) (opens_bool Try.underlying4 (by kernel_rfl))) (.one rfl (opens_int Try.underlying3 (by kernel_rfl))))))) (fun _ => rfl) (fun _ h => h)
end Go.Proofs.Ythciieopabndcaa.K
namespace Go.Proofs.Ythciieopabndcaa.K
open Go Go.RowKit
set_option linter.unusedVariables false
set_option linter.unusedSimpArgs false
def laws_szRowS.f (l0 : List S64) (a1 : Int) : Option (Int) := if (wrap64 (a1 - (l0.length : Int))) < 0 then (some (-1)) else (some (wrap64 (a1 - (l0.length : Int))))
set_option maxHeartbeats 4000000 in
set_option maxRecDepth 100000 in
theorem laws_szRowS.ok (l0 : List S64) (Al0 : Option Addr) (cl0 : Nat) (a1 : Int) (r0 : Int) (H : laws_szRowS.f l0 a1 = some r0) : Fn Try.prog 15 [.slice Al0 l0.length cl0, .int .i64 a1] [] [.sl 0 k64 Al0 cl0 l0 0 false] (fun v bx en => v = .int .i64 r0 ∧ bx = [] ∧ en = []) := by
 refine fn_ 12 Try.func15 rfl rfl rfl (fun base T w0 => ?_)
 rw [laws_szRowS.f] at H
 refine gs (rg (sv (EV.as rfl) rfl (re (gs (rg (sv (EV.mv rfl) rfl (sv (EV.mv rfl) rfl (sv (EV.ln rfl) rfl (sv (EV.sub rfl rfl) rfl (sv (EV.as rfl) rfl (re (pr [1] [] [] rfl rfl rfl rfl (gs (gs (rg (sv (EV.mv rfl) rfl (sv (EV.lss rfl rfl) rfl (re ?_))))))))))))))))))
 revert H; refine ifsI ?_ ?_ <;> intro c1 H
 ·
  refine gt rfl (dT c1) (gs (rg (sv (EV.as rfl) rfl (re ?_))))
  cases H
  exact rt Try.func15 rfl (.tmp rfl .nil) rfl [] [] rfl rfl rfl rfl rfl ⟨rfl, rfl, rfl⟩
 ·
  refine gf rfl (dF c1) (gk (gs (rg (sv (EV.mv rfl) rfl (sv (EV.as rfl) rfl (re ?_))))))
  cases H
  exact rt Try.func15 rfl (.tmp rfl .nil) rfl [] [] rfl rfl rfl rfl rfl ⟨rfl, rfl, rfl⟩
end Go.Proofs.Ythciieopabndcaa.K
namespace Go.Proofs.Ythciieopabndcaa.K
open Go Go.RowKit
set_option linter.unusedVariables false
set_option linter.unusedSimpArgs false
def laws_szBoolS.f (l0 : List Bool) (a1 : Int) : Option (Int) := if (wrap64 (a1 - (l0.length : Int))) < 0 then (some (-1)) else (some (wrap64 (a1 - (l0.length : Int))))
set_option maxHeartbeats 4000000 in
set_option maxRecDepth 100000 in
theorem laws_szBoolS.ok (l0 : List Bool) (Al0 : Option Addr) (cl0 : Nat) (a1 : Int) (r0 : Int) (H : laws_szBoolS.f l0 a1 = some r0) : Fn Try.prog 57 [.slice Al0 l0.length cl0, .int .i64 a1] [] [.sl 0 .bool Al0 cl0 l0 0 false] (fun v bx en => v = .int .i64 r0 ∧ bx = [] ∧ en = []) := by
 refine fn_ 12 Try.func57 rfl rfl rfl (fun base T w0 => ?_)
 rw [laws_szBoolS.f] at H
 refine gs (rg (sv (EV.as rfl) rfl (re (gs (rg (sv (EV.mv rfl) rfl (sv (EV.mv rfl) rfl (sv (EV.ln rfl) rfl (sv (EV.sub rfl rfl) rfl (sv (EV.as rfl) rfl (re (pr [1] [] [] rfl rfl rfl rfl (gs (gs (rg (sv (EV.mv rfl) rfl (sv (EV.lss rfl rfl) rfl (re ?_))))))))))))))))))
 revert H; refine ifsI ?_ ?_ <;> intro c1 H
 ·
  refine gt rfl (dT c1) (gs (rg (sv (EV.as rfl) rfl (re ?_))))
  cases H
  exact rt Try.func57 rfl (.tmp rfl .nil) rfl [] [] rfl rfl rfl rfl rfl ⟨rfl, rfl, rfl⟩
 ·
  refine gf rfl (dF c1) (gk (gs (rg (sv (EV.mv rfl) rfl (sv (EV.as rfl) rfl (re ?_))))))
  cases H
  exact rt Try.func57 rfl (.tmp rfl .nil) rfl [] [] rfl rfl rfl rfl rfl ⟨rfl, rfl, rfl⟩
end Go.Proofs.Ythciieopabndcaa.K
namespace Go.Proofs.Ythciieopabndcaa.K
open Go Go.RowKit
set_option linter.unusedVariables false
set_option linter.unusedSimpArgs false
def laws_szTask.f (a0_0 : Int) (l0_1 : List S64) (l0_2 : List S64) (l0_3 : List Bool) (a0_4 : Int) (a1 : Int) : Option (Int) := (laws_szRowS.f l0_1 a1).bind fun t1 => (if t1 < 0 then (some (-1)) else ((laws_szRowS.f l0_2 t1).bind fun t3 => (if t3 < 0 then (some (-1)) else ((laws_szBoolS.f l0_3 t3).bind fun t5 => (if t5 < 0 then (some (-1)) else (some t5))))))
set_option maxHeartbeats 4000000 in
set_option maxRecDepth 100000 in
theorem laws_szTask.ok (a0_0 : Int) (l0_1 : List S64) (Al0_1 : Option Addr) (cl0_1 : Nat) (l0_2 : List S64) (Al0_2 : Option Addr) (cl0_2 : Nat) (l0_3 : List Bool) (Al0_3 : Option Addr) (cl0_3 : Nat) (a0_4 : Int) (a1 : Int) (r0 : Int) (H : laws_szTask.f a0_0 l0_1 l0_2 l0_3 a0_4 a1 = some r0) : Fn Try.prog 22 [.agg #[.int .i64 a0_0, .slice Al0_1 l0_1.length cl0_1, .slice Al0_2 l0_2.length cl0_2, .slice Al0_3 l0_3.length cl0_3, .int .i64 a0_4], .int .i64 a1] [] [.sl 0 k64 Al0_1 cl0_1 l0_1 0 false, .sl 0 k64 Al0_2 cl0_2 l0_2 0 false, .sl 0 .bool Al0_3 cl0_3 l0_3 0 false] (fun v bx en => v = .int .i64 r0 ∧ bx = [] ∧ en = []) := by
 refine fn_ 24 Try.func22 rfl rfl rfl (fun base T w0 => ?_)
 rw [laws_szTask.f] at H
 refine gs (rg (so rfl (op_box (cs := [.int .i64 a0_0, .slice Al0_1 l0_1.length cl0_1, .slice Al0_2 l0_2.length cl0_2, .slice Al0_3 l0_3.length cl0_3, .int .i64 a0_4]) rfl rfl rfl fun b2 => (sv (EV.as rfl) rfl (re (gs (rg (sv (EV.fa 1 rfl) rfl (sv (EV.ld 0 none rfl rfl rfl) rfl (sv (EV.mv rfl) rfl ?_))))))))))
 revert H; refine bdI ?_; rintro t1 A1 H
 refine so rfl (op_call (laws_szRowS.ok l0_1 Al0_1 cl0_1 a1 _ A1) [⟨0, 0, 0, false⟩] 1 rfl rfl rfl rfl rfl ?_)
 rintro _ _ _ ⟨rfl, rfl, rfl⟩
 refine sv (EV.as rfl) rfl (re (pr [1, 2] [0] [0, 1, 2] rfl rfl rfl rfl (gs (gs (rg (sv (EV.mv rfl) rfl (sv (EV.lss rfl rfl) rfl (re ?_))))))))
 revert H; refine ifsI ?_ ?_ <;> intro c2 H
 ·
  refine gt rfl (dT c2) (gs (rg (sv (EV.as rfl) rfl (re ?_))))
  cases H
  exact rt Try.func22 rfl (.tmp rfl .nil) rfl [] [] rfl rfl rfl rfl rfl ⟨rfl, rfl, rfl⟩
 ·
  refine gf rfl (dF c2) (gk (gs (rg (sv (EV.fa 2 rfl) rfl (sv (EV.ld 0 none rfl rfl rfl) rfl (sv (EV.mv rfl) rfl ?_))))))
  revert H; refine bdI ?_; rintro t3 A3 H
  refine so rfl (op_call (laws_szRowS.ok l0_2 Al0_2 cl0_2 t1 _ A3) [⟨1, 0, 0, false⟩] 1 rfl rfl rfl rfl rfl ?_)
  rintro _ _ _ ⟨rfl, rfl, rfl⟩
  refine sv (EV.as rfl) rfl (re (pr [1, 2] [0] [0, 1, 2] rfl rfl rfl rfl (gs (gs (rg (sv (EV.mv rfl) rfl (sv (EV.lss rfl rfl) rfl (re ?_))))))))
  revert H; refine ifsI ?_ ?_ <;> intro c4 H
  ·
   refine gt rfl (dT c4) (gs (rg (sv (EV.as rfl) rfl (re ?_))))
   cases H
   exact rt Try.func22 rfl (.tmp rfl .nil) rfl [] [] rfl rfl rfl rfl rfl ⟨rfl, rfl, rfl⟩
  ·
   refine gf rfl (dF c4) (gk (gs (rg (sv (EV.fa 3 rfl) rfl (sv (EV.ld 0 none rfl rfl rfl) rfl (sv (EV.mv rfl) rfl ?_))))))
   revert H; refine bdI ?_; rintro t5 A5 H
   refine so rfl (op_call (laws_szBoolS.ok l0_3 Al0_3 cl0_3 t3 _ A5) [⟨2, 0, 0, false⟩] 1 rfl rfl rfl rfl rfl ?_)
   rintro _ _ _ ⟨rfl, rfl, rfl⟩
   refine sv (EV.as rfl) rfl (re (pr [1] [] [] rfl rfl rfl rfl (gs (gs (rg (sv (EV.mv rfl) rfl (sv (EV.lss rfl rfl) rfl (re ?_))))))))
   revert H; refine ifsI ?_ ?_ <;> intro c6 H
   ·
    refine gt rfl (dT c6) (gs (rg (sv (EV.as rfl) rfl (re ?_))))
    cases H
    exact rt Try.func22 rfl (.tmp rfl .nil) rfl [] [] rfl rfl rfl rfl rfl ⟨rfl, rfl, rfl⟩
   ·
    refine gf rfl (dF c6) (gk (gs (rg (sv (EV.mv rfl) rfl (sv (EV.as rfl) rfl (re ?_))))))
    cases H
    exact rt Try.func22 rfl (.tmp rfl .nil) rfl [] [] rfl rfl rfl rfl rfl ⟨rfl, rfl, rfl⟩
end Go.Proofs.Ythciieopabndcaa.K
namespace Go.Proofs.Ythciieopabndcaa.K
open Go Go.RowKit
set_option linter.unusedVariables false
set_option linter.unusedSimpArgs false
def laws_toRow.f (a0_0 : Int) (a0_1 : Int) (a0_2 : Int) : Option (Int × Int × Int) := some (a0_0, a0_1, a0_2)
set_option maxHeartbeats 4000000 in
set_option maxRecDepth 100000 in
theorem laws_toRow.ok (a0_0 : Int) (a0_1 : Int) (a0_2 : Int) (r0 : Int) (r1 : Int) (r2 : Int) (H : laws_toRow.f a0_0 a0_1 a0_2 = some (r0, r1, r2)) : Fn Try.prog 53 [.agg #[.int .i64 a0_0, .int .i64 a0_1, .int .i64 a0_2]] [] [] (fun v bx en => v = .agg #[.int .i64 r0, .int .i64 r1, .int .i64 r2] ∧ bx = [] ∧ en = []) := by
 refine fn_ 14 Try.func53 rfl rfl rfl (fun base T w0 => ?_)
 rw [laws_toRow.f] at H
 refine gs (rg (so rfl (op_box (cs := [.int .i64 a0_0, .int .i64 a0_1, .int .i64 a0_2]) rfl rfl rfl fun b1 => (so rfl (op_alloc (cs := [.int .i64 0, .int .i64 0, .int .i64 0]) (by kernel_rfl) rfl fun b2 => (re (gs (rg (so rfl (op_alloc (cs := [.int .i64 0, .int .i64 0, .int .i64 0]) (by kernel_rfl) rfl fun b3 => (re (gs (rg (sv (EV.fa 0 rfl) rfl (sv (EV.ld 0 none rfl rfl rfl) rfl (sv (EV.fa 0 rfl) rfl (so rfl (op_st (cs' := [.int .i64 a0_0, .int .i64 0, .int .i64 0]) 2 rfl rfl rfl rfl rfl rfl (re (gs (rg (sv (EV.fa 1 rfl) rfl (sv (EV.ld 0 none rfl rfl rfl) rfl (sv (EV.fa 1 rfl) rfl (so rfl (op_st (cs' := [.int .i64 a0_0, .int .i64 a0_1, .int .i64 0]) 2 rfl rfl rfl rfl rfl rfl (re (pr [1, 2, 3] [0, 1, 2] [] rfl rfl rfl rfl (gs ?_)))))))))))))))))))))))))))))
 refine rg (sv (EV.fa 2 rfl) rfl (sv (EV.ld 0 none rfl rfl rfl) rfl (sv (EV.fa 2 rfl) rfl (so rfl (op_st (cs' := [.int .i64 a0_0, .int .i64 a0_1, .int .i64 a0_2]) 2 rfl rfl rfl rfl rfl rfl (re (gs (rg (sv (EV.ld (v := .agg #[.int .i64 a0_0, .int .i64 a0_1, .int .i64 a0_2]) 2 (some 3) rfl rfl rfl) rfl (so rfl (op_st (cs' := [.int .i64 a0_0, .int .i64 a0_1, .int .i64 a0_2]) 1 rfl rfl rfl rfl rfl rfl (re (pr [2] [1] [] rfl rfl rfl rfl ?_)))))))))))))
 cases H
 exact rt Try.func53 rfl (.cell 0 (some 3) rfl rfl rfl .nil) rfl [] [] rfl rfl rfl rfl rfl ⟨rfl, rfl, rfl⟩
end Go.Proofs.Ythciieopabndcaa.K
namespace Go.Proofs.Ythciieopabndcaa.K
open Go Go.RowKit
set_option linter.unusedVariables false
set_option linter.unusedSimpArgs false
def laws_toRowS.l0 : Nat → (List S62) → Int → (List S64) → Option ((List S62))
 | 0, _, _, _ => none
 | k + 1, x2_3, x2_4, l0 => if x2_4 < (l0.length : Int) then (if 0 ≤ x2_4 then ((laws_toRow.f ((rd_T64 l0 x2_4).f0) ((rd_T64 l0 x2_4).f1) ((rd_T64 l0 x2_4).f2)).bind fun bt6 => (if x2_4 < (x2_3.length : Int) then ((some (x2_3.set x2_4.toNat (⟨bt6.1, bt6.2.1, bt6.2.2⟩ : S62))).bind fun s8 => (laws_toRowS.l0 k s8 (wrap64 (x2_4 + 1)) l0)) else none)) else none) else (some x2_3)
def laws_toRowS.f (k : Nat) (l0 : List S64) : Option ((List S62)) := if 0 ≤ (l0.length : Int) then (if (l0.length : Int).toNat ≤ 5864062014805 then (laws_toRowS.l0 k (List.replicate (l0.length : Int).toNat z62) 0 l0) else none) else none
set_option maxHeartbeats 4000000 in
set_option maxRecDepth 100000 in
theorem laws_toRowS.ok (k : Nat) (l0 : List S64) (Al0 : Option Addr) (cl0 : Nat) (r0 : List S62) (H : laws_toRowS.f k l0 = some r0) : Fn Try.prog 17 [.slice Al0 l0.length cl0] [] [.sl 0 k64 Al0 cl0 l0 0 false] (fun v bx en => ∃ A0 c0, v = .slice A0 r0.length c0 ∧ bx = [] ∧ en = [.sl 2 k62 A0 c0 r0 1 true]) := by
 refine fn_ 23 Try.func17 rfl rfl rfl (fun base T w0 => ?_)
 rw [laws_toRowS.f] at H
 refine gs (rg (sv (EV.as rfl) rfl (re (gs (rg (sv (EV.mv rfl) rfl (sv (EV.ln rfl) rfl ?_)))))))
 revert H; refine ggI ?_; intro g1 H
 revert H; refine ggI ?_; intro g2 H
 refine so rfl (op_mk (s := 3) (by_ := 24) k62 z62 1 rfl rfl g1 (mk1 g2 dq) (mk2 g2 dq) mk24 rfl rfl dq rfl fun A7_3 c7_3 => (sv (EV.as rfl) rfl (re (gs (gs (rg (sv (EV.as rfl) rfl (re (gb ?_)))))))))
 refine lo (fun kk S => ∃ (x2_3 : List S62) (Ax2_3 : Option Addr) (cx2_3 : Nat) (x2_4 : Int), laws_toRowS.l0 kk x2_3 x2_4 l0 = some r0 ∧ S = ⟨[(0, .slice Al0 l0.length cl0), (3, .slice Ax2_3 x2_3.length cx2_3), (4, .int .i64 x2_4)], [], [.sl 2 k62 Ax2_3 cx2_3 x2_3 1 true, .sl 0 k64 Al0 cl0 l0 0 false]⟩) (fun S hS => ?_) (fun n0 ih0 S hS => ?_) ⟨List.replicate (l0.length : Int).toNat z62, A7_3, c7_3, 0, H, rfl⟩ (fun h => wk [0, 3, 4] [] [⟨1, 2, 1, true⟩, ⟨0, 0, 0, false⟩] h)
 · clear H; obtain ⟨_, _, _, _, H, _⟩ := hS; rw [laws_toRowS.l0] at H; cases H
 clear H
 obtain ⟨x2_3, Ax2_3, cx2_3, x2_4, H, rfl⟩ := hS
 rw [laws_toRowS.l0] at H
 refine gs (gs (rg (sv (EV.mv rfl) rfl (sv (EV.mv rfl) rfl (sv (EV.ln rfl) rfl (sv (EV.lss rfl rfl) rfl (re ?_)))))))
 revert H; refine ifsI ?_ ?_ <;> intro c4 H
 ·
  refine gt rfl (dT c4) (gk (gs (gb (rg (sv (EV.mv rfl) rfl (sv (EV.mv rfl) rfl (sv (EV.mv rfl) rfl (sv (EV.mv rfl) rfl ?_))))))))
  revert H; refine ggI ?_; intro g5 H
  refine sv (EV.ix 1 rfl rfl rfl g5 c4 rfl) rfl (sv (EV.le (v := .agg #[.int .i64 ((rd_T64 l0 x2_4).f0), .int .i64 ((rd_T64 l0 x2_4).f1), .int .i64 ((rd_T64 l0 x2_4).f2)]) x2_4 0 (some 3) 1 z64 rfl rfl rfl g5 c4 rfl rfl rfl) rfl ?_)
  revert H; refine bdI ?_; rintro ⟨t6_0, t6_1, t6_2⟩ A6 H
  refine so rfl (op_call (laws_toRow.ok ((rd_T64 l0 x2_4).f0) ((rd_T64 l0 x2_4).f1) ((rd_T64 l0 x2_4).f2) _ _ _ A6) [] 2 rfl rfl rfl rfl rfl ?_)
  rintro _ _ _ ⟨rfl, rfl, rfl⟩
  revert H; refine ggI ?_; intro g7 H
  refine sv (EV.ix 0 rfl rfl rfl g5 g7 rfl) rfl ?_
  revert H; refine bdI ?_; intro s8 A8 H; have q8 := stl (Option.some.inj A8)
  exact so rfl (op_stg x2_4 0 0 z62 (⟨t6_0, t6_1, t6_2⟩ : S62) (Option.some.inj A8) rfl rfl rfl rfl g5 g7 rfl rfl rfl rfl dq rfl (rlT 3 (v' := .slice Ax2_3 s8.length cx2_3) rfl (slq _ _ q8) (rlT 14 (v' := .slice Ax2_3 s8.length cx2_3) rfl (slq _ _ q8) (nmE (en := [.sl 0 k64 Al0 cl0 l0 0 false, .sl 2 k62 Ax2_3 cx2_3 s8 1 true]) (by kernel_rfl) (re (pr [0, 3, 4] [] [0, 1] rfl rfl rfl rfl (ge (rg (sv (EV.mv rfl) rfl (sv (EV.add rfl rfl) rfl (sv (EV.as rfl) rfl (re (wk [0, 3, 4] [] [⟨1, 2, 1, true⟩, ⟨0, 0, 0, false⟩] (ih0 _ (by omega) _ ⟨s8, Ax2_3, cx2_3, wrap64 (x2_4 + 1), H, rfl⟩))))))))))))))
 ·
  refine gf rfl (dF c4) (gx rfl (gs (rg (sv (EV.mv rfl) rfl (sv (EV.as rfl) rfl (re (pr [2] [] [0] rfl rfl rfl rfl ?_)))))))
  cases H
  exact rt Try.func17 rfl (.tmp rfl .nil) rfl [] [⟨0, 2, 1, true⟩] rfl rfl rfl rfl rfl ⟨_, _, rfl, rfl, rfl⟩
end Go.Proofs.Ythciieopabndcaa.K
namespace Go.Proofs.Ythciieopabndcaa.K
open Go Go.RowKit
set_option linter.unusedVariables false
set_option linter.unusedSimpArgs false
def laws_toBoolS.l0 : Nat → (List Bool) → Int → (List Bool) → Option ((List Bool))
 | 0, _, _, _ => none
 | k + 1, x2_3, x2_4, l0 => if x2_4 < (l0.length : Int) then (if 0 ≤ x2_4 then (if x2_4 < (x2_3.length : Int) then (laws_toBoolS.l0 k (x2_3.set x2_4.toNat (rdOf false l0 x2_4)) (wrap64 (x2_4 + 1)) l0) else none) else none) else (some x2_3)
def laws_toBoolS.f (k : Nat) (l0 : List Bool) : Option ((List Bool)) := if 0 ≤ (l0.length : Int) then (if (l0.length : Int).toNat ≤ 140737488355328 then (laws_toBoolS.l0 k (List.replicate (l0.length : Int).toNat false) 0 l0) else none) else none
set_option maxHeartbeats 4000000 in
set_option maxRecDepth 100000 in
theorem laws_toBoolS.ok (k : Nat) (l0 : List Bool) (Al0 : Option Addr) (cl0 : Nat) (r0 : List Bool) (H : laws_toBoolS.f k l0 = some r0) : Fn Try.prog 59 [.slice Al0 l0.length cl0] [] [.sl 0 .bool Al0 cl0 l0 0 false] (fun v bx en => ∃ A0 c0, v = .slice A0 r0.length c0 ∧ bx = [] ∧ en = [.sl 2 .bool A0 c0 r0 1 true]) := by
 refine fn_ 22 Try.func59 rfl rfl rfl (fun base T w0 => ?_)
 rw [laws_toBoolS.f] at H
 refine gs (rg (sv (EV.as rfl) rfl (re (gs (rg (sv (EV.mv rfl) rfl (sv (EV.ln rfl) rfl ?_)))))))
 revert H; refine ggI ?_; intro g1 H
 revert H; refine ggI ?_; intro g2 H
 refine so rfl (op_mk (s := 1) (by_ := 1) .bool false 1 rfl rfl g1 (mk1 g2 dq) (mk2 g2 dq) mk31 rfl rfl dq rfl fun A7_3 c7_3 => (sv (EV.as rfl) rfl (re (gs (gs (rg (sv (EV.as rfl) rfl (re (gb ?_)))))))))
 refine lo (fun kk S => ∃ (x2_3 : List Bool) (Ax2_3 : Option Addr) (cx2_3 : Nat) (x2_4 : Int), laws_toBoolS.l0 kk x2_3 x2_4 l0 = some r0 ∧ S = ⟨[(0, .slice Al0 l0.length cl0), (3, .slice Ax2_3 x2_3.length cx2_3), (4, .int .i64 x2_4)], [], [.sl 2 .bool Ax2_3 cx2_3 x2_3 1 true, .sl 0 .bool Al0 cl0 l0 0 false]⟩) (fun S hS => ?_) (fun n0 ih0 S hS => ?_) ⟨List.replicate (l0.length : Int).toNat false, A7_3, c7_3, 0, H, rfl⟩ (fun h => wk [0, 3, 4] [] [⟨1, 2, 1, true⟩, ⟨0, 0, 0, false⟩] h)
 · clear H; obtain ⟨_, _, _, _, H, _⟩ := hS; rw [laws_toBoolS.l0] at H; cases H
 clear H
 obtain ⟨x2_3, Ax2_3, cx2_3, x2_4, H, rfl⟩ := hS
 rw [laws_toBoolS.l0] at H
 refine gs (gs (rg (sv (EV.mv rfl) rfl (sv (EV.mv rfl) rfl (sv (EV.ln rfl) rfl (sv (EV.lss rfl rfl) rfl (re ?_)))))))
 revert H; refine ifsI ?_ ?_ <;> intro c4 H
 ·
  refine gt rfl (dT c4) (gk (gs (gb (rg (sv (EV.mv rfl) rfl (sv (EV.mv rfl) rfl (sv (EV.mv rfl) rfl (sv (EV.mv rfl) rfl ?_))))))))
  revert H; refine ggI ?_; intro g5 H
  refine sv (EV.ix 1 rfl rfl rfl g5 c4 rfl) rfl (sv (EV.le (v := .bool (rdOf false l0 x2_4)) x2_4 0 none 1 false rfl rfl rfl g5 c4 rfl rfl rfl) rfl ?_)
  revert H; refine ggI ?_; intro g6 H
  exact sv (EV.ix 0 rfl rfl rfl g5 g6 rfl) rfl (so rfl (op_stf x2_4 0 0 false (rdOf false l0 x2_4) rfl rfl rfl rfl g5 g6 rfl rfl rfl rfl dq rfl (rlT 3 (v' := .slice Ax2_3 (x2_3.set x2_4.toNat (rdOf false l0 x2_4)).length cx2_3) rfl (sle _ _ _ _ _) (rlT 14 (v' := .slice Ax2_3 (x2_3.set x2_4.toNat (rdOf false l0 x2_4)).length cx2_3) rfl (sle _ _ _ _ _) (nmE (en := [.sl 0 .bool Al0 cl0 l0 0 false, .sl 2 .bool Ax2_3 cx2_3 (x2_3.set x2_4.toNat (rdOf false l0 x2_4)) 1 true]) (by kernel_rfl) (re (pr [0, 3, 4] [] [0, 1] rfl rfl rfl rfl (ge (rg (sv (EV.mv rfl) rfl (sv (EV.add rfl rfl) rfl (sv (EV.as rfl) rfl (re (wk [0, 3, 4] [] [⟨1, 2, 1, true⟩, ⟨0, 0, 0, false⟩] (ih0 _ (by omega) _ ⟨x2_3.set x2_4.toNat (rdOf false l0 x2_4), Ax2_3, cx2_3, wrap64 (x2_4 + 1), H, rfl⟩)))))))))))))))
 ·
  refine gf rfl (dF c4) (gx rfl (gs (rg (sv (EV.mv rfl) rfl (sv (EV.as rfl) rfl (re (pr [2] [] [0] rfl rfl rfl rfl ?_)))))))
  cases H
  exact rt Try.func59 rfl (.tmp rfl .nil) rfl [] [⟨0, 2, 1, true⟩] rfl rfl rfl rfl rfl ⟨_, _, rfl, rfl, rfl⟩
end Go.Proofs.Ythciieopabndcaa.K
namespace Go.Proofs.Ythciieopabndcaa.K
open Go Go.RowKit
set_option linter.unusedVariables false
set_option linter.unusedSimpArgs false
def laws_toTask.f (k : Nat) (a0_0 : Int) (l0_1 : List S64) (l0_2 : List S64) (l0_3 : List Bool) (a0_4 : Int) : Option (Int × (List S62) × (List S62) × (List Bool) × Int) := (laws_toRowS.f k l0_1).bind fun t1 => ((laws_toRowS.f k l0_2).bind fun t2 => ((laws_toBoolS.f k l0_3).bind fun t3 => (some (a0_0, t1, t2, t3, a0_4))))
set_option maxHeartbeats 4000000 in
set_option maxRecDepth 100000 in
theorem laws_toTask.ok (k : Nat) (a0_0 : Int) (l0_1 : List S64) (Al0_1 : Option Addr) (cl0_1 : Nat) (l0_2 : List S64) (Al0_2 : Option Addr) (cl0_2 : Nat) (l0_3 : List Bool) (Al0_3 : Option Addr) (cl0_3 : Nat) (a0_4 : Int) (r0 : Int) (r1 : List S62) (r2 : List S62) (r3 : List Bool) (r4 : Int) (H : laws_toTask.f k a0_0 l0_1 l0_2 l0_3 a0_4 = some (r0, r1, r2, r3, r4)) : Fn Try.prog 24 [.agg #[.int .i64 a0_0, .slice Al0_1 l0_1.length cl0_1, .slice Al0_2 l0_2.length cl0_2, .slice Al0_3 l0_3.length cl0_3, .int .i64 a0_4]] [] [.sl 0 k64 Al0_1 cl0_1 l0_1 0 false, .sl 0 k64 Al0_2 cl0_2 l0_2 0 false, .sl 0 .bool Al0_3 cl0_3 l0_3 0 false] (fun v bx en => ∃ A1 c1 A2 c2 A3 c3, v = .agg #[.int .i64 r0, .slice A1 r1.length c1, .slice A2 r2.length c2, .slice A3 r3.length c3, .int .i64 r4] ∧ bx = [] ∧ en = [.sl 2 k62 A1 c1 r1 1 true, .sl 2 k62 A2 c2 r2 2 true, .sl 2 .bool A3 c3 r3 3 true]) := by
 refine fn_ 23 Try.func24 rfl rfl rfl (fun base T w0 => ?_)
 rw [laws_toTask.f] at H
 refine gs (rg (so rfl (op_box (cs := [.int .i64 a0_0, .slice Al0_1 l0_1.length cl0_1, .slice Al0_2 l0_2.length cl0_2, .slice Al0_3 l0_3.length cl0_3, .int .i64 a0_4]) rfl rfl rfl fun b1 => (so rfl (op_alloc (cs := [.int .i64 0, .slice none 0 0, .slice none 0 0, .slice none 0 0, .int .i64 0]) (by kernel_rfl) rfl fun b2 => (re (gs (rg (so rfl (op_alloc (cs := [.int .i64 0, .slice none 0 0, .slice none 0 0, .slice none 0 0, .int .i64 0]) (by kernel_rfl) rfl fun b3 => (re (gs (rg (sv (EV.fa 0 rfl) rfl (sv (EV.ld 0 none rfl rfl rfl) rfl (sv (EV.fa 0 rfl) rfl (so rfl (op_st (cs' := [.int .i64 a0_0, .slice none 0 0, .slice none 0 0, .slice none 0 0, .int .i64 0]) 2 rfl rfl rfl rfl rfl rfl (re (gs (rg (sv (EV.fa 1 rfl) rfl (sv (EV.ld 0 none rfl rfl rfl) rfl ?_)))))))))))))))))))))))
 revert H; refine bdI ?_; rintro t1 A1 H
 refine so rfl (op_call (laws_toRowS.ok k l0_1 Al0_1 cl0_1 _ A1) [⟨0, 0, 0, false⟩] 1 rfl rfl rfl rfl rfl ?_)
 rintro _ _ _ ⟨At1, ct1, rfl, rfl, rfl⟩
 refine sv (EV.fa 1 rfl) rfl (so rfl (op_st (cs' := [.int .i64 a0_0, .slice At1 t1.length ct1, .slice none 0 0, .slice none 0 0, .int .i64 0]) 2 rfl rfl rfl rfl rfl rfl (re (pr [1, 2, 3] [0, 1, 2] [0, 1, 2, 3] rfl rfl rfl rfl (gs (rg (sv (EV.fa 2 rfl) rfl (sv (EV.ld 0 none rfl rfl rfl) rfl ?_))))))))
 revert H; refine bdI ?_; rintro t2 A2 H
 refine so rfl (op_call (laws_toRowS.ok k l0_2 Al0_2 cl0_2 _ A2) [⟨1, 0, 0, false⟩] 3 rfl rfl rfl rfl rfl ?_)
 rintro _ _ _ ⟨At2, ct2, rfl, rfl, rfl⟩
 refine sv (EV.fa 2 rfl) rfl (so rfl (op_st (cs' := [.int .i64 a0_0, .slice At1 t1.length ct1, .slice At2 t2.length ct2, .slice none 0 0, .int .i64 0]) 2 rfl rfl rfl rfl rfl rfl (re (gs (rg (sv (EV.fa 3 rfl) rfl (sv (EV.ld 0 none rfl rfl rfl) rfl ?_)))))))
 revert H; refine bdI ?_; rintro t3 A3 H
 refine so rfl (op_call (laws_toBoolS.ok k l0_3 Al0_3 cl0_3 _ A3) [⟨2, 0, 0, false⟩] 5 rfl rfl rfl rfl rfl ?_)
 rintro _ _ _ ⟨At3, ct3, rfl, rfl, rfl⟩
 refine sv (EV.fa 3 rfl) rfl (so rfl (op_st (cs' := [.int .i64 a0_0, .slice At1 t1.length ct1, .slice At2 t2.length ct2, .slice At3 t3.length ct3, .int .i64 0]) 2 rfl rfl rfl rfl rfl rfl (re (pr [1, 2, 3] [0, 1, 2] [0, 1, 2, 3, 4, 5] rfl rfl rfl rfl (gs (rg (sv (EV.fa 4 rfl) rfl (sv (EV.ld 0 none rfl rfl rfl) rfl (sv (EV.fa 4 rfl) rfl (so rfl (op_st (cs' := [.int .i64 a0_0, .slice At1 t1.length ct1, .slice At2 t2.length ct2, .slice At3 t3.length ct3, .int .i64 a0_4]) 2 rfl rfl rfl rfl rfl rfl (re (gs (rg (sv (EV.ld (v := .agg #[.int .i64 a0_0, .slice At1 t1.length ct1, .slice At2 t2.length ct2, .slice At3 t3.length ct3, .int .i64 a0_4]) 2 (some 5) rfl rfl rfl) rfl (so rfl (op_st (cs' := [.int .i64 a0_0, .slice At1 t1.length ct1, .slice At2 t2.length ct2, .slice At3 t3.length ct3, .int .i64 a0_4]) 1 rfl rfl rfl rfl rfl rfl (re (pr [2] [1] [3, 4, 5] rfl rfl rfl rfl ?_)))))))))))))))))))
 cases H
 exact rt Try.func24 rfl (.cell 0 (some 5) rfl rfl rfl .nil) rfl [] [⟨0, 2, 1, true⟩, ⟨1, 2, 2, true⟩, ⟨2, 2, 3, true⟩] rfl rfl rfl rfl rfl ⟨_, _, _, _, _, _, rfl, rfl, rfl⟩
end Go.Proofs.Ythciieopabndcaa.K
namespace Go.Proofs.Ythciieopabndcaa.K
open Go Go.RowKit
set_option linter.unusedVariables false
set_option linter.unusedSimpArgs false
def laws_eqRow.f (a0_0 : Int) (a0_1 : Int) (a0_2 : Int) (a1_0 : Int) (a1_1 : Int) (a1_2 : Int) : Option (Bool) := if a0_0 = a1_0 then (if a0_1 = a1_1 then (if a0_2 = a1_2 then (some true) else (some false)) else (some false)) else (some false)
set_option maxHeartbeats 4000000 in
set_option maxRecDepth 100000 in
theorem laws_eqRow.ok (a0_0 : Int) (a0_1 : Int) (a0_2 : Int) (a1_0 : Int) (a1_1 : Int) (a1_2 : Int) (r0 : Bool) (H : laws_eqRow.f a0_0 a0_1 a0_2 a1_0 a1_1 a1_2 = some r0) : Fn Try.prog 56 [.agg #[.int .i64 a0_0, .int .i64 a0_1, .int .i64 a0_2], .agg #[.int .i64 a1_0, .int .i64 a1_1, .int .i64 a1_2]] [] [] (fun v bx en => v = .bool r0 ∧ bx = [] ∧ en = []) := by
 refine fn_ 20 Try.func56 rfl rfl rfl (fun base T w0 => ?_)
 rw [laws_eqRow.f] at H
 refine gs (rg (so rfl (op_box (cs := [.int .i64 a0_0, .int .i64 a0_1, .int .i64 a0_2]) rfl rfl rfl fun b2 => (so rfl (op_box (cs := [.int .i64 a1_0, .int .i64 a1_1, .int .i64 a1_2]) rfl rfl rfl fun b3 => (sv (EV.as rfl) rfl (re (gs (gs (rg (sv (EV.fa 0 rfl) rfl (sv (EV.ld 0 none rfl rfl rfl) rfl (sv (EV.fa 0 rfl) rfl (sv (EV.ld 1 none rfl rfl rfl) rfl (sv (EV.neq rfl rfl) rfl (re (pr [2, 3, 9] [0, 1] [] rfl rfl rfl rfl ?_)))))))))))))))))
 revert H; refine ifsI ?_ ?_ <;> intro c1 H
 ·
  refine gf rfl (nF c1) (gk (gs (gs (rg (sv (EV.fa 1 rfl) rfl (sv (EV.ld 0 none rfl rfl rfl) rfl (sv (EV.fa 1 rfl) rfl (sv (EV.ld 1 none rfl rfl rfl) rfl (sv (EV.neq rfl rfl) rfl (re ?_))))))))))
  revert H; refine ifsI ?_ ?_ <;> intro c2 H
  ·
   refine gf rfl (nF c2) (gk (gs (gs (rg (sv (EV.fa 2 rfl) rfl (sv (EV.ld 0 none rfl rfl rfl) rfl (sv (EV.fa 2 rfl) rfl (sv (EV.ld 1 none rfl rfl rfl) rfl (sv (EV.neq rfl rfl) rfl (re (pr [19] [] [] rfl rfl rfl rfl ?_)))))))))))
   revert H; refine ifsI ?_ ?_ <;> intro c3 H
   ·
    refine gf rfl (nF c3) (gk (gs (rg (sv (EV.as rfl) rfl (re ?_)))))
    cases H
    exact rt Try.func56 rfl (.tmp rfl .nil) rfl [] [] rfl rfl rfl rfl rfl ⟨rfl, rfl, rfl⟩
   ·
    refine gt rfl (nT c3) (gs (rg (sv (EV.as rfl) rfl (re ?_))))
    cases H
    exact rt Try.func56 rfl (.tmp rfl .nil) rfl [] [] rfl rfl rfl rfl rfl ⟨rfl, rfl, rfl⟩
  ·
   refine gt rfl (nT c2) (gs (rg (sv (EV.as rfl) rfl (re (pr [4] [] [] rfl rfl rfl rfl ?_)))))
   cases H
   exact rt Try.func56 rfl (.tmp rfl .nil) rfl [] [] rfl rfl rfl rfl rfl ⟨rfl, rfl, rfl⟩
 ·
  refine gt rfl (nT c1) (gs (rg (sv (EV.as rfl) rfl (re ?_))))
  cases H
  exact rt Try.func56 rfl (.tmp rfl .nil) rfl [] [] rfl rfl rfl rfl rfl ⟨rfl, rfl, rfl⟩
end Go.Proofs.Ythciieopabndcaa.K
namespace Go.Proofs.Ythciieopabndcaa.K
open Go Go.RowKit
set_option linter.unusedVariables false
set_option linter.unusedSimpArgs false
def laws_eqRowS.l0 : Nat → Int → (List S62) → (List S62) → Option (Bool)
 | 0, _, _, _ => none
 | k + 1, x2_5, l0, l1 => if x2_5 < (l0.length : Int) then (if 0 ≤ x2_5 then (if x2_5 < (l1.length : Int) then ((laws_eqRow.f ((rd_T62 l0 x2_5).f0) ((rd_T62 l0 x2_5).f1) ((rd_T62 l0 x2_5).f2) ((rd_T62 l1 x2_5).f0) ((rd_T62 l1 x2_5).f1) ((rd_T62 l1 x2_5).f2)).bind fun t5 => (if t5 = true then (laws_eqRowS.l0 k (wrap64 (x2_5 + 1)) l0 l1) else (some false))) else none) else none) else (some true)
def laws_eqRowS.f (k : Nat) (l0 : List S62) (l1 : List S62) : Option (Bool) := if (l0.length : Int) = (l1.length : Int) then (laws_eqRowS.l0 k 0 l0 l1) else (some false)
set_option maxHeartbeats 4000000 in
set_option maxRecDepth 100000 in
theorem laws_eqRowS.ok (k : Nat) (l0 : List S62) (Al0 : Option Addr) (cl0 : Nat) (l1 : List S62) (Al1 : Option Addr) (cl1 : Nat) (r0 : Bool) (H : laws_eqRowS.f k l0 l1 = some r0) : Fn Try.prog 19 [.slice Al0 l0.length cl0, .slice Al1 l1.length cl1] [] [.sl 0 k62 Al0 cl0 l0 0 false, .sl 0 k62 Al1 cl1 l1 0 false] (fun v bx en => v = .bool r0 ∧ bx = [] ∧ en = []) := by
 refine fn_ 27 Try.func19 rfl rfl rfl (fun base T w0 => ?_)
 rw [laws_eqRowS.f] at H
 refine gs (rg (sv (EV.as rfl) rfl (re (gs (gs (rg (sv (EV.mv rfl) rfl (sv (EV.ln rfl) rfl (sv (EV.mv rfl) rfl (sv (EV.ln rfl) rfl (sv (EV.neq rfl rfl) rfl (re ?_))))))))))))
 revert H; refine ifsI ?_ ?_ <;> intro c1 H
 ·
  refine gf rfl (nF c1) (gk (gs (gs (rg (sv (EV.as rfl) rfl (re (pr [0, 1, 5] [] [0, 1] rfl rfl rfl rfl (gb ?_))))))))
  refine lo (fun kk S => ∃ (x2_5 : Int), laws_eqRowS.l0 kk x2_5 l0 l1 = some r0 ∧ S = ⟨[(0, .slice Al0 l0.length cl0), (1, .slice Al1 l1.length cl1), (5, .int .i64 x2_5)], [], [.sl 0 k62 Al0 cl0 l0 0 false, .sl 0 k62 Al1 cl1 l1 0 false]⟩) (fun S hS => ?_) (fun n0 ih0 S hS => ?_) ⟨0, H, rfl⟩ (fun h => wk [0, 1, 5] [] [⟨0, 0, 0, false⟩, ⟨1, 0, 0, false⟩] h)
  · clear H; obtain ⟨_, H, _⟩ := hS; rw [laws_eqRowS.l0] at H; cases H
  clear H
  obtain ⟨x2_5, H, rfl⟩ := hS
  rw [laws_eqRowS.l0] at H
  refine gs (gs (rg (sv (EV.mv rfl) rfl (sv (EV.mv rfl) rfl (sv (EV.ln rfl) rfl (sv (EV.lss rfl rfl) rfl (re ?_)))))))
  revert H; refine ifsI ?_ ?_ <;> intro c2 H
  ·
   refine gt rfl (dT c2) (gk (gs (gb (gs ?_))))
   revert H; refine ggI ?_; intro g3 H
   revert H; refine ggI ?_; intro g4 H
   refine dr [] [0, 1] [] 10 rfl rfl rfl rfl (xv 0 [] [0, 1] rfl (EV.mv rfl) rfl rfl rfl rfl (xv 1 [] [0, 1] rfl (EV.mv rfl) rfl rfl rfl rfl (xv 2 [] [0, 1] rfl (EV.ix 0 rfl rfl rfl g3 c2 rfl) rfl rfl rfl rfl (xv 3 [] [0, 1] rfl (EV.le (v := .agg #[.int .i64 ((rd_T62 l0 x2_5).f0), .int .i64 ((rd_T62 l0 x2_5).f1), .int .i64 ((rd_T62 l0 x2_5).f2)]) x2_5 0 (some 3) 0 z62 rfl rfl rfl g3 c2 rfl rfl rfl) rfl rfl rfl rfl (xv 4 [] [0, 1] rfl (EV.mv rfl) rfl rfl rfl rfl (xv 5 [] [0, 1] rfl (EV.mv rfl) rfl rfl rfl rfl (xv 6 [] [0, 1] rfl (EV.ix 1 rfl rfl rfl g3 g4 rfl) rfl rfl rfl rfl (xv 7 [] [0, 1] rfl (EV.le (v := .agg #[.int .i64 ((rd_T62 l1 x2_5).f0), .int .i64 ((rd_T62 l1 x2_5).f1), .int .i64 ((rd_T62 l1 x2_5).f2)]) x2_5 0 (some 3) 1 z62 rfl rfl rfl g3 g4 rfl rfl rfl) rfl rfl rfl rfl (one1 8 rfl rfl ?_)))))))))
   revert H; refine bdI ?_; rintro t5 A5 H
   refine op_call (laws_eqRow.ok ((rd_T62 l0 x2_5).f0) ((rd_T62 l0 x2_5).f1) ((rd_T62 l0 x2_5).f2) ((rd_T62 l1 x2_5).f0) ((rd_T62 l1 x2_5).f1) ((rd_T62 l1 x2_5).f2) _ A5) [] 1 rfl rfl rfl rfl rfl ?_
   rintro _ _ _ ⟨rfl, rfl, rfl⟩
   refine xs [] [0, 1] rfl rfl rfl (xv 9 [] [0, 1] rfl (EV.nt rfl) rfl rfl rfl rfl (xd (pr [0, 1, 5, 26] [] [0, 1] rfl rfl rfl rfl ?_)))
   revert H; refine ifsI ?_ ?_ <;> intro c6 H
   ·
    subst c6
    exact gf rfl rfl (gk (ge (rg (sv (EV.mv rfl) rfl (sv (EV.add rfl rfl) rfl (sv (EV.as rfl) rfl (re (wk [0, 1, 5] [] [⟨0, 0, 0, false⟩, ⟨1, 0, 0, false⟩] (ih0 _ (by omega) _ ⟨wrap64 (x2_5 + 1), H, rfl⟩)))))))))
   ·
    obtain rfl := bF c6
    refine gt rfl rfl (gs (rg (sv (EV.as rfl) rfl (re ?_))))
    cases H
    exact rt Try.func19 rfl (.tmp rfl .nil) rfl [] [] rfl rfl rfl rfl rfl ⟨rfl, rfl, rfl⟩
  ·
   refine gf rfl (dF c2) (gx rfl (gs (rg (sv (EV.as rfl) rfl (re (pr [4] [] [] rfl rfl rfl rfl ?_))))))
   cases H
   exact rt Try.func19 rfl (.tmp rfl .nil) rfl [] [] rfl rfl rfl rfl rfl ⟨rfl, rfl, rfl⟩
 ·
  refine gt rfl (nT c1) (gs (rg (sv (EV.as rfl) rfl (re (pr [4] [] [] rfl rfl rfl rfl ?_)))))
  cases H
  exact rt Try.func19 rfl (.tmp rfl .nil) rfl [] [] rfl rfl rfl rfl rfl ⟨rfl, rfl, rfl⟩
end Go.Proofs.Ythciieopabndcaa.K
namespace Go.Proofs.Ythciieopabndcaa.K
open Go Go.RowKit
set_option linter.unusedVariables false
set_option linter.unusedSimpArgs false
def laws_eqBoolS.l0 : Nat → Int → (List Bool) → (List Bool) → Option (Bool)
 | 0, _, _, _ => none
 | k + 1, x2_5, l0, l1 => if x2_5 < (l0.length : Int) then (if 0 ≤ x2_5 then (if x2_5 < (l1.length : Int) then (if ((rdOf false l0 x2_5) == (rdOf false l1 x2_5)) = true then (laws_eqBoolS.l0 k (wrap64 (x2_5 + 1)) l0 l1) else (some false)) else none) else none) else (some true)
def laws_eqBoolS.f (k : Nat) (l0 : List Bool) (l1 : List Bool) : Option (Bool) := if (l0.length : Int) = (l1.length : Int) then (laws_eqBoolS.l0 k 0 l0 l1) else (some false)
set_option maxHeartbeats 4000000 in
set_option maxRecDepth 100000 in
theorem laws_eqBoolS.ok (k : Nat) (l0 : List Bool) (Al0 : Option Addr) (cl0 : Nat) (l1 : List Bool) (Al1 : Option Addr) (cl1 : Nat) (r0 : Bool) (H : laws_eqBoolS.f k l0 l1 = some r0) : Fn Try.prog 61 [.slice Al0 l0.length cl0, .slice Al1 l1.length cl1] [] [.sl 0 .bool Al0 cl0 l0 0 false, .sl 0 .bool Al1 cl1 l1 0 false] (fun v bx en => v = .bool r0 ∧ bx = [] ∧ en = []) := by
 refine fn_ 26 Try.func61 rfl rfl rfl (fun base T w0 => ?_)
 rw [laws_eqBoolS.f] at H
 refine gs (rg (sv (EV.as rfl) rfl (re (gs (gs (rg (sv (EV.mv rfl) rfl (sv (EV.ln rfl) rfl (sv (EV.mv rfl) rfl (sv (EV.ln rfl) rfl (sv (EV.neq rfl rfl) rfl (re ?_))))))))))))
 revert H; refine ifsI ?_ ?_ <;> intro c1 H
 ·
  refine gf rfl (nF c1) (gk (gs (gs (rg (sv (EV.as rfl) rfl (re (pr [0, 1, 5] [] [0, 1] rfl rfl rfl rfl (gb ?_))))))))
  refine lo (fun kk S => ∃ (x2_5 : Int), laws_eqBoolS.l0 kk x2_5 l0 l1 = some r0 ∧ S = ⟨[(0, .slice Al0 l0.length cl0), (1, .slice Al1 l1.length cl1), (5, .int .i64 x2_5)], [], [.sl 0 .bool Al0 cl0 l0 0 false, .sl 0 .bool Al1 cl1 l1 0 false]⟩) (fun S hS => ?_) (fun n0 ih0 S hS => ?_) ⟨0, H, rfl⟩ (fun h => wk [0, 1, 5] [] [⟨0, 0, 0, false⟩, ⟨1, 0, 0, false⟩] h)
  · clear H; obtain ⟨_, H, _⟩ := hS; rw [laws_eqBoolS.l0] at H; cases H
  clear H
  obtain ⟨x2_5, H, rfl⟩ := hS
  rw [laws_eqBoolS.l0] at H
  refine gs (gs (rg (sv (EV.mv rfl) rfl (sv (EV.mv rfl) rfl (sv (EV.ln rfl) rfl (sv (EV.lss rfl rfl) rfl (re ?_)))))))
  revert H; refine ifsI ?_ ?_ <;> intro c2 H
  ·
   refine gt rfl (dT c2) (gk (gs (gb (gs ?_))))
   revert H; refine ggI ?_; intro g3 H
   revert H; refine ggI ?_; intro g4 H
   refine dr [] [0, 1] [] 9 rfl rfl rfl rfl (xv 0 [] [0, 1] rfl (EV.mv rfl) rfl rfl rfl rfl (xv 1 [] [0, 1] rfl (EV.mv rfl) rfl rfl rfl rfl (xv 2 [] [0, 1] rfl (EV.ix 0 rfl rfl rfl g3 c2 rfl) rfl rfl rfl rfl (xv 3 [] [0, 1] rfl (EV.le (v := .bool (rdOf false l0 x2_5)) x2_5 0 none 0 false rfl rfl rfl g3 c2 rfl rfl rfl) rfl rfl rfl rfl (xv 4 [] [0, 1] rfl (EV.mv rfl) rfl rfl rfl rfl (xv 5 [] [0, 1] rfl (EV.mv rfl) rfl rfl rfl rfl (xv 6 [] [0, 1] rfl (EV.ix 1 rfl rfl rfl g3 g4 rfl) rfl rfl rfl rfl (xv 7 [] [0, 1] rfl (EV.le (v := .bool (rdOf false l1 x2_5)) x2_5 0 none 1 false rfl rfl rfl g3 g4 rfl rfl rfl) rfl rfl rfl rfl (xv 8 [] [0, 1] rfl (EV.neb rfl rfl) rfl rfl rfl rfl (xd (pr [0, 1, 5, 25] [] [0, 1] rfl rfl rfl rfl ?_)))))))))))
   revert H; refine ifsI ?_ ?_ <;> intro c5 H
   ·
    exact gf rfl (bN c5) (gk (ge (rg (sv (EV.mv rfl) rfl (sv (EV.add rfl rfl) rfl (sv (EV.as rfl) rfl (re (wk [0, 1, 5] [] [⟨0, 0, 0, false⟩, ⟨1, 0, 0, false⟩] (ih0 _ (by omega) _ ⟨wrap64 (x2_5 + 1), H, rfl⟩)))))))))
   ·
    refine gt rfl (bM c5) (gs (rg (sv (EV.as rfl) rfl (re ?_))))
    cases H
    exact rt Try.func61 rfl (.tmp rfl .nil) rfl [] [] rfl rfl rfl rfl rfl ⟨rfl, rfl, rfl⟩
  ·
   refine gf rfl (dF c2) (gx rfl (gs (rg (sv (EV.as rfl) rfl (re (pr [4] [] [] rfl rfl rfl rfl ?_))))))
   cases H
   exact rt Try.func61 rfl (.tmp rfl .nil) rfl [] [] rfl rfl rfl rfl rfl ⟨rfl, rfl, rfl⟩
 ·
  refine gt rfl (nT c1) (gs (rg (sv (EV.as rfl) rfl (re (pr [4] [] [] rfl rfl rfl rfl ?_)))))
  cases H
  exact rt Try.func61 rfl (.tmp rfl .nil) rfl [] [] rfl rfl rfl rfl rfl ⟨rfl, rfl, rfl⟩
end Go.Proofs.Ythciieopabndcaa.K
namespace Go.Proofs.Ythciieopabndcaa.K
open Go Go.RowKit
set_option linter.unusedVariables false
set_option linter.unusedSimpArgs false
def laws_eqTask.f (k : Nat) (a0_0 : Int) (l0_1 : List S62) (l0_2 : List S62) (l0_3 : List Bool) (a0_4 : Int) (a1_0 : Int) (l1_1 : List S62) (l1_2 : List S62) (l1_3 : List Bool) (a1_4 : Int) : Option (Bool) := if a0_0 = a1_0 then ((laws_eqRowS.f k l0_1 l1_1).bind fun t2 => (if t2 = true then ((laws_eqRowS.f k l0_2 l1_2).bind fun t4 => (if t4 = true then ((laws_eqBoolS.f k l0_3 l1_3).bind fun t6 => (if t6 = true then (if a0_4 = a1_4 then (some true) else (some false)) else (some false))) else (some false))) else (some false))) else (some false)
set_option maxHeartbeats 4000000 in
set_option maxRecDepth 100000 in
theorem laws_eqTask.ok (k : Nat) (a0_0 : Int) (l0_1 : List S62) (Al0_1 : Option Addr) (cl0_1 : Nat) (l0_2 : List S62) (Al0_2 : Option Addr) (cl0_2 : Nat) (l0_3 : List Bool) (Al0_3 : Option Addr) (cl0_3 : Nat) (a0_4 : Int) (a1_0 : Int) (l1_1 : List S62) (Al1_1 : Option Addr) (cl1_1 : Nat) (l1_2 : List S62) (Al1_2 : Option Addr) (cl1_2 : Nat) (l1_3 : List Bool) (Al1_3 : Option Addr) (cl1_3 : Nat) (a1_4 : Int) (r0 : Bool) (H : laws_eqTask.f k a0_0 l0_1 l0_2 l0_3 a0_4 a1_0 l1_1 l1_2 l1_3 a1_4 = some r0) : Fn Try.prog 26 [.agg #[.int .i64 a0_0, .slice Al0_1 l0_1.length cl0_1, .slice Al0_2 l0_2.length cl0_2, .slice Al0_3 l0_3.length cl0_3, .int .i64 a0_4], .agg #[.int .i64 a1_0, .slice Al1_1 l1_1.length cl1_1, .slice Al1_2 l1_2.length cl1_2, .slice Al1_3 l1_3.length cl1_3, .int .i64 a1_4]] [] [.sl 0 k62 Al0_1 cl0_1 l0_1 0 false, .sl 0 k62 Al0_2 cl0_2 l0_2 0 false, .sl 0 .bool Al0_3 cl0_3 l0_3 0 false, .sl 0 k62 Al1_1 cl1_1 l1_1 0 false, .sl 0 k62 Al1_2 cl1_2 l1_2 0 false, .sl 0 .bool Al1_3 cl1_3 l1_3 0 false] (fun v bx en => v = .bool r0 ∧ bx = [] ∧ en = []) := by
 refine fn_ 33 Try.func26 rfl rfl rfl (fun base T w0 => ?_)
 rw [laws_eqTask.f] at H
 refine gs (rg (so rfl (op_box (cs := [.int .i64 a0_0, .slice Al0_1 l0_1.length cl0_1, .slice Al0_2 l0_2.length cl0_2, .slice Al0_3 l0_3.length cl0_3, .int .i64 a0_4]) rfl rfl rfl fun b2 => (so rfl (op_box (cs := [.int .i64 a1_0, .slice Al1_1 l1_1.length cl1_1, .slice Al1_2 l1_2.length cl1_2, .slice Al1_3 l1_3.length cl1_3, .int .i64 a1_4]) rfl rfl rfl fun b3 => (sv (EV.as rfl) rfl (re (gs (gs (rg (sv (EV.fa 0 rfl) rfl (sv (EV.ld 0 none rfl rfl rfl) rfl (sv (EV.fa 0 rfl) rfl (sv (EV.ld 1 none rfl rfl rfl) rfl (sv (EV.neq rfl rfl) rfl (re (pr [2, 3, 9] [0, 1] [0, 1, 2, 3, 4, 5] rfl rfl rfl rfl ?_)))))))))))))))))
 revert H; refine ifsI ?_ ?_ <;> intro c1 H
 ·
  refine gf rfl (nF c1) (gk (gs (gs (rg (sv (EV.fa 1 rfl) rfl (sv (EV.ld 0 none rfl rfl rfl) rfl (sv (EV.fa 1 rfl) rfl (sv (EV.ld 1 none rfl rfl rfl) rfl ?_))))))))
  revert H; refine bdI ?_; rintro t2 A2 H
  refine so rfl (op_call (laws_eqRowS.ok k l0_1 Al0_1 cl0_1 l1_1 Al1_1 cl1_1 _ A2) [⟨0, 0, 0, false⟩, ⟨3, 0, 0, false⟩] 1 rfl rfl rfl rfl rfl ?_)
  rintro _ _ _ ⟨rfl, rfl, rfl⟩
  refine sv (EV.nt rfl) rfl (re (pr [2, 3, 15] [0, 1] [0, 1, 2, 3, 4, 5] rfl rfl rfl rfl ?_))
  revert H; refine ifsI ?_ ?_ <;> intro c3 H
  ·
   subst c3
   refine gf rfl rfl (gk (gs (gs (rg (sv (EV.fa 2 rfl) rfl (sv (EV.ld 0 none rfl rfl rfl) rfl (sv (EV.fa 2 rfl) rfl (sv (EV.ld 1 none rfl rfl rfl) rfl ?_))))))))
   revert H; refine bdI ?_; rintro t4 A4 H
   refine so rfl (op_call (laws_eqRowS.ok k l0_2 Al0_2 cl0_2 l1_2 Al1_2 cl1_2 _ A4) [⟨1, 0, 0, false⟩, ⟨4, 0, 0, false⟩] 1 rfl rfl rfl rfl rfl ?_)
   rintro _ _ _ ⟨rfl, rfl, rfl⟩
   refine sv (EV.nt rfl) rfl (re (pr [2, 3, 21] [0, 1] [0, 1, 2, 3, 4, 5] rfl rfl rfl rfl ?_))
   revert H; refine ifsI ?_ ?_ <;> intro c5 H
   ·
    subst c5
    refine gf rfl rfl (gk (gs (gs (rg (sv (EV.fa 3 rfl) rfl (sv (EV.ld 0 none rfl rfl rfl) rfl (sv (EV.fa 3 rfl) rfl (sv (EV.ld 1 none rfl rfl rfl) rfl ?_))))))))
    revert H; refine bdI ?_; rintro t6 A6 H
    refine so rfl (op_call (laws_eqBoolS.ok k l0_3 Al0_3 cl0_3 l1_3 Al1_3 cl1_3 _ A6) [⟨2, 0, 0, false⟩, ⟨5, 0, 0, false⟩] 1 rfl rfl rfl rfl rfl ?_)
    rintro _ _ _ ⟨rfl, rfl, rfl⟩
    refine sv (EV.nt rfl) rfl (re (pr [2, 3, 27] [0, 1] [0, 1, 2, 3, 4, 5] rfl rfl rfl rfl ?_))
    revert H; refine ifsI ?_ ?_ <;> intro c7 H
    ·
     subst c7
     refine gf rfl rfl (gk (gs (gs (rg (sv (EV.fa 4 rfl) rfl (sv (EV.ld 0 none rfl rfl rfl) rfl (sv (EV.fa 4 rfl) rfl (sv (EV.ld 1 none rfl rfl rfl) rfl (sv (EV.neq rfl rfl) rfl (re (pr [32] [] [] rfl rfl rfl rfl ?_)))))))))))
     revert H; refine ifsI ?_ ?_ <;> intro c8 H
     ·
      refine gf rfl (nF c8) (gk (gs (rg (sv (EV.as rfl) rfl (re ?_)))))
      cases H
      exact rt Try.func26 rfl (.tmp rfl .nil) rfl [] [] rfl rfl rfl rfl rfl ⟨rfl, rfl, rfl⟩
     ·
      refine gt rfl (nT c8) (gs (rg (sv (EV.as rfl) rfl (re ?_))))
      cases H
      exact rt Try.func26 rfl (.tmp rfl .nil) rfl [] [] rfl rfl rfl rfl rfl ⟨rfl, rfl, rfl⟩
    ·
     obtain rfl := bF c7
     refine gt rfl rfl (gs (rg (sv (EV.as rfl) rfl (re ?_))))
     cases H
     exact rt Try.func26 rfl (.tmp rfl .nil) rfl [] [] rfl rfl rfl rfl rfl ⟨rfl, rfl, rfl⟩
   ·
    obtain rfl := bF c5
    refine gt rfl rfl (gs (rg (sv (EV.as rfl) rfl (re ?_))))
    cases H
    exact rt Try.func26 rfl (.tmp rfl .nil) rfl [] [] rfl rfl rfl rfl rfl ⟨rfl, rfl, rfl⟩
  ·
   obtain rfl := bF c3
   refine gt rfl rfl (gs (rg (sv (EV.as rfl) rfl (re ?_))))
   cases H
   exact rt Try.func26 rfl (.tmp rfl .nil) rfl [] [] rfl rfl rfl rfl rfl ⟨rfl, rfl, rfl⟩
 ·
  refine gt rfl (nT c1) (gs (rg (sv (EV.as rfl) rfl (re ?_))))
  cases H
  exact rt Try.func26 rfl (.tmp rfl .nil) rfl [] [] rfl rfl rfl rfl rfl ⟨rfl, rfl, rfl⟩
end Go.Proofs.Ythciieopabndcaa.K
namespace Go.Proofs.Ythciieopabndcaa.K
open Go Go.RowKit
set_option linter.unusedVariables false
set_option linter.unusedSimpArgs false
def spec_AllSameKey.l0 : Nat → Int → (List S62) → Option (Bool)
 | 0, _, _ => none
 | k + 1, x2_3, l0 => if x2_3 < (l0.length : Int) then (if 0 ≤ x2_3 then (if 0 < (l0.length : Int) then (if ((rd_T62 l0 x2_3).f0) = ((rd_T62 l0 0).f0) then (spec_AllSameKey.l0 k (wrap64 (x2_3 + 1)) l0) else (some false)) else none) else none) else (some true)
def spec_AllSameKey.f (k : Nat) (l0 : List S62) : Option (Bool) := spec_AllSameKey.l0 k 1 l0
set_option maxHeartbeats 4000000 in
set_option maxRecDepth 100000 in
theorem spec_AllSameKey.ok (k : Nat) (l0 : List S62) (Al0 : Option Addr) (cl0 : Nat) (r0 : Bool) (H : spec_AllSameKey.f k l0 = some r0) : Fn Try.prog 58 [.slice Al0 l0.length cl0] [] [.sl 0 k62 Al0 cl0 l0 0 false] (fun v bx en => v = .bool r0 ∧ bx = [] ∧ en = []) := by
 refine fn_ 20 Try.func58 rfl rfl rfl (fun base T w0 => ?_)
 rw [spec_AllSameKey.f] at H
 refine gs (rg (sv (EV.as rfl) rfl (re (gs (gs (rg (sv (EV.as rfl) rfl (re (gb ?_)))))))))
 refine lo (fun kk S => ∃ (x2_3 : Int), spec_AllSameKey.l0 kk x2_3 l0 = some r0 ∧ S = ⟨[(0, .slice Al0 l0.length cl0), (3, .int .i64 x2_3)], [], [.sl 0 k62 Al0 cl0 l0 0 false]⟩) (fun S hS => ?_) (fun n0 ih0 S hS => ?_) ⟨1, H, rfl⟩ (fun h => wk [0, 3] [] [⟨0, 0, 0, false⟩] h)
 · clear H; obtain ⟨_, H, _⟩ := hS; rw [spec_AllSameKey.l0] at H; cases H
 clear H
 obtain ⟨x2_3, H, rfl⟩ := hS
 rw [spec_AllSameKey.l0] at H
 refine gs (gs (rg (sv (EV.mv rfl) rfl (sv (EV.mv rfl) rfl (sv (EV.ln rfl) rfl (sv (EV.lss rfl rfl) rfl (re ?_)))))))
 revert H; refine ifsI ?_ ?_ <;> intro c1 H
 ·
  refine gt rfl (dT c1) (gk (gs (gb (gs ?_))))
  revert H; refine ggI ?_; intro g2 H
  revert H; refine ggI ?_; intro g3 H
  refine dr [] [0] [] 10 rfl rfl rfl rfl (xv 0 [] [0] rfl (EV.mv rfl) rfl rfl rfl rfl (xv 1 [] [0] rfl (EV.mv rfl) rfl rfl rfl rfl (xv 2 [] [0] rfl (EV.ix 0 rfl rfl rfl g2 c1 rfl) rfl rfl rfl rfl (xv 3 [] [0] rfl (EV.fa 0 rfl) rfl rfl rfl rfl (xv 4 [] [0] rfl (EV.le (v := .int .i64 ((rd_T62 l0 x2_3).f0)) x2_3 0 none 0 z62 rfl rfl rfl g2 c1 rfl rfl rfl) rfl rfl rfl rfl (xv 5 [] [0] rfl (EV.mv rfl) rfl rfl rfl rfl (xv 6 [] [0] rfl (EV.ix 0 rfl rfl rfl dq g3 rfl) rfl rfl rfl rfl (xv 7 [] [0] rfl (EV.fa 0 rfl) rfl rfl rfl rfl (xv 8 [] [0] rfl (EV.le (v := .int .i64 ((rd_T62 l0 0).f0)) 0 0 none 0 z62 rfl rfl rfl dq g3 rfl rfl rfl) rfl rfl rfl rfl (xv 9 [] [0] rfl (EV.neq rfl rfl) rfl rfl rfl rfl (xd (pr [0, 3, 19] [] [0] rfl rfl rfl rfl ?_))))))))))))
  revert H; refine ifsI ?_ ?_ <;> intro c4 H
  ·
   exact gf rfl (nF c4) (gk (ge (rg (sv (EV.mv rfl) rfl (sv (EV.add rfl rfl) rfl (sv (EV.as rfl) rfl (re (wk [0, 3] [] [⟨0, 0, 0, false⟩] (ih0 _ (by omega) _ ⟨wrap64 (x2_3 + 1), H, rfl⟩)))))))))
  ·
   refine gt rfl (nT c4) (gs (rg (sv (EV.as rfl) rfl (re ?_))))
   cases H
   exact rt Try.func58 rfl (.tmp rfl .nil) rfl [] [] rfl rfl rfl rfl rfl ⟨rfl, rfl, rfl⟩
 ·
  refine gf rfl (dF c1) (gx rfl (gs (rg (sv (EV.as rfl) rfl (re (pr [2] [] [] rfl rfl rfl rfl ?_))))))
  cases H
  exact rt Try.func58 rfl (.tmp rfl .nil) rfl [] [] rfl rfl rfl rfl rfl ⟨rfl, rfl, rfl⟩
end Go.Proofs.Ythciieopabndcaa.K
namespace Go.Proofs.Ythciieopabndcaa.K
open Go Go.RowKit
set_option linter.unusedVariables false
set_option linter.unusedSimpArgs false
def spec_NeedsNestedLoop.f (k : Nat) (a0_0 : Int) (l0_1 : List S62) (l0_2 : List S62) (l0_3 : List Bool) (a0_4 : Int) : Option (Bool) := if a0_4 ≥ 4 then (some true) else ((spec_AllSameKey.f k l0_2).bind fun t2 => (some t2))
set_option maxHeartbeats 4000000 in
set_option maxRecDepth 100000 in
theorem spec_NeedsNestedLoop.ok (k : Nat) (a0_0 : Int) (l0_1 : List S62) (Al0_1 : Option Addr) (cl0_1 : Nat) (l0_2 : List S62) (Al0_2 : Option Addr) (cl0_2 : Nat) (l0_3 : List Bool) (Al0_3 : Option Addr) (cl0_3 : Nat) (a0_4 : Int) (r0 : Bool) (H : spec_NeedsNestedLoop.f k a0_0 l0_1 l0_2 l0_3 a0_4 = some r0) : Fn Try.prog 23 [.agg #[.int .i64 a0_0, .slice Al0_1 l0_1.length cl0_1, .slice Al0_2 l0_2.length cl0_2, .slice Al0_3 l0_3.length cl0_3, .int .i64 a0_4]] [] [.sl 0 k62 Al0_1 cl0_1 l0_1 0 false, .sl 0 k62 Al0_2 cl0_2 l0_2 0 false, .sl 0 .bool Al0_3 cl0_3 l0_3 0 false] (fun v bx en => v = .bool r0 ∧ bx = [] ∧ en = []) := by
 refine fn_ 11 Try.func23 rfl rfl rfl (fun base T w0 => ?_)
 rw [spec_NeedsNestedLoop.f] at H
 refine gs (rg (so rfl (op_box (cs := [.int .i64 a0_0, .slice Al0_1 l0_1.length cl0_1, .slice Al0_2 l0_2.length cl0_2, .slice Al0_3 l0_3.length cl0_3, .int .i64 a0_4]) rfl rfl rfl fun b1 => (sv (EV.as rfl) rfl (re (gs (rg (sv (EV.fa 4 rfl) rfl (sv (EV.ld 0 none rfl rfl rfl) rfl (sv (EV.geq rfl rfl) rfl (sv (EV.mv rfl) rfl ?_)))))))))))
 revert H; refine ifsI ?_ ?_ <;> intro c1 H
 ·
  refine ts 6 rfl (dT c1) (sk rfl (sk rfl (sk rfl (sv (EV.pt rfl rfl rfl) rfl (sv (EV.as rfl) rfl (re (pr [2] [] [] rfl rfl rfl rfl ?_)))))))
  cases H
  exact rt Try.func23 rfl (.tmp rfl .nil) rfl [] [] rfl rfl rfl rfl rfl ⟨rfl, rfl, rfl⟩
 ·
  refine ts 6 rfl (dF c1) (sv (EV.fa 2 rfl) rfl (sv (EV.ld 0 none rfl rfl rfl) rfl ?_))
  revert H; refine bdI ?_; rintro t2 A2 H
  refine so rfl (op_call (spec_AllSameKey.ok k l0_2 Al0_2 cl0_2 _ A2) [⟨1, 0, 0, false⟩] 1 rfl rfl rfl rfl rfl ?_)
  rintro _ _ _ ⟨rfl, rfl, rfl⟩
  refine sv (EV.pf rfl rfl rfl) rfl (sv (EV.as rfl) rfl (re (pr [2] [] [] rfl rfl rfl rfl ?_)))
  cases H
  exact rt Try.func23 rfl (.tmp rfl .nil) rfl [] [] rfl rfl rfl rfl rfl ⟨rfl, rfl, rfl⟩
end Go.Proofs.Ythciieopabndcaa.K
namespace Go.Proofs.Ythciieopabndcaa.K
open Go Go.RowKit
set_option linter.unusedVariables false
set_option linter.unusedSimpArgs false
def spec_l1In.f (a0 : Int) (a1 : Int) (a2 : Int) : Option (Bool) := if a0 ≥ a1 then (some (decide (a0 ≤ a2))) else (some false)
set_option maxHeartbeats 4000000 in
set_option maxRecDepth 100000 in
theorem spec_l1In.ok (a0 : Int) (a1 : Int) (a2 : Int) (r0 : Bool) (H : spec_l1In.f a0 a1 a2 = some r0) : Fn Try.prog 64 [.int .i64 a0, .int .i64 a1, .int .i64 a2] [] [] (fun v bx en => v = .bool r0 ∧ bx = [] ∧ en = []) := by
 refine fn_ 15 Try.func64 rfl rfl rfl (fun base T w0 => ?_)
 rw [spec_l1In.f] at H
 refine gs (rg (sv (EV.as rfl) rfl (re (gs (rg (sv (EV.mv rfl) rfl (sv (EV.mv rfl) rfl (sv (EV.geq rfl rfl) rfl (sv (EV.mv rfl) rfl ?_)))))))))
 revert H; refine ifsI ?_ ?_ <;> intro c1 H
 ·
  refine ts 10 rfl (dT c1) (sv (EV.mv rfl) rfl (sv (EV.mv rfl) rfl (sv (EV.leq rfl rfl) rfl (sv (EV.pt rfl rfl rfl) rfl (sv (EV.as rfl) rfl (re (pr [6] [] [] rfl rfl rfl rfl ?_)))))))
  cases H
  exact rt Try.func64 rfl (.tmp rfl .nil) rfl [] [] rfl rfl rfl rfl rfl ⟨rfl, rfl, rfl⟩
 ·
  refine ts 10 rfl (dF c1) (sk rfl (sk rfl (sk rfl (sv (EV.pf rfl rfl rfl) rfl (sv (EV.as rfl) rfl (re (pr [6] [] [] rfl rfl rfl rfl ?_)))))))
  cases H
  exact rt Try.func64 rfl (.tmp rfl .nil) rfl [] [] rfl rfl rfl rfl rfl ⟨rfl, rfl, rfl⟩
end Go.Proofs.Ythciieopabndcaa.K
namespace Go.Proofs.Ythciieopabndcaa.K
open Go Go.RowKit
set_option linter.unusedVariables false
set_option linter.unusedSimpArgs false
def spec_IsValidJoinKind.f (a0 : Int) : Option (Bool) := (spec_l1In.f a0 1 4).bind fun t1 => (some t1)
set_option maxHeartbeats 4000000 in
set_option maxRecDepth 100000 in
theorem spec_IsValidJoinKind.ok (a0 : Int) (r0 : Bool) (H : spec_IsValidJoinKind.f a0 = some r0) : Fn Try.prog 62 [.int .i64 a0] [] [] (fun v bx en => v = .bool r0 ∧ bx = [] ∧ en = []) := by
 refine fn_ 5 Try.func62 rfl rfl rfl (fun base T w0 => ?_)
 rw [spec_IsValidJoinKind.f] at H
 refine gs (rg (sv (EV.as rfl) rfl (re (gs (rg (sv (EV.mv rfl) rfl ?_))))))
 revert H; refine bdI ?_; rintro t1 A1 H
 refine so rfl (op_call (spec_l1In.ok a0 1 4 _ A1) [] 1 rfl rfl rfl rfl rfl ?_)
 rintro _ _ _ ⟨rfl, rfl, rfl⟩
 refine sv (EV.as rfl) rfl (re ?_)
 cases H
 exact rt Try.func62 rfl (.tmp rfl .nil) rfl [] [] rfl rfl rfl rfl rfl ⟨rfl, rfl, rfl⟩
end Go.Proofs.Ythciieopabndcaa.K
namespace Go.Proofs.Ythciieopabndcaa.K
open Go Go.RowKit
set_option linter.unusedVariables false
set_option linter.unusedSimpArgs false
def spec_IsValidRow.f (a0_0 : Int) (a0_1 : Int) (a0_2 : Int) : Option (Bool) := (spec_l1In.f a0_0 0 9).bind fun t1 => (if t1 = true then ((spec_l1In.f a0_1 0 99).bind fun t3 => (if t3 = true then ((spec_l1In.f a0_2 0 3).bind fun t5 => (some t5)) else (some false))) else (some false))
set_option maxHeartbeats 4000000 in
set_option maxRecDepth 100000 in
theorem spec_IsValidRow.ok (a0_0 : Int) (a0_1 : Int) (a0_2 : Int) (r0 : Bool) (H : spec_IsValidRow.f a0_0 a0_1 a0_2 = some r0) : Fn Try.prog 85 [.agg #[.int .i64 a0_0, .int .i64 a0_1, .int .i64 a0_2]] [] [] (fun v bx en => v = .bool r0 ∧ bx = [] ∧ en = []) := by
 refine fn_ 16 Try.func85 rfl rfl rfl (fun base T w0 => ?_)
 rw [spec_IsValidRow.f] at H
 refine gs (rg (so rfl (op_box (cs := [.int .i64 a0_0, .int .i64 a0_1, .int .i64 a0_2]) rfl rfl rfl fun b1 => (sv (EV.as rfl) rfl (re (gs (rg (sv (EV.fa 0 rfl) rfl (sv (EV.ld 0 none rfl rfl rfl) rfl ?_)))))))))
 revert H; refine bdI ?_; rintro t1 A1 H
 refine so rfl (op_call (spec_l1In.ok a0_0 0 9 _ A1) [] 1 rfl rfl rfl rfl rfl ?_)
 rintro _ _ _ ⟨rfl, rfl, rfl⟩
 refine sv (EV.mv rfl) rfl ?_
 revert H; refine ifsI ?_ ?_ <;> intro c2 H
 ·
  subst c2
  refine ts 6 rfl rfl (sv (EV.fa 1 rfl) rfl (sv (EV.ld 0 none rfl rfl rfl) rfl ?_))
  revert H; refine bdI ?_; rintro t3 A3 H
  refine so rfl (op_call (spec_l1In.ok a0_1 0 99 _ A3) [] 1 rfl rfl rfl rfl rfl ?_)
  rintro _ _ _ ⟨rfl, rfl, rfl⟩
  refine sv (EV.pt rfl rfl rfl) rfl (sv (EV.mv rfl) rfl ?_)
  revert H; refine ifsI ?_ ?_ <;> intro c4 H
  ·
   subst c4
   refine ts 11 rfl rfl (sv (EV.fa 2 rfl) rfl (sv (EV.ld 0 none rfl rfl rfl) rfl ?_))
   revert H; refine bdI ?_; rintro t5 A5 H
   refine so rfl (op_call (spec_l1In.ok a0_2 0 3 _ A5) [] 1 rfl rfl rfl rfl rfl ?_)
   rintro _ _ _ ⟨rfl, rfl, rfl⟩
   refine sv (EV.pt rfl rfl rfl) rfl (sv (EV.as rfl) rfl (re (pr [2] [] [] rfl rfl rfl rfl ?_)))
   cases H
   exact rt Try.func85 rfl (.tmp rfl .nil) rfl [] [] rfl rfl rfl rfl rfl ⟨rfl, rfl, rfl⟩
  ·
   obtain rfl := bF c4
   refine ts 11 rfl rfl (sk rfl (sk rfl (sk rfl (sv (EV.pf rfl rfl rfl) rfl (sv (EV.as rfl) rfl (re (pr [2] [] [] rfl rfl rfl rfl ?_)))))))
   cases H
   exact rt Try.func85 rfl (.tmp rfl .nil) rfl [] [] rfl rfl rfl rfl rfl ⟨rfl, rfl, rfl⟩
 ·
  obtain rfl := bF c2
  refine ts 6 rfl rfl (sk rfl (sk rfl (sk rfl (sv (EV.pf rfl rfl rfl) rfl (sv (EV.mv rfl) rfl (sk rfl (sk rfl (sk rfl (sv (EV.pf rfl rfl rfl) rfl (sv (EV.as rfl) rfl (re (pr [2] [] [] rfl rfl rfl rfl ?_))))))))))))
  cases H
  exact rt Try.func85 rfl (.tmp rfl .nil) rfl [] [] rfl rfl rfl rfl rfl ⟨rfl, rfl, rfl⟩
end Go.Proofs.Ythciieopabndcaa.K
namespace Go.Proofs.Ythciieopabndcaa.K
open Go Go.RowKit
set_option linter.unusedVariables false
set_option linter.unusedSimpArgs false
def spec_AreValidRows.l0 : Nat → Int → (List S62) → Option (Bool)
 | 0, _, _ => none
 | k + 1, x2_3, l0 => if x2_3 < (l0.length : Int) then (if 0 ≤ x2_3 then ((spec_IsValidRow.f ((rd_T62 l0 x2_3).f0) ((rd_T62 l0 x2_3).f1) ((rd_T62 l0 x2_3).f2)).bind fun t3 => (if t3 = true then (spec_AreValidRows.l0 k (wrap64 (x2_3 + 1)) l0) else (some false))) else none) else (some (decide ((l0.length : Int) ≤ 24)))
def spec_AreValidRows.f (k : Nat) (l0 : List S62) : Option (Bool) := spec_AreValidRows.l0 k 0 l0
set_option maxHeartbeats 4000000 in
set_option maxRecDepth 100000 in
theorem spec_AreValidRows.ok (k : Nat) (l0 : List S62) (Al0 : Option Addr) (cl0 : Nat) (r0 : Bool) (H : spec_AreValidRows.f k l0 = some r0) : Fn Try.prog 63 [.slice Al0 l0.length cl0] [] [.sl 0 k62 Al0 cl0 l0 0 false] (fun v bx en => v = .bool r0 ∧ bx = [] ∧ en = []) := by
 refine fn_ 19 Try.func63 rfl rfl rfl (fun base T w0 => ?_)
 rw [spec_AreValidRows.f] at H
 refine gs (rg (sv (EV.as rfl) rfl (re (gs (gs (rg (sv (EV.as rfl) rfl (re (gb ?_)))))))))
 refine lo (fun kk S => ∃ (x2_3 : Int), spec_AreValidRows.l0 kk x2_3 l0 = some r0 ∧ S = ⟨[(0, .slice Al0 l0.length cl0), (3, .int .i64 x2_3)], [], [.sl 0 k62 Al0 cl0 l0 0 false]⟩) (fun S hS => ?_) (fun n0 ih0 S hS => ?_) ⟨0, H, rfl⟩ (fun h => wk [0, 3] [] [⟨0, 0, 0, false⟩] h)
 · clear H; obtain ⟨_, H, _⟩ := hS; rw [spec_AreValidRows.l0] at H; cases H
 clear H
 obtain ⟨x2_3, H, rfl⟩ := hS
 rw [spec_AreValidRows.l0] at H
 refine gs (gs (rg (sv (EV.mv rfl) rfl (sv (EV.mv rfl) rfl (sv (EV.ln rfl) rfl (sv (EV.lss rfl rfl) rfl (re ?_)))))))
 revert H; refine ifsI ?_ ?_ <;> intro c1 H
 ·
  refine gt rfl (dT c1) (gk (gs (gb (gs (rg (sv (EV.mv rfl) rfl (sv (EV.mv rfl) rfl ?_)))))))
  revert H; refine ggI ?_; intro g2 H
  refine sv (EV.ix 0 rfl rfl rfl g2 c1 rfl) rfl (sv (EV.le (v := .agg #[.int .i64 ((rd_T62 l0 x2_3).f0), .int .i64 ((rd_T62 l0 x2_3).f1), .int .i64 ((rd_T62 l0 x2_3).f2)]) x2_3 0 (some 3) 0 z62 rfl rfl rfl g2 c1 rfl rfl rfl) rfl ?_)
  revert H; refine bdI ?_; rintro t3 A3 H
  refine so rfl (op_call (spec_IsValidRow.ok ((rd_T62 l0 x2_3).f0) ((rd_T62 l0 x2_3).f1) ((rd_T62 l0 x2_3).f2) _ A3) [] 1 rfl rfl rfl rfl rfl ?_)
  rintro _ _ _ ⟨rfl, rfl, rfl⟩
  refine sv (EV.nt rfl) rfl (re (pr [0, 3, 15] [] [0] rfl rfl rfl rfl ?_))
  revert H; refine ifsI ?_ ?_ <;> intro c4 H
  ·
   subst c4
   exact gf rfl rfl (gk (ge (rg (sv (EV.mv rfl) rfl (sv (EV.add rfl rfl) rfl (sv (EV.as rfl) rfl (re (wk [0, 3] [] [⟨0, 0, 0, false⟩] (ih0 _ (by omega) _ ⟨wrap64 (x2_3 + 1), H, rfl⟩)))))))))
  ·
   obtain rfl := bF c4
   refine gt rfl rfl (gs (rg (sv (EV.as rfl) rfl (re ?_))))
   cases H
   exact rt Try.func63 rfl (.tmp rfl .nil) rfl [] [] rfl rfl rfl rfl rfl ⟨rfl, rfl, rfl⟩
 ·
  refine gf rfl (dF c1) (gx rfl (gs (rg (sv (EV.mv rfl) rfl (sv (EV.ln rfl) rfl (sv (EV.leq rfl rfl) rfl (sv (EV.as rfl) rfl (re (pr [2] [] [] rfl rfl rfl rfl ?_)))))))))
  cases H
  exact rt Try.func63 rfl (.tmp rfl .nil) rfl [] [] rfl rfl rfl rfl rfl ⟨rfl, rfl, rfl⟩
end Go.Proofs.Ythciieopabndcaa.K
namespace Go.Proofs.Ythciieopabndcaa.K
open Go Go.RowKit
set_option linter.unusedVariables false
set_option linter.unusedSimpArgs false
def spec_IsValidTask.f (k : Nat) (a0_0 : Int) (l0_1 : List S62) (l0_2 : List S62) (l0_3 : List Bool) (a0_4 : Int) : Option (Bool) := (spec_IsValidJoinKind.f a0_0).bind fun t1 => (if t1 = true then ((spec_AreValidRows.f k l0_1).bind fun t3 => (if t3 = true then ((spec_AreValidRows.f k l0_2).bind fun t5 => (if t5 = true then (if (l0_3.length : Int) = (l0_1.length : Int) then ((spec_l1In.f a0_4 0 4).bind fun t8 => (some t8)) else (some false)) else (some false))) else (some false))) else (some false))
set_option maxHeartbeats 4000000 in
set_option maxRecDepth 100000 in
theorem spec_IsValidTask.ok (k : Nat) (a0_0 : Int) (l0_1 : List S62) (Al0_1 : Option Addr) (cl0_1 : Nat) (l0_2 : List S62) (Al0_2 : Option Addr) (cl0_2 : Nat) (l0_3 : List Bool) (Al0_3 : Option Addr) (cl0_3 : Nat) (a0_4 : Int) (r0 : Bool) (H : spec_IsValidTask.f k a0_0 l0_1 l0_2 l0_3 a0_4 = some r0) : Fn Try.prog 27 [.agg #[.int .i64 a0_0, .slice Al0_1 l0_1.length cl0_1, .slice Al0_2 l0_2.length cl0_2, .slice Al0_3 l0_3.length cl0_3, .int .i64 a0_4]] [] [.sl 0 k62 Al0_1 cl0_1 l0_1 0 false, .sl 0 k62 Al0_2 cl0_2 l0_2 0 false, .sl 0 .bool Al0_3 cl0_3 l0_3 0 false] (fun v bx en => v = .bool r0 ∧ bx = [] ∧ en = []) := by
 refine fn_ 30 Try.func27 rfl rfl rfl (fun base T w0 => ?_)
 rw [spec_IsValidTask.f] at H
 refine gs (rg (so rfl (op_box (cs := [.int .i64 a0_0, .slice Al0_1 l0_1.length cl0_1, .slice Al0_2 l0_2.length cl0_2, .slice Al0_3 l0_3.length cl0_3, .int .i64 a0_4]) rfl rfl rfl fun b1 => (sv (EV.as rfl) rfl (re (gs (rg (sv (EV.fa 0 rfl) rfl (sv (EV.ld 0 none rfl rfl rfl) rfl ?_)))))))))
 revert H; refine bdI ?_; rintro t1 A1 H
 refine so rfl (op_call (spec_IsValidJoinKind.ok a0_0 _ A1) [] 1 rfl rfl rfl rfl rfl ?_)
 rintro _ _ _ ⟨rfl, rfl, rfl⟩
 refine sv (EV.mv rfl) rfl ?_
 revert H; refine ifsI ?_ ?_ <;> intro c2 H
 ·
  subst c2
  refine ts 6 rfl rfl (sv (EV.fa 1 rfl) rfl (sv (EV.ld 0 none rfl rfl rfl) rfl ?_))
  revert H; refine bdI ?_; rintro t3 A3 H
  refine so rfl (op_call (spec_AreValidRows.ok k l0_1 Al0_1 cl0_1 _ A3) [⟨0, 0, 0, false⟩] 1 rfl rfl rfl rfl rfl ?_)
  rintro _ _ _ ⟨rfl, rfl, rfl⟩
  refine sv (EV.pt rfl rfl rfl) rfl (sv (EV.mv rfl) rfl ?_)
  revert H; refine ifsI ?_ ?_ <;> intro c4 H
  ·
   subst c4
   refine ts 11 rfl rfl (sv (EV.fa 2 rfl) rfl (sv (EV.ld 0 none rfl rfl rfl) rfl ?_))
   revert H; refine bdI ?_; rintro t5 A5 H
   refine so rfl (op_call (spec_AreValidRows.ok k l0_2 Al0_2 cl0_2 _ A5) [⟨1, 0, 0, false⟩] 1 rfl rfl rfl rfl rfl ?_)
   rintro _ _ _ ⟨rfl, rfl, rfl⟩
   refine sv (EV.pt rfl rfl rfl) rfl (sv (EV.mv rfl) rfl ?_)
   revert H; refine ifsI ?_ ?_ <;> intro c6 H
   ·
    subst c6
    refine ts 16 rfl rfl (sv (EV.fa 3 rfl) rfl (sv (EV.ld 0 none rfl rfl rfl) rfl (sv (EV.ln rfl) rfl (sv (EV.fa 1 rfl) rfl (sv (EV.ld 0 none rfl rfl rfl) rfl (sv (EV.ln rfl) rfl (sv (EV.eql rfl rfl) rfl (sv (EV.pt rfl rfl rfl) rfl (sv (EV.mv rfl) rfl ?_)))))))))
    revert H; refine ifsI ?_ ?_ <;> intro c7 H
    ·
     refine ts 25 rfl (dT c7) (sv (EV.fa 4 rfl) rfl (sv (EV.ld 0 none rfl rfl rfl) rfl ?_))
     revert H; refine bdI ?_; rintro t8 A8 H
     refine so rfl (op_call (spec_l1In.ok a0_4 0 4 _ A8) [] 1 rfl rfl rfl rfl rfl ?_)
     rintro _ _ _ ⟨rfl, rfl, rfl⟩
     refine sv (EV.pt rfl rfl rfl) rfl (sv (EV.as rfl) rfl (re (pr [2] [] [] rfl rfl rfl rfl ?_)))
     cases H
     exact rt Try.func27 rfl (.tmp rfl .nil) rfl [] [] rfl rfl rfl rfl rfl ⟨rfl, rfl, rfl⟩
    ·
     refine ts 25 rfl (dF c7) (sk rfl (sk rfl (sk rfl (sv (EV.pf rfl rfl rfl) rfl (sv (EV.as rfl) rfl (re (pr [2] [] [] rfl rfl rfl rfl ?_)))))))
     cases H
     exact rt Try.func27 rfl (.tmp rfl .nil) rfl [] [] rfl rfl rfl rfl rfl ⟨rfl, rfl, rfl⟩
   ·
    obtain rfl := bF c6
    refine ts 16 rfl rfl (sk rfl (sk rfl (sk rfl (sk rfl (sk rfl (sk rfl (sk rfl (sv (EV.pf rfl rfl rfl) rfl (sv (EV.mv rfl) rfl (sk rfl (sk rfl (sk rfl (sv (EV.pf rfl rfl rfl) rfl (sv (EV.as rfl) rfl (re (pr [2] [] [] rfl rfl rfl rfl ?_))))))))))))))))
    cases H
    exact rt Try.func27 rfl (.tmp rfl .nil) rfl [] [] rfl rfl rfl rfl rfl ⟨rfl, rfl, rfl⟩
  ·
   obtain rfl := bF c4
   refine ts 11 rfl rfl (sk rfl (sk rfl (sk rfl (sv (EV.pf rfl rfl rfl) rfl (sv (EV.mv rfl) rfl (sk rfl (sk rfl (sk rfl (sk rfl (sk rfl (sk rfl (sk rfl (sv (EV.pf rfl rfl rfl) rfl (sv (EV.mv rfl) rfl (sk rfl (sk rfl (sk rfl (sv (EV.pf rfl rfl rfl) rfl (sv (EV.as rfl) rfl (re (pr [2] [] [] rfl rfl rfl rfl ?_)))))))))))))))))))))
   cases H
   exact rt Try.func27 rfl (.tmp rfl .nil) rfl [] [] rfl rfl rfl rfl rfl ⟨rfl, rfl, rfl⟩
 ·
  obtain rfl := bF c2
  refine ts 6 rfl rfl (sk rfl (sk rfl (sk rfl (sv (EV.pf rfl rfl rfl) rfl (sv (EV.mv rfl) rfl (sk rfl (sk rfl (sk rfl (sv (EV.pf rfl rfl rfl) rfl (sv (EV.mv rfl) rfl (sk rfl (sk rfl (sk rfl (sk rfl (sk rfl (sk rfl (sk rfl (sv (EV.pf rfl rfl rfl) rfl (sv (EV.mv rfl) rfl (sk rfl (sk rfl (sk rfl (sv (EV.pf rfl rfl rfl) rfl (sv (EV.as rfl) rfl (re (pr [2] [] [] rfl rfl rfl rfl ?_))))))))))))))))))))))))))
  cases H
  exact rt Try.func27 rfl (.tmp rfl .nil) rfl [] [] rfl rfl rfl rfl rfl ⟨rfl, rfl, rfl⟩
end Go.Proofs.Ythciieopabndcaa.K
namespace Go.Proofs.Ythciieopabndcaa.K
open Go Go.RowKit
set_option linter.unusedVariables false
set_option linter.unusedSimpArgs false
def spec_RowCost.f (a0_0 : Int) (a0_1 : Int) (a0_2 : Int) : Option (Int) := (spec_IsValidRow.f a0_0 a0_1 a0_2).bind fun t1 => (if t1 = true then (some (wrap64 (1 + a0_2))) else (some 0))
set_option maxHeartbeats 4000000 in
set_option maxRecDepth 100000 in
theorem spec_RowCost.ok (a0_0 : Int) (a0_1 : Int) (a0_2 : Int) (r0 : Int) (H : spec_RowCost.f a0_0 a0_1 a0_2 = some r0) : Fn Try.prog 52 [.agg #[.int .i64 a0_0, .int .i64 a0_1, .int .i64 a0_2]] [] [] (fun v bx en => v = .int .i64 r0 ∧ bx = [] ∧ en = []) := by
 refine fn_ 9 Try.func52 rfl rfl rfl (fun base T w0 => ?_)
 rw [spec_RowCost.f] at H
 refine gs (rg (so rfl (op_box (cs := [.int .i64 a0_0, .int .i64 a0_1, .int .i64 a0_2]) rfl rfl rfl fun b1 => (sv (EV.as rfl) rfl (re (gs (gs (rg (sv (EV.ld (v := .agg #[.int .i64 a0_0, .int .i64 a0_1, .int .i64 a0_2]) 0 (some 3) rfl rfl rfl) rfl ?_)))))))))
 revert H; refine bdI ?_; rintro t1 A1 H
 refine so rfl (op_call (spec_IsValidRow.ok a0_0 a0_1 a0_2 _ A1) [] 1 rfl rfl rfl rfl rfl ?_)
 rintro _ _ _ ⟨rfl, rfl, rfl⟩
 refine sv (EV.nt rfl) rfl (re ?_)
 revert H; refine ifsI ?_ ?_ <;> intro c2 H
 ·
  subst c2
  refine gf rfl rfl (gk (gs (rg (sv (EV.fa 2 rfl) rfl (sv (EV.ld 0 none rfl rfl rfl) rfl (sv (EV.add rfl rfl) rfl (sv (EV.as rfl) rfl (re (pr [2] [] [] rfl rfl rfl rfl ?_)))))))))
  cases H
  exact rt Try.func52 rfl (.tmp rfl .nil) rfl [] [] rfl rfl rfl rfl rfl ⟨rfl, rfl, rfl⟩
 ·
  obtain rfl := bF c2
  refine gt rfl rfl (gs (rg (sv (EV.as rfl) rfl (re ?_))))
  cases H
  exact rt Try.func52 rfl (.tmp rfl .nil) rfl [] [] rfl rfl rfl rfl rfl ⟨rfl, rfl, rfl⟩
end Go.Proofs.Ythciieopabndcaa.K
namespace Go.Proofs.Ythciieopabndcaa.K
open Go Go.RowKit
set_option linter.unusedVariables false
set_option linter.unusedSimpArgs false
def spec_TotalCost.l0 : Nat → Int → Int → (List S62) → Option (Int)
 | 0, _, _, _ => none
 | k + 1, x2_3, x2_4, l0 => if x2_4 < (l0.length : Int) then (if 0 ≤ x2_4 then ((spec_RowCost.f ((rd_T62 l0 x2_4).f0) ((rd_T62 l0 x2_4).f1) ((rd_T62 l0 x2_4).f2)).bind fun t3 => (spec_TotalCost.l0 k (wrap64 (x2_3 + t3)) (wrap64 (x2_4 + 1)) l0)) else none) else (some x2_3)
def spec_TotalCost.f (k : Nat) (l0 : List S62) : Option (Int) := spec_TotalCost.l0 k 0 0 l0
set_option maxHeartbeats 4000000 in
set_option maxRecDepth 100000 in
theorem spec_TotalCost.ok (k : Nat) (l0 : List S62) (Al0 : Option Addr) (cl0 : Nat) (r0 : Int) (H : spec_TotalCost.f k l0 = some r0) : Fn Try.prog 68 [.slice Al0 l0.length cl0] [] [.sl 0 k62 Al0 cl0 l0 0 false] (fun v bx en => v = .int .i64 r0 ∧ bx = [] ∧ en = []) := by
 refine fn_ 19 Try.func68 rfl rfl rfl (fun base T w0 => ?_)
 rw [spec_TotalCost.f] at H
 refine gs (rg (sv (EV.as rfl) rfl (re (gs (rg (sv (EV.as rfl) rfl (re (gs (gs (rg (sv (EV.as rfl) rfl (re (gb ?_)))))))))))))
 refine lo (fun kk S => ∃ (x2_3 : Int) (x2_4 : Int), spec_TotalCost.l0 kk x2_3 x2_4 l0 = some r0 ∧ S = ⟨[(0, .slice Al0 l0.length cl0), (3, .int .i64 x2_3), (4, .int .i64 x2_4)], [], [.sl 0 k62 Al0 cl0 l0 0 false]⟩) (fun S hS => ?_) (fun n0 ih0 S hS => ?_) ⟨0, 0, H, rfl⟩ (fun h => wk [0, 3, 4] [] [⟨0, 0, 0, false⟩] h)
 · clear H; obtain ⟨_, _, H, _⟩ := hS; rw [spec_TotalCost.l0] at H; cases H
 clear H
 obtain ⟨x2_3, x2_4, H, rfl⟩ := hS
 rw [spec_TotalCost.l0] at H
 refine gs (gs (rg (sv (EV.mv rfl) rfl (sv (EV.mv rfl) rfl (sv (EV.ln rfl) rfl (sv (EV.lss rfl rfl) rfl (re ?_)))))))
 revert H; refine ifsI ?_ ?_ <;> intro c1 H
 ·
  refine gt rfl (dT c1) (gk (gs (gb (rg (sv (EV.mv rfl) rfl (sv (EV.mv rfl) rfl (sv (EV.mv rfl) rfl ?_)))))))
  revert H; refine ggI ?_; intro g2 H
  refine sv (EV.ix 0 rfl rfl rfl g2 c1 rfl) rfl (sv (EV.le (v := .agg #[.int .i64 ((rd_T62 l0 x2_4).f0), .int .i64 ((rd_T62 l0 x2_4).f1), .int .i64 ((rd_T62 l0 x2_4).f2)]) x2_4 0 (some 3) 0 z62 rfl rfl rfl g2 c1 rfl rfl rfl) rfl ?_)
  revert H; refine bdI ?_; rintro t3 A3 H
  refine so rfl (op_call (spec_RowCost.ok ((rd_T62 l0 x2_4).f0) ((rd_T62 l0 x2_4).f1) ((rd_T62 l0 x2_4).f2) _ A3) [] 1 rfl rfl rfl rfl rfl ?_)
  rintro _ _ _ ⟨rfl, rfl, rfl⟩
  exact sv (EV.add rfl rfl) rfl (sv (EV.as rfl) rfl (re (pr [0, 3, 4] [] [0] rfl rfl rfl rfl (ge (rg (sv (EV.mv rfl) rfl (sv (EV.add rfl rfl) rfl (sv (EV.as rfl) rfl (re (wk [0, 3, 4] [] [⟨0, 0, 0, false⟩] (ih0 _ (by omega) _ ⟨wrap64 (x2_3 + t3), wrap64 (x2_4 + 1), H, rfl⟩)))))))))))
 ·
  refine gf rfl (dF c1) (gx rfl (gs (rg (sv (EV.mv rfl) rfl (sv (EV.as rfl) rfl (re (pr [2] [] [] rfl rfl rfl rfl ?_)))))))
  cases H
  exact rt Try.func68 rfl (.tmp rfl .nil) rfl [] [] rfl rfl rfl rfl rfl ⟨rfl, rfl, rfl⟩
end Go.Proofs.Ythciieopabndcaa.K
namespace Go.Proofs.Ythciieopabndcaa.K
open Go Go.RowKit
set_option linter.unusedVariables false
set_option linter.unusedSimpArgs false
def spec_BuildSide.j0 : Nat → Int → Int → Int → (List S62) → (List S62) → (List Bool) → Option (Int)
 | 0, _, _, _, _, _, _ => none
 | k + 1, x1_1, x1_2_0, x1_2_4, l0_1, l0_2, l0_3 => (spec_TotalCost.f k l0_2).bind fun t4 => (if t4 ≤ x1_1 then (some 2) else (some 0))
def spec_BuildSide.f (k : Nat) (a0_0 : Int) (l0_1 : List S62) (l0_2 : List S62) (l0_3 : List Bool) (a0_4 : Int) (a1 : Int) : Option (Int) := (spec_IsValidTask.f k a0_0 l0_1 l0_2 l0_3 a0_4).bind fun t1 => (if t1 = true then (if a0_0 = 1 then ((spec_TotalCost.f k l0_1).bind fun t7 => ((spec_TotalCost.f k l0_2).bind fun t8 => (if t7 < t8 then ((spec_TotalCost.f k l0_1).bind fun t10 => (if t10 ≤ a1 then (some 1) else (spec_BuildSide.j0 k a1 a0_0 a0_4 l0_1 l0_2 l0_3))) else (spec_BuildSide.j0 k a1 a0_0 a0_4 l0_1 l0_2 l0_3)))) else (spec_BuildSide.j0 k a1 a0_0 a0_4 l0_1 l0_2 l0_3)) else (some 0))
set_option maxHeartbeats 4000000 in
set_option maxRecDepth 100000 in
theorem spec_BuildSide.ok (k : Nat) (a0_0 : Int) (l0_1 : List S62) (Al0_1 : Option Addr) (cl0_1 : Nat) (l0_2 : List S62) (Al0_2 : Option Addr) (cl0_2 : Nat) (l0_3 : List Bool) (Al0_3 : Option Addr) (cl0_3 : Nat) (a0_4 : Int) (a1 : Int) (r0 : Int) (H : spec_BuildSide.f k a0_0 l0_1 l0_2 l0_3 a0_4 a1 = some r0) : Fn Try.prog 37 [.agg #[.int .i64 a0_0, .slice Al0_1 l0_1.length cl0_1, .slice Al0_2 l0_2.length cl0_2, .slice Al0_3 l0_3.length cl0_3, .int .i64 a0_4], .int .i64 a1] [] [.sl 0 k62 Al0_1 cl0_1 l0_1 0 false, .sl 0 k62 Al0_2 cl0_2 l0_2 0 false, .sl 0 .bool Al0_3 cl0_3 l0_3 0 false] (fun v bx en => v = .int .i64 r0 ∧ bx = [] ∧ en = []) := by
 refine fn_ 32 Try.func37 rfl rfl rfl (fun base T w0 => ?_)
 rw [spec_BuildSide.f] at H
 refine gs (rg (so rfl (op_box (cs := [.int .i64 a0_0, .slice Al0_1 l0_1.length cl0_1, .slice Al0_2 l0_2.length cl0_2, .slice Al0_3 l0_3.length cl0_3, .int .i64 a0_4]) rfl rfl rfl fun b2 => (sv (EV.as rfl) rfl (re (gs (gs (rg (sv (EV.ld (v := .agg #[.int .i64 a0_0, .slice Al0_1 l0_1.length cl0_1, .slice Al0_2 l0_2.length cl0_2, .slice Al0_3 l0_3.length cl0_3, .int .i64 a0_4]) 0 (some 5) rfl rfl rfl) rfl ?_)))))))))
 revert H; refine bdI ?_; rintro t1 A1 H
 refine so rfl (op_call (spec_IsValidTask.ok k a0_0 l0_1 Al0_1 cl0_1 l0_2 Al0_2 cl0_2 l0_3 Al0_3 cl0_3 a0_4 _ A1) [⟨0, 0, 0, false⟩, ⟨1, 0, 0, false⟩, ⟨2, 0, 0, false⟩] 1 rfl rfl rfl rfl rfl ?_)
 rintro _ _ _ ⟨rfl, rfl, rfl⟩
 refine sv (EV.nt rfl) rfl (re ?_)
 revert H; refine ifsI ?_ ?_ <;> intro c2 H
 ·
  subst c2
  refine gf rfl rfl (gk ?_)
  refine jo (fun S => ∃ (m : Nat) (x1_1 : Int) (x1_2_0 : Int) (x1_2_4 : Int), spec_BuildSide.j0 m x1_1 x1_2_0 x1_2_4 l0_1 l0_2 l0_3 = some r0 ∧ S = ⟨[(1, .int .i64 x1_1), (2, .pointer (some ⟨b2, 0, none⟩))], [⟨b2, 37, [.int .i64 x1_2_0, .slice Al0_1 l0_1.length cl0_1, .slice Al0_2 l0_2.length cl0_2, .slice Al0_3 l0_3.length cl0_3, .int .i64 x1_2_4]⟩], [.sl 0 k62 Al0_1 cl0_1 l0_1 0 false, .sl 0 k62 Al0_2 cl0_2 l0_2 0 false, .sl 0 .bool Al0_3 cl0_3 l0_3 0 false]⟩) (fun S hS => ?_) (fun jh0 => ?_)
  ·
   clear H
   obtain ⟨m3, x1_1, x1_2_0, x1_2_4, H, rfl⟩ := hS
   rcases m3 with _ | m3
   · rw [spec_BuildSide.j0] at H; cases H
   rw [spec_BuildSide.j0] at H
   refine gs (gs (rg (sv (EV.fa 2 rfl) rfl (sv (EV.ld 0 none rfl rfl rfl) rfl ?_))))
   revert H; refine bdI ?_; rintro t4 A4 H
   refine so rfl (op_call (spec_TotalCost.ok m3 l0_2 Al0_2 cl0_2 _ A4) [⟨1, 0, 0, false⟩] 1 rfl rfl rfl rfl rfl ?_)
   rintro _ _ _ ⟨rfl, rfl, rfl⟩
   refine sv (EV.mv rfl) rfl (sv (EV.leq rfl rfl) rfl (re (pr [31] [] [] rfl rfl rfl rfl ?_)))
   revert H; refine ifsI ?_ ?_ <;> intro c5 H
   ·
    refine gt rfl (dT c5) (gs (rg (sv (EV.as rfl) rfl (re ?_))))
    cases H
    exact rt Try.func37 rfl (.tmp rfl .nil) rfl [] [] rfl rfl rfl rfl rfl ⟨rfl, rfl, rfl⟩
   ·
    refine gf rfl (dF c5) (gk (gs (rg (sv (EV.as rfl) rfl (re ?_)))))
    cases H
    exact rt Try.func37 rfl (.tmp rfl .nil) rfl [] [] rfl rfl rfl rfl rfl ⟨rfl, rfl, rfl⟩
  ·
   refine gs (dr [0] [0, 1, 2] [] 19 rfl rfl rfl rfl (xv 0 [0] [0, 1, 2] rfl (EV.fa 0 rfl) rfl rfl rfl rfl (xv 1 [0] [0, 1, 2] rfl (EV.ld 0 none rfl rfl rfl) rfl rfl rfl rfl (xv 2 [0] [0, 1, 2] rfl (EV.eql rfl rfl) rfl rfl rfl rfl (xv 3 [0] [0, 1, 2] rfl (EV.mv rfl) rfl rfl rfl rfl ?_)))))
   revert H; refine ifsI ?_ ?_ <;> intro c6 H
   ·
    refine ts 11 rfl (dT c6) (xv 4 [0] [0, 1, 2] rfl (EV.fa 1 rfl) rfl rfl rfl rfl (xv 5 [0] [0, 1, 2] rfl (EV.ld 0 none rfl rfl rfl) rfl rfl rfl rfl (xv 7 [0] [0, 1, 2] rfl (EV.fa 2 rfl) rfl rfl rfl rfl (xv 8 [0] [0, 1, 2] rfl (EV.ld 0 none rfl rfl rfl) rfl rfl rfl rfl (one1 6 rfl rfl ?_)))))
    revert H; refine bdI ?_; rintro t7 A7 H
    refine op_call (spec_TotalCost.ok k l0_1 Al0_1 cl0_1 _ A7) [⟨0, 0, 0, false⟩] 1 rfl rfl rfl rfl rfl ?_
    rintro _ _ _ ⟨rfl, rfl, rfl⟩
    refine xs [0] [0, 1, 2] rfl rfl rfl (one1 9 rfl rfl ?_)
    revert H; refine bdI ?_; rintro t8 A8 H
    refine op_call (spec_TotalCost.ok k l0_2 Al0_2 cl0_2 _ A8) [⟨1, 0, 0, false⟩] 1 rfl rfl rfl rfl rfl ?_
    rintro _ _ _ ⟨rfl, rfl, rfl⟩
    refine xs [0] [0, 1, 2] rfl rfl rfl (xv 10 [0] [0, 1, 2] rfl (EV.lss rfl rfl) rfl rfl rfl rfl (xv 11 [0] [0, 1, 2] rfl (EV.pt rfl rfl rfl) rfl rfl rfl rfl (xv 12 [0] [0, 1, 2] rfl (EV.mv rfl) rfl rfl rfl rfl ?_)))
    revert H; refine ifsI ?_ ?_ <;> intro c9 H
    ·
     refine ts 20 rfl (dT c9) (xv 13 [0] [0, 1, 2] rfl (EV.fa 1 rfl) rfl rfl rfl rfl (xv 14 [0] [0, 1, 2] rfl (EV.ld 0 none rfl rfl rfl) rfl rfl rfl rfl (xv 16 [0] [0, 1, 2] rfl (EV.mv rfl) rfl rfl rfl rfl (one1 15 rfl rfl ?_))))
     revert H; refine bdI ?_; rintro t10 A10 H
     refine op_call (spec_TotalCost.ok k l0_1 Al0_1 cl0_1 _ A10) [⟨0, 0, 0, false⟩] 1 rfl rfl rfl rfl rfl ?_
     rintro _ _ _ ⟨rfl, rfl, rfl⟩
     refine xs [0] [0, 1, 2] rfl rfl rfl (xv 17 [0] [0, 1, 2] rfl (EV.leq rfl rfl) rfl rfl rfl rfl (xv 18 [0] [0, 1, 2] rfl (EV.pt rfl rfl rfl) rfl rfl rfl rfl (xd (pr [1, 2, 26] [0] [0, 1, 2] rfl rfl rfl rfl ?_))))
     revert H; refine ifsI ?_ ?_ <;> intro c11 H
     ·
      refine gt rfl (dT c11) (gs (rg (sv (EV.as rfl) rfl (re ?_))))
      cases H
      exact rt Try.func37 rfl (.tmp rfl .nil) rfl [] [] rfl rfl rfl rfl rfl ⟨rfl, rfl, rfl⟩
     ·
      exact gf rfl (dF c11) (gk (wk [1, 2] [0] [⟨0, 0, 0, false⟩, ⟨1, 0, 0, false⟩, ⟨2, 0, 0, false⟩] (jh0 _ ⟨_, a1, a0_0, a0_4, H, rfl⟩)))
    ·
     exact ts 20 rfl (dF c9) (xk 13 [0] [0, 1, 2] rfl rfl rfl rfl rfl (xk 14 [0] [0, 1, 2] rfl rfl rfl rfl rfl (xk 16 [0] [0, 1, 2] rfl rfl rfl rfl rfl (xk 15 [0] [0, 1, 2] rfl rfl rfl rfl rfl (xk 17 [0] [0, 1, 2] rfl rfl rfl rfl rfl (xv 18 [0] [0, 1, 2] rfl (EV.pf rfl rfl rfl) rfl rfl rfl rfl (xd (pr [1, 2, 26] [0] [0, 1, 2] rfl rfl rfl rfl (gf rfl rfl (gk (wk [1, 2] [0] [⟨0, 0, 0, false⟩, ⟨1, 0, 0, false⟩, ⟨2, 0, 0, false⟩] (jh0 _ ⟨_, a1, a0_0, a0_4, H, rfl⟩))))))))))))
   ·
    exact ts 11 rfl (dF c6) (xk 4 [0] [0, 1, 2] rfl rfl rfl rfl rfl (xk 5 [0] [0, 1, 2] rfl rfl rfl rfl rfl (xk 7 [0] [0, 1, 2] rfl rfl rfl rfl rfl (xk 8 [0] [0, 1, 2] rfl rfl rfl rfl rfl (xk 6 [0] [0, 1, 2] rfl rfl rfl rfl rfl (xk 9 [0] [0, 1, 2] rfl rfl rfl rfl rfl (xk 10 [0] [0, 1, 2] rfl rfl rfl rfl rfl (xv 11 [0] [0, 1, 2] rfl (EV.pf rfl rfl rfl) rfl rfl rfl rfl (xv 12 [0] [0, 1, 2] rfl (EV.mv rfl) rfl rfl rfl rfl (xk 13 [0] [0, 1, 2] rfl rfl rfl rfl rfl (xk 14 [0] [0, 1, 2] rfl rfl rfl rfl rfl (xk 16 [0] [0, 1, 2] rfl rfl rfl rfl rfl (xk 15 [0] [0, 1, 2] rfl rfl rfl rfl rfl (xk 17 [0] [0, 1, 2] rfl rfl rfl rfl rfl (xv 18 [0] [0, 1, 2] rfl (EV.pf rfl rfl rfl) rfl rfl rfl rfl (xd (pr [1, 2, 26] [0] [0, 1, 2] rfl rfl rfl rfl (gf rfl rfl (gk (wk [1, 2] [0] [⟨0, 0, 0, false⟩, ⟨1, 0, 0, false⟩, ⟨2, 0, 0, false⟩] (jh0 _ ⟨_, a1, a0_0, a0_4, H, rfl⟩)))))))))))))))))))))
 ·
  obtain rfl := bF c2
  refine gt rfl rfl (gs (rg (sv (EV.as rfl) rfl (re (pr [4] [] [] rfl rfl rfl rfl ?_)))))
  cases H
  exact rt Try.func37 rfl (.tmp rfl .nil) rfl [] [] rfl rfl rfl rfl rfl ⟨rfl, rfl, rfl⟩
end Go.Proofs.Ythciieopabndcaa.K
namespace Go.Proofs.Ythciieopabndcaa.K
open Go Go.RowKit
set_option linter.unusedVariables false
set_option linter.unusedSimpArgs false
def spec_HashBit.f (a0 : Int) (a1 : Int) : Option (Int) := (spec_l1In.f a1 0 3).bind fun t1 => (if t1 = true then ((spec_l1In.f a0 0 9).bind fun t3 => (if t3 = true then (if 0 ≤ a1 then (some (andI (shrI (Int.tmod (wrap64 (a0 * 7)) 16) a1) 1)) else none) else (some 0))) else (some 0))
set_option maxHeartbeats 4000000 in
set_option maxRecDepth 100000 in
theorem spec_HashBit.ok (a0 : Int) (a1 : Int) (r0 : Int) (H : spec_HashBit.f a0 a1 = some r0) : Fn Try.prog 76 [.int .i64 a0, .int .i64 a1] [] [] (fun v bx en => v = .int .i64 r0 ∧ bx = [] ∧ en = []) := by
 refine fn_ 19 Try.func76 rfl rfl rfl (fun base T w0 => ?_)
 rw [spec_HashBit.f] at H
 refine gs (rg (sv (EV.as rfl) rfl (re (gs (gs (rg (sv (EV.mv rfl) rfl ?_)))))))
 revert H; refine bdI ?_; rintro t1 A1 H
 refine so rfl (op_call (spec_l1In.ok a1 0 3 _ A1) [] 1 rfl rfl rfl rfl rfl ?_)
 rintro _ _ _ ⟨rfl, rfl, rfl⟩
 refine sv (EV.nt rfl) rfl (sv (EV.mv rfl) rfl ?_)
 revert H; refine ifsI ?_ ?_ <;> intro c2 H
 ·
  subst c2
  refine ts 8 rfl rfl (sv (EV.mv rfl) rfl ?_)
  revert H; refine bdI ?_; rintro t3 A3 H
  refine so rfl (op_call (spec_l1In.ok a0 0 9 _ A3) [] 1 rfl rfl rfl rfl rfl ?_)
  rintro _ _ _ ⟨rfl, rfl, rfl⟩
  refine sv (EV.nt rfl) rfl (sv (EV.pf rfl rfl rfl) rfl (re (pr [0, 1, 12] [] [] rfl rfl rfl rfl ?_)))
  revert H; refine ifsI ?_ ?_ <;> intro c4 H
  ·
   subst c4
   refine gf rfl rfl (gk (gs (rg (sv (EV.mv rfl) rfl (sv (EV.mul rfl rfl) rfl (sv (EV.rem rfl rfl dq) rfl (sv (EV.mv rfl) rfl ?_)))))))
   revert H; refine ggI ?_; intro g5 H
   refine sv (EV.shr rfl rfl g5) rfl (sv (EV.andI rfl rfl) rfl (sv (EV.as rfl) rfl (re (pr [4] [] [] rfl rfl rfl rfl ?_))))
   cases H
   exact rt Try.func76 rfl (.tmp rfl .nil) rfl [] [] rfl rfl rfl rfl rfl ⟨rfl, rfl, rfl⟩
  ·
   obtain rfl := bF c4
   refine gt rfl rfl (gs (rg (sv (EV.as rfl) rfl (re ?_))))
   cases H
   exact rt Try.func76 rfl (.tmp rfl .nil) rfl [] [] rfl rfl rfl rfl rfl ⟨rfl, rfl, rfl⟩
 ·
  obtain rfl := bF c2
  refine ts 8 rfl rfl (sk rfl (sk rfl (sk rfl (sv (EV.pt rfl rfl rfl) rfl (re (pr [0, 1, 12] [] [] rfl rfl rfl rfl (gt rfl rfl (gs (rg (sv (EV.as rfl) rfl (re ?_)))))))))))
  cases H
  exact rt Try.func76 rfl (.tmp rfl .nil) rfl [] [] rfl rfl rfl rfl rfl ⟨rfl, rfl, rfl⟩
end Go.Proofs.Ythciieopabndcaa.K
namespace Go.Proofs.Ythciieopabndcaa.K
open Go Go.RowKit
set_option linter.unusedVariables false
set_option linter.unusedSimpArgs false
def spec_SplitByHashBit.l0 : Nat → Int → (List S62) → (List S62) → Int → (List S62) → Option ((List S62) × (List S62))
 | 0, _, _, _, _, _ => none
 | k + 1, x2_1, x2_6, x2_7, x2_8, l0 => if x2_8 < (l0.length : Int) then (if 0 ≤ x2_8 then ((spec_HashBit.f ((rd_T62 l0 x2_8).f0) x2_1).bind fun t5 => (if t5 = 0 then (if x2_6.length < 5864062014805 then (spec_SplitByHashBit.l0 k x2_1 (x2_6 ++ ([(⟨(rd_T62 l0 x2_8).f0, (rd_T62 l0 x2_8).f1, (rd_T62 l0 x2_8).f2⟩ : S62)] : List S62)) x2_7 (wrap64 (x2_8 + 1)) l0) else none) else (if x2_7.length < 5864062014805 then (spec_SplitByHashBit.l0 k x2_1 x2_6 (x2_7 ++ ([(⟨(rd_T62 l0 x2_8).f0, (rd_T62 l0 x2_8).f1, (rd_T62 l0 x2_8).f2⟩ : S62)] : List S62)) (wrap64 (x2_8 + 1)) l0) else none))) else none) else (some (x2_6, x2_7))
def spec_SplitByHashBit.f (k : Nat) (l0 : List S62) (a1 : Int) : Option ((List S62) × (List S62)) := spec_SplitByHashBit.l0 k a1 [] [] 0 l0
set_option maxHeartbeats 4000000 in
set_option maxRecDepth 100000 in
theorem spec_SplitByHashBit.ok (k : Nat) (l0 : List S62) (Al0 : Option Addr) (cl0 : Nat) (a1 : Int) (r0 : List S62) (r1 : List S62) (H : spec_SplitByHashBit.f k l0 a1 = some (r0, r1)) : Fn Try.prog 75 [.slice Al0 l0.length cl0, .int .i64 a1] [] [.sl 0 k62 Al0 cl0 l0 0 false] (fun v bx en => ∃ A0 c0 A1 c1, v = .tuple #[.slice A0 r0.length c0, .slice A1 r1.length c1] ∧ bx = [] ∧ en = [.sl 2 k62 A0 c0 r0 1 true, .sl 2 k62 A1 c1 r1 2 true]) := by
 refine fn_ 41 Try.func75 rfl rfl rfl (fun base T w0 => ?_)
 rw [spec_SplitByHashBit.f] at H
 refine gs (rg (sv (EV.as rfl) rfl (sv (EV.as rfl) rfl (re (gs (rg (so rfl (op_lit (s := 3) (by_ := 24) k62 ([] : List S62) [] [] 1 [] rfl rfl rfl rfl rfl rfl rfl rfl rfl rfl rfl rfl rfl dq rfl fun A9_1 c9_1 => (sv (EV.as rfl) rfl (re (gs (rg (so rfl (op_lit (s := 3) (by_ := 24) k62 ([] : List S62) [] [] 2 [] rfl rfl rfl rfl rfl rfl rfl rfl rfl rfl rfl rfl rfl dq rfl fun A10_2 c10_2 => (sv (EV.as rfl) rfl (re (gs (gs (rg (sv (EV.as rfl) rfl (re (gb ?_))))))))))))))))))))))
 refine lo (fun kk S => ∃ (x2_1 : Int) (x2_6 : List S62) (Ax2_6 : Option Addr) (cx2_6 : Nat) (x2_7 : List S62) (Ax2_7 : Option Addr) (cx2_7 : Nat) (x2_8 : Int), spec_SplitByHashBit.l0 kk x2_1 x2_6 x2_7 x2_8 l0 = some (r0, r1) ∧ S = ⟨[(0, .slice Al0 l0.length cl0), (1, .int .i64 x2_1), (6, .slice Ax2_6 x2_6.length cx2_6), (7, .slice Ax2_7 x2_7.length cx2_7), (8, .int .i64 x2_8)], [], [.sl 2 k62 Ax2_6 cx2_6 x2_6 1 true, .sl 2 k62 Ax2_7 cx2_7 x2_7 2 true, .sl 0 k62 Al0 cl0 l0 0 false]⟩) (fun S hS => ?_) (fun n0 ih0 S hS => ?_) ⟨a1, [], A9_1, c9_1, [], A10_2, c10_2, 0, H, rfl⟩ (fun h => wk [0, 1, 6, 7, 8] [] [⟨1, 2, 1, true⟩, ⟨2, 2, 2, true⟩, ⟨0, 0, 0, false⟩] h)
 · clear H; obtain ⟨_, _, _, _, _, _, _, _, H, _⟩ := hS; rw [spec_SplitByHashBit.l0] at H; cases H
 clear H
 obtain ⟨x2_1, x2_6, Ax2_6, cx2_6, x2_7, Ax2_7, cx2_7, x2_8, H, rfl⟩ := hS
 rw [spec_SplitByHashBit.l0] at H
 refine gs (gs (rg (sv (EV.mv rfl) rfl (sv (EV.mv rfl) rfl (sv (EV.ln rfl) rfl (sv (EV.lss rfl rfl) rfl (re ?_)))))))
 revert H; refine ifsI ?_ ?_ <;> intro c3 H
 ·
  refine gt rfl (dT c3) (gk (gs (gb (gs (rg (sv (EV.mv rfl) rfl (sv (EV.mv rfl) rfl ?_)))))))
  revert H; refine ggI ?_; intro g4 H
  refine sv (EV.ix 2 rfl rfl rfl g4 c3 rfl) rfl (sv (EV.fa 0 rfl) rfl (sv (EV.le (v := .int .i64 ((rd_T62 l0 x2_8).f0)) x2_8 0 none 2 z62 rfl rfl rfl g4 c3 rfl rfl rfl) rfl (sv (EV.mv rfl) rfl ?_)))
  revert H; refine bdI ?_; rintro t5 A5 H
  refine so rfl (op_call (spec_HashBit.ok ((rd_T62 l0 x2_8).f0) x2_1 _ A5) [] 3 rfl rfl rfl rfl rfl ?_)
  rintro _ _ _ ⟨rfl, rfl, rfl⟩
  refine sv (EV.eql rfl rfl) rfl (re (pr [0, 1, 6, 7, 8, 24] [] [0, 1, 2] rfl rfl rfl rfl ?_))
  revert H; refine ifsI ?_ ?_ <;> intro c6 H
  ·
   refine gt rfl (dT c6) (rg (sv (EV.mv rfl) rfl (sv (EV.mv rfl) rfl (sv (EV.mv rfl) rfl (sv (EV.ix 2 rfl rfl rfl g4 c3 rfl) rfl (sv (EV.le (v := .agg #[.int .i64 ((rd_T62 l0 x2_8).f0), .int .i64 ((rd_T62 l0 x2_8).f1), .int .i64 ((rd_T62 l0 x2_8).f2)]) x2_8 0 (some 3) 2 z62 rfl rfl rfl g4 c3 rfl rfl rfl) rfl (so rfl (op_lit (s := 3) (by_ := 24) k62 ([(⟨(rd_T62 l0 x2_8).f0, (rd_T62 l0 x2_8).f1, (rd_T62 l0 x2_8).f2⟩ : S62)] : List S62) [[]] [] 3 [.tmp 29] rfl rfl rfl rfl rfl rfl rfl rfl rfl rfl rfl rfl rfl dq rfl fun A30_7 c30_7 => ?_))))))))
   revert H; refine ggI ?_; intro g8 H
   exact so rfl (op_app (k := k62) (s := 3) (by_ := 24) 0 3 rfl rfl rfl rfl (ap1 g8 dq) (ap1n g8 dq) (.inl rfl) true (fun _ => .inl rfl) rfl rfl fun A31_9 c31_9 => (nmE (en := [.sl 2 k62 Ax2_7 cx2_7 x2_7 2 true, .sl 0 k62 Al0 cl0 l0 0 false, .sl 2 k62 A30_7 c30_7 ([(⟨(rd_T62 l0 x2_8).f0, (rd_T62 l0 x2_8).f1, (rd_T62 l0 x2_8).f2⟩ : S62)] : List S62) 3 true, .sl 2 k62 A31_9 c31_9 (x2_6 ++ ([(⟨(rd_T62 l0 x2_8).f0, (rd_T62 l0 x2_8).f1, (rd_T62 l0 x2_8).f2⟩ : S62)] : List S62)) 1 true]) (by kernel_rfl) (sv (EV.as rfl) rfl (re (pr [0, 1, 6, 7, 8] [] [0, 1, 3] rfl rfl rfl rfl (ge (rg (sv (EV.mv rfl) rfl (sv (EV.add rfl rfl) rfl (sv (EV.as rfl) rfl (re (wk [0, 1, 6, 7, 8] [] [⟨2, 2, 1, true⟩, ⟨0, 2, 2, true⟩, ⟨1, 0, 0, false⟩] (ih0 _ (by omega) _ ⟨x2_1, x2_6 ++ ([(⟨(rd_T62 l0 x2_8).f0, (rd_T62 l0 x2_8).f1, (rd_T62 l0 x2_8).f2⟩ : S62)] : List S62), A31_9, c31_9, x2_7, Ax2_7, cx2_7, wrap64 (x2_8 + 1), H, rfl⟩)))))))))))))
  ·
   refine gf rfl (dF c6) (rg (sv (EV.mv rfl) rfl (sv (EV.mv rfl) rfl (sv (EV.mv rfl) rfl (sv (EV.ix 2 rfl rfl rfl g4 c3 rfl) rfl (sv (EV.le (v := .agg #[.int .i64 ((rd_T62 l0 x2_8).f0), .int .i64 ((rd_T62 l0 x2_8).f1), .int .i64 ((rd_T62 l0 x2_8).f2)]) x2_8 0 (some 3) 2 z62 rfl rfl rfl g4 c3 rfl rfl rfl) rfl (so rfl (op_lit (s := 3) (by_ := 24) k62 ([(⟨(rd_T62 l0 x2_8).f0, (rd_T62 l0 x2_8).f1, (rd_T62 l0 x2_8).f2⟩ : S62)] : List S62) [[]] [] 3 [.tmp 36] rfl rfl rfl rfl rfl rfl rfl rfl rfl rfl rfl rfl rfl dq rfl fun A37_10 c37_10 => ?_))))))))
   revert H; refine ggI ?_; intro g11 H
   exact so rfl (op_app (k := k62) (s := 3) (by_ := 24) 1 3 rfl rfl rfl rfl (ap1 g11 dq) (ap1n g11 dq) (.inl rfl) true (fun _ => .inl rfl) rfl rfl fun A38_12 c38_12 => (nmE (en := [.sl 2 k62 Ax2_6 cx2_6 x2_6 1 true, .sl 0 k62 Al0 cl0 l0 0 false, .sl 2 k62 A37_10 c37_10 ([(⟨(rd_T62 l0 x2_8).f0, (rd_T62 l0 x2_8).f1, (rd_T62 l0 x2_8).f2⟩ : S62)] : List S62) 3 true, .sl 2 k62 A38_12 c38_12 (x2_7 ++ ([(⟨(rd_T62 l0 x2_8).f0, (rd_T62 l0 x2_8).f1, (rd_T62 l0 x2_8).f2⟩ : S62)] : List S62)) 2 true]) (by kernel_rfl) (sv (EV.as rfl) rfl (re (pr [0, 1, 6, 7, 8] [] [0, 1, 3] rfl rfl rfl rfl (ge (rg (sv (EV.mv rfl) rfl (sv (EV.add rfl rfl) rfl (sv (EV.as rfl) rfl (re (wk [0, 1, 6, 7, 8] [] [⟨0, 2, 1, true⟩, ⟨2, 2, 2, true⟩, ⟨1, 0, 0, false⟩] (ih0 _ (by omega) _ ⟨x2_1, x2_6, Ax2_6, cx2_6, x2_7 ++ ([(⟨(rd_T62 l0 x2_8).f0, (rd_T62 l0 x2_8).f1, (rd_T62 l0 x2_8).f2⟩ : S62)] : List S62), A38_12, c38_12, wrap64 (x2_8 + 1), H, rfl⟩)))))))))))))
 ·
  refine gf rfl (dF c3) (gx rfl (gs (rg (sv (EV.mv rfl) rfl (sv (EV.mv rfl) rfl (sv (EV.as rfl) rfl (sv (EV.as rfl) rfl (re (pr [4, 5] [] [0, 1] rfl rfl rfl rfl ?_)))))))))
  cases H
  exact rt Try.func75 rfl (.tmp rfl (.tmp rfl .nil)) rfl [] [⟨0, 2, 1, true⟩, ⟨1, 2, 2, true⟩] rfl rfl rfl rfl rfl ⟨_, _, _, _, rfl, rfl, rfl⟩
end Go.Proofs.Ythciieopabndcaa.K
namespace Go.Proofs.Ythciieopabndcaa.K
open Go Go.RowKit
set_option linter.unusedVariables false
set_option linter.unusedSimpArgs false
def spec_PartitionTask.l0 : Nat → Int → Int → Int → Int → (List S62) → (List S62) → (List Bool) → Int → Int → (List S62) → (List S62) → (List Bool) → Int → Int → (List S62) → (List S62) → (List Bool) → Int → Int → (List S62) → (List S62) → (List Bool) → Int → (List S62) → (List S62) → (List Bool) → Option (Int × (List S62) × (List S62) × (List Bool) × Int × Int × (List S62) × (List S62) × (List Bool) × Int × Bool)
 | 0, _, _, _, _, _, _, _, _, _, _, _, _, _, _, _, _, _, _, _, _, _, _, _, _, _, _ => none
 | k + 1, x2_7, x2_1_0, x2_1_4, x2_2_0, x2_2_1, x2_2_2, x2_2_3, x2_2_4, x2_3_0, x2_3_1, x2_3_2, x2_3_3, x2_3_4, x2_5_0, x2_5_1, x2_5_2, x2_5_3, x2_5_4, x2_6_0, x2_6_1, x2_6_2, x2_6_3, x2_6_4, l0_1, l0_2, l0_3 => if x2_7 < (l0_1.length : Int) then (if 0 ≤ x2_7 then ((spec_HashBit.f ((rd_T62 l0_1 x2_7).f0) x2_1_4).bind fun t7 => (if t7 = 0 then (if x2_5_1.length < 5864062014805 then (if x2_7 < (l0_3.length : Int) then (if x2_5_3.length < 140737488355328 then (spec_PartitionTask.l0 k (wrap64 (x2_7 + 1)) x2_1_0 x2_1_4 x2_2_0 x2_2_1 x2_2_2 x2_2_3 x2_2_4 x2_3_0 x2_3_1 x2_3_2 x2_3_3 x2_3_4 x2_5_0 (x2_5_1 ++ ([(⟨(rd_T62 l0_1 x2_7).f0, (rd_T62 l0_1 x2_7).f1, (rd_T62 l0_1 x2_7).f2⟩ : S62)] : List S62)) x2_5_2 (x2_5_3 ++ ([rdOf false l0_3 x2_7] : List Bool)) x2_5_4 x2_6_0 x2_6_1 x2_6_2 x2_6_3 x2_6_4 l0_1 l0_2 l0_3) else none) else none) else none) else (if x2_6_1.length < 5864062014805 then (if x2_7 < (l0_3.length : Int) then (if x2_6_3.length < 140737488355328 then (spec_PartitionTask.l0 k (wrap64 (x2_7 + 1)) x2_1_0 x2_1_4 x2_2_0 x2_2_1 x2_2_2 x2_2_3 x2_2_4 x2_3_0 x2_3_1 x2_3_2 x2_3_3 x2_3_4 x2_5_0 x2_5_1 x2_5_2 x2_5_3 x2_5_4 x2_6_0 (x2_6_1 ++ ([(⟨(rd_T62 l0_1 x2_7).f0, (rd_T62 l0_1 x2_7).f1, (rd_T62 l0_1 x2_7).f2⟩ : S62)] : List S62)) x2_6_2 (x2_6_3 ++ ([rdOf false l0_3 x2_7] : List Bool)) x2_6_4 l0_1 l0_2 l0_3) else none) else none) else none))) else none) else (some (x2_5_0, x2_5_1, x2_5_2, x2_5_3, x2_5_4, x2_6_0, x2_6_1, x2_6_2, x2_6_3, x2_6_4, true))
def spec_PartitionTask.f (k : Nat) (a0_0 : Int) (l0_1 : List S62) (l0_2 : List S62) (l0_3 : List Bool) (a0_4 : Int) : Option (Int × (List S62) × (List S62) × (List Bool) × Int × Int × (List S62) × (List S62) × (List Bool) × Int × Bool) := (spec_IsValidTask.f k a0_0 l0_1 l0_2 l0_3 a0_4).bind fun t1 => (if t1 = true then (if a0_4 = 4 then (some (0, [], [], [], 0, 0, [], [], [], 0, false)) else ((spec_SplitByHashBit.f k l0_2 a0_4).bind fun bt4 => (spec_PartitionTask.l0 k 0 a0_0 a0_4 0 [] [] [] 0 0 [] [] [] 0 a0_0 [] bt4.1 [] (wrap64 (a0_4 + 1)) a0_0 [] bt4.2 [] (wrap64 (a0_4 + 1)) l0_1 l0_2 l0_3))) else (some (0, [], [], [], 0, 0, [], [], [], 0, false)))
set_option maxHeartbeats 4000000 in
set_option maxRecDepth 100000 in
theorem spec_PartitionTask.ok (k : Nat) (a0_0 : Int) (l0_1 : List S62) (Al0_1 : Option Addr) (cl0_1 : Nat) (l0_2 : List S62) (Al0_2 : Option Addr) (cl0_2 : Nat) (l0_3 : List Bool) (Al0_3 : Option Addr) (cl0_3 : Nat) (a0_4 : Int) (r0 : Int) (r1 : List S62) (r2 : List S62) (r3 : List Bool) (r4 : Int) (r5 : Int) (r6 : List S62) (r7 : List S62) (r8 : List Bool) (r9 : Int) (r10 : Bool) (H : spec_PartitionTask.f k a0_0 l0_1 l0_2 l0_3 a0_4 = some (r0, r1, r2, r3, r4, r5, r6, r7, r8, r9, r10)) : Fn Try.prog 44 [.agg #[.int .i64 a0_0, .slice Al0_1 l0_1.length cl0_1, .slice Al0_2 l0_2.length cl0_2, .slice Al0_3 l0_3.length cl0_3, .int .i64 a0_4]] [] [.sl 0 k62 Al0_1 cl0_1 l0_1 0 false, .sl 0 k62 Al0_2 cl0_2 l0_2 0 false, .sl 0 .bool Al0_3 cl0_3 l0_3 0 false] (fun v bx en => ∃ A1 c1 A2 c2 A3 c3 A6 c6 A7 c7 A8 c8, v = .tuple #[.agg #[.int .i64 r0, .slice A1 r1.length c1, .slice A2 r2.length c2, .slice A3 r3.length c3, .int .i64 r4], .agg #[.int .i64 r5, .slice A6 r6.length c6, .slice A7 r7.length c7, .slice A8 r8.length c8, .int .i64 r9], .bool r10] ∧ bx = [] ∧ en = [.sl 2 k62 A1 c1 r1 1 true, .sl 2 k62 A2 c2 r2 2 true, .sl 2 .bool A3 c3 r3 3 true, .sl 2 k62 A6 c6 r6 4 true, .sl 2 k62 A7 c7 r7 5 true, .sl 2 .bool A8 c8 r8 6 true]) := by
 refine fn_ 99 Try.func44 rfl rfl rfl (fun base T w0 => ?_)
 rw [spec_PartitionTask.f] at H
 refine gs (rg (so rfl (op_box (cs := [.int .i64 a0_0, .slice Al0_1 l0_1.length cl0_1, .slice Al0_2 l0_2.length cl0_2, .slice Al0_3 l0_3.length cl0_3, .int .i64 a0_4]) rfl rfl rfl fun b1 => (so rfl (op_alloc (cs := [.int .i64 0, .slice none 0 0, .slice none 0 0, .slice none 0 0, .int .i64 0]) (by kernel_rfl) rfl fun b2 => (so rfl (op_alloc (cs := [.int .i64 0, .slice none 0 0, .slice none 0 0, .slice none 0 0, .int .i64 0]) (by kernel_rfl) rfl fun b3 => (sv (EV.as rfl) rfl (re (gs (gs (rg (sv (EV.ld (v := .agg #[.int .i64 a0_0, .slice Al0_1 l0_1.length cl0_1, .slice Al0_2 l0_2.length cl0_2, .slice Al0_3 l0_3.length cl0_3, .int .i64 a0_4]) 0 (some 5) rfl rfl rfl) rfl ?_)))))))))))))
 revert H; refine bdI ?_; rintro t1 A1 H
 refine so rfl (op_call (spec_IsValidTask.ok k a0_0 l0_1 Al0_1 cl0_1 l0_2 Al0_2 cl0_2 l0_3 Al0_3 cl0_3 a0_4 _ A1) [⟨0, 0, 0, false⟩, ⟨1, 0, 0, false⟩, ⟨2, 0, 0, false⟩] 1 rfl rfl rfl rfl rfl ?_)
 rintro _ _ _ ⟨rfl, rfl, rfl⟩
 refine sv (EV.nt rfl) rfl (sv (EV.mv rfl) rfl ?_)
 revert H; refine ifsI ?_ ?_ <;> intro c2 H
 ·
  subst c2
  refine ts 11 rfl rfl (sv (EV.fa 4 rfl) rfl (sv (EV.ld 0 none rfl rfl rfl) rfl (sv (EV.eql rfl rfl) rfl (sv (EV.pf rfl rfl rfl) rfl (re (pr [1, 2, 3, 15] [0, 1, 2] [0, 1, 2] rfl rfl rfl rfl ?_))))))
  revert H; refine ifsI ?_ ?_ <;> intro c3 H
  ·
   refine gt rfl (dT c3) (gs (rg (sv (EV.bd (v := .agg #[.int .i64 0, .slice none 0 0, .slice none 0 0, .slice none 0 0, .int .i64 0]) rfl (by kernel_rfl)) rfl (sv (EV.bd (v := .agg #[.int .i64 0, .slice none 0 0, .slice none 0 0, .slice none 0 0, .int .i64 0]) rfl (by kernel_rfl)) rfl (so rfl (op_st (cs' := [.int .i64 0, .slice none 0 0, .slice none 0 0, .slice none 0 0, .int .i64 0]) 1 rfl rfl rfl rfl rfl rfl (so rfl (op_st (cs' := [.int .i64 0, .slice none 0 0, .slice none 0 0, .slice none 0 0, .int .i64 0]) 2 rfl rfl rfl rfl rfl rfl (sv (EV.as rfl) rfl (re (nil_ k62 1 dq (nil_ k62 2 dq (nil_ .bool 3 dq (nil_ k62 4 dq (nil_ k62 5 dq (nil_ .bool 6 dq ?_))))))))))))))))
   cases H
   exact rt Try.func44 rfl (.cell 1 (some 5) rfl rfl rfl (.cell 2 (some 5) rfl rfl rfl (.tmp rfl .nil))) rfl [] [⟨3, 2, 1, true⟩, ⟨4, 2, 2, true⟩, ⟨5, 2, 3, true⟩, ⟨6, 2, 4, true⟩, ⟨7, 2, 5, true⟩, ⟨8, 2, 6, true⟩] rfl rfl rfl rfl rfl ⟨_, _, _, _, _, _, _, _, _, _, _, _, rfl, rfl, rfl⟩
  ·
   refine gf rfl (dF c3) (gk (gs (rg (sv (EV.fa 0 rfl) rfl (sv (EV.ld 0 none rfl rfl rfl) rfl (sv (EV.fa 4 rfl) rfl (sv (EV.ld 0 none rfl rfl rfl) rfl (sv (EV.add rfl rfl) rfl (sv (EV.bd (v := .agg #[.int .i64 a0_0, .slice none 0 0, .slice none 0 0, .slice none 0 0, .int .i64 (wrap64 (a0_4 + 1))]) rfl (by kernel_rfl)) rfl (so rfl (op_alloc (cs := [.int .i64 0, .slice none 0 0, .slice none 0 0, .slice none 0 0, .int .i64 0]) (by kernel_rfl) rfl fun b5 => (so rfl (op_st (cs' := [.int .i64 a0_0, .slice none 0 0, .slice none 0 0, .slice none 0 0, .int .i64 (wrap64 (a0_4 + 1))]) 3 rfl rfl rfl rfl rfl rfl (re (pr [1, 2, 3, 5] [0, 1, 2, 3] [0, 1, 2] rfl rfl rfl rfl (gs (rg (sv (EV.fa 0 rfl) rfl (sv (EV.ld 0 none rfl rfl rfl) rfl (sv (EV.fa 4 rfl) rfl (sv (EV.ld 0 none rfl rfl rfl) rfl (sv (EV.add rfl rfl) rfl (sv (EV.bd (v := .agg #[.int .i64 a0_0, .slice none 0 0, .slice none 0 0, .slice none 0 0, .int .i64 (wrap64 (a0_4 + 1))]) rfl (by kernel_rfl)) rfl (so rfl (op_alloc (cs := [.int .i64 0, .slice none 0 0, .slice none 0 0, .slice none 0 0, .int .i64 0]) (by kernel_rfl) rfl fun b6 => (so rfl (op_st (cs' := [.int .i64 a0_0, .slice none 0 0, .slice none 0 0, .slice none 0 0, .int .i64 (wrap64 (a0_4 + 1))]) 4 rfl rfl rfl rfl rfl rfl (re (pr [1, 2, 3, 5, 6] [0, 1, 2, 3, 4] [0, 1, 2] rfl rfl rfl rfl ?_)))))))))))))))))))))))))))))
   refine gs (rg (sv (EV.fa 2 rfl) rfl (sv (EV.ld 0 none rfl rfl rfl) rfl (sv (EV.fa 4 rfl) rfl (sv (EV.ld 0 none rfl rfl rfl) rfl ?_)))))
   revert H; refine bdI ?_; rintro ⟨t4_0, t4_1⟩ A4 H
   refine so rfl (op_call (spec_SplitByHashBit.ok k l0_2 Al0_2 cl0_2 a0_4 _ _ A4) [⟨1, 0, 0, false⟩] 1 rfl rfl rfl rfl rfl ?_)
   rintro _ _ _ ⟨At4_0, ct4_0, At4_1, ct4_1, rfl, rfl, rfl⟩
   refine sv (EV.mv rfl) rfl (sv (EV.ex rfl rfl) rfl (sv (EV.ex rfl rfl) rfl (sv (EV.fa 2 rfl) rfl (so rfl (op_st (cs' := [.int .i64 a0_0, .slice none 0 0, .slice At4_0 t4_0.length ct4_0, .slice none 0 0, .int .i64 (wrap64 (a0_4 + 1))]) 3 rfl rfl rfl rfl rfl rfl (sv (EV.fa 2 rfl) rfl (so rfl (op_st (cs' := [.int .i64 a0_0, .slice none 0 0, .slice At4_1 t4_1.length ct4_1, .slice none 0 0, .int .i64 (wrap64 (a0_4 + 1))]) 4 rfl rfl rfl rfl rfl rfl (re (pr [1, 2, 3, 5, 6] [0, 1, 2, 3, 4] [0, 1, 2, 3, 4] rfl rfl rfl rfl (gs (gs (rg (sv (EV.as rfl) rfl (re (gb (nil_ k62 4 dq (nil_ k62 5 dq (nil_ .bool 6 dq (nil_ k62 7 dq (nil_ k62 8 dq (nil_ .bool 9 dq (nil_ k62 10 dq (nil_ .bool 11 dq (nil_ k62 12 dq (nil_ .bool 13 dq ?_))))))))))))))))))))))))))
   refine lo (fun kk S => ∃ (x2_7 : Int) (x2_1_0 : Int) (x2_1_4 : Int) (x2_2_0 : Int) (x2_2_1 : List S62) (Ax2_2_1 : Option Addr) (cx2_2_1 : Nat) (x2_2_2 : List S62) (Ax2_2_2 : Option Addr) (cx2_2_2 : Nat) (x2_2_3 : List Bool) (Ax2_2_3 : Option Addr) (cx2_2_3 : Nat) (x2_2_4 : Int) (x2_3_0 : Int) (x2_3_1 : List S62) (Ax2_3_1 : Option Addr) (cx2_3_1 : Nat) (x2_3_2 : List S62) (Ax2_3_2 : Option Addr) (cx2_3_2 : Nat) (x2_3_3 : List Bool) (Ax2_3_3 : Option Addr) (cx2_3_3 : Nat) (x2_3_4 : Int) (x2_5_0 : Int) (x2_5_1 : List S62) (Ax2_5_1 : Option Addr) (cx2_5_1 : Nat) (x2_5_2 : List S62) (Ax2_5_2 : Option Addr) (cx2_5_2 : Nat) (x2_5_3 : List Bool) (Ax2_5_3 : Option Addr) (cx2_5_3 : Nat) (x2_5_4 : Int) (x2_6_0 : Int) (x2_6_1 : List S62) (Ax2_6_1 : Option Addr) (cx2_6_1 : Nat) (x2_6_2 : List S62) (Ax2_6_2 : Option Addr) (cx2_6_2 : Nat) (x2_6_3 : List Bool) (Ax2_6_3 : Option Addr) (cx2_6_3 : Nat) (x2_6_4 : Int), spec_PartitionTask.l0 kk x2_7 x2_1_0 x2_1_4 x2_2_0 x2_2_1 x2_2_2 x2_2_3 x2_2_4 x2_3_0 x2_3_1 x2_3_2 x2_3_3 x2_3_4 x2_5_0 x2_5_1 x2_5_2 x2_5_3 x2_5_4 x2_6_0 x2_6_1 x2_6_2 x2_6_3 x2_6_4 l0_1 l0_2 l0_3 = some (r0, r1, r2, r3, r4, r5, r6, r7, r8, r9, r10) ∧ S = ⟨[(1, .pointer (some ⟨b1, 0, none⟩)), (2, .pointer (some ⟨b2, 0, none⟩)), (3, .pointer (some ⟨b3, 0, none⟩)), (5, .pointer (some ⟨b5, 0, none⟩)), (6, .pointer (some ⟨b6, 0, none⟩)), (7, .int .i64 x2_7)], [⟨b1, 37, [.int .i64 x2_1_0, .slice Al0_1 l0_1.length cl0_1, .slice Al0_2 l0_2.length cl0_2, .slice Al0_3 l0_3.length cl0_3, .int .i64 x2_1_4]⟩, ⟨b2, 37, [.int .i64 x2_2_0, .slice Ax2_2_1 x2_2_1.length cx2_2_1, .slice Ax2_2_2 x2_2_2.length cx2_2_2, .slice Ax2_2_3 x2_2_3.length cx2_2_3, .int .i64 x2_2_4]⟩, ⟨b3, 37, [.int .i64 x2_3_0, .slice Ax2_3_1 x2_3_1.length cx2_3_1, .slice Ax2_3_2 x2_3_2.length cx2_3_2, .slice Ax2_3_3 x2_3_3.length cx2_3_3, .int .i64 x2_3_4]⟩, ⟨b5, 37, [.int .i64 x2_5_0, .slice Ax2_5_1 x2_5_1.length cx2_5_1, .slice Ax2_5_2 x2_5_2.length cx2_5_2, .slice Ax2_5_3 x2_5_3.length cx2_5_3, .int .i64 x2_5_4]⟩, ⟨b6, 37, [.int .i64 x2_6_0, .slice Ax2_6_1 x2_6_1.length cx2_6_1, .slice Ax2_6_2 x2_6_2.length cx2_6_2, .slice Ax2_6_3 x2_6_3.length cx2_6_3, .int .i64 x2_6_4]⟩], [.sl 2 k62 Ax2_2_1 cx2_2_1 x2_2_1 1 true, .sl 2 k62 Ax2_2_2 cx2_2_2 x2_2_2 2 true, .sl 2 .bool Ax2_2_3 cx2_2_3 x2_2_3 3 true, .sl 2 k62 Ax2_3_1 cx2_3_1 x2_3_1 4 true, .sl 2 k62 Ax2_3_2 cx2_3_2 x2_3_2 5 true, .sl 2 .bool Ax2_3_3 cx2_3_3 x2_3_3 6 true, .sl 2 k62 Ax2_5_1 cx2_5_1 x2_5_1 7 true, .sl 2 k62 Ax2_5_2 cx2_5_2 x2_5_2 8 true, .sl 2 .bool Ax2_5_3 cx2_5_3 x2_5_3 9 true, .sl 2 k62 Ax2_6_1 cx2_6_1 x2_6_1 10 true, .sl 2 k62 Ax2_6_2 cx2_6_2 x2_6_2 11 true, .sl 2 .bool Ax2_6_3 cx2_6_3 x2_6_3 12 true, .sl 0 k62 Al0_1 cl0_1 l0_1 0 false, .sl 0 k62 Al0_2 cl0_2 l0_2 0 false, .sl 0 .bool Al0_3 cl0_3 l0_3 0 false]⟩) (fun S hS => ?_) (fun n0 ih0 S hS => ?_) ⟨0, a0_0, a0_4, 0, [], none, 0, [], none, 0, [], none, 0, 0, 0, [], none, 0, [], none, 0, [], none, 0, 0, a0_0, [], none, 0, t4_0, At4_0, ct4_0, [], none, 0, wrap64 (a0_4 + 1), a0_0, [], none, 0, t4_1, At4_1, ct4_1, [], none, 0, wrap64 (a0_4 + 1), H, rfl⟩ (fun h => wk [1, 2, 3, 5, 6, 7] [0, 1, 2, 3, 4] [⟨5, 2, 1, true⟩, ⟨6, 2, 2, true⟩, ⟨7, 2, 3, true⟩, ⟨8, 2, 4, true⟩, ⟨9, 2, 5, true⟩, ⟨10, 2, 6, true⟩, ⟨11, 2, 7, true⟩, ⟨3, 2, 8, true⟩, ⟨12, 2, 9, true⟩, ⟨13, 2, 10, true⟩, ⟨4, 2, 11, true⟩, ⟨14, 2, 12, true⟩, ⟨0, 0, 0, false⟩, ⟨1, 0, 0, false⟩, ⟨2, 0, 0, false⟩] h)
   · clear H; obtain ⟨_, _, _, _, _, _, _, _, _, _, _, _, _, _, _, _, _, _, _, _, _, _, _, _, _, _, _, _, _, _, _, _, _, _, _, _, _, _, _, _, _, _, _, _, _, _, _, H, _⟩ := hS; rw [spec_PartitionTask.l0] at H; cases H
   clear H
   obtain ⟨x2_7, x2_1_0, x2_1_4, x2_2_0, x2_2_1, Ax2_2_1, cx2_2_1, x2_2_2, Ax2_2_2, cx2_2_2, x2_2_3, Ax2_2_3, cx2_2_3, x2_2_4, x2_3_0, x2_3_1, Ax2_3_1, cx2_3_1, x2_3_2, Ax2_3_2, cx2_3_2, x2_3_3, Ax2_3_3, cx2_3_3, x2_3_4, x2_5_0, x2_5_1, Ax2_5_1, cx2_5_1, x2_5_2, Ax2_5_2, cx2_5_2, x2_5_3, Ax2_5_3, cx2_5_3, x2_5_4, x2_6_0, x2_6_1, Ax2_6_1, cx2_6_1, x2_6_2, Ax2_6_2, cx2_6_2, x2_6_3, Ax2_6_3, cx2_6_3, x2_6_4, H, rfl⟩ := hS
   rw [spec_PartitionTask.l0] at H
   refine gs (gs (rg (sv (EV.mv rfl) rfl (sv (EV.fa 1 rfl) rfl (sv (EV.ld 0 none rfl rfl rfl) rfl (sv (EV.ln rfl) rfl (sv (EV.lss rfl rfl) rfl (re ?_))))))))
   revert H; refine ifsI ?_ ?_ <;> intro c5 H
   ·
    refine gt rfl (dT c5) (gk (gs (gb (gs ?_))))
    revert H; refine ggI ?_; intro g6 H
    refine dr [0, 1, 2, 3, 4] [0, 1, 2, 3, 4, 5, 6, 7, 8, 9, 10, 11, 12, 13, 14] [] 10 rfl rfl rfl rfl (xv 0 [0, 1, 2, 3, 4] [0, 1, 2, 3, 4, 5, 6, 7, 8, 9, 10, 11, 12, 13, 14] rfl (EV.fa 1 rfl) rfl rfl rfl rfl (xv 1 [0, 1, 2, 3, 4] [0, 1, 2, 3, 4, 5, 6, 7, 8, 9, 10, 11, 12, 13, 14] rfl (EV.ld 0 none rfl rfl rfl) rfl rfl rfl rfl (xv 2 [0, 1, 2, 3, 4] [0, 1, 2, 3, 4, 5, 6, 7, 8, 9, 10, 11, 12, 13, 14] rfl (EV.mv rfl) rfl rfl rfl rfl (xv 3 [0, 1, 2, 3, 4] [0, 1, 2, 3, 4, 5, 6, 7, 8, 9, 10, 11, 12, 13, 14] rfl (EV.ix 12 rfl rfl rfl g6 c5 rfl) rfl rfl rfl rfl (xv 4 [0, 1, 2, 3, 4] [0, 1, 2, 3, 4, 5, 6, 7, 8, 9, 10, 11, 12, 13, 14] rfl (EV.fa 0 rfl) rfl rfl rfl rfl (xv 5 [0, 1, 2, 3, 4] [0, 1, 2, 3, 4, 5, 6, 7, 8, 9, 10, 11, 12, 13, 14] rfl (EV.le (v := .int .i64 ((rd_T62 l0_1 x2_7).f0)) x2_7 0 none 12 z62 rfl rfl rfl g6 c5 rfl rfl rfl) rfl rfl rfl rfl (xv 6 [0, 1, 2, 3, 4] [0, 1, 2, 3, 4, 5, 6, 7, 8, 9, 10, 11, 12, 13, 14] rfl (EV.fa 4 rfl) rfl rfl rfl rfl (xv 7 [0, 1, 2, 3, 4] [0, 1, 2, 3, 4, 5, 6, 7, 8, 9, 10, 11, 12, 13, 14] rfl (EV.ld 0 none rfl rfl rfl) rfl rfl rfl rfl (one1 8 rfl rfl ?_)))))))))
    revert H; refine bdI ?_; rintro t7 A7 H
    refine op_call (spec_HashBit.ok ((rd_T62 l0_1 x2_7).f0) x2_1_4 _ A7) [] 13 rfl rfl rfl rfl rfl ?_
    rintro _ _ _ ⟨rfl, rfl, rfl⟩
    refine xs [0, 1, 2, 3, 4] [0, 1, 2, 3, 4, 5, 6, 7, 8, 9, 10, 11, 12, 13, 14] rfl rfl rfl (xv 9 [0, 1, 2, 3, 4] [0, 1, 2, 3, 4, 5, 6, 7, 8, 9, 10, 11, 12, 13, 14] rfl (EV.eql rfl rfl) rfl rfl rfl rfl (xd (pr [1, 2, 3, 5, 6, 7, 56] [0, 1, 2, 3, 4] [0, 1, 2, 3, 4, 5, 6, 7, 8, 9, 10, 11, 12, 13, 14] rfl rfl rfl rfl ?_)))
    revert H; refine ifsI ?_ ?_ <;> intro c8 H
    ·
     refine gt rfl (dT c8) (gs ?_)
     revert H; refine ggI ?_; intro g9 H
     refine dr [0, 1, 2, 3, 4] [0, 1, 2, 3, 4, 5, 7, 8, 9, 10, 11, 12, 13, 14] [9, 10] 11 rfl rfl rfl rfl (xv 0 [0, 1, 2, 3, 4] [0, 1, 2, 3, 4, 5, 7, 8, 9, 10, 11, 12, 13, 14] rfl (EV.fa 1 rfl) rfl rfl rfl rfl (xv 1 [0, 1, 2, 3, 4] [0, 1, 2, 3, 4, 5, 7, 8, 9, 10, 11, 12, 13, 14] rfl (EV.ld 3 none rfl rfl rfl) rfl rfl rfl rfl (xv 2 [0, 1, 2, 3, 4] [0, 1, 2, 3, 4, 5, 7, 8, 9, 10, 11, 12, 13, 14] rfl (EV.fa 1 rfl) rfl rfl rfl rfl (xv 3 [0, 1, 2, 3, 4] [0, 1, 2, 3, 4, 5, 7, 8, 9, 10, 11, 12, 13, 14] rfl (EV.ld 0 none rfl rfl rfl) rfl rfl rfl rfl (xv 4 [0, 1, 2, 3, 4] [0, 1, 2, 3, 4, 5, 7, 8, 9, 10, 11, 12, 13, 14] rfl (EV.mv rfl) rfl rfl rfl rfl (xv 5 [0, 1, 2, 3, 4] [0, 1, 2, 3, 4, 5, 7, 8, 9, 10, 11, 12, 13, 14] rfl (EV.ix 11 rfl rfl rfl g6 c5 rfl) rfl rfl rfl rfl (xv 6 [0, 1, 2, 3, 4] [0, 1, 2, 3, 4, 5, 7, 8, 9, 10, 11, 12, 13, 14] rfl (EV.le (v := .agg #[.int .i64 ((rd_T62 l0_1 x2_7).f0), .int .i64 ((rd_T62 l0_1 x2_7).f1), .int .i64 ((rd_T62 l0_1 x2_7).f2)]) x2_7 0 (some 3) 11 z62 rfl rfl rfl g6 c5 rfl rfl rfl) rfl rfl rfl rfl (one1 7 rfl rfl (op_lit (s := 3) (by_ := 24) k62 ([(⟨(rd_T62 l0_1 x2_7).f0, (rd_T62 l0_1 x2_7).f1, (rd_T62 l0_1 x2_7).f2⟩ : S62)] : List S62) [[]] [] 13 [.tmp 63] rfl rfl rfl rfl rfl rfl rfl rfl rfl rfl rfl rfl rfl dq rfl fun A64_10 c64_10 => (xs [0, 1, 2, 3, 4] [0, 1, 2, 3, 4, 5, 7, 8, 9, 10, 11, 12, 13, 14] rfl rfl rfl (one1 8 rfl rfl (op_app (k := k62) (s := 3) (by_ := 24) 6 15 rfl rfl rfl rfl (ap1 g9 dq) (ap1n g9 dq) (.inl rfl) true (fun _ => .inl rfl) rfl rfl fun A65_11 c65_11 => (nmE (en := [.sl 2 k62 Ax2_2_1 cx2_2_1 x2_2_1 1 true, .sl 2 k62 Ax2_2_2 cx2_2_2 x2_2_2 2 true, .sl 2 .bool Ax2_2_3 cx2_2_3 x2_2_3 3 true, .sl 2 k62 Ax2_3_1 cx2_3_1 x2_3_1 4 true, .sl 2 k62 Ax2_3_2 cx2_3_2 x2_3_2 5 true, .sl 2 .bool Ax2_3_3 cx2_3_3 x2_3_3 6 true, .sl 2 k62 Ax2_5_2 cx2_5_2 x2_5_2 8 true, .sl 2 .bool Ax2_5_3 cx2_5_3 x2_5_3 9 true, .sl 2 k62 Ax2_6_1 cx2_6_1 x2_6_1 10 true, .sl 2 k62 Ax2_6_2 cx2_6_2 x2_6_2 11 true, .sl 2 .bool Ax2_6_3 cx2_6_3 x2_6_3 12 true, .sl 0 k62 Al0_1 cl0_1 l0_1 0 false, .sl 0 k62 Al0_2 cl0_2 l0_2 0 false, .sl 0 .bool Al0_3 cl0_3 l0_3 0 false, .sl 2 k62 A64_10 c64_10 ([(⟨(rd_T62 l0_1 x2_7).f0, (rd_T62 l0_1 x2_7).f1, (rd_T62 l0_1 x2_7).f2⟩ : S62)] : List S62) 13 true, .sl 2 k62 A65_11 c65_11 (x2_5_1 ++ ([(⟨(rd_T62 l0_1 x2_7).f0, (rd_T62 l0_1 x2_7).f1, (rd_T62 l0_1 x2_7).f2⟩ : S62)] : List S62)) 7 true]) (by kernel_rfl) (xs [0, 1, 2, 3, 4] [0, 1, 2, 3, 4, 5, 6, 7, 8, 9, 10, 11, 12, 13] rfl rfl rfl (one1 9 rfl rfl (ov (EV.fa 1 rfl) rfl (xn rfl (one1 10 rfl rfl (op_st (cs' := [.int .i64 x2_5_0, .slice A65_11 (x2_5_1 ++ ([(⟨(rd_T62 l0_1 x2_7).f0, (rd_T62 l0_1 x2_7).f1, (rd_T62 l0_1 x2_7).f2⟩ : S62)] : List S62)).length c65_11, .slice Ax2_5_2 x2_5_2.length cx2_5_2, .slice Ax2_5_3 x2_5_3.length cx2_5_3, .int .i64 x2_5_4]) 3 rfl rfl rfl rfl rfl rfl (xn rfl (xd (pr [1, 2, 3, 5, 6, 7] [0, 1, 2, 3, 4] [0, 1, 2, 3, 4, 5, 6, 7, 8, 9, 10, 11, 12, 13, 15] rfl rfl rfl rfl ?_))))))))))))))))))))))
     revert H; refine ggI ?_; intro g12 H
     revert H; refine ggI ?_; intro g13 H
     exact dr [0, 1, 2, 3, 4] [0, 1, 2, 3, 4, 5, 6, 8, 9, 10, 11, 12, 13, 14] [9, 10] 11 rfl rfl rfl rfl (xv 0 [0, 1, 2, 3, 4] [0, 1, 2, 3, 4, 5, 6, 8, 9, 10, 11, 12, 13, 14] rfl (EV.fa 3 rfl) rfl rfl rfl rfl (xv 1 [0, 1, 2, 3, 4] [0, 1, 2, 3, 4, 5, 6, 8, 9, 10, 11, 12, 13, 14] rfl (EV.ld 3 none rfl rfl rfl) rfl rfl rfl rfl (xv 2 [0, 1, 2, 3, 4] [0, 1, 2, 3, 4, 5, 6, 8, 9, 10, 11, 12, 13, 14] rfl (EV.fa 3 rfl) rfl rfl rfl rfl (xv 3 [0, 1, 2, 3, 4] [0, 1, 2, 3, 4, 5, 6, 8, 9, 10, 11, 12, 13, 14] rfl (EV.ld 0 none rfl rfl rfl) rfl rfl rfl rfl (xv 4 [0, 1, 2, 3, 4] [0, 1, 2, 3, 4, 5, 6, 8, 9, 10, 11, 12, 13, 14] rfl (EV.mv rfl) rfl rfl rfl rfl (xv 5 [0, 1, 2, 3, 4] [0, 1, 2, 3, 4, 5, 6, 8, 9, 10, 11, 12, 13, 14] rfl (EV.ix 12 rfl rfl rfl g6 g12 rfl) rfl rfl rfl rfl (xv 6 [0, 1, 2, 3, 4] [0, 1, 2, 3, 4, 5, 6, 8, 9, 10, 11, 12, 13, 14] rfl (EV.le (v := .bool (rdOf false l0_3 x2_7)) x2_7 0 none 12 false rfl rfl rfl g6 g12 rfl rfl rfl) rfl rfl rfl rfl (one1 7 rfl rfl (op_lit (s := 1) (by_ := 1) .bool ([rdOf false l0_3 x2_7] : List Bool) [[]] [] 13 [.tmp 73] rfl rfl rfl rfl rfl rfl rfl rfl rfl rfl rfl rfl rfl dq rfl fun A74_14 c74_14 => (xs [0, 1, 2, 3, 4] [0, 1, 2, 3, 4, 5, 6, 8, 9, 10, 11, 12, 13, 14] rfl rfl rfl (one1 8 rfl rfl (op_app (k := .bool) (s := 1) (by_ := 1) 7 15 rfl rfl rfl rfl (ap1 g13 dq) (ap1n g13 dq) (.inl rfl) true (fun _ => .inl rfl) rfl rfl fun A75_15 c75_15 => (nmE (en := [.sl 2 k62 Ax2_2_1 cx2_2_1 x2_2_1 1 true, .sl 2 k62 Ax2_2_2 cx2_2_2 x2_2_2 2 true, .sl 2 .bool Ax2_2_3 cx2_2_3 x2_2_3 3 true, .sl 2 k62 Ax2_3_1 cx2_3_1 x2_3_1 4 true, .sl 2 k62 Ax2_3_2 cx2_3_2 x2_3_2 5 true, .sl 2 .bool Ax2_3_3 cx2_3_3 x2_3_3 6 true, .sl 2 k62 Ax2_5_2 cx2_5_2 x2_5_2 8 true, .sl 2 k62 Ax2_6_1 cx2_6_1 x2_6_1 10 true, .sl 2 k62 Ax2_6_2 cx2_6_2 x2_6_2 11 true, .sl 2 .bool Ax2_6_3 cx2_6_3 x2_6_3 12 true, .sl 0 k62 Al0_1 cl0_1 l0_1 0 false, .sl 0 k62 Al0_2 cl0_2 l0_2 0 false, .sl 0 .bool Al0_3 cl0_3 l0_3 0 false, .sl 2 k62 A65_11 c65_11 (x2_5_1 ++ ([(⟨(rd_T62 l0_1 x2_7).f0, (rd_T62 l0_1 x2_7).f1, (rd_T62 l0_1 x2_7).f2⟩ : S62)] : List S62)) 7 true, .sl 2 .bool A74_14 c74_14 ([rdOf false l0_3 x2_7] : List Bool) 13 true, .sl 2 .bool A75_15 c75_15 (x2_5_3 ++ ([rdOf false l0_3 x2_7] : List Bool)) 9 true]) (by kernel_rfl) (xs [0, 1, 2, 3, 4] [0, 1, 2, 3, 4, 5, 6, 7, 8, 9, 10, 11, 12, 13] rfl rfl rfl (one1 9 rfl rfl (ov (EV.fa 3 rfl) rfl (xn rfl (one1 10 rfl rfl (op_st (cs' := [.int .i64 x2_5_0, .slice A65_11 (x2_5_1 ++ ([(⟨(rd_T62 l0_1 x2_7).f0, (rd_T62 l0_1 x2_7).f1, (rd_T62 l0_1 x2_7).f2⟩ : S62)] : List S62)).length c65_11, .slice Ax2_5_2 x2_5_2.length cx2_5_2, .slice A75_15 (x2_5_3 ++ ([rdOf false l0_3 x2_7] : List Bool)).length c75_15, .int .i64 x2_5_4]) 3 rfl rfl rfl rfl rfl rfl (xn rfl (xd (pr [1, 2, 3, 5, 6, 7] [0, 1, 2, 3, 4] [0, 1, 2, 3, 4, 5, 6, 7, 8, 9, 10, 11, 12, 13, 15] rfl rfl rfl rfl (ge (rg (sv (EV.mv rfl) rfl (sv (EV.add rfl rfl) rfl (sv (EV.as rfl) rfl (re (wk [1, 2, 3, 5, 6, 7] [0, 1, 2, 3, 4] [⟨0, 2, 1, true⟩, ⟨1, 2, 2, true⟩, ⟨2, 2, 3, true⟩, ⟨3, 2, 4, true⟩, ⟨4, 2, 5, true⟩, ⟨5, 2, 6, true⟩, ⟨13, 2, 7, true⟩, ⟨6, 2, 8, true⟩, ⟨14, 2, 9, true⟩, ⟨7, 2, 10, true⟩, ⟨8, 2, 11, true⟩, ⟨9, 2, 12, true⟩, ⟨10, 0, 0, false⟩, ⟨11, 0, 0, false⟩, ⟨12, 0, 0, false⟩] (ih0 _ (by omega) _ ⟨wrap64 (x2_7 + 1), x2_1_0, x2_1_4, x2_2_0, x2_2_1, Ax2_2_1, cx2_2_1, x2_2_2, Ax2_2_2, cx2_2_2, x2_2_3, Ax2_2_3, cx2_2_3, x2_2_4, x2_3_0, x2_3_1, Ax2_3_1, cx2_3_1, x2_3_2, Ax2_3_2, cx2_3_2, x2_3_3, Ax2_3_3, cx2_3_3, x2_3_4, x2_5_0, x2_5_1 ++ ([(⟨(rd_T62 l0_1 x2_7).f0, (rd_T62 l0_1 x2_7).f1, (rd_T62 l0_1 x2_7).f2⟩ : S62)] : List S62), A65_11, c65_11, x2_5_2, Ax2_5_2, cx2_5_2, x2_5_3 ++ ([rdOf false l0_3 x2_7] : List Bool), A75_15, c75_15, x2_5_4, x2_6_0, x2_6_1, Ax2_6_1, cx2_6_1, x2_6_2, Ax2_6_2, cx2_6_2, x2_6_3, Ax2_6_3, cx2_6_3, x2_6_4, H, rfl⟩))))))))))))))))))))))))))))))
    ·
     refine gf rfl (dF c8) (gs ?_)
     revert H; refine ggI ?_; intro g16 H
     refine dr [0, 1, 2, 3, 4] [0, 1, 2, 3, 4, 5, 6, 7, 8, 10, 11, 12, 13, 14] [9, 10] 11 rfl rfl rfl rfl (xv 0 [0, 1, 2, 3, 4] [0, 1, 2, 3, 4, 5, 6, 7, 8, 10, 11, 12, 13, 14] rfl (EV.fa 1 rfl) rfl rfl rfl rfl (xv 1 [0, 1, 2, 3, 4] [0, 1, 2, 3, 4, 5, 6, 7, 8, 10, 11, 12, 13, 14] rfl (EV.ld 4 none rfl rfl rfl) rfl rfl rfl rfl (xv 2 [0, 1, 2, 3, 4] [0, 1, 2, 3, 4, 5, 6, 7, 8, 10, 11, 12, 13, 14] rfl (EV.fa 1 rfl) rfl rfl rfl rfl (xv 3 [0, 1, 2, 3, 4] [0, 1, 2, 3, 4, 5, 6, 7, 8, 10, 11, 12, 13, 14] rfl (EV.ld 0 none rfl rfl rfl) rfl rfl rfl rfl (xv 4 [0, 1, 2, 3, 4] [0, 1, 2, 3, 4, 5, 6, 7, 8, 10, 11, 12, 13, 14] rfl (EV.mv rfl) rfl rfl rfl rfl (xv 5 [0, 1, 2, 3, 4] [0, 1, 2, 3, 4, 5, 6, 7, 8, 10, 11, 12, 13, 14] rfl (EV.ix 11 rfl rfl rfl g6 c5 rfl) rfl rfl rfl rfl (xv 6 [0, 1, 2, 3, 4] [0, 1, 2, 3, 4, 5, 6, 7, 8, 10, 11, 12, 13, 14] rfl (EV.le (v := .agg #[.int .i64 ((rd_T62 l0_1 x2_7).f0), .int .i64 ((rd_T62 l0_1 x2_7).f1), .int .i64 ((rd_T62 l0_1 x2_7).f2)]) x2_7 0 (some 3) 11 z62 rfl rfl rfl g6 c5 rfl rfl rfl) rfl rfl rfl rfl (one1 7 rfl rfl (op_lit (s := 3) (by_ := 24) k62 ([(⟨(rd_T62 l0_1 x2_7).f0, (rd_T62 l0_1 x2_7).f1, (rd_T62 l0_1 x2_7).f2⟩ : S62)] : List S62) [[]] [] 13 [.tmp 83] rfl rfl rfl rfl rfl rfl rfl rfl rfl rfl rfl rfl rfl dq rfl fun A84_17 c84_17 => (xs [0, 1, 2, 3, 4] [0, 1, 2, 3, 4, 5, 6, 7, 8, 10, 11, 12, 13, 14] rfl rfl rfl (one1 8 rfl rfl (op_app (k := k62) (s := 3) (by_ := 24) 9 15 rfl rfl rfl rfl (ap1 g16 dq) (ap1n g16 dq) (.inl rfl) true (fun _ => .inl rfl) rfl rfl fun A85_18 c85_18 => (nmE (en := [.sl 2 k62 Ax2_2_1 cx2_2_1 x2_2_1 1 true, .sl 2 k62 Ax2_2_2 cx2_2_2 x2_2_2 2 true, .sl 2 .bool Ax2_2_3 cx2_2_3 x2_2_3 3 true, .sl 2 k62 Ax2_3_1 cx2_3_1 x2_3_1 4 true, .sl 2 k62 Ax2_3_2 cx2_3_2 x2_3_2 5 true, .sl 2 .bool Ax2_3_3 cx2_3_3 x2_3_3 6 true, .sl 2 k62 Ax2_5_1 cx2_5_1 x2_5_1 7 true, .sl 2 k62 Ax2_5_2 cx2_5_2 x2_5_2 8 true, .sl 2 .bool Ax2_5_3 cx2_5_3 x2_5_3 9 true, .sl 2 k62 Ax2_6_2 cx2_6_2 x2_6_2 11 true, .sl 2 .bool Ax2_6_3 cx2_6_3 x2_6_3 12 true, .sl 0 k62 Al0_1 cl0_1 l0_1 0 false, .sl 0 k62 Al0_2 cl0_2 l0_2 0 false, .sl 0 .bool Al0_3 cl0_3 l0_3 0 false, .sl 2 k62 A84_17 c84_17 ([(⟨(rd_T62 l0_1 x2_7).f0, (rd_T62 l0_1 x2_7).f1, (rd_T62 l0_1 x2_7).f2⟩ : S62)] : List S62) 13 true, .sl 2 k62 A85_18 c85_18 (x2_6_1 ++ ([(⟨(rd_T62 l0_1 x2_7).f0, (rd_T62 l0_1 x2_7).f1, (rd_T62 l0_1 x2_7).f2⟩ : S62)] : List S62)) 10 true]) (by kernel_rfl) (xs [0, 1, 2, 3, 4] [0, 1, 2, 3, 4, 5, 6, 7, 8, 9, 10, 11, 12, 13] rfl rfl rfl (one1 9 rfl rfl (ov (EV.fa 1 rfl) rfl (xn rfl (one1 10 rfl rfl (op_st (cs' := [.int .i64 x2_6_0, .slice A85_18 (x2_6_1 ++ ([(⟨(rd_T62 l0_1 x2_7).f0, (rd_T62 l0_1 x2_7).f1, (rd_T62 l0_1 x2_7).f2⟩ : S62)] : List S62)).length c85_18, .slice Ax2_6_2 x2_6_2.length cx2_6_2, .slice Ax2_6_3 x2_6_3.length cx2_6_3, .int .i64 x2_6_4]) 4 rfl rfl rfl rfl rfl rfl (xn rfl (xd (pr [1, 2, 3, 5, 6, 7] [0, 1, 2, 3, 4] [0, 1, 2, 3, 4, 5, 6, 7, 8, 9, 10, 11, 12, 13, 15] rfl rfl rfl rfl ?_))))))))))))))))))))))
     revert H; refine ggI ?_; intro g19 H
     revert H; refine ggI ?_; intro g20 H
     exact dr [0, 1, 2, 3, 4] [0, 1, 2, 3, 4, 5, 6, 7, 8, 9, 11, 12, 13, 14] [9, 10] 11 rfl rfl rfl rfl (xv 0 [0, 1, 2, 3, 4] [0, 1, 2, 3, 4, 5, 6, 7, 8, 9, 11, 12, 13, 14] rfl (EV.fa 3 rfl) rfl rfl rfl rfl (xv 1 [0, 1, 2, 3, 4] [0, 1, 2, 3, 4, 5, 6, 7, 8, 9, 11, 12, 13, 14] rfl (EV.ld 4 none rfl rfl rfl) rfl rfl rfl rfl (xv 2 [0, 1, 2, 3, 4] [0, 1, 2, 3, 4, 5, 6, 7, 8, 9, 11, 12, 13, 14] rfl (EV.fa 3 rfl) rfl rfl rfl rfl (xv 3 [0, 1, 2, 3, 4] [0, 1, 2, 3, 4, 5, 6, 7, 8, 9, 11, 12, 13, 14] rfl (EV.ld 0 none rfl rfl rfl) rfl rfl rfl rfl (xv 4 [0, 1, 2, 3, 4] [0, 1, 2, 3, 4, 5, 6, 7, 8, 9, 11, 12, 13, 14] rfl (EV.mv rfl) rfl rfl rfl rfl (xv 5 [0, 1, 2, 3, 4] [0, 1, 2, 3, 4, 5, 6, 7, 8, 9, 11, 12, 13, 14] rfl (EV.ix 12 rfl rfl rfl g6 g19 rfl) rfl rfl rfl rfl (xv 6 [0, 1, 2, 3, 4] [0, 1, 2, 3, 4, 5, 6, 7, 8, 9, 11, 12, 13, 14] rfl (EV.le (v := .bool (rdOf false l0_3 x2_7)) x2_7 0 none 12 false rfl rfl rfl g6 g19 rfl rfl rfl) rfl rfl rfl rfl (one1 7 rfl rfl (op_lit (s := 1) (by_ := 1) .bool ([rdOf false l0_3 x2_7] : List Bool) [[]] [] 13 [.tmp 93] rfl rfl rfl rfl rfl rfl rfl rfl rfl rfl rfl rfl rfl dq rfl fun A94_21 c94_21 => (xs [0, 1, 2, 3, 4] [0, 1, 2, 3, 4, 5, 6, 7, 8, 9, 11, 12, 13, 14] rfl rfl rfl (one1 8 rfl rfl (op_app (k := .bool) (s := 1) (by_ := 1) 10 15 rfl rfl rfl rfl (ap1 g20 dq) (ap1n g20 dq) (.inl rfl) true (fun _ => .inl rfl) rfl rfl fun A95_22 c95_22 => (nmE (en := [.sl 2 k62 Ax2_2_1 cx2_2_1 x2_2_1 1 true, .sl 2 k62 Ax2_2_2 cx2_2_2 x2_2_2 2 true, .sl 2 .bool Ax2_2_3 cx2_2_3 x2_2_3 3 true, .sl 2 k62 Ax2_3_1 cx2_3_1 x2_3_1 4 true, .sl 2 k62 Ax2_3_2 cx2_3_2 x2_3_2 5 true, .sl 2 .bool Ax2_3_3 cx2_3_3 x2_3_3 6 true, .sl 2 k62 Ax2_5_1 cx2_5_1 x2_5_1 7 true, .sl 2 k62 Ax2_5_2 cx2_5_2 x2_5_2 8 true, .sl 2 .bool Ax2_5_3 cx2_5_3 x2_5_3 9 true, .sl 2 k62 Ax2_6_2 cx2_6_2 x2_6_2 11 true, .sl 0 k62 Al0_1 cl0_1 l0_1 0 false, .sl 0 k62 Al0_2 cl0_2 l0_2 0 false, .sl 0 .bool Al0_3 cl0_3 l0_3 0 false, .sl 2 k62 A85_18 c85_18 (x2_6_1 ++ ([(⟨(rd_T62 l0_1 x2_7).f0, (rd_T62 l0_1 x2_7).f1, (rd_T62 l0_1 x2_7).f2⟩ : S62)] : List S62)) 10 true, .sl 2 .bool A94_21 c94_21 ([rdOf false l0_3 x2_7] : List Bool) 13 true, .sl 2 .bool A95_22 c95_22 (x2_6_3 ++ ([rdOf false l0_3 x2_7] : List Bool)) 12 true]) (by kernel_rfl) (xs [0, 1, 2, 3, 4] [0, 1, 2, 3, 4, 5, 6, 7, 8, 9, 10, 11, 12, 13] rfl rfl rfl (one1 9 rfl rfl (ov (EV.fa 3 rfl) rfl (xn rfl (one1 10 rfl rfl (op_st (cs' := [.int .i64 x2_6_0, .slice A85_18 (x2_6_1 ++ ([(⟨(rd_T62 l0_1 x2_7).f0, (rd_T62 l0_1 x2_7).f1, (rd_T62 l0_1 x2_7).f2⟩ : S62)] : List S62)).length c85_18, .slice Ax2_6_2 x2_6_2.length cx2_6_2, .slice A95_22 (x2_6_3 ++ ([rdOf false l0_3 x2_7] : List Bool)).length c95_22, .int .i64 x2_6_4]) 4 rfl rfl rfl rfl rfl rfl (xn rfl (xd (pr [1, 2, 3, 5, 6, 7] [0, 1, 2, 3, 4] [0, 1, 2, 3, 4, 5, 6, 7, 8, 9, 10, 11, 12, 13, 15] rfl rfl rfl rfl (ge (rg (sv (EV.mv rfl) rfl (sv (EV.add rfl rfl) rfl (sv (EV.as rfl) rfl (re (wk [1, 2, 3, 5, 6, 7] [0, 1, 2, 3, 4] [⟨0, 2, 1, true⟩, ⟨1, 2, 2, true⟩, ⟨2, 2, 3, true⟩, ⟨3, 2, 4, true⟩, ⟨4, 2, 5, true⟩, ⟨5, 2, 6, true⟩, ⟨6, 2, 7, true⟩, ⟨7, 2, 8, true⟩, ⟨8, 2, 9, true⟩, ⟨13, 2, 10, true⟩, ⟨9, 2, 11, true⟩, ⟨14, 2, 12, true⟩, ⟨10, 0, 0, false⟩, ⟨11, 0, 0, false⟩, ⟨12, 0, 0, false⟩] (ih0 _ (by omega) _ ⟨wrap64 (x2_7 + 1), x2_1_0, x2_1_4, x2_2_0, x2_2_1, Ax2_2_1, cx2_2_1, x2_2_2, Ax2_2_2, cx2_2_2, x2_2_3, Ax2_2_3, cx2_2_3, x2_2_4, x2_3_0, x2_3_1, Ax2_3_1, cx2_3_1, x2_3_2, Ax2_3_2, cx2_3_2, x2_3_3, Ax2_3_3, cx2_3_3, x2_3_4, x2_5_0, x2_5_1, Ax2_5_1, cx2_5_1, x2_5_2, Ax2_5_2, cx2_5_2, x2_5_3, Ax2_5_3, cx2_5_3, x2_5_4, x2_6_0, x2_6_1 ++ ([(⟨(rd_T62 l0_1 x2_7).f0, (rd_T62 l0_1 x2_7).f1, (rd_T62 l0_1 x2_7).f2⟩ : S62)] : List S62), A85_18, c85_18, x2_6_2, Ax2_6_2, cx2_6_2, x2_6_3 ++ ([rdOf false l0_3 x2_7] : List Bool), A95_22, c95_22, x2_6_4, H, rfl⟩))))))))))))))))))))))))))))))
   ·
    refine gf rfl (dF c5) (gx rfl (gs (dr [0, 2, 3, 4] [0, 1, 2, 3, 4, 5, 6, 7, 8, 9, 10, 11, 12, 13, 14] [3, 4] 5 rfl rfl rfl rfl (xv 0 [0, 2, 3, 4] [0, 1, 2, 3, 4, 5, 6, 7, 8, 9, 10, 11, 12, 13, 14] rfl (EV.ld (v := .agg #[.int .i64 x2_5_0, .slice Ax2_5_1 x2_5_1.length cx2_5_1, .slice Ax2_5_2 x2_5_2.length cx2_5_2, .slice Ax2_5_3 x2_5_3.length cx2_5_3, .int .i64 x2_5_4]) 2 (some 5) rfl rfl rfl) rfl rfl rfl rfl (xv 1 [0, 2, 3, 4] [0, 1, 2, 3, 4, 5, 6, 7, 8, 9, 10, 11, 12, 13, 14] rfl (EV.ld (v := .agg #[.int .i64 x2_6_0, .slice Ax2_6_1 x2_6_1.length cx2_6_1, .slice Ax2_6_2 x2_6_2.length cx2_6_2, .slice Ax2_6_3 x2_6_3.length cx2_6_3, .int .i64 x2_6_4]) 3 (some 5) rfl rfl rfl) rfl rfl rfl rfl (one1 2 rfl rfl (op_st (cs' := [.int .i64 x2_5_0, .slice Ax2_5_1 x2_5_1.length cx2_5_1, .slice Ax2_5_2 x2_5_2.length cx2_5_2, .slice Ax2_5_3 x2_5_3.length cx2_5_3, .int .i64 x2_5_4]) 1 rfl rfl rfl rfl rfl rfl (xs [0, 2, 3, 4] [0, 1, 2, 3, 4, 5, 6, 7, 8, 9, 10, 11, 12, 13, 14] rfl rfl rfl (one1 3 rfl rfl (op_st (cs' := [.int .i64 x2_6_0, .slice Ax2_6_1 x2_6_1.length cx2_6_1, .slice Ax2_6_2 x2_6_2.length cx2_6_2, .slice Ax2_6_3 x2_6_3.length cx2_6_3, .int .i64 x2_6_4]) 2 rfl rfl rfl rfl rfl rfl (xn rfl (one1 4 rfl rfl (ov (EV.as rfl) rfl (xn rfl (xd (pr [2, 3, 4] [1, 2] [6, 7, 8, 9, 10, 11] rfl rfl rfl rfl ?_))))))))))))))))
    cases H
    exact rt Try.func44 rfl (.cell 0 (some 5) rfl rfl rfl (.cell 1 (some 5) rfl rfl rfl (.tmp rfl .nil))) rfl [] [⟨0, 2, 1, true⟩, ⟨1, 2, 2, true⟩, ⟨2, 2, 3, true⟩, ⟨3, 2, 4, true⟩, ⟨4, 2, 5, true⟩, ⟨5, 2, 6, true⟩] rfl rfl rfl rfl rfl ⟨_, _, _, _, _, _, _, _, _, _, _, _, rfl, rfl, rfl⟩
 ·
  obtain rfl := bF c2
  refine ts 11 rfl rfl (sk rfl (sk rfl (sk rfl (sv (EV.pt rfl rfl rfl) rfl (re (pr [1, 2, 3, 15] [0, 1, 2] [0, 1, 2] rfl rfl rfl rfl (gt rfl rfl (gs (rg (sv (EV.bd (v := .agg #[.int .i64 0, .slice none 0 0, .slice none 0 0, .slice none 0 0, .int .i64 0]) rfl (by kernel_rfl)) rfl (sv (EV.bd (v := .agg #[.int .i64 0, .slice none 0 0, .slice none 0 0, .slice none 0 0, .int .i64 0]) rfl (by kernel_rfl)) rfl (so rfl (op_st (cs' := [.int .i64 0, .slice none 0 0, .slice none 0 0, .slice none 0 0, .int .i64 0]) 1 rfl rfl rfl rfl rfl rfl (so rfl (op_st (cs' := [.int .i64 0, .slice none 0 0, .slice none 0 0, .slice none 0 0, .int .i64 0]) 2 rfl rfl rfl rfl rfl rfl (sv (EV.as rfl) rfl (re (nil_ k62 1 dq (nil_ k62 2 dq (nil_ .bool 3 dq (nil_ k62 4 dq (nil_ k62 5 dq (nil_ .bool 6 dq ?_)))))))))))))))))))))))
  cases H
  exact rt Try.func44 rfl (.cell 1 (some 5) rfl rfl rfl (.cell 2 (some 5) rfl rfl rfl (.tmp rfl .nil))) rfl [] [⟨3, 2, 1, true⟩, ⟨4, 2, 2, true⟩, ⟨5, 2, 3, true⟩, ⟨6, 2, 4, true⟩, ⟨7, 2, 5, true⟩, ⟨8, 2, 6, true⟩] rfl rfl rfl rfl rfl ⟨_, _, _, _, _, _, _, _, _, _, _, _, rfl, rfl, rfl⟩
end Go.Proofs.Ythciieopabndcaa.K
namespace Go.Proofs.Ythciieopabndcaa.K
open Go Go.RowKit
set_option linter.unusedVariables false
set_option linter.unusedSimpArgs false
def spec_PartitionDepth.f : Nat → Int → (List S62) → (List S62) → (List Bool) → Int → Int → Option (Int)
 | 0, _, _, _, _, _, _ => none
 | k + 1, a0_0, l0_1, l0_2, l0_3, a0_4, a1 => (spec_IsValidTask.f k a0_0 l0_1 l0_2 l0_3 a0_4).bind fun t1 => (if t1 = true then ((spec_BuildSide.f k a0_0 l0_1 l0_2 l0_3 a0_4 a1).bind fun t3 => (if t3 > 0 then (some 0) else ((spec_NeedsNestedLoop.f k a0_0 l0_1 l0_2 l0_3 a0_4).bind fun t5 => (if t5 = true then (some 0) else (if (l0_1.length : Int) = 0 then (some 0) else ((spec_PartitionTask.f k a0_0 l0_1 l0_2 l0_3 a0_4).bind fun bt8 => ((spec_PartitionDepth.f k bt8.1 bt8.2.1 bt8.2.2.1 bt8.2.2.2.1 bt8.2.2.2.2.1 a1).bind fun t9 => ((spec_PartitionDepth.f k bt8.2.2.2.2.2.1 bt8.2.2.2.2.2.2.1 bt8.2.2.2.2.2.2.2.1 bt8.2.2.2.2.2.2.2.2.1 bt8.2.2.2.2.2.2.2.2.2.1 a1).bind fun t10 => (some (wrap64 (1 + (mx t9 t10)))))))))))) else (some 0))
set_option maxHeartbeats 4000000 in
set_option maxRecDepth 100000 in
theorem spec_PartitionDepth.ok : ∀ (k : Nat) (a0_0 : Int) (l0_1 : List S62) (Al0_1 : Option Addr) (cl0_1 : Nat) (l0_2 : List S62) (Al0_2 : Option Addr) (cl0_2 : Nat) (l0_3 : List Bool) (Al0_3 : Option Addr) (cl0_3 : Nat) (a0_4 : Int) (a1 : Int) (r0 : Int) (h : spec_PartitionDepth.f k a0_0 l0_1 l0_2 l0_3 a0_4 a1 = some r0), Fn Try.prog 46 [.agg #[.int .i64 a0_0, .slice Al0_1 l0_1.length cl0_1, .slice Al0_2 l0_2.length cl0_2, .slice Al0_3 l0_3.length cl0_3, .int .i64 a0_4], .int .i64 a1] [] [.sl 0 k62 Al0_1 cl0_1 l0_1 0 false, .sl 0 k62 Al0_2 cl0_2 l0_2 0 false, .sl 0 .bool Al0_3 cl0_3 l0_3 0 false] (fun v bx en => v = .int .i64 r0 ∧ bx = [] ∧ en = []) := by
 intro k
 induction k with
 | zero => intro a0_0 l0_1 Al0_1 cl0_1 l0_2 Al0_2 cl0_2 l0_3 Al0_3 cl0_3 a0_4 a1 r0 h; rw [spec_PartitionDepth.f] at h; cases h
 | succ k ih =>
 intro a0_0 l0_1 Al0_1 cl0_1 l0_2 Al0_2 cl0_2 l0_3 Al0_3 cl0_3 a0_4 a1 r0 H
 refine fn_ 41 Try.func46 rfl rfl rfl (fun base T w0 => ?_)
 rw [spec_PartitionDepth.f] at H
 refine gs (rg (so rfl (op_box (cs := [.int .i64 a0_0, .slice Al0_1 l0_1.length cl0_1, .slice Al0_2 l0_2.length cl0_2, .slice Al0_3 l0_3.length cl0_3, .int .i64 a0_4]) rfl rfl rfl fun b2 => (sv (EV.as rfl) rfl (re (gs (gs (rg (sv (EV.ld (v := .agg #[.int .i64 a0_0, .slice Al0_1 l0_1.length cl0_1, .slice Al0_2 l0_2.length cl0_2, .slice Al0_3 l0_3.length cl0_3, .int .i64 a0_4]) 0 (some 5) rfl rfl rfl) rfl ?_)))))))))
 revert H; refine bdI ?_; rintro t1 A1 H
 refine so rfl (op_call (spec_IsValidTask.ok k a0_0 l0_1 Al0_1 cl0_1 l0_2 Al0_2 cl0_2 l0_3 Al0_3 cl0_3 a0_4 _ A1) [⟨0, 0, 0, false⟩, ⟨1, 0, 0, false⟩, ⟨2, 0, 0, false⟩] 1 rfl rfl rfl rfl rfl ?_)
 rintro _ _ _ ⟨rfl, rfl, rfl⟩
 refine sv (EV.nt rfl) rfl (sv (EV.mv rfl) rfl ?_)
 revert H; refine ifsI ?_ ?_ <;> intro c2 H
 ·
  subst c2
  refine ts 11 rfl rfl (sv (EV.ld (v := .agg #[.int .i64 a0_0, .slice Al0_1 l0_1.length cl0_1, .slice Al0_2 l0_2.length cl0_2, .slice Al0_3 l0_3.length cl0_3, .int .i64 a0_4]) 0 (some 5) rfl rfl rfl) rfl (sv (EV.mv rfl) rfl ?_))
  revert H; refine bdI ?_; rintro t3 A3 H
  refine so rfl (op_call (spec_BuildSide.ok k a0_0 l0_1 Al0_1 cl0_1 l0_2 Al0_2 cl0_2 l0_3 Al0_3 cl0_3 a0_4 a1 _ A3) [⟨0, 0, 0, false⟩, ⟨1, 0, 0, false⟩, ⟨2, 0, 0, false⟩] 1 rfl rfl rfl rfl rfl ?_)
  rintro _ _ _ ⟨rfl, rfl, rfl⟩
  refine sv (EV.gtr rfl rfl) rfl (sv (EV.pf rfl rfl rfl) rfl (sv (EV.mv rfl) rfl ?_))
  revert H; refine ifsI ?_ ?_ <;> intro c4 H
  ·
   refine ts 17 rfl (dT c4) (sk rfl (sk rfl (sv (EV.pt rfl rfl rfl) rfl (sv (EV.mv rfl) rfl (sk rfl (sk rfl (sk rfl (sk rfl (sv (EV.pt rfl rfl rfl) rfl (re (pr [1, 2, 26] [0] [0, 1, 2] rfl rfl rfl rfl (gt rfl rfl (gs (rg (sv (EV.as rfl) rfl (re ?_))))))))))))))))
   cases H
   exact rt Try.func46 rfl (.tmp rfl .nil) rfl [] [] rfl rfl rfl rfl rfl ⟨rfl, rfl, rfl⟩
  ·
   refine ts 17 rfl (dF c4) (sv (EV.ld (v := .agg #[.int .i64 a0_0, .slice Al0_1 l0_1.length cl0_1, .slice Al0_2 l0_2.length cl0_2, .slice Al0_3 l0_3.length cl0_3, .int .i64 a0_4]) 0 (some 5) rfl rfl rfl) rfl ?_)
   revert H; refine bdI ?_; rintro t5 A5 H
   refine so rfl (op_call (spec_NeedsNestedLoop.ok k a0_0 l0_1 Al0_1 cl0_1 l0_2 Al0_2 cl0_2 l0_3 Al0_3 cl0_3 a0_4 _ A5) [⟨0, 0, 0, false⟩, ⟨1, 0, 0, false⟩, ⟨2, 0, 0, false⟩] 1 rfl rfl rfl rfl rfl ?_)
   rintro _ _ _ ⟨rfl, rfl, rfl⟩
   refine sv (EV.pf rfl rfl rfl) rfl (sv (EV.mv rfl) rfl ?_)
   revert H; refine ifsI ?_ ?_ <;> intro c6 H
   ·
    subst c6
    refine ts 21 rfl rfl (sk rfl (sk rfl (sk rfl (sk rfl (sv (EV.pt rfl rfl rfl) rfl (re (pr [1, 2, 26] [0] [0, 1, 2] rfl rfl rfl rfl (gt rfl rfl (gs (rg (sv (EV.as rfl) rfl (re ?_))))))))))))
    cases H
    exact rt Try.func46 rfl (.tmp rfl .nil) rfl [] [] rfl rfl rfl rfl rfl ⟨rfl, rfl, rfl⟩
   ·
    obtain rfl := bF c6
    refine ts 21 rfl rfl (sv (EV.fa 1 rfl) rfl (sv (EV.ld 0 none rfl rfl rfl) rfl (sv (EV.ln rfl) rfl (sv (EV.eql rfl rfl) rfl (sv (EV.pf rfl rfl rfl) rfl (re (pr [1, 2, 26] [0] [0, 1, 2] rfl rfl rfl rfl ?_)))))))
    revert H; refine ifsI ?_ ?_ <;> intro c7 H
    ·
     refine gt rfl (dT c7) (gs (rg (sv (EV.as rfl) rfl (re ?_))))
     cases H
     exact rt Try.func46 rfl (.tmp rfl .nil) rfl [] [] rfl rfl rfl rfl rfl ⟨rfl, rfl, rfl⟩
    ·
     refine gf rfl (dF c7) (gk (gs (rg (sv (EV.ld (v := .agg #[.int .i64 a0_0, .slice Al0_1 l0_1.length cl0_1, .slice Al0_2 l0_2.length cl0_2, .slice Al0_3 l0_3.length cl0_3, .int .i64 a0_4]) 0 (some 5) rfl rfl rfl) rfl ?_))))
     revert H; refine bdI ?_; rintro ⟨t8_0, t8_1, t8_2, t8_3, t8_4, t8_5, t8_6, t8_7, t8_8, t8_9, t8_10⟩ A8 H
     refine so rfl (op_call (spec_PartitionTask.ok k a0_0 l0_1 Al0_1 cl0_1 l0_2 Al0_2 cl0_2 l0_3 Al0_3 cl0_3 a0_4 _ _ _ _ _ _ _ _ _ _ _ A8) [⟨0, 0, 0, false⟩, ⟨1, 0, 0, false⟩, ⟨2, 0, 0, false⟩] 1 rfl rfl rfl rfl rfl ?_)
     rintro _ _ _ ⟨At8_1, ct8_1, At8_2, ct8_2, At8_3, ct8_3, At8_6, ct8_6, At8_7, ct8_7, At8_8, ct8_8, rfl, rfl, rfl⟩
     refine sv (EV.mv rfl) rfl (sv (EV.ex rfl rfl) rfl (sv (EV.ex rfl rfl) rfl (sv (EV.ex rfl rfl) rfl (so rfl (op_alloc (cs := [.int .i64 0, .slice none 0 0, .slice none 0 0, .slice none 0 0, .int .i64 0]) (by kernel_rfl) rfl fun b5 => (so rfl (op_alloc (cs := [.int .i64 0, .slice none 0 0, .slice none 0 0, .slice none 0 0, .int .i64 0]) (by kernel_rfl) rfl fun b6 => (so rfl (op_st (cs' := [.int .i64 t8_0, .slice At8_1 t8_1.length ct8_1, .slice At8_2 t8_2.length ct8_2, .slice At8_3 t8_3.length ct8_3, .int .i64 t8_4]) 1 rfl rfl rfl rfl rfl rfl (so rfl (op_st (cs' := [.int .i64 t8_5, .slice At8_6 t8_6.length ct8_6, .slice At8_7 t8_7.length ct8_7, .slice At8_8 t8_8.length ct8_8, .int .i64 t8_9]) 2 rfl rfl rfl rfl rfl rfl (sv (EV.as rfl) rfl (re (pr [1, 5, 6] [1, 2] [3, 4, 5, 6, 7, 8] rfl rfl rfl rfl (gs (dr [0, 1] [0, 1, 2, 3, 4, 5] [] 9 rfl rfl rfl rfl (xv 0 [0, 1] [0, 1, 2, 3, 4, 5] rfl (EV.ld (v := .agg #[.int .i64 t8_0, .slice At8_1 t8_1.length ct8_1, .slice At8_2 t8_2.length ct8_2, .slice At8_3 t8_3.length ct8_3, .int .i64 t8_4]) 0 (some 5) rfl rfl rfl) rfl rfl rfl rfl (xv 1 [0, 1] [0, 1, 2, 3, 4, 5] rfl (EV.mv rfl) rfl rfl rfl rfl (xv 3 [0, 1] [0, 1, 2, 3, 4, 5] rfl (EV.ld (v := .agg #[.int .i64 t8_5, .slice At8_6 t8_6.length ct8_6, .slice At8_7 t8_7.length ct8_7, .slice At8_8 t8_8.length ct8_8, .int .i64 t8_9]) 1 (some 5) rfl rfl rfl) rfl rfl rfl rfl (xv 4 [0, 1] [0, 1, 2, 3, 4, 5] rfl (EV.mv rfl) rfl rfl rfl rfl (one1 2 rfl rfl ?_)))))))))))))))))))))
     revert H; refine bdI ?_; rintro t9 A9 H
     refine op_call (ih t8_0 t8_1 At8_1 ct8_1 t8_2 At8_2 ct8_2 t8_3 At8_3 ct8_3 t8_4 a1 _ A9) [⟨0, 0, 0, false⟩, ⟨1, 0, 0, false⟩, ⟨2, 0, 0, false⟩] 8 rfl rfl rfl rfl rfl ?_
     rintro _ _ _ ⟨rfl, rfl, rfl⟩
     refine xs [0, 1] [0, 1, 2, 3, 4, 5] rfl rfl rfl (one1 5 rfl rfl ?_)
     revert H; refine bdI ?_; rintro t10 A10 H
     refine op_call (ih t8_5 t8_6 At8_6 ct8_6 t8_7 At8_7 ct8_7 t8_8 At8_8 ct8_8 t8_9 a1 _ A10) [⟨3, 0, 0, false⟩, ⟨4, 0, 0, false⟩, ⟨5, 0, 0, false⟩] 8 rfl rfl rfl rfl rfl ?_
     rintro _ _ _ ⟨rfl, rfl, rfl⟩
     refine xs [0, 1] [0, 1, 2, 3, 4, 5] rfl rfl rfl (xv 6 [0, 1] [0, 1, 2, 3, 4, 5] rfl (EV.mx rfl rfl) rfl rfl rfl rfl (xv 7 [0, 1] [0, 1, 2, 3, 4, 5] rfl (EV.add rfl rfl) rfl rfl rfl rfl (xv 8 [0, 1] [0, 1, 2, 3, 4, 5] rfl (EV.as rfl) rfl rfl rfl rfl (xd (pr [4] [] [] rfl rfl rfl rfl ?_)))))
     cases H
     exact rt Try.func46 rfl (.tmp rfl .nil) rfl [] [] rfl rfl rfl rfl rfl ⟨rfl, rfl, rfl⟩
 ·
  obtain rfl := bF c2
  refine ts 11 rfl rfl (sk rfl (sk rfl (sk rfl (sk rfl (sv (EV.pt rfl rfl rfl) rfl (sv (EV.mv rfl) rfl (sk rfl (sk rfl (sv (EV.pt rfl rfl rfl) rfl (sv (EV.mv rfl) rfl (sk rfl (sk rfl (sk rfl (sk rfl (sv (EV.pt rfl rfl rfl) rfl (re (pr [1, 2, 26] [0] [0, 1, 2] rfl rfl rfl rfl (gt rfl rfl (gs (rg (sv (EV.as rfl) rfl (re ?_))))))))))))))))))))))
  cases H
  exact rt Try.func46 rfl (.tmp rfl .nil) rfl [] [] rfl rfl rfl rfl rfl ⟨rfl, rfl, rfl⟩
end Go.Proofs.Ythciieopabndcaa.K
namespace Go.Proofs.Ythciieopabndcaa.K
open Go Go.RowKit
set_option linter.unusedVariables false
set_option linter.unusedSimpArgs false
def impl_AllSameKey.l0 : Nat → Int → Int → (List S62) → Option (Bool)
 | 0, _, _, _ => none
 | k + 1, x2_6, x2_7, l0 => if x2_7 < x2_6 then (if 0 ≤ x2_7 then (if x2_7 < (l0.length : Int) then (if 0 < (l0.length : Int) then (if ((rd_T62 l0 x2_7).f0) = ((rd_T62 l0 0).f0) then (impl_AllSameKey.l0 k x2_6 (wrap64 (x2_7 + 1)) l0) else (some false)) else none) else none) else none) else (some true)
def impl_AllSameKey.f (k : Nat) (l0 : List S62) : Option (Bool) := impl_AllSameKey.l0 k (l0.length : Int) 0 l0
set_option maxHeartbeats 4000000 in
set_option maxRecDepth 100000 in
theorem impl_AllSameKey.ok (k : Nat) (l0 : List S62) (Al0 : Option Addr) (cl0 : Nat) (r0 : Bool) (H : impl_AllSameKey.f k l0 = some r0) : Fn Try.prog 60 [.slice Al0 l0.length cl0] [] [.sl 0 k62 Al0 cl0 l0 0 false] (fun v bx en => v = .bool r0 ∧ bx = [] ∧ en = []) := by
 refine fn_ 19 Try.func60 rfl rfl rfl (fun base T w0 => ?_)
 rw [impl_AllSameKey.f] at H
 refine gs (rg (sv (EV.as rfl) rfl (re (gs (gs (rg (sv (EV.mv rfl) rfl (sv (EV.ln rfl) rfl (sv (EV.mv rfl) rfl (re (gb ?_)))))))))))
 refine lo (fun kk S => ∃ (x2_6 : Int) (x2_7 : Int), impl_AllSameKey.l0 kk x2_6 x2_7 l0 = some r0 ∧ S = ⟨[(0, .slice Al0 l0.length cl0), (5, .slice Al0 l0.length cl0), (6, .int .i64 x2_6), (7, .int .i64 x2_7)], [], [.sl 0 k62 Al0 cl0 l0 0 false]⟩) (fun S hS => ?_) (fun n0 ih0 S hS => ?_) ⟨(l0.length : Int), 0, H, rfl⟩ (fun h => wk [0, 5, 6, 7] [] [⟨0, 0, 0, false⟩] h)
 · clear H; obtain ⟨_, _, H, _⟩ := hS; rw [impl_AllSameKey.l0] at H; cases H
 clear H
 obtain ⟨x2_6, x2_7, H, rfl⟩ := hS
 rw [impl_AllSameKey.l0] at H
 refine gs (rg (sv (EV.lss rfl rfl) rfl (re (gs ?_))))
 revert H; refine ifsI ?_ ?_ <;> intro c1 H
 ·
  refine gt rfl (dT c1) (gk (gs (gb (gs (rg ?_)))))
  revert H; refine ggI ?_; intro g2 H
  revert H; refine ggI ?_; intro g3 H
  refine sv (EV.ix 0 rfl rfl rfl g2 g3 rfl) rfl (sv (EV.le (v := .agg #[.int .i64 ((rd_T62 l0 x2_7).f0), .int .i64 ((rd_T62 l0 x2_7).f1), .int .i64 ((rd_T62 l0 x2_7).f2)]) x2_7 0 (some 3) 0 z62 rfl rfl rfl g2 g3 rfl rfl rfl) rfl (so rfl (op_alloc (cs := [.int .i64 0, .int .i64 0, .int .i64 0]) (by kernel_rfl) rfl fun b4 => (so rfl (op_st (cs' := [.int .i64 ((rd_T62 l0 x2_7).f0), .int .i64 ((rd_T62 l0 x2_7).f1), .int .i64 ((rd_T62 l0 x2_7).f2)]) 0 rfl rfl rfl rfl rfl rfl (re (gs ?_)))))))
  revert H; refine ggI ?_; intro g4 H
  refine dr [0] [0] [] 7 rfl rfl rfl rfl (xv 0 [0] [0] rfl (EV.fa 0 rfl) rfl rfl rfl rfl (xv 1 [0] [0] rfl (EV.ld 0 none rfl rfl rfl) rfl rfl rfl rfl (xv 2 [0] [0] rfl (EV.mv rfl) rfl rfl rfl rfl (xv 3 [0] [0] rfl (EV.ix 0 rfl rfl rfl dq g4 rfl) rfl rfl rfl rfl (xv 4 [0] [0] rfl (EV.fa 0 rfl) rfl rfl rfl rfl (xv 5 [0] [0] rfl (EV.le (v := .int .i64 ((rd_T62 l0 0).f0)) 0 0 none 0 z62 rfl rfl rfl dq g4 rfl rfl rfl) rfl rfl rfl rfl (xv 6 [0] [0] rfl (EV.neq rfl rfl) rfl rfl rfl rfl (xd (pr [0, 5, 6, 7, 17] [] [0] rfl rfl rfl rfl ?_)))))))))
  revert H; refine ifsI ?_ ?_ <;> intro c5 H
  ·
   exact gf rfl (nF c5) (gk (ge (rg (sv (EV.add rfl rfl) rfl (sv (EV.mv rfl) rfl (re (wk [0, 5, 6, 7] [] [⟨0, 0, 0, false⟩] (ih0 _ (by omega) _ ⟨x2_6, wrap64 (x2_7 + 1), H, rfl⟩))))))))
  ·
   refine gt rfl (nT c5) (gs (rg (sv (EV.as rfl) rfl (re ?_))))
   cases H
   exact rt Try.func60 rfl (.tmp rfl .nil) rfl [] [] rfl rfl rfl rfl rfl ⟨rfl, rfl, rfl⟩
 ·
  refine gf rfl (dF c1) (gx rfl (gs (rg (sv (EV.as rfl) rfl (re ?_)))))
  cases H
  exact rt Try.func60 rfl (.tmp rfl .nil) rfl [] [] rfl rfl rfl rfl rfl ⟨rfl, rfl, rfl⟩
end Go.Proofs.Ythciieopabndcaa.K
namespace Go.Proofs.Ythciieopabndcaa.K
open Go Go.RowKit
set_option linter.unusedVariables false
set_option linter.unusedSimpArgs false
def impl_NeedsNestedLoop.f (k : Nat) (a0_0 : Int) (l0_1 : List S62) (l0_2 : List S62) (l0_3 : List Bool) (a0_4 : Int) : Option (Bool) := if a0_4 ≥ 4 then (some true) else ((impl_AllSameKey.f k l0_2).bind fun t2 => (some t2))
set_option maxHeartbeats 4000000 in
set_option maxRecDepth 100000 in
theorem impl_NeedsNestedLoop.ok (k : Nat) (a0_0 : Int) (l0_1 : List S62) (Al0_1 : Option Addr) (cl0_1 : Nat) (l0_2 : List S62) (Al0_2 : Option Addr) (cl0_2 : Nat) (l0_3 : List Bool) (Al0_3 : Option Addr) (cl0_3 : Nat) (a0_4 : Int) (r0 : Bool) (H : impl_NeedsNestedLoop.f k a0_0 l0_1 l0_2 l0_3 a0_4 = some r0) : Fn Try.prog 25 [.agg #[.int .i64 a0_0, .slice Al0_1 l0_1.length cl0_1, .slice Al0_2 l0_2.length cl0_2, .slice Al0_3 l0_3.length cl0_3, .int .i64 a0_4]] [] [.sl 0 k62 Al0_1 cl0_1 l0_1 0 false, .sl 0 k62 Al0_2 cl0_2 l0_2 0 false, .sl 0 .bool Al0_3 cl0_3 l0_3 0 false] (fun v bx en => v = .bool r0 ∧ bx = [] ∧ en = []) := by
 refine fn_ 11 Try.func25 rfl rfl rfl (fun base T w0 => ?_)
 rw [impl_NeedsNestedLoop.f] at H
 refine gs (rg (so rfl (op_box (cs := [.int .i64 a0_0, .slice Al0_1 l0_1.length cl0_1, .slice Al0_2 l0_2.length cl0_2, .slice Al0_3 l0_3.length cl0_3, .int .i64 a0_4]) rfl rfl rfl fun b1 => (sv (EV.as rfl) rfl (re (gs (rg (sv (EV.fa 4 rfl) rfl (sv (EV.ld 0 none rfl rfl rfl) rfl (sv (EV.geq rfl rfl) rfl (sv (EV.mv rfl) rfl ?_)))))))))))
 revert H; refine ifsI ?_ ?_ <;> intro c1 H
 ·
  refine ts 6 rfl (dT c1) (sk rfl (sk rfl (sk rfl (sv (EV.pt rfl rfl rfl) rfl (sv (EV.as rfl) rfl (re (pr [2] [] [] rfl rfl rfl rfl ?_)))))))
  cases H
  exact rt Try.func25 rfl (.tmp rfl .nil) rfl [] [] rfl rfl rfl rfl rfl ⟨rfl, rfl, rfl⟩
 ·
  refine ts 6 rfl (dF c1) (sv (EV.fa 2 rfl) rfl (sv (EV.ld 0 none rfl rfl rfl) rfl ?_))
  revert H; refine bdI ?_; rintro t2 A2 H
  refine so rfl (op_call (impl_AllSameKey.ok k l0_2 Al0_2 cl0_2 _ A2) [⟨1, 0, 0, false⟩] 1 rfl rfl rfl rfl rfl ?_)
  rintro _ _ _ ⟨rfl, rfl, rfl⟩
  refine sv (EV.pf rfl rfl rfl) rfl (sv (EV.as rfl) rfl (re (pr [2] [] [] rfl rfl rfl rfl ?_)))
  cases H
  exact rt Try.func25 rfl (.tmp rfl .nil) rfl [] [] rfl rfl rfl rfl rfl ⟨rfl, rfl, rfl⟩
end Go.Proofs.Ythciieopabndcaa.K
namespace Go.Proofs.Ythciieopabndcaa.K
open Go Go.RowKit
set_option linter.unusedVariables false
set_option linter.unusedSimpArgs false
def impl_within.f (a0 : Int) (a1 : Int) (a2 : Int) : Option (Bool) := if a0 ≥ a1 then (some (decide (a0 ≤ a2))) else (some false)
set_option maxHeartbeats 4000000 in
set_option maxRecDepth 100000 in
theorem impl_within.ok (a0 : Int) (a1 : Int) (a2 : Int) (r0 : Bool) (H : impl_within.f a0 a1 a2 = some r0) : Fn Try.prog 67 [.int .i64 a0, .int .i64 a1, .int .i64 a2] [] [] (fun v bx en => v = .bool r0 ∧ bx = [] ∧ en = []) := by
 refine fn_ 15 Try.func67 rfl rfl rfl (fun base T w0 => ?_)
 rw [impl_within.f] at H
 refine gs (rg (sv (EV.as rfl) rfl (re (gs (rg (sv (EV.mv rfl) rfl (sv (EV.mv rfl) rfl (sv (EV.geq rfl rfl) rfl (sv (EV.mv rfl) rfl ?_)))))))))
 revert H; refine ifsI ?_ ?_ <;> intro c1 H
 ·
  refine ts 10 rfl (dT c1) (sv (EV.mv rfl) rfl (sv (EV.mv rfl) rfl (sv (EV.leq rfl rfl) rfl (sv (EV.pt rfl rfl rfl) rfl (sv (EV.as rfl) rfl (re (pr [6] [] [] rfl rfl rfl rfl ?_)))))))
  cases H
  exact rt Try.func67 rfl (.tmp rfl .nil) rfl [] [] rfl rfl rfl rfl rfl ⟨rfl, rfl, rfl⟩
 ·
  refine ts 10 rfl (dF c1) (sk rfl (sk rfl (sk rfl (sv (EV.pf rfl rfl rfl) rfl (sv (EV.as rfl) rfl (re (pr [6] [] [] rfl rfl rfl rfl ?_)))))))
  cases H
  exact rt Try.func67 rfl (.tmp rfl .nil) rfl [] [] rfl rfl rfl rfl rfl ⟨rfl, rfl, rfl⟩
end Go.Proofs.Ythciieopabndcaa.K
namespace Go.Proofs.Ythciieopabndcaa.K
open Go Go.RowKit
set_option linter.unusedVariables false
set_option linter.unusedSimpArgs false
def impl_IsValidJoinKind.f (a0 : Int) : Option (Bool) := (impl_within.f a0 1 4).bind fun t1 => (some t1)
set_option maxHeartbeats 4000000 in
set_option maxRecDepth 100000 in
theorem impl_IsValidJoinKind.ok (a0 : Int) (r0 : Bool) (H : impl_IsValidJoinKind.f a0 = some r0) : Fn Try.prog 65 [.int .i64 a0] [] [] (fun v bx en => v = .bool r0 ∧ bx = [] ∧ en = []) := by
 refine fn_ 5 Try.func65 rfl rfl rfl (fun base T w0 => ?_)
 rw [impl_IsValidJoinKind.f] at H
 refine gs (rg (sv (EV.as rfl) rfl (re (gs (rg (sv (EV.mv rfl) rfl ?_))))))
 revert H; refine bdI ?_; rintro t1 A1 H
 refine so rfl (op_call (impl_within.ok a0 1 4 _ A1) [] 1 rfl rfl rfl rfl rfl ?_)
 rintro _ _ _ ⟨rfl, rfl, rfl⟩
 refine sv (EV.as rfl) rfl (re ?_)
 cases H
 exact rt Try.func65 rfl (.tmp rfl .nil) rfl [] [] rfl rfl rfl rfl rfl ⟨rfl, rfl, rfl⟩
end Go.Proofs.Ythciieopabndcaa.K
namespace Go.Proofs.Ythciieopabndcaa.K
open Go Go.RowKit
set_option linter.unusedVariables false
set_option linter.unusedSimpArgs false
def impl_IsValidRow.f (a0_0 : Int) (a0_1 : Int) (a0_2 : Int) : Option (Bool) := (impl_within.f a0_0 0 9).bind fun t1 => (if t1 = true then ((impl_within.f a0_1 0 99).bind fun t3 => (if t3 = true then ((impl_within.f a0_2 0 3).bind fun t5 => (some t5)) else (some false))) else (some false))
set_option maxHeartbeats 4000000 in
set_option maxRecDepth 100000 in
theorem impl_IsValidRow.ok (a0_0 : Int) (a0_1 : Int) (a0_2 : Int) (r0 : Bool) (H : impl_IsValidRow.f a0_0 a0_1 a0_2 = some r0) : Fn Try.prog 88 [.agg #[.int .i64 a0_0, .int .i64 a0_1, .int .i64 a0_2]] [] [] (fun v bx en => v = .bool r0 ∧ bx = [] ∧ en = []) := by
 refine fn_ 16 Try.func88 rfl rfl rfl (fun base T w0 => ?_)
 rw [impl_IsValidRow.f] at H
 refine gs (rg (so rfl (op_box (cs := [.int .i64 a0_0, .int .i64 a0_1, .int .i64 a0_2]) rfl rfl rfl fun b1 => (sv (EV.as rfl) rfl (re (gs (rg (sv (EV.fa 0 rfl) rfl (sv (EV.ld 0 none rfl rfl rfl) rfl ?_)))))))))
 revert H; refine bdI ?_; rintro t1 A1 H
 refine so rfl (op_call (impl_within.ok a0_0 0 9 _ A1) [] 1 rfl rfl rfl rfl rfl ?_)
 rintro _ _ _ ⟨rfl, rfl, rfl⟩
 refine sv (EV.mv rfl) rfl ?_
 revert H; refine ifsI ?_ ?_ <;> intro c2 H
 ·
  subst c2
  refine ts 6 rfl rfl (sv (EV.fa 1 rfl) rfl (sv (EV.ld 0 none rfl rfl rfl) rfl ?_))
  revert H; refine bdI ?_; rintro t3 A3 H
  refine so rfl (op_call (impl_within.ok a0_1 0 99 _ A3) [] 1 rfl rfl rfl rfl rfl ?_)
  rintro _ _ _ ⟨rfl, rfl, rfl⟩
  refine sv (EV.pt rfl rfl rfl) rfl (sv (EV.mv rfl) rfl ?_)
  revert H; refine ifsI ?_ ?_ <;> intro c4 H
  ·
   subst c4
   refine ts 11 rfl rfl (sv (EV.fa 2 rfl) rfl (sv (EV.ld 0 none rfl rfl rfl) rfl ?_))
   revert H; refine bdI ?_; rintro t5 A5 H
   refine so rfl (op_call (impl_within.ok a0_2 0 3 _ A5) [] 1 rfl rfl rfl rfl rfl ?_)
   rintro _ _ _ ⟨rfl, rfl, rfl⟩
   refine sv (EV.pt rfl rfl rfl) rfl (sv (EV.as rfl) rfl (re (pr [2] [] [] rfl rfl rfl rfl ?_)))
   cases H
   exact rt Try.func88 rfl (.tmp rfl .nil) rfl [] [] rfl rfl rfl rfl rfl ⟨rfl, rfl, rfl⟩
  ·
   obtain rfl := bF c4
   refine ts 11 rfl rfl (sk rfl (sk rfl (sk rfl (sv (EV.pf rfl rfl rfl) rfl (sv (EV.as rfl) rfl (re (pr [2] [] [] rfl rfl rfl rfl ?_)))))))
   cases H
   exact rt Try.func88 rfl (.tmp rfl .nil) rfl [] [] rfl rfl rfl rfl rfl ⟨rfl, rfl, rfl⟩
 ·
  obtain rfl := bF c2
  refine ts 6 rfl rfl (sk rfl (sk rfl (sk rfl (sv (EV.pf rfl rfl rfl) rfl (sv (EV.mv rfl) rfl (sk rfl (sk rfl (sk rfl (sv (EV.pf rfl rfl rfl) rfl (sv (EV.as rfl) rfl (re (pr [2] [] [] rfl rfl rfl rfl ?_))))))))))))
  cases H
  exact rt Try.func88 rfl (.tmp rfl .nil) rfl [] [] rfl rfl rfl rfl rfl ⟨rfl, rfl, rfl⟩
end Go.Proofs.Ythciieopabndcaa.K
namespace Go.Proofs.Ythciieopabndcaa.K
open Go Go.RowKit
set_option linter.unusedVariables false
set_option linter.unusedSimpArgs false
def impl_allValid.l0 : Nat → Int → Int → (List S62) → Option (Bool)
 | 0, _, _, _ => none
 | k + 1, x2_6, x2_7, l0 => if x2_7 < x2_6 then (if 0 ≤ x2_7 then (if x2_7 < (l0.length : Int) then ((impl_IsValidRow.f ((rd_T62 l0 x2_7).f0) ((rd_T62 l0 x2_7).f1) ((rd_T62 l0 x2_7).f2)).bind fun t4 => (if t4 = true then (impl_allValid.l0 k x2_6 (wrap64 (x2_7 + 1)) l0) else (some false))) else none) else none) else (some true)
def impl_allValid.f (k : Nat) (l0 : List S62) : Option (Bool) := impl_allValid.l0 k (l0.length : Int) 0 l0
set_option maxHeartbeats 4000000 in
set_option maxRecDepth 100000 in
theorem impl_allValid.ok (k : Nat) (l0 : List S62) (Al0 : Option Addr) (cl0 : Nat) (r0 : Bool) (H : impl_allValid.f k l0 = some r0) : Fn Try.prog 87 [.slice Al0 l0.length cl0] [] [.sl 0 k62 Al0 cl0 l0 0 false] (fun v bx en => v = .bool r0 ∧ bx = [] ∧ en = []) := by
 refine fn_ 15 Try.func87 rfl rfl rfl (fun base T w0 => ?_)
 rw [impl_allValid.f] at H
 refine gs (rg (sv (EV.as rfl) rfl (re (gs (gs (rg (sv (EV.mv rfl) rfl (sv (EV.ln rfl) rfl (sv (EV.mv rfl) rfl (re (gb ?_)))))))))))
 refine lo (fun kk S => ∃ (x2_6 : Int) (x2_7 : Int), impl_allValid.l0 kk x2_6 x2_7 l0 = some r0 ∧ S = ⟨[(5, .slice Al0 l0.length cl0), (6, .int .i64 x2_6), (7, .int .i64 x2_7)], [], [.sl 0 k62 Al0 cl0 l0 0 false]⟩) (fun S hS => ?_) (fun n0 ih0 S hS => ?_) ⟨(l0.length : Int), 0, H, rfl⟩ (fun h => wk [5, 6, 7] [] [⟨0, 0, 0, false⟩] h)
 · clear H; obtain ⟨_, _, H, _⟩ := hS; rw [impl_allValid.l0] at H; cases H
 clear H
 obtain ⟨x2_6, x2_7, H, rfl⟩ := hS
 rw [impl_allValid.l0] at H
 refine gs (rg (sv (EV.lss rfl rfl) rfl (re (gs ?_))))
 revert H; refine ifsI ?_ ?_ <;> intro c1 H
 ·
  refine gt rfl (dT c1) (gk (gs (gb (gs (rg ?_)))))
  revert H; refine ggI ?_; intro g2 H
  revert H; refine ggI ?_; intro g3 H
  refine sv (EV.ix 0 rfl rfl rfl g2 g3 rfl) rfl (sv (EV.le (v := .agg #[.int .i64 ((rd_T62 l0 x2_7).f0), .int .i64 ((rd_T62 l0 x2_7).f1), .int .i64 ((rd_T62 l0 x2_7).f2)]) x2_7 0 (some 3) 0 z62 rfl rfl rfl g2 g3 rfl rfl rfl) rfl (so rfl (op_alloc (cs := [.int .i64 0, .int .i64 0, .int .i64 0]) (by kernel_rfl) rfl fun b4 => (so rfl (op_st (cs' := [.int .i64 ((rd_T62 l0 x2_7).f0), .int .i64 ((rd_T62 l0 x2_7).f1), .int .i64 ((rd_T62 l0 x2_7).f2)]) 0 rfl rfl rfl rfl rfl rfl (re (gs (rg (sv (EV.ld (v := .agg #[.int .i64 ((rd_T62 l0 x2_7).f0), .int .i64 ((rd_T62 l0 x2_7).f1), .int .i64 ((rd_T62 l0 x2_7).f2)]) 0 (some 3) rfl rfl rfl) rfl ?_)))))))))
  revert H; refine bdI ?_; rintro t4 A4 H
  refine so rfl (op_call (impl_IsValidRow.ok ((rd_T62 l0 x2_7).f0) ((rd_T62 l0 x2_7).f1) ((rd_T62 l0 x2_7).f2) _ A4) [] 1 rfl rfl rfl rfl rfl ?_)
  rintro _ _ _ ⟨rfl, rfl, rfl⟩
  refine sv (EV.nt rfl) rfl (re (pr [5, 6, 7, 13] [] [0] rfl rfl rfl rfl ?_))
  revert H; refine ifsI ?_ ?_ <;> intro c5 H
  ·
   subst c5
   exact gf rfl rfl (gk (ge (rg (sv (EV.add rfl rfl) rfl (sv (EV.mv rfl) rfl (re (wk [5, 6, 7] [] [⟨0, 0, 0, false⟩] (ih0 _ (by omega) _ ⟨x2_6, wrap64 (x2_7 + 1), H, rfl⟩))))))))
  ·
   obtain rfl := bF c5
   refine gt rfl rfl (gs (rg (sv (EV.as rfl) rfl (re ?_))))
   cases H
   exact rt Try.func87 rfl (.tmp rfl .nil) rfl [] [] rfl rfl rfl rfl rfl ⟨rfl, rfl, rfl⟩
 ·
  refine gf rfl (dF c1) (gx rfl (gs (rg (sv (EV.as rfl) rfl (re ?_)))))
  cases H
  exact rt Try.func87 rfl (.tmp rfl .nil) rfl [] [] rfl rfl rfl rfl rfl ⟨rfl, rfl, rfl⟩
end Go.Proofs.Ythciieopabndcaa.K
namespace Go.Proofs.Ythciieopabndcaa.K
open Go Go.RowKit
set_option linter.unusedVariables false
set_option linter.unusedSimpArgs false
def impl_AreValidRows.f (k : Nat) (l0 : List S62) : Option (Bool) := if (l0.length : Int) ≤ 24 then ((impl_allValid.f k l0).bind fun t2 => (some t2)) else (some false)
set_option maxHeartbeats 4000000 in
set_option maxRecDepth 100000 in
theorem impl_AreValidRows.ok (k : Nat) (l0 : List S62) (Al0 : Option Addr) (cl0 : Nat) (r0 : Bool) (H : impl_AreValidRows.f k l0 = some r0) : Fn Try.prog 66 [.slice Al0 l0.length cl0] [] [.sl 0 k62 Al0 cl0 l0 0 false] (fun v bx en => v = .bool r0 ∧ bx = [] ∧ en = []) := by
 refine fn_ 10 Try.func66 rfl rfl rfl (fun base T w0 => ?_)
 rw [impl_AreValidRows.f] at H
 refine gs (rg (sv (EV.as rfl) rfl (re (gs (rg (sv (EV.mv rfl) rfl (sv (EV.ln rfl) rfl (sv (EV.leq rfl rfl) rfl (sv (EV.mv rfl) rfl ?_)))))))))
 revert H; refine ifsI ?_ ?_ <;> intro c1 H
 ·
  refine ts 6 rfl (dT c1) (sv (EV.mv rfl) rfl ?_)
  revert H; refine bdI ?_; rintro t2 A2 H
  refine so rfl (op_call (impl_allValid.ok k l0 Al0 cl0 _ A2) [⟨0, 0, 0, false⟩] 1 rfl rfl rfl rfl rfl ?_)
  rintro _ _ _ ⟨rfl, rfl, rfl⟩
  refine sv (EV.pt rfl rfl rfl) rfl (sv (EV.as rfl) rfl (re (pr [2] [] [] rfl rfl rfl rfl ?_)))
  cases H
  exact rt Try.func66 rfl (.tmp rfl .nil) rfl [] [] rfl rfl rfl rfl rfl ⟨rfl, rfl, rfl⟩
 ·
  refine ts 6 rfl (dF c1) (sk rfl (sk rfl (sv (EV.pf rfl rfl rfl) rfl (sv (EV.as rfl) rfl (re (pr [2] [] [] rfl rfl rfl rfl ?_))))))
  cases H
  exact rt Try.func66 rfl (.tmp rfl .nil) rfl [] [] rfl rfl rfl rfl rfl ⟨rfl, rfl, rfl⟩
end Go.Proofs.Ythciieopabndcaa.K
namespace Go.Proofs.Ythciieopabndcaa.K
open Go Go.RowKit
set_option linter.unusedVariables false
set_option linter.unusedSimpArgs false
def impl_IsValidTask.f (k : Nat) (a0_0 : Int) (l0_1 : List S62) (l0_2 : List S62) (l0_3 : List Bool) (a0_4 : Int) : Option (Bool) := (impl_IsValidJoinKind.f a0_0).bind fun t1 => (if t1 = true then ((impl_AreValidRows.f k l0_1).bind fun t3 => (if t3 = true then ((impl_AreValidRows.f k l0_2).bind fun t5 => (if t5 = true then (if (l0_3.length : Int) = (l0_1.length : Int) then ((impl_within.f a0_4 0 4).bind fun t8 => (some t8)) else (some false)) else (some false))) else (some false))) else (some false))
set_option maxHeartbeats 4000000 in
set_option maxRecDepth 100000 in
theorem impl_IsValidTask.ok (k : Nat) (a0_0 : Int) (l0_1 : List S62) (Al0_1 : Option Addr) (cl0_1 : Nat) (l0_2 : List S62) (Al0_2 : Option Addr) (cl0_2 : Nat) (l0_3 : List Bool) (Al0_3 : Option Addr) (cl0_3 : Nat) (a0_4 : Int) (r0 : Bool) (H : impl_IsValidTask.f k a0_0 l0_1 l0_2 l0_3 a0_4 = some r0) : Fn Try.prog 28 [.agg #[.int .i64 a0_0, .slice Al0_1 l0_1.length cl0_1, .slice Al0_2 l0_2.length cl0_2, .slice Al0_3 l0_3.length cl0_3, .int .i64 a0_4]] [] [.sl 0 k62 Al0_1 cl0_1 l0_1 0 false, .sl 0 k62 Al0_2 cl0_2 l0_2 0 false, .sl 0 .bool Al0_3 cl0_3 l0_3 0 false] (fun v bx en => v = .bool r0 ∧ bx = [] ∧ en = []) := by
 refine fn_ 30 Try.func28 rfl rfl rfl (fun base T w0 => ?_)
 rw [impl_IsValidTask.f] at H
 refine gs (rg (so rfl (op_box (cs := [.int .i64 a0_0, .slice Al0_1 l0_1.length cl0_1, .slice Al0_2 l0_2.length cl0_2, .slice Al0_3 l0_3.length cl0_3, .int .i64 a0_4]) rfl rfl rfl fun b1 => (sv (EV.as rfl) rfl (re (gs (rg (sv (EV.fa 0 rfl) rfl (sv (EV.ld 0 none rfl rfl rfl) rfl ?_)))))))))
 revert H; refine bdI ?_; rintro t1 A1 H
 refine so rfl (op_call (impl_IsValidJoinKind.ok a0_0 _ A1) [] 1 rfl rfl rfl rfl rfl ?_)
 rintro _ _ _ ⟨rfl, rfl, rfl⟩
 refine sv (EV.mv rfl) rfl ?_
 revert H; refine ifsI ?_ ?_ <;> intro c2 H
 ·
  subst c2
  refine ts 6 rfl rfl (sv (EV.fa 1 rfl) rfl (sv (EV.ld 0 none rfl rfl rfl) rfl ?_))
  revert H; refine bdI ?_; rintro t3 A3 H
  refine so rfl (op_call (impl_AreValidRows.ok k l0_1 Al0_1 cl0_1 _ A3) [⟨0, 0, 0, false⟩] 1 rfl rfl rfl rfl rfl ?_)
  rintro _ _ _ ⟨rfl, rfl, rfl⟩
  refine sv (EV.pt rfl rfl rfl) rfl (sv (EV.mv rfl) rfl ?_)
  revert H; refine ifsI ?_ ?_ <;> intro c4 H
  ·
   subst c4
   refine ts 11 rfl rfl (sv (EV.fa 2 rfl) rfl (sv (EV.ld 0 none rfl rfl rfl) rfl ?_))
   revert H; refine bdI ?_; rintro t5 A5 H
   refine so rfl (op_call (impl_AreValidRows.ok k l0_2 Al0_2 cl0_2 _ A5) [⟨1, 0, 0, false⟩] 1 rfl rfl rfl rfl rfl ?_)
   rintro _ _ _ ⟨rfl, rfl, rfl⟩
   refine sv (EV.pt rfl rfl rfl) rfl (sv (EV.mv rfl) rfl ?_)
   revert H; refine ifsI ?_ ?_ <;> intro c6 H
   ·
    subst c6
    refine ts 16 rfl rfl (sv (EV.fa 3 rfl) rfl (sv (EV.ld 0 none rfl rfl rfl) rfl (sv (EV.ln rfl) rfl (sv (EV.fa 1 rfl) rfl (sv (EV.ld 0 none rfl rfl rfl) rfl (sv (EV.ln rfl) rfl (sv (EV.eql rfl rfl) rfl (sv (EV.pt rfl rfl rfl) rfl (sv (EV.mv rfl) rfl ?_)))))))))
    revert H; refine ifsI ?_ ?_ <;> intro c7 H
    ·
     refine ts 25 rfl (dT c7) (sv (EV.fa 4 rfl) rfl (sv (EV.ld 0 none rfl rfl rfl) rfl ?_))
     revert H; refine bdI ?_; rintro t8 A8 H
     refine so rfl (op_call (impl_within.ok a0_4 0 4 _ A8) [] 1 rfl rfl rfl rfl rfl ?_)
     rintro _ _ _ ⟨rfl, rfl, rfl⟩
     refine sv (EV.pt rfl rfl rfl) rfl (sv (EV.as rfl) rfl (re (pr [2] [] [] rfl rfl rfl rfl ?_)))
     cases H
     exact rt Try.func28 rfl (.tmp rfl .nil) rfl [] [] rfl rfl rfl rfl rfl ⟨rfl, rfl, rfl⟩
    ·
     refine ts 25 rfl (dF c7) (sk rfl (sk rfl (sk rfl (sv (EV.pf rfl rfl rfl) rfl (sv (EV.as rfl) rfl (re (pr [2] [] [] rfl rfl rfl rfl ?_)))))))
     cases H
     exact rt Try.func28 rfl (.tmp rfl .nil) rfl [] [] rfl rfl rfl rfl rfl ⟨rfl, rfl, rfl⟩
   ·
    obtain rfl := bF c6
    refine ts 16 rfl rfl (sk rfl (sk rfl (sk rfl (sk rfl (sk rfl (sk rfl (sk rfl (sv (EV.pf rfl rfl rfl) rfl (sv (EV.mv rfl) rfl (sk rfl (sk rfl (sk rfl (sv (EV.pf rfl rfl rfl) rfl (sv (EV.as rfl) rfl (re (pr [2] [] [] rfl rfl rfl rfl ?_))))))))))))))))
    cases H
    exact rt Try.func28 rfl (.tmp rfl .nil) rfl [] [] rfl rfl rfl rfl rfl ⟨rfl, rfl, rfl⟩
  ·
   obtain rfl := bF c4
   refine ts 11 rfl rfl (sk rfl (sk rfl (sk rfl (sv (EV.pf rfl rfl rfl) rfl (sv (EV.mv rfl) rfl (sk rfl (sk rfl (sk rfl (sk rfl (sk rfl (sk rfl (sk rfl (sv (EV.pf rfl rfl rfl) rfl (sv (EV.mv rfl) rfl (sk rfl (sk rfl (sk rfl (sv (EV.pf rfl rfl rfl) rfl (sv (EV.as rfl) rfl (re (pr [2] [] [] rfl rfl rfl rfl ?_)))))))))))))))))))))
   cases H
   exact rt Try.func28 rfl (.tmp rfl .nil) rfl [] [] rfl rfl rfl rfl rfl ⟨rfl, rfl, rfl⟩
 ·
  obtain rfl := bF c2
  refine ts 6 rfl rfl (sk rfl (sk rfl (sk rfl (sv (EV.pf rfl rfl rfl) rfl (sv (EV.mv rfl) rfl (sk rfl (sk rfl (sk rfl (sv (EV.pf rfl rfl rfl) rfl (sv (EV.mv rfl) rfl (sk rfl (sk rfl (sk rfl (sk rfl (sk rfl (sk rfl (sk rfl (sv (EV.pf rfl rfl rfl) rfl (sv (EV.mv rfl) rfl (sk rfl (sk rfl (sk rfl (sv (EV.pf rfl rfl rfl) rfl (sv (EV.as rfl) rfl (re (pr [2] [] [] rfl rfl rfl rfl ?_))))))))))))))))))))))))))
  cases H
  exact rt Try.func28 rfl (.tmp rfl .nil) rfl [] [] rfl rfl rfl rfl rfl ⟨rfl, rfl, rfl⟩
end Go.Proofs.Ythciieopabndcaa.K
namespace Go.Proofs.Ythciieopabndcaa.K
open Go Go.RowKit
set_option linter.unusedVariables false
set_option linter.unusedSimpArgs false
def impl_RowCost.f (a0_0 : Int) (a0_1 : Int) (a0_2 : Int) : Option (Int) := (impl_IsValidRow.f a0_0 a0_1 a0_2).bind fun t1 => (if t1 = true then (some (wrap64 (1 + a0_2))) else (some 0))
set_option maxHeartbeats 4000000 in
set_option maxRecDepth 100000 in
theorem impl_RowCost.ok (a0_0 : Int) (a0_1 : Int) (a0_2 : Int) (r0 : Int) (H : impl_RowCost.f a0_0 a0_1 a0_2 = some r0) : Fn Try.prog 86 [.agg #[.int .i64 a0_0, .int .i64 a0_1, .int .i64 a0_2]] [] [] (fun v bx en => v = .int .i64 r0 ∧ bx = [] ∧ en = []) := by
 refine fn_ 9 Try.func86 rfl rfl rfl (fun base T w0 => ?_)
 rw [impl_RowCost.f] at H
 refine gs (rg (so rfl (op_box (cs := [.int .i64 a0_0, .int .i64 a0_1, .int .i64 a0_2]) rfl rfl rfl fun b1 => (sv (EV.as rfl) rfl (re (gs (gs (rg (sv (EV.ld (v := .agg #[.int .i64 a0_0, .int .i64 a0_1, .int .i64 a0_2]) 0 (some 3) rfl rfl rfl) rfl ?_)))))))))
 revert H; refine bdI ?_; rintro t1 A1 H
 refine so rfl (op_call (impl_IsValidRow.ok a0_0 a0_1 a0_2 _ A1) [] 1 rfl rfl rfl rfl rfl ?_)
 rintro _ _ _ ⟨rfl, rfl, rfl⟩
 refine sv (EV.nt rfl) rfl (re ?_)
 revert H; refine ifsI ?_ ?_ <;> intro c2 H
 ·
  subst c2
  refine gf rfl rfl (gk (gs (rg (sv (EV.fa 2 rfl) rfl (sv (EV.ld 0 none rfl rfl rfl) rfl (sv (EV.add rfl rfl) rfl (sv (EV.as rfl) rfl (re (pr [2] [] [] rfl rfl rfl rfl ?_)))))))))
  cases H
  exact rt Try.func86 rfl (.tmp rfl .nil) rfl [] [] rfl rfl rfl rfl rfl ⟨rfl, rfl, rfl⟩
 ·
  obtain rfl := bF c2
  refine gt rfl rfl (gs (rg (sv (EV.as rfl) rfl (re ?_))))
  cases H
  exact rt Try.func86 rfl (.tmp rfl .nil) rfl [] [] rfl rfl rfl rfl rfl ⟨rfl, rfl, rfl⟩
end Go.Proofs.Ythciieopabndcaa.K
namespace Go.Proofs.Ythciieopabndcaa.K
open Go Go.RowKit
set_option linter.unusedVariables false
set_option linter.unusedSimpArgs false
def impl_TotalCost.l0 : Nat → Int → Int → Int → (List S62) → Option (Int)
 | 0, _, _, _, _ => none
 | k + 1, x2_3, x2_7, x2_8, l0 => if x2_8 < x2_7 then (if 0 ≤ x2_8 then (if x2_8 < (l0.length : Int) then ((impl_RowCost.f ((rd_T62 l0 x2_8).f0) ((rd_T62 l0 x2_8).f1) ((rd_T62 l0 x2_8).f2)).bind fun t4 => (impl_TotalCost.l0 k (wrap64 (x2_3 + t4)) x2_7 (wrap64 (x2_8 + 1)) l0)) else none) else none) else (some x2_3)
def impl_TotalCost.f (k : Nat) (l0 : List S62) : Option (Int) := impl_TotalCost.l0 k 0 (l0.length : Int) 0 l0
set_option maxHeartbeats 4000000 in
set_option maxRecDepth 100000 in
theorem impl_TotalCost.ok (k : Nat) (l0 : List S62) (Al0 : Option Addr) (cl0 : Nat) (r0 : Int) (H : impl_TotalCost.f k l0 = some r0) : Fn Try.prog 54 [.slice Al0 l0.length cl0] [] [.sl 0 k62 Al0 cl0 l0 0 false] (fun v bx en => v = .int .i64 r0 ∧ bx = [] ∧ en = []) := by
 refine fn_ 18 Try.func54 rfl rfl rfl (fun base T w0 => ?_)
 rw [impl_TotalCost.f] at H
 refine gs (rg (sv (EV.as rfl) rfl (re (gs (rg (sv (EV.as rfl) rfl (re (gs (gs (rg (sv (EV.mv rfl) rfl (sv (EV.ln rfl) rfl (sv (EV.mv rfl) rfl (re (gb ?_)))))))))))))))
 refine lo (fun kk S => ∃ (x2_3 : Int) (x2_7 : Int) (x2_8 : Int), impl_TotalCost.l0 kk x2_3 x2_7 x2_8 l0 = some r0 ∧ S = ⟨[(3, .int .i64 x2_3), (6, .slice Al0 l0.length cl0), (7, .int .i64 x2_7), (8, .int .i64 x2_8)], [], [.sl 0 k62 Al0 cl0 l0 0 false]⟩) (fun S hS => ?_) (fun n0 ih0 S hS => ?_) ⟨0, (l0.length : Int), 0, H, rfl⟩ (fun h => wk [3, 6, 7, 8] [] [⟨0, 0, 0, false⟩] h)
 · clear H; obtain ⟨_, _, _, H, _⟩ := hS; rw [impl_TotalCost.l0] at H; cases H
 clear H
 obtain ⟨x2_3, x2_7, x2_8, H, rfl⟩ := hS
 rw [impl_TotalCost.l0] at H
 refine gs (rg (sv (EV.lss rfl rfl) rfl (re (gs ?_))))
 revert H; refine ifsI ?_ ?_ <;> intro c1 H
 ·
  refine gt rfl (dT c1) (gk (gs (gb (gs (rg ?_)))))
  revert H; refine ggI ?_; intro g2 H
  revert H; refine ggI ?_; intro g3 H
  refine sv (EV.ix 0 rfl rfl rfl g2 g3 rfl) rfl (sv (EV.le (v := .agg #[.int .i64 ((rd_T62 l0 x2_8).f0), .int .i64 ((rd_T62 l0 x2_8).f1), .int .i64 ((rd_T62 l0 x2_8).f2)]) x2_8 0 (some 3) 0 z62 rfl rfl rfl g2 g3 rfl rfl rfl) rfl (so rfl (op_alloc (cs := [.int .i64 0, .int .i64 0, .int .i64 0]) (by kernel_rfl) rfl fun b5 => (so rfl (op_st (cs' := [.int .i64 ((rd_T62 l0 x2_8).f0), .int .i64 ((rd_T62 l0 x2_8).f1), .int .i64 ((rd_T62 l0 x2_8).f2)]) 0 rfl rfl rfl rfl rfl rfl (re (rg (sv (EV.mv rfl) rfl (sv (EV.ld (v := .agg #[.int .i64 ((rd_T62 l0 x2_8).f0), .int .i64 ((rd_T62 l0 x2_8).f1), .int .i64 ((rd_T62 l0 x2_8).f2)]) 0 (some 3) rfl rfl rfl) rfl ?_)))))))))
  revert H; refine bdI ?_; rintro t4 A4 H
  refine so rfl (op_call (impl_RowCost.ok ((rd_T62 l0 x2_8).f0) ((rd_T62 l0 x2_8).f1) ((rd_T62 l0 x2_8).f2) _ A4) [] 1 rfl rfl rfl rfl rfl ?_)
  rintro _ _ _ ⟨rfl, rfl, rfl⟩
  exact sv (EV.add rfl rfl) rfl (sv (EV.as rfl) rfl (re (pr [3, 6, 7, 8] [] [0] rfl rfl rfl rfl (ge (rg (sv (EV.add rfl rfl) rfl (sv (EV.mv rfl) rfl (re (wk [3, 6, 7, 8] [] [⟨0, 0, 0, false⟩] (ih0 _ (by omega) _ ⟨wrap64 (x2_3 + t4), x2_7, wrap64 (x2_8 + 1), H, rfl⟩))))))))))
 ·
  refine gf rfl (dF c1) (gx rfl (gs (rg (sv (EV.mv rfl) rfl (sv (EV.as rfl) rfl (re (pr [2] [] [] rfl rfl rfl rfl ?_)))))))
  cases H
  exact rt Try.func54 rfl (.tmp rfl .nil) rfl [] [] rfl rfl rfl rfl rfl ⟨rfl, rfl, rfl⟩
end Go.Proofs.Ythciieopabndcaa.K
namespace Go.Proofs.Ythciieopabndcaa.K
open Go Go.RowKit
set_option linter.unusedVariables false
set_option linter.unusedSimpArgs false
def impl_BuildSide.f (k : Nat) (a0_0 : Int) (l0_1 : List S62) (l0_2 : List S62) (l0_3 : List Bool) (a0_4 : Int) (a1 : Int) : Option (Int) := (impl_IsValidTask.f k a0_0 l0_1 l0_2 l0_3 a0_4).bind fun t1 => (if t1 = true then ((impl_TotalCost.f k l0_1).bind fun t3 => ((impl_TotalCost.f k l0_2).bind fun t4 => (if a0_0 = 1 then (if t3 < t4 then (if t3 ≤ a1 then (some 1) else (if t4 ≤ a1 then (some 2) else (some 0))) else (if t4 ≤ a1 then (some 2) else (some 0))) else (if t4 ≤ a1 then (some 2) else (some 0))))) else (some 0))
set_option maxHeartbeats 4000000 in
set_option maxRecDepth 100000 in
theorem impl_BuildSide.ok (k : Nat) (a0_0 : Int) (l0_1 : List S62) (Al0_1 : Option Addr) (cl0_1 : Nat) (l0_2 : List S62) (Al0_2 : Option Addr) (cl0_2 : Nat) (l0_3 : List Bool) (Al0_3 : Option Addr) (cl0_3 : Nat) (a0_4 : Int) (a1 : Int) (r0 : Int) (H : impl_BuildSide.f k a0_0 l0_1 l0_2 l0_3 a0_4 a1 = some r0) : Fn Try.prog 38 [.agg #[.int .i64 a0_0, .slice Al0_1 l0_1.length cl0_1, .slice Al0_2 l0_2.length cl0_2, .slice Al0_3 l0_3.length cl0_3, .int .i64 a0_4], .int .i64 a1] [] [.sl 0 k62 Al0_1 cl0_1 l0_1 0 false, .sl 0 k62 Al0_2 cl0_2 l0_2 0 false, .sl 0 .bool Al0_3 cl0_3 l0_3 0 false] (fun v bx en => v = .int .i64 r0 ∧ bx = [] ∧ en = []) := by
 refine fn_ 34 Try.func38 rfl rfl rfl (fun base T w0 => ?_)
 rw [impl_BuildSide.f] at H
 refine gs (rg (so rfl (op_box (cs := [.int .i64 a0_0, .slice Al0_1 l0_1.length cl0_1, .slice Al0_2 l0_2.length cl0_2, .slice Al0_3 l0_3.length cl0_3, .int .i64 a0_4]) rfl rfl rfl fun b2 => (sv (EV.as rfl) rfl (re (gs (gs (rg (sv (EV.ld (v := .agg #[.int .i64 a0_0, .slice Al0_1 l0_1.length cl0_1, .slice Al0_2 l0_2.length cl0_2, .slice Al0_3 l0_3.length cl0_3, .int .i64 a0_4]) 0 (some 5) rfl rfl rfl) rfl ?_)))))))))
 revert H; refine bdI ?_; rintro t1 A1 H
 refine so rfl (op_call (impl_IsValidTask.ok k a0_0 l0_1 Al0_1 cl0_1 l0_2 Al0_2 cl0_2 l0_3 Al0_3 cl0_3 a0_4 _ A1) [⟨0, 0, 0, false⟩, ⟨1, 0, 0, false⟩, ⟨2, 0, 0, false⟩] 1 rfl rfl rfl rfl rfl ?_)
 rintro _ _ _ ⟨rfl, rfl, rfl⟩
 refine sv (EV.nt rfl) rfl (re ?_)
 revert H; refine ifsI ?_ ?_ <;> intro c2 H
 ·
  subst c2
  refine gf rfl rfl (gk (gs (dr [0] [0, 1, 2] [] 8 rfl rfl rfl rfl (xv 0 [0] [0, 1, 2] rfl (EV.fa 1 rfl) rfl rfl rfl rfl (xv 1 [0] [0, 1, 2] rfl (EV.ld 0 none rfl rfl rfl) rfl rfl rfl rfl (xv 3 [0] [0, 1, 2] rfl (EV.fa 2 rfl) rfl rfl rfl rfl (xv 4 [0] [0, 1, 2] rfl (EV.ld 0 none rfl rfl rfl) rfl rfl rfl rfl (one1 2 rfl rfl ?_))))))))
  revert H; refine bdI ?_; rintro t3 A3 H
  refine op_call (impl_TotalCost.ok k l0_1 Al0_1 cl0_1 _ A3) [⟨0, 0, 0, false⟩] 1 rfl rfl rfl rfl rfl ?_
  rintro _ _ _ ⟨rfl, rfl, rfl⟩
  refine xs [0] [0, 1, 2] rfl rfl rfl (one1 5 rfl rfl ?_)
  revert H; refine bdI ?_; rintro t4 A4 H
  refine op_call (impl_TotalCost.ok k l0_2 Al0_2 cl0_2 _ A4) [⟨1, 0, 0, false⟩] 1 rfl rfl rfl rfl rfl ?_
  rintro _ _ _ ⟨rfl, rfl, rfl⟩
  refine xs [0] [0, 1, 2] rfl rfl rfl (xv 6 [0] [0, 1, 2] rfl (EV.as rfl) rfl rfl rfl rfl (xv 7 [0] [0, 1, 2] rfl (EV.as rfl) rfl rfl rfl rfl (xd (pr [1, 2, 5, 6] [0] [0, 1, 2] rfl rfl rfl rfl (gs (gb (gs (rg (sv (EV.fa 0 rfl) rfl (sv (EV.ld 0 none rfl rfl rfl) rfl (sv (EV.eql rfl rfl) rfl (sv (EV.mv rfl) rfl ?_))))))))))))
  revert H; refine ifsI ?_ ?_ <;> intro c5 H
  ·
   refine ts 20 rfl (dT c5) (sv (EV.mv rfl) rfl (sv (EV.mv rfl) rfl (sv (EV.lss rfl rfl) rfl (sv (EV.pt rfl rfl rfl) rfl (sv (EV.mv rfl) rfl ?_)))))
   revert H; refine ifsI ?_ ?_ <;> intro c6 H
   ·
    refine ts 25 rfl (dT c6) (sv (EV.mv rfl) rfl (sv (EV.mv rfl) rfl (sv (EV.leq rfl rfl) rfl (sv (EV.pt rfl rfl rfl) rfl (sv (EV.as rfl) rfl (re (pr [1, 6, 16] [] [] rfl rfl rfl rfl ?_)))))))
    revert H; refine ifsI ?_ ?_ <;> intro c7 H
    ·
     refine gt rfl (dT c7) (gs (rg (sv (EV.as rfl) rfl (re ?_))))
     cases H
     exact rt Try.func38 rfl (.tmp rfl .nil) rfl [] [] rfl rfl rfl rfl rfl ⟨rfl, rfl, rfl⟩
    ·
     refine gf rfl (dF c7) (gs (rg (sv (EV.mv rfl) rfl (sv (EV.mv rfl) rfl (sv (EV.leq rfl rfl) rfl (sv (EV.as rfl) rfl (re (pr [30] [] [] rfl rfl rfl rfl ?_))))))))
     revert H; refine ifsI ?_ ?_ <;> intro c8 H
     ·
      refine gt rfl (dT c8) (gs (rg (sv (EV.as rfl) rfl (re ?_))))
      cases H
      exact rt Try.func38 rfl (.tmp rfl .nil) rfl [] [] rfl rfl rfl rfl rfl ⟨rfl, rfl, rfl⟩
     ·
      refine gf rfl (dF c8) (gk (ge (gs (rg (sv (EV.as rfl) rfl (re ?_))))))
      cases H
      exact rt Try.func38 rfl (.tmp rfl .nil) rfl [] [] rfl rfl rfl rfl rfl ⟨rfl, rfl, rfl⟩
   ·
    refine ts 25 rfl (dF c6) (sk rfl (sk rfl (sk rfl (sv (EV.pf rfl rfl rfl) rfl (sv (EV.as rfl) rfl (re (pr [1, 6, 16] [] [] rfl rfl rfl rfl (gf rfl rfl (gs (rg (sv (EV.mv rfl) rfl (sv (EV.mv rfl) rfl (sv (EV.leq rfl rfl) rfl (sv (EV.as rfl) rfl (re (pr [30] [] [] rfl rfl rfl rfl ?_))))))))))))))))
    revert H; refine ifsI ?_ ?_ <;> intro c9 H
    ·
     refine gt rfl (dT c9) (gs (rg (sv (EV.as rfl) rfl (re ?_))))
     cases H
     exact rt Try.func38 rfl (.tmp rfl .nil) rfl [] [] rfl rfl rfl rfl rfl ⟨rfl, rfl, rfl⟩
    ·
     refine gf rfl (dF c9) (gk (ge (gs (rg (sv (EV.as rfl) rfl (re ?_))))))
     cases H
     exact rt Try.func38 rfl (.tmp rfl .nil) rfl [] [] rfl rfl rfl rfl rfl ⟨rfl, rfl, rfl⟩
  ·
   refine ts 20 rfl (dF c5) (sk rfl (sk rfl (sk rfl (sv (EV.pf rfl rfl rfl) rfl (sv (EV.mv rfl) rfl (sk rfl (sk rfl (sk rfl (sv (EV.pf rfl rfl rfl) rfl (sv (EV.as rfl) rfl (re (pr [1, 6, 16] [] [] rfl rfl rfl rfl (gf rfl rfl (gs (rg (sv (EV.mv rfl) rfl (sv (EV.mv rfl) rfl (sv (EV.leq rfl rfl) rfl (sv (EV.as rfl) rfl (re (pr [30] [] [] rfl rfl rfl rfl ?_)))))))))))))))))))))
   revert H; refine ifsI ?_ ?_ <;> intro c10 H
   ·
    refine gt rfl (dT c10) (gs (rg (sv (EV.as rfl) rfl (re ?_))))
    cases H
    exact rt Try.func38 rfl (.tmp rfl .nil) rfl [] [] rfl rfl rfl rfl rfl ⟨rfl, rfl, rfl⟩
   ·
    refine gf rfl (dF c10) (gk (ge (gs (rg (sv (EV.as rfl) rfl (re ?_))))))
    cases H
    exact rt Try.func38 rfl (.tmp rfl .nil) rfl [] [] rfl rfl rfl rfl rfl ⟨rfl, rfl, rfl⟩
 ·
  obtain rfl := bF c2
  refine gt rfl rfl (gs (rg (sv (EV.as rfl) rfl (re (pr [4] [] [] rfl rfl rfl rfl ?_)))))
  cases H
  exact rt Try.func38 rfl (.tmp rfl .nil) rfl [] [] rfl rfl rfl rfl rfl ⟨rfl, rfl, rfl⟩
end Go.Proofs.Ythciieopabndcaa.K
namespace Go.Proofs.Ythciieopabndcaa.K
open Go Go.RowKit
set_option linter.unusedVariables false
set_option linter.unusedSimpArgs false
def impl_HashBit.f (a0 : Int) (a1 : Int) : Option (Int) := (impl_within.f a1 0 3).bind fun t1 => (if t1 = true then ((impl_within.f a0 0 9).bind fun t3 => (if t3 = true then (if 0 ≤ a1 then (some (andI (shrI (Int.tmod (wrap64 (7 * a0)) 16) a1) 1)) else none) else (some 0))) else (some 0))
set_option maxHeartbeats 4000000 in
set_option maxRecDepth 100000 in
theorem impl_HashBit.ok (a0 : Int) (a1 : Int) (r0 : Int) (H : impl_HashBit.f a0 a1 = some r0) : Fn Try.prog 77 [.int .i64 a0, .int .i64 a1] [] [] (fun v bx en => v = .int .i64 r0 ∧ bx = [] ∧ en = []) := by
 refine fn_ 19 Try.func77 rfl rfl rfl (fun base T w0 => ?_)
 rw [impl_HashBit.f] at H
 refine gs (rg (sv (EV.as rfl) rfl (re (gs (gs (rg (sv (EV.mv rfl) rfl ?_)))))))
 revert H; refine bdI ?_; rintro t1 A1 H
 refine so rfl (op_call (impl_within.ok a1 0 3 _ A1) [] 1 rfl rfl rfl rfl rfl ?_)
 rintro _ _ _ ⟨rfl, rfl, rfl⟩
 refine sv (EV.nt rfl) rfl (sv (EV.mv rfl) rfl ?_)
 revert H; refine ifsI ?_ ?_ <;> intro c2 H
 ·
  subst c2
  refine ts 8 rfl rfl (sv (EV.mv rfl) rfl ?_)
  revert H; refine bdI ?_; rintro t3 A3 H
  refine so rfl (op_call (impl_within.ok a0 0 9 _ A3) [] 1 rfl rfl rfl rfl rfl ?_)
  rintro _ _ _ ⟨rfl, rfl, rfl⟩
  refine sv (EV.nt rfl) rfl (sv (EV.pf rfl rfl rfl) rfl (re (pr [0, 1, 12] [] [] rfl rfl rfl rfl ?_)))
  revert H; refine ifsI ?_ ?_ <;> intro c4 H
  ·
   subst c4
   refine gf rfl rfl (gk (gs (rg (sv (EV.mv rfl) rfl (sv (EV.mul rfl rfl) rfl (sv (EV.rem rfl rfl dq) rfl (sv (EV.mv rfl) rfl ?_)))))))
   revert H; refine ggI ?_; intro g5 H
   refine sv (EV.shr rfl rfl g5) rfl (sv (EV.andI rfl rfl) rfl (sv (EV.as rfl) rfl (re (pr [4] [] [] rfl rfl rfl rfl ?_))))
   cases H
   exact rt Try.func77 rfl (.tmp rfl .nil) rfl [] [] rfl rfl rfl rfl rfl ⟨rfl, rfl, rfl⟩
  ·
   obtain rfl := bF c4
   refine gt rfl rfl (gs (rg (sv (EV.as rfl) rfl (re ?_))))
   cases H
   exact rt Try.func77 rfl (.tmp rfl .nil) rfl [] [] rfl rfl rfl rfl rfl ⟨rfl, rfl, rfl⟩
 ·
  obtain rfl := bF c2
  refine ts 8 rfl rfl (sk rfl (sk rfl (sk rfl (sv (EV.pt rfl rfl rfl) rfl (re (pr [0, 1, 12] [] [] rfl rfl rfl rfl (gt rfl rfl (gs (rg (sv (EV.as rfl) rfl (re ?_)))))))))))
  cases H
  exact rt Try.func77 rfl (.tmp rfl .nil) rfl [] [] rfl rfl rfl rfl rfl ⟨rfl, rfl, rfl⟩
end Go.Proofs.Ythciieopabndcaa.K
namespace Go.Proofs.Ythciieopabndcaa.K
open Go Go.RowKit
set_option linter.unusedVariables false
set_option linter.unusedSimpArgs false
def impl_SplitByHashBit.l0 : Nat → Int → (List S62) → (List S62) → Int → Int → (List S62) → Option ((List S62) × (List S62))
 | 0, _, _, _, _, _, _ => none
 | k + 1, x2_1, x2_6, x2_7, x2_13, x2_14, l0 => if x2_14 < x2_13 then (if 0 ≤ x2_14 then (if x2_14 < (l0.length : Int) then ((impl_HashBit.f ((rd_T62 l0 x2_14).f0) x2_1).bind fun t6 => (if t6 = 0 then (if x2_6.length < 5864062014805 then (impl_SplitByHashBit.l0 k x2_1 (x2_6 ++ ([(⟨(rd_T62 l0 x2_14).f0, (rd_T62 l0 x2_14).f1, (rd_T62 l0 x2_14).f2⟩ : S62)] : List S62)) x2_7 x2_13 (wrap64 (x2_14 + 1)) l0) else none) else (if x2_7.length < 5864062014805 then (impl_SplitByHashBit.l0 k x2_1 x2_6 (x2_7 ++ ([(⟨(rd_T62 l0 x2_14).f0, (rd_T62 l0 x2_14).f1, (rd_T62 l0 x2_14).f2⟩ : S62)] : List S62)) x2_13 (wrap64 (x2_14 + 1)) l0) else none))) else none) else none) else (some (x2_6, x2_7))
def impl_SplitByHashBit.f (k : Nat) (l0 : List S62) (a1 : Int) : Option ((List S62) × (List S62)) := impl_SplitByHashBit.l0 k a1 [] [] (l0.length : Int) 0 l0
set_option maxHeartbeats 4000000 in
set_option maxRecDepth 100000 in
theorem impl_SplitByHashBit.ok (k : Nat) (l0 : List S62) (Al0 : Option Addr) (cl0 : Nat) (a1 : Int) (r0 : List S62) (r1 : List S62) (H : impl_SplitByHashBit.f k l0 a1 = some (r0, r1)) : Fn Try.prog 78 [.slice Al0 l0.length cl0, .int .i64 a1] [] [.sl 0 k62 Al0 cl0 l0 0 false] (fun v bx en => ∃ A0 c0 A1 c1, v = .tuple #[.slice A0 r0.length c0, .slice A1 r1.length c1] ∧ bx = [] ∧ en = [.sl 2 k62 A0 c0 r0 1 true, .sl 2 k62 A1 c1 r1 2 true]) := by
 refine fn_ 34 Try.func78 rfl rfl rfl (fun base T w0 => ?_)
 rw [impl_SplitByHashBit.f] at H
 refine gs (rg (sv (EV.as rfl) rfl (sv (EV.as rfl) rfl (re (gs (rg (so rfl (op_lit (s := 3) (by_ := 24) k62 ([] : List S62) [] [] 1 [] rfl rfl rfl rfl rfl rfl rfl rfl rfl rfl rfl rfl rfl dq rfl fun A10_1 c10_1 => (so rfl (op_lit (s := 3) (by_ := 24) k62 ([] : List S62) [] [] 2 [] rfl rfl rfl rfl rfl rfl rfl rfl rfl rfl rfl rfl rfl dq rfl fun A11_2 c11_2 => (sv (EV.as rfl) rfl (sv (EV.as rfl) rfl (re (gs (gs (rg (sv (EV.mv rfl) rfl (sv (EV.ln rfl) rfl (sv (EV.mv rfl) rfl (re (gb ?_)))))))))))))))))))))
 refine lo (fun kk S => ∃ (x2_1 : Int) (x2_6 : List S62) (Ax2_6 : Option Addr) (cx2_6 : Nat) (x2_7 : List S62) (Ax2_7 : Option Addr) (cx2_7 : Nat) (x2_13 : Int) (x2_14 : Int), impl_SplitByHashBit.l0 kk x2_1 x2_6 x2_7 x2_13 x2_14 l0 = some (r0, r1) ∧ S = ⟨[(1, .int .i64 x2_1), (6, .slice Ax2_6 x2_6.length cx2_6), (7, .slice Ax2_7 x2_7.length cx2_7), (12, .slice Al0 l0.length cl0), (13, .int .i64 x2_13), (14, .int .i64 x2_14)], [], [.sl 2 k62 Ax2_6 cx2_6 x2_6 1 true, .sl 2 k62 Ax2_7 cx2_7 x2_7 2 true, .sl 0 k62 Al0 cl0 l0 0 false]⟩) (fun S hS => ?_) (fun n0 ih0 S hS => ?_) ⟨a1, [], A10_1, c10_1, [], A11_2, c11_2, (l0.length : Int), 0, H, rfl⟩ (fun h => wk [1, 6, 7, 12, 13, 14] [] [⟨1, 2, 1, true⟩, ⟨2, 2, 2, true⟩, ⟨0, 0, 0, false⟩] h)
 · clear H; obtain ⟨_, _, _, _, _, _, _, _, _, H, _⟩ := hS; rw [impl_SplitByHashBit.l0] at H; cases H
 clear H
 obtain ⟨x2_1, x2_6, Ax2_6, cx2_6, x2_7, Ax2_7, cx2_7, x2_13, x2_14, H, rfl⟩ := hS
 rw [impl_SplitByHashBit.l0] at H
 refine gs (rg (sv (EV.lss rfl rfl) rfl (re (gs ?_))))
 revert H; refine ifsI ?_ ?_ <;> intro c3 H
 ·
  refine gt rfl (dT c3) (gk (gs (gb (gs (rg ?_)))))
  revert H; refine ggI ?_; intro g4 H
  revert H; refine ggI ?_; intro g5 H
  refine sv (EV.ix 2 rfl rfl rfl g4 g5 rfl) rfl (sv (EV.le (v := .agg #[.int .i64 ((rd_T62 l0 x2_14).f0), .int .i64 ((rd_T62 l0 x2_14).f1), .int .i64 ((rd_T62 l0 x2_14).f2)]) x2_14 0 (some 3) 2 z62 rfl rfl rfl g4 g5 rfl rfl rfl) rfl (so rfl (op_alloc (cs := [.int .i64 0, .int .i64 0, .int .i64 0]) (by kernel_rfl) rfl fun b9 => (so rfl (op_st (cs' := [.int .i64 ((rd_T62 l0 x2_14).f0), .int .i64 ((rd_T62 l0 x2_14).f1), .int .i64 ((rd_T62 l0 x2_14).f2)]) 0 rfl rfl rfl rfl rfl rfl (re (gs (rg (sv (EV.fa 0 rfl) rfl (sv (EV.ld 0 none rfl rfl rfl) rfl (sv (EV.mv rfl) rfl ?_)))))))))))
  revert H; refine bdI ?_; rintro t6 A6 H
  refine so rfl (op_call (impl_HashBit.ok ((rd_T62 l0 x2_14).f0) x2_1 _ A6) [] 3 rfl rfl rfl rfl rfl ?_)
  rintro _ _ _ ⟨rfl, rfl, rfl⟩
  refine sv (EV.eql rfl rfl) rfl (re (pr [1, 6, 7, 9, 12, 13, 14, 22] [0] [0, 1, 2] rfl rfl rfl rfl ?_))
  revert H; refine ifsI ?_ ?_ <;> intro c7 H
  ·
   refine gt rfl (dT c7) (rg (sv (EV.mv rfl) rfl (sv (EV.ld (v := .agg #[.int .i64 ((rd_T62 l0 x2_14).f0), .int .i64 ((rd_T62 l0 x2_14).f1), .int .i64 ((rd_T62 l0 x2_14).f2)]) 0 (some 3) rfl rfl rfl) rfl (so rfl (op_lit (s := 3) (by_ := 24) k62 ([(⟨(rd_T62 l0 x2_14).f0, (rd_T62 l0 x2_14).f1, (rd_T62 l0 x2_14).f2⟩ : S62)] : List S62) [[]] [] 3 [.tmp 24] rfl rfl rfl rfl rfl rfl rfl rfl rfl rfl rfl rfl rfl dq rfl fun A25_8 c25_8 => ?_)))))
   revert H; refine ggI ?_; intro g9 H
   exact so rfl (op_app (k := k62) (s := 3) (by_ := 24) 0 3 rfl rfl rfl rfl (ap1 g9 dq) (ap1n g9 dq) (.inl rfl) true (fun _ => .inl rfl) rfl rfl fun A26_10 c26_10 => (nmE (en := [.sl 2 k62 Ax2_7 cx2_7 x2_7 2 true, .sl 0 k62 Al0 cl0 l0 0 false, .sl 2 k62 A25_8 c25_8 ([(⟨(rd_T62 l0 x2_14).f0, (rd_T62 l0 x2_14).f1, (rd_T62 l0 x2_14).f2⟩ : S62)] : List S62) 3 true, .sl 2 k62 A26_10 c26_10 (x2_6 ++ ([(⟨(rd_T62 l0 x2_14).f0, (rd_T62 l0 x2_14).f1, (rd_T62 l0 x2_14).f2⟩ : S62)] : List S62)) 1 true]) (by kernel_rfl) (sv (EV.as rfl) rfl (re (pr [1, 6, 7, 12, 13, 14] [] [0, 1, 3] rfl rfl rfl rfl (ge (rg (sv (EV.add rfl rfl) rfl (sv (EV.mv rfl) rfl (re (wk [1, 6, 7, 12, 13, 14] [] [⟨2, 2, 1, true⟩, ⟨0, 2, 2, true⟩, ⟨1, 0, 0, false⟩] (ih0 _ (by omega) _ ⟨x2_1, x2_6 ++ ([(⟨(rd_T62 l0 x2_14).f0, (rd_T62 l0 x2_14).f1, (rd_T62 l0 x2_14).f2⟩ : S62)] : List S62), A26_10, c26_10, x2_7, Ax2_7, cx2_7, x2_13, wrap64 (x2_14 + 1), H, rfl⟩))))))))))))
  ·
   refine gf rfl (dF c7) (rg (sv (EV.mv rfl) rfl (sv (EV.ld (v := .agg #[.int .i64 ((rd_T62 l0 x2_14).f0), .int .i64 ((rd_T62 l0 x2_14).f1), .int .i64 ((rd_T62 l0 x2_14).f2)]) 0 (some 3) rfl rfl rfl) rfl (so rfl (op_lit (s := 3) (by_ := 24) k62 ([(⟨(rd_T62 l0 x2_14).f0, (rd_T62 l0 x2_14).f1, (rd_T62 l0 x2_14).f2⟩ : S62)] : List S62) [[]] [] 3 [.tmp 28] rfl rfl rfl rfl rfl rfl rfl rfl rfl rfl rfl rfl rfl dq rfl fun A29_11 c29_11 => ?_)))))
   revert H; refine ggI ?_; intro g12 H
   exact so rfl (op_app (k := k62) (s := 3) (by_ := 24) 1 3 rfl rfl rfl rfl (ap1 g12 dq) (ap1n g12 dq) (.inl rfl) true (fun _ => .inl rfl) rfl rfl fun A30_13 c30_13 => (nmE (en := [.sl 2 k62 Ax2_6 cx2_6 x2_6 1 true, .sl 0 k62 Al0 cl0 l0 0 false, .sl 2 k62 A29_11 c29_11 ([(⟨(rd_T62 l0 x2_14).f0, (rd_T62 l0 x2_14).f1, (rd_T62 l0 x2_14).f2⟩ : S62)] : List S62) 3 true, .sl 2 k62 A30_13 c30_13 (x2_7 ++ ([(⟨(rd_T62 l0 x2_14).f0, (rd_T62 l0 x2_14).f1, (rd_T62 l0 x2_14).f2⟩ : S62)] : List S62)) 2 true]) (by kernel_rfl) (sv (EV.as rfl) rfl (re (pr [1, 6, 7, 12, 13, 14] [] [0, 1, 3] rfl rfl rfl rfl (ge (rg (sv (EV.add rfl rfl) rfl (sv (EV.mv rfl) rfl (re (wk [1, 6, 7, 12, 13, 14] [] [⟨0, 2, 1, true⟩, ⟨2, 2, 2, true⟩, ⟨1, 0, 0, false⟩] (ih0 _ (by omega) _ ⟨x2_1, x2_6, Ax2_6, cx2_6, x2_7 ++ ([(⟨(rd_T62 l0 x2_14).f0, (rd_T62 l0 x2_14).f1, (rd_T62 l0 x2_14).f2⟩ : S62)] : List S62), A30_13, c30_13, x2_13, wrap64 (x2_14 + 1), H, rfl⟩))))))))))))
 ·
  refine gf rfl (dF c3) (gx rfl (gs (rg (sv (EV.mv rfl) rfl (sv (EV.mv rfl) rfl (sv (EV.as rfl) rfl (sv (EV.as rfl) rfl (re (pr [4, 5] [] [0, 1] rfl rfl rfl rfl ?_)))))))))
  cases H
  exact rt Try.func78 rfl (.tmp rfl (.tmp rfl .nil)) rfl [] [⟨0, 2, 1, true⟩, ⟨1, 2, 2, true⟩] rfl rfl rfl rfl rfl ⟨_, _, _, _, rfl, rfl, rfl⟩
end Go.Proofs.Ythciieopabndcaa.K
