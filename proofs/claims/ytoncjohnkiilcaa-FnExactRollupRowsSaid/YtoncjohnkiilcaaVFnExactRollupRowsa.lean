/- Walks: what the functions compute. Printed by gen.py; no condition. -/
import Derived.Test.YtoncjohnkiilcaaProg
import Derived.Test.YtoncjohnkiilcaaSB
namespace Go.Proofs.Ytoncjohnkiilcaa.K
open Go Go.RowKit
set_option linter.unusedVariables false
set_option linter.unusedSimpArgs false
structure S75 where
  f0 : Int
  f1 : Int
  f2 : Int
def z75 : S75 := ⟨0, 0, 0⟩
def k75 : Kd S75 := .iso (fun p => ⟨p.1, p.2.1, p.2.2⟩) (fun x => (x.f0, x.f1, x.f2)) (fun _ => rfl) (.pair (.int .i64) (.pair (.int .i64) (.int .i64)))
def rd_T75 (xs : List S75) (i : Int) : S75 := xs.getD i.toNat z75
structure S107 where
  f0 : List S75
  f1 : Int
def z107 : S107 := ⟨[], 0⟩
def k107 : Kd S107 := .iso (fun p => ⟨p.1, p.2⟩) (fun x => (x.f0, x.f1)) (fun _ => rfl) (.pair (.slice k75) (.int .i64))
def rd_T107 (xs : List S107) (i : Int) : S107 := xs.getD i.toNat z107
structure S35 where
  f0 : List S107
  f1 : Int
  f2 : Bool
def z35 : S35 := ⟨[], 0, false⟩
def k35 : Kd S35 := .iso (fun p => ⟨p.1, p.2.1, p.2.2⟩) (fun x => (x.f0, x.f1, x.f2)) (fun _ => rfl) (.pair (.slice k107) (.pair (.int .i64) .bool))
def rd_T35 (xs : List S35) (i : Int) : S35 := xs.getD i.toNat z35
structure S73 where
  f0 : Int
  f1 : Int
  f2 : Int
def z73 : S73 := ⟨0, 0, 0⟩
def k73 : Kd S73 := .iso (fun p => ⟨p.1, p.2.1, p.2.2⟩) (fun x => (x.f0, x.f1, x.f2)) (fun _ => rfl) (.pair (.int .i64) (.pair (.int .i64) (.int .i64)))
def rd_T73 (xs : List S73) (i : Int) : S73 := xs.getD i.toNat z73
structure S80 where
  f0 : List S73
  f1 : Int
def z80 : S80 := ⟨[], 0⟩
def k80 : Kd S80 := .iso (fun p => ⟨p.1, p.2⟩) (fun x => (x.f0, x.f1)) (fun _ => rfl) (.pair (.slice k73) (.int .i64))
def rd_T80 (xs : List S80) (i : Int) : S80 := xs.getD i.toNat z80
structure S40 where
  f0 : List S80
  f1 : Int
  f2 : Bool
def z40 : S40 := ⟨[], 0, false⟩
def k40 : Kd S40 := .iso (fun p => ⟨p.1, p.2.1, p.2.2⟩) (fun x => (x.f0, x.f1, x.f2)) (fun _ => rfl) (.pair (.slice k80) (.pair (.int .i64) .bool))
def rd_T40 (xs : List S40) (i : Int) : S40 := xs.getD i.toNat z40
structure S88 where
  f0 : Int
  f1 : Int
  f2 : Int
  f3 : Int
  f4 : Int
def z88 : S88 := ⟨0, 0, 0, 0, 0⟩
def k88 : Kd S88 := .iso (fun p => ⟨p.1, p.2.1, p.2.2.1, p.2.2.2.1, p.2.2.2.2⟩) (fun x => (x.f0, x.f1, x.f2, x.f3, x.f4)) (fun _ => rfl) (.pair (.int .i64) (.pair (.int .i64) (.pair (.int .i64) (.pair (.int .i64) (.int .i64)))))
def rd_T88 (xs : List S88) (i : Int) : S88 := xs.getD i.toNat z88
structure S62 where
  f0 : List S88
  f1 : Int
  f2 : Int
  f3 : Int
def z62 : S62 := ⟨[], 0, 0, 0⟩
def k62 : Kd S62 := .iso (fun p => ⟨p.1, p.2.1, p.2.2.1, p.2.2.2⟩) (fun x => (x.f0, x.f1, x.f2, x.f3)) (fun _ => rfl) (.pair (.slice k88) (.pair (.int .i64) (.pair (.int .i64) (.int .i64))))
def rd_T62 (xs : List S62) (i : Int) : S62 := xs.getD i.toNat z62
structure S92 where
  f0 : Int
  f1 : S88
def z92 : S92 := ⟨0, z88⟩
def k92 : Kd S92 := .iso (fun p => ⟨p.1, p.2⟩) (fun x => (x.f0, x.f1)) (fun _ => rfl) (.pair (.int .i64) k88)
def rd_T92 (xs : List S92) (i : Int) : S92 := xs.getD i.toNat z92
structure S94 where
  f0 : Int
  f1 : Int
  f2 : Int
  f3 : Int
  f4 : Int
def z94 : S94 := ⟨0, 0, 0, 0, 0⟩
def k94 : Kd S94 := .iso (fun p => ⟨p.1, p.2.1, p.2.2.1, p.2.2.2.1, p.2.2.2.2⟩) (fun x => (x.f0, x.f1, x.f2, x.f3, x.f4)) (fun _ => rfl) (.pair (.int .i64) (.pair (.int .i64) (.pair (.int .i64) (.pair (.int .i64) (.int .i64)))))
def rd_T94 (xs : List S94) (i : Int) : S94 := xs.getD i.toNat z94
theorem eqD73 (d : Nat) (w : World) (x0 y0 : Int) (x1 y1 : Int) (x2 y2 : Int) : (Op.equalIn (d + 2) 73 (.agg #[.int .i64 x0, .int .i64 x1, .int .i64 x2]) (.agg #[.int .i64 y0, .int .i64 y1, .int .i64 y2])).run Try.prog w = .ok (x0 == y0 && (x1 == y1 && (x2 == y2))) w := by
  refine eq_of (d := d + 1) Try.underlying73 (by kernel_rfl) ?_
  refine eq_cons (by rfl) (by first | (go_simp; done) | (go_simp; rfl)) (by first | (go_simp; done) | (go_simp; rfl)) (by go_simp) ?_
  refine eq_cons (by rfl) (by first | (go_simp; done) | (go_simp; rfl)) (by first | (go_simp; done) | (go_simp; rfl)) (by go_simp) ?_
  exact eq_last (by rfl) (by first | (go_simp; done) | (go_simp; rfl)) (by first | (go_simp; done) | (go_simp; rfl)) (by go_simp)
theorem eq73 (d : Nat) (w : World) (x0 y0 : Int) (x1 y1 : Int) (x2 y2 : Int) : (Op.equalIn (d + 20) 73 (.agg #[.int .i64 x0, .int .i64 x1, .int .i64 x2]) (.agg #[.int .i64 y0, .int .i64 y1, .int .i64 y2])).run Try.prog w = .ok (x0 == y0 && (x1 == y1 && (x2 == y2))) w := eqD73 (d + 18) w x0 y0 x1 y1 x2 y2
theorem mk24 : ∀ (zz : Value) (e : TypeId) (i : TypeInfo), Try.prog.underlying 24 = some (.slice e) → Try.prog.info? e = some i → i.zero = some zz → ∀ w, Kd.rep (.int .i64) 1 w zz.cells.toList 0 [] := by
  intro zz e i hu hi hz w
  have h1 : (Try.prog.underlying 24).bind (fun d => match d with | .slice e => (Try.prog.info? e).bind (fun i => i.zero) | _ => none) = some (.int .i64 0) := by kernel_rfl
  rw [hu] at h1
  simp only [Option.bind_some, hi, hz, Option.some.injEq] at h1
  subst h1
  exact Kd.closed (.int .i64) (o := 1) (w := w) (x := 0) (hs := []) (bs := []) 0 false (Nat.le_refl 1) rfl .nil
theorem mk26 : ∀ (zz : Value) (e : TypeId) (i : TypeInfo), Try.prog.underlying 26 = some (.slice e) → Try.prog.info? e = some i → i.zero = some zz → ∀ w, Kd.rep k73 1 w zz.cells.toList z73 [] := by
  intro zz e i hu hi hz w
  have h1 : (Try.prog.underlying 26).bind (fun d => match d with | .slice e => (Try.prog.info? e).bind (fun i => i.zero) | _ => none) = some (.agg #[.int .i64 0, .int .i64 0, .int .i64 0]) := by kernel_rfl
  rw [hu] at h1
  simp only [Option.bind_some, hi, hz, Option.some.injEq] at h1
  subst h1
  exact Kd.closed k73 (o := 1) (w := w) (x := z73) (hs := []) (bs := []) 0 false (Nat.le_refl 1) rfl .nil
theorem mk38 : ∀ (zz : Value) (e : TypeId) (i : TypeInfo), Try.prog.underlying 38 = some (.slice e) → Try.prog.info? e = some i → i.zero = some zz → ∀ w, Kd.rep k80 1 w zz.cells.toList z80 [] := by
  intro zz e i hu hi hz w
  have h1 : (Try.prog.underlying 38).bind (fun d => match d with | .slice e => (Try.prog.info? e).bind (fun i => i.zero) | _ => none) = some (.agg #[.slice none 0 0, .int .i64 0]) := by kernel_rfl
  rw [hu] at h1
  simp only [Option.bind_some, hi, hz, Option.some.injEq] at h1
  subst h1
  exact Kd.closed k80 (o := 1) (w := w) (x := z80) (hs := [(none, 0)]) (bs := [[]]) 0 false (Nat.le_refl 1) rfl (.cons ⟨Nat.zero_le _, .inl ⟨rfl, rfl, rfl⟩⟩ .nil)
theorem mk53 : ∀ (zz : Value) (e : TypeId) (i : TypeInfo), Try.prog.underlying 53 = some (.slice e) → Try.prog.info? e = some i → i.zero = some zz → ∀ w, Kd.rep k88 1 w zz.cells.toList z88 [] := by
  intro zz e i hu hi hz w
  have h1 : (Try.prog.underlying 53).bind (fun d => match d with | .slice e => (Try.prog.info? e).bind (fun i => i.zero) | _ => none) = some (.agg #[.int .i64 0, .int .i64 0, .int .i64 0, .int .i64 0, .int .i64 0]) := by kernel_rfl
  rw [hu] at h1
  simp only [Option.bind_some, hi, hz, Option.some.injEq] at h1
  subst h1
  exact Kd.closed k88 (o := 1) (w := w) (x := z88) (hs := []) (bs := []) 0 false (Nat.le_refl 1) rfl .nil
def good75 (x : S75) : Prop := ((Lit.int .i64 x.f0).wf = true) ∧ ((Lit.int .i64 x.f1).wf = true) ∧ ((Lit.int .i64 x.f2).wf = true)
theorem open75 : Opens Try.prog 75 k75 good75 := opens_struct Try.underlying75 (by kernel_rfl) (.cons rfl (opens_int Try.underlying3 (by kernel_rfl)) (.cons rfl (opens_int Try.underlying3 (by kernel_rfl)) (.one rfl (opens_int Try.underlying3 (by kernel_rfl))))) (fun _ => rfl) (fun _ h => h)
def good107 (x : S107) : Prop := ((x.f0.length ≤ maxLen ∧ ∀ y ∈ x.f0, good75 y)) ∧ ((Lit.int .i64 x.f1).wf = true)
theorem open107 : Opens Try.prog 107 k107 good107 := opens_struct Try.underlying107 (by kernel_rfl) (.cons rfl (opens_slice Try.underlying22 (by kernel_rfl) (by kernel_rfl) open75) (.one rfl (opens_int Try.underlying3 (by kernel_rfl)))) (fun _ => rfl) (fun _ h => h)
def good35 (x : S35) : Prop := ((x.f0.length ≤ maxLen ∧ ∀ y ∈ x.f0, good107 y)) ∧ ((Lit.int .i64 x.f1).wf = true) ∧ (True)
theorem open35 : Opens Try.prog 35 k35 good35 := opens_struct Try.underlying35 (by kernel_rfl) (.cons rfl (opens_slice Try.underlying33 (by kernel_rfl) (by kernel_rfl) open107) (.cons rfl (opens_int Try.underlying3 (by kernel_rfl)) (.one rfl (opens_bool Try.underlying4 (by kernel_rfl))))) (fun _ => rfl) (fun _ h => h)
def good94 (x : S94) : Prop := ((Lit.int .i64 x.f0).wf = true) ∧ ((Lit.int .i64 x.f1).wf = true) ∧ ((Lit.int .i64 x.f2).wf = true) ∧ ((Lit.int .i64 x.f3).wf = true) ∧ ((Lit.int .i64 x.f4).wf = true)
theorem open94 : Opens Try.prog 94 k94 good94 := opens_struct Try.underlying94 (by kernel_rfl) (.cons rfl (opens_int Try.underlying3 (by kernel_rfl)) (.cons rfl (opens_int Try.underlying3 (by kernel_rfl)) (.cons rfl (opens_int Try.underlying3 (by kernel_rfl)) (.cons rfl (opens_int Try.underlying3 (by kernel_rfl)) (.one rfl (opens_int Try.underlying3 (by kernel_rfl))))))) (fun _ => rfl) (fun _ h => h)
def laws_szRowS.f (l0 : List S75) (a1 : Int) : Option (Int) := if (wrap64 (a1 - (l0.length : Int))) < 0 then (some (-1)) else (some (wrap64 (a1 - (l0.length : Int))))
set_option maxHeartbeats 4000000 in
set_option maxRecDepth 100000 in
theorem laws_szRowS.ok (l0 : List S75) (Al0 : Option Addr) (cl0 : Nat) (a1 : Int) (r0 : Int) (H : laws_szRowS.f l0 a1 = some r0) : Fn Try.prog 11 [.slice Al0 l0.length cl0, .int .i64 a1] [] [.sl 0 k75 Al0 cl0 l0 0 false] (fun v bx en => v = .int .i64 r0 ∧ bx = [] ∧ en = []) := by
 refine fn_ 12 Try.func11 rfl rfl rfl (fun base T w0 => ?_)
 rw [laws_szRowS.f] at H
 refine gs (rg (sv (EV.as rfl) rfl (re (gs (rg (sv (EV.mv rfl) rfl (sv (EV.mv rfl) rfl (sv (EV.ln rfl) rfl (sv (EV.sub rfl rfl) rfl (sv (EV.as rfl) rfl (re (pr [1] [] [] rfl rfl rfl rfl (gs (gs (rg (sv (EV.mv rfl) rfl (sv (EV.lss rfl rfl) rfl (re ?_))))))))))))))))))
 revert H; refine ifsI ?_ ?_ <;> intro c1 H
 ·
  refine gt rfl (dT c1) (gs (rg (sv (EV.as rfl) rfl (re ?_))))
  cases H
  exact rt Try.func11 rfl (.tmp rfl .nil) rfl [] [] rfl rfl rfl rfl rfl ⟨rfl, rfl, rfl⟩
 ·
  refine gf rfl (dF c1) (gk (gs (rg (sv (EV.mv rfl) rfl (sv (EV.as rfl) rfl (re ?_))))))
  cases H
  exact rt Try.func11 rfl (.tmp rfl .nil) rfl [] [] rfl rfl rfl rfl rfl ⟨rfl, rfl, rfl⟩
def laws_toRow.f (a0_0 : Int) (a0_1 : Int) (a0_2 : Int) : Option (Int × Int × Int) := some (a0_0, a0_1, a0_2)
set_option maxHeartbeats 4000000 in
set_option maxRecDepth 100000 in
theorem laws_toRow.ok (a0_0 : Int) (a0_1 : Int) (a0_2 : Int) (r0 : Int) (r1 : Int) (r2 : Int) (H : laws_toRow.f a0_0 a0_1 a0_2 = some (r0, r1, r2)) : Fn Try.prog 51 [.agg #[.int .i64 a0_0, .int .i64 a0_1, .int .i64 a0_2]] [] [] (fun v bx en => v = .agg #[.int .i64 r0, .int .i64 r1, .int .i64 r2] ∧ bx = [] ∧ en = []) := by
 refine fn_ 14 Try.func51 rfl rfl rfl (fun base T w0 => ?_)
 rw [laws_toRow.f] at H
 refine gs (rg (so rfl (op_box (cs := [.int .i64 a0_0, .int .i64 a0_1, .int .i64 a0_2]) rfl rfl rfl fun b1 => (so rfl (op_alloc (cs := [.int .i64 0, .int .i64 0, .int .i64 0]) (by kernel_rfl) rfl fun b2 => (re (gs (rg (so rfl (op_alloc (cs := [.int .i64 0, .int .i64 0, .int .i64 0]) (by kernel_rfl) rfl fun b3 => (re (gs (rg (sv (EV.fa 0 rfl) rfl (sv (EV.ld 0 none rfl rfl rfl) rfl (sv (EV.fa 0 rfl) rfl (so rfl (op_st (cs' := [.int .i64 a0_0, .int .i64 0, .int .i64 0]) 2 rfl rfl rfl rfl rfl rfl (re (gs (rg (sv (EV.fa 1 rfl) rfl (sv (EV.ld 0 none rfl rfl rfl) rfl (sv (EV.fa 1 rfl) rfl (so rfl (op_st (cs' := [.int .i64 a0_0, .int .i64 a0_1, .int .i64 0]) 2 rfl rfl rfl rfl rfl rfl (re (pr [1, 2, 3] [0, 1, 2] [] rfl rfl rfl rfl (gs ?_)))))))))))))))))))))))))))))
 refine rg (sv (EV.fa 2 rfl) rfl (sv (EV.ld 0 none rfl rfl rfl) rfl (sv (EV.fa 2 rfl) rfl (so rfl (op_st (cs' := [.int .i64 a0_0, .int .i64 a0_1, .int .i64 a0_2]) 2 rfl rfl rfl rfl rfl rfl (re (gs (rg (sv (EV.ld (v := .agg #[.int .i64 a0_0, .int .i64 a0_1, .int .i64 a0_2]) 2 (some 3) rfl rfl rfl) rfl (so rfl (op_st (cs' := [.int .i64 a0_0, .int .i64 a0_1, .int .i64 a0_2]) 1 rfl rfl rfl rfl rfl rfl (re (pr [2] [1] [] rfl rfl rfl rfl ?_)))))))))))))
 cases H
 exact rt Try.func51 rfl (.cell 0 (some 3) rfl rfl rfl .nil) rfl [] [] rfl rfl rfl rfl rfl ⟨rfl, rfl, rfl⟩
def laws_toRowS.l0 : Nat → (List S73) → Int → (List S75) → Option ((List S73))
 | 0, _, _, _ => none
 | k + 1, x2_3, x2_4, l0 => if x2_4 < (l0.length : Int) then (if 0 ≤ x2_4 then ((laws_toRow.f ((rd_T75 l0 x2_4).f0) ((rd_T75 l0 x2_4).f1) ((rd_T75 l0 x2_4).f2)).bind fun bt6 => (if x2_4 < (x2_3.length : Int) then ((some (x2_3.set x2_4.toNat (⟨bt6.1, bt6.2.1, bt6.2.2⟩ : S73))).bind fun s8 => (laws_toRowS.l0 k s8 (wrap64 (x2_4 + 1)) l0)) else none)) else none) else (some x2_3)
def laws_toRowS.f (k : Nat) (l0 : List S75) : Option ((List S73)) := if 0 ≤ (l0.length : Int) then (if (l0.length : Int).toNat ≤ 5864062014805 then (laws_toRowS.l0 k (List.replicate (l0.length : Int).toNat z73) 0 l0) else none) else none
set_option maxHeartbeats 4000000 in
set_option maxRecDepth 100000 in
theorem laws_toRowS.ok (k : Nat) (l0 : List S75) (Al0 : Option Addr) (cl0 : Nat) (r0 : List S73) (H : laws_toRowS.f k l0 = some r0) : Fn Try.prog 13 [.slice Al0 l0.length cl0] [] [.sl 0 k75 Al0 cl0 l0 0 false] (fun v bx en => ∃ A0 c0, v = .slice A0 r0.length c0 ∧ bx = [] ∧ en = [.sl 2 k73 A0 c0 r0 1 true]) := by
 refine fn_ 23 Try.func13 rfl rfl rfl (fun base T w0 => ?_)
 rw [laws_toRowS.f] at H
 refine gs (rg (sv (EV.as rfl) rfl (re (gs (rg (sv (EV.mv rfl) rfl (sv (EV.ln rfl) rfl ?_)))))))
 revert H; refine ggI ?_; intro g1 H
 revert H; refine ggI ?_; intro g2 H
 refine so rfl (op_mk (s := 3) (by_ := 24) k73 z73 1 rfl rfl g1 (mk1 g2 dq) (mk2 g2 dq) mk26 rfl rfl dq rfl fun A7_3 c7_3 => (sv (EV.as rfl) rfl (re (gs (gs (rg (sv (EV.as rfl) rfl (re (gb ?_)))))))))
 refine lo (fun kk S => ∃ (x2_3 : List S73) (Ax2_3 : Option Addr) (cx2_3 : Nat) (x2_4 : Int), laws_toRowS.l0 kk x2_3 x2_4 l0 = some r0 ∧ S = ⟨[(0, .slice Al0 l0.length cl0), (3, .slice Ax2_3 x2_3.length cx2_3), (4, .int .i64 x2_4)], [], [.sl 2 k73 Ax2_3 cx2_3 x2_3 1 true, .sl 0 k75 Al0 cl0 l0 0 false]⟩) (fun S hS => ?_) (fun n0 ih0 S hS => ?_) ⟨List.replicate (l0.length : Int).toNat z73, A7_3, c7_3, 0, H, rfl⟩ (fun h => wk [0, 3, 4] [] [⟨1, 2, 1, true⟩, ⟨0, 0, 0, false⟩] h)
 · clear H; obtain ⟨_, _, _, _, H, _⟩ := hS; rw [laws_toRowS.l0] at H; cases H
 clear H
 obtain ⟨x2_3, Ax2_3, cx2_3, x2_4, H, rfl⟩ := hS
 rw [laws_toRowS.l0] at H
 refine gs (gs (rg (sv (EV.mv rfl) rfl (sv (EV.mv rfl) rfl (sv (EV.ln rfl) rfl (sv (EV.lss rfl rfl) rfl (re ?_)))))))
 revert H; refine ifsI ?_ ?_ <;> intro c4 H
 ·
  refine gt rfl (dT c4) (gk (gs (gb (rg (sv (EV.mv rfl) rfl (sv (EV.mv rfl) rfl (sv (EV.mv rfl) rfl (sv (EV.mv rfl) rfl ?_))))))))
  revert H; refine ggI ?_; intro g5 H
  refine sv (EV.ix 1 rfl rfl rfl g5 c4 rfl) rfl (sv (EV.le (v := .agg #[.int .i64 ((rd_T75 l0 x2_4).f0), .int .i64 ((rd_T75 l0 x2_4).f1), .int .i64 ((rd_T75 l0 x2_4).f2)]) x2_4 0 (some 3) 1 z75 rfl rfl rfl g5 c4 rfl rfl rfl) rfl ?_)
  revert H; refine bdI ?_; rintro ⟨t6_0, t6_1, t6_2⟩ A6 H
  refine so rfl (op_call (laws_toRow.ok ((rd_T75 l0 x2_4).f0) ((rd_T75 l0 x2_4).f1) ((rd_T75 l0 x2_4).f2) _ _ _ A6) [] 2 rfl rfl rfl rfl rfl ?_)
  rintro _ _ _ ⟨rfl, rfl, rfl⟩
  revert H; refine ggI ?_; intro g7 H
  refine sv (EV.ix 0 rfl rfl rfl g5 g7 rfl) rfl ?_
  revert H; refine bdI ?_; intro s8 A8 H; have q8 := stl (Option.some.inj A8)
  exact so rfl (op_stg x2_4 0 0 z73 (⟨t6_0, t6_1, t6_2⟩ : S73) (Option.some.inj A8) rfl rfl rfl rfl g5 g7 rfl rfl rfl rfl dq rfl (rlT 3 (v' := .slice Ax2_3 s8.length cx2_3) rfl (slq _ _ q8) (rlT 14 (v' := .slice Ax2_3 s8.length cx2_3) rfl (slq _ _ q8) (nmE (en := [.sl 0 k75 Al0 cl0 l0 0 false, .sl 2 k73 Ax2_3 cx2_3 s8 1 true]) (by kernel_rfl) (re (pr [0, 3, 4] [] [0, 1] rfl rfl rfl rfl (ge (rg (sv (EV.mv rfl) rfl (sv (EV.add rfl rfl) rfl (sv (EV.as rfl) rfl (re (wk [0, 3, 4] [] [⟨1, 2, 1, true⟩, ⟨0, 0, 0, false⟩] (ih0 _ (by omega) _ ⟨s8, Ax2_3, cx2_3, wrap64 (x2_4 + 1), H, rfl⟩))))))))))))))
 ·
  refine gf rfl (dF c4) (gx rfl (gs (rg (sv (EV.mv rfl) rfl (sv (EV.as rfl) rfl (re (pr [2] [] [0] rfl rfl rfl rfl ?_)))))))
  cases H
  exact rt Try.func13 rfl (.tmp rfl .nil) rfl [] [⟨0, 2, 1, true⟩] rfl rfl rfl rfl rfl ⟨_, _, rfl, rfl, rfl⟩
def laws_eqRow.f (a0_0 : Int) (a0_1 : Int) (a0_2 : Int) (a1_0 : Int) (a1_1 : Int) (a1_2 : Int) : Option (Bool) := if a0_0 = a1_0 then (if a0_1 = a1_1 then (if a0_2 = a1_2 then (some true) else (some false)) else (some false)) else (some false)
set_option maxHeartbeats 4000000 in
set_option maxRecDepth 100000 in
theorem laws_eqRow.ok (a0_0 : Int) (a0_1 : Int) (a0_2 : Int) (a1_0 : Int) (a1_1 : Int) (a1_2 : Int) (r0 : Bool) (H : laws_eqRow.f a0_0 a0_1 a0_2 a1_0 a1_1 a1_2 = some r0) : Fn Try.prog 52 [.agg #[.int .i64 a0_0, .int .i64 a0_1, .int .i64 a0_2], .agg #[.int .i64 a1_0, .int .i64 a1_1, .int .i64 a1_2]] [] [] (fun v bx en => v = .bool r0 ∧ bx = [] ∧ en = []) := by
 refine fn_ 20 Try.func52 rfl rfl rfl (fun base T w0 => ?_)
 rw [laws_eqRow.f] at H
 refine gs (rg (so rfl (op_box (cs := [.int .i64 a0_0, .int .i64 a0_1, .int .i64 a0_2]) rfl rfl rfl fun b2 => (so rfl (op_box (cs := [.int .i64 a1_0, .int .i64 a1_1, .int .i64 a1_2]) rfl rfl rfl fun b3 => (sv (EV.as rfl) rfl (re (gs (gs (rg (sv (EV.fa 0 rfl) rfl (sv (EV.ld 0 none rfl rfl rfl) rfl (sv (EV.fa 0 rfl) rfl (sv (EV.ld 1 none rfl rfl rfl) rfl (sv (EV.neq rfl rfl) rfl (re (pr [2, 3, 9] [0, 1] [] rfl rfl rfl rfl ?_)))))))))))))))))
 revert H; refine ifsI ?_ ?_ <;> intro c1 H
 ·
  refine gf rfl (nF c1) (gk (gs (gs (rg (sv (EV.fa 1 rfl) rfl (sv (EV.ld 0 none rfl rfl rfl) rfl (sv (EV.fa 1 rfl) rfl (sv (EV.ld 1 none rfl rfl rfl) rfl (sv (EV.neq rfl rfl) rfl (re ?_))))))))))
  revert H; refine ifsI ?_ ?_ <;> intro c2 H
  ·
   refine gf rfl (nF c2) (gk (gs (gs (rg (sv (EV.fa 2 rfl) rfl (sv (EV.ld 0 none rfl rfl rfl) rfl (sv (EV.fa 2 rfl) rfl (sv (EV.ld 1 none rfl rfl rfl) rfl (sv (EV.neq rfl rfl) rfl (re (pr [19] [] [] rfl rfl rfl rfl ?_)))))))))))
   revert H; refine ifsI ?_ ?_ <;> intro c3 H
   ·
    refine gf rfl (nF c3) (gk (gs (rg (sv (EV.as rfl) rfl (re ?_)))))
    cases H
    exact rt Try.func52 rfl (.tmp rfl .nil) rfl [] [] rfl rfl rfl rfl rfl ⟨rfl, rfl, rfl⟩
   ·
    refine gt rfl (nT c3) (gs (rg (sv (EV.as rfl) rfl (re ?_))))
    cases H
    exact rt Try.func52 rfl (.tmp rfl .nil) rfl [] [] rfl rfl rfl rfl rfl ⟨rfl, rfl, rfl⟩
  ·
   refine gt rfl (nT c2) (gs (rg (sv (EV.as rfl) rfl (re (pr [4] [] [] rfl rfl rfl rfl ?_)))))
   cases H
   exact rt Try.func52 rfl (.tmp rfl .nil) rfl [] [] rfl rfl rfl rfl rfl ⟨rfl, rfl, rfl⟩
 ·
  refine gt rfl (nT c1) (gs (rg (sv (EV.as rfl) rfl (re ?_))))
  cases H
  exact rt Try.func52 rfl (.tmp rfl .nil) rfl [] [] rfl rfl rfl rfl rfl ⟨rfl, rfl, rfl⟩
def laws_eqRowS.l0 : Nat → Int → (List S73) → (List S73) → Option (Bool)
 | 0, _, _, _ => none
 | k + 1, x2_5, l0, l1 => if x2_5 < (l0.length : Int) then (if 0 ≤ x2_5 then (if x2_5 < (l1.length : Int) then ((laws_eqRow.f ((rd_T73 l0 x2_5).f0) ((rd_T73 l0 x2_5).f1) ((rd_T73 l0 x2_5).f2) ((rd_T73 l1 x2_5).f0) ((rd_T73 l1 x2_5).f1) ((rd_T73 l1 x2_5).f2)).bind fun t5 => (if t5 = true then (laws_eqRowS.l0 k (wrap64 (x2_5 + 1)) l0 l1) else (some false))) else none) else none) else (some true)
def laws_eqRowS.f (k : Nat) (l0 : List S73) (l1 : List S73) : Option (Bool) := if (l0.length : Int) = (l1.length : Int) then (laws_eqRowS.l0 k 0 l0 l1) else (some false)
set_option maxHeartbeats 4000000 in
set_option maxRecDepth 100000 in
theorem laws_eqRowS.ok (k : Nat) (l0 : List S73) (Al0 : Option Addr) (cl0 : Nat) (l1 : List S73) (Al1 : Option Addr) (cl1 : Nat) (r0 : Bool) (H : laws_eqRowS.f k l0 l1 = some r0) : Fn Try.prog 16 [.slice Al0 l0.length cl0, .slice Al1 l1.length cl1] [] [.sl 0 k73 Al0 cl0 l0 0 false, .sl 0 k73 Al1 cl1 l1 0 false] (fun v bx en => v = .bool r0 ∧ bx = [] ∧ en = []) := by
 refine fn_ 27 Try.func16 rfl rfl rfl (fun base T w0 => ?_)
 rw [laws_eqRowS.f] at H
 refine gs (rg (sv (EV.as rfl) rfl (re (gs (gs (rg (sv (EV.mv rfl) rfl (sv (EV.ln rfl) rfl (sv (EV.mv rfl) rfl (sv (EV.ln rfl) rfl (sv (EV.neq rfl rfl) rfl (re ?_))))))))))))
 revert H; refine ifsI ?_ ?_ <;> intro c1 H
 ·
  refine gf rfl (nF c1) (gk (gs (gs (rg (sv (EV.as rfl) rfl (re (pr [0, 1, 5] [] [0, 1] rfl rfl rfl rfl (gb ?_))))))))
  refine lo (fun kk S => ∃ (x2_5 : Int), laws_eqRowS.l0 kk x2_5 l0 l1 = some r0 ∧ S = ⟨[(0, .slice Al0 l0.length cl0), (1, .slice Al1 l1.length cl1), (5, .int .i64 x2_5)], [], [.sl 0 k73 Al0 cl0 l0 0 false, .sl 0 k73 Al1 cl1 l1 0 false]⟩) (fun S hS => ?_) (fun n0 ih0 S hS => ?_) ⟨0, H, rfl⟩ (fun h => wk [0, 1, 5] [] [⟨0, 0, 0, false⟩, ⟨1, 0, 0, false⟩] h)
  · clear H; obtain ⟨_, H, _⟩ := hS; rw [laws_eqRowS.l0] at H; cases H
  clear H
  obtain ⟨x2_5, H, rfl⟩ := hS
  rw [laws_eqRowS.l0] at H
  refine gs (gs (rg (sv (EV.mv rfl) rfl (sv (EV.mv rfl) rfl (sv (EV.ln rfl) rfl (sv (EV.lss rfl rfl) rfl (re ?_)))))))
  revert H; refine ifsI ?_ ?_ <;> intro c2 H
  ·
   refine gt rfl (dT c2) (gk (gs (gb (gs ?_))))
   revert H; refine ggI ?_; intro g3 H
   revert H; refine ggI ?_; intro g4 H
   refine dr [] [0, 1] [] 10 rfl rfl rfl rfl (xv 0 [] [0, 1] rfl (EV.mv rfl) rfl rfl rfl rfl (xv 1 [] [0, 1] rfl (EV.mv rfl) rfl rfl rfl rfl (xv 2 [] [0, 1] rfl (EV.ix 0 rfl rfl rfl g3 c2 rfl) rfl rfl rfl rfl (xv 3 [] [0, 1] rfl (EV.le (v := .agg #[.int .i64 ((rd_T73 l0 x2_5).f0), .int .i64 ((rd_T73 l0 x2_5).f1), .int .i64 ((rd_T73 l0 x2_5).f2)]) x2_5 0 (some 3) 0 z73 rfl rfl rfl g3 c2 rfl rfl rfl) rfl rfl rfl rfl (xv 4 [] [0, 1] rfl (EV.mv rfl) rfl rfl rfl rfl (xv 5 [] [0, 1] rfl (EV.mv rfl) rfl rfl rfl rfl (xv 6 [] [0, 1] rfl (EV.ix 1 rfl rfl rfl g3 g4 rfl) rfl rfl rfl rfl (xv 7 [] [0, 1] rfl (EV.le (v := .agg #[.int .i64 ((rd_T73 l1 x2_5).f0), .int .i64 ((rd_T73 l1 x2_5).f1), .int .i64 ((rd_T73 l1 x2_5).f2)]) x2_5 0 (some 3) 1 z73 rfl rfl rfl g3 g4 rfl rfl rfl) rfl rfl rfl rfl (one1 8 rfl rfl ?_)))))))))
   revert H; refine bdI ?_; rintro t5 A5 H
   refine op_call (laws_eqRow.ok ((rd_T73 l0 x2_5).f0) ((rd_T73 l0 x2_5).f1) ((rd_T73 l0 x2_5).f2) ((rd_T73 l1 x2_5).f0) ((rd_T73 l1 x2_5).f1) ((rd_T73 l1 x2_5).f2) _ A5) [] 1 rfl rfl rfl rfl rfl ?_
   rintro _ _ _ ⟨rfl, rfl, rfl⟩
   refine xs [] [0, 1] rfl rfl rfl (xv 9 [] [0, 1] rfl (EV.nt rfl) rfl rfl rfl rfl (xd (pr [0, 1, 5, 26] [] [0, 1] rfl rfl rfl rfl ?_)))
   revert H; refine ifsI ?_ ?_ <;> intro c6 H
   ·
    subst c6
    exact gf rfl rfl (gk (ge (rg (sv (EV.mv rfl) rfl (sv (EV.add rfl rfl) rfl (sv (EV.as rfl) rfl (re (wk [0, 1, 5] [] [⟨0, 0, 0, false⟩, ⟨1, 0, 0, false⟩] (ih0 _ (by omega) _ ⟨wrap64 (x2_5 + 1), H, rfl⟩)))))))))
   ·
    have xc6 := bF c6; subst xc6
    refine gt rfl rfl (gs (rg (sv (EV.as rfl) rfl (re ?_))))
    cases H
    exact rt Try.func16 rfl (.tmp rfl .nil) rfl [] [] rfl rfl rfl rfl rfl ⟨rfl, rfl, rfl⟩
  ·
   refine gf rfl (dF c2) (gx rfl (gs (rg (sv (EV.as rfl) rfl (re (pr [4] [] [] rfl rfl rfl rfl ?_))))))
   cases H
   exact rt Try.func16 rfl (.tmp rfl .nil) rfl [] [] rfl rfl rfl rfl rfl ⟨rfl, rfl, rfl⟩
 ·
  refine gt rfl (nT c1) (gs (rg (sv (EV.as rfl) rfl (re (pr [4] [] [] rfl rfl rfl rfl ?_)))))
  cases H
  exact rt Try.func16 rfl (.tmp rfl .nil) rfl [] [] rfl rfl rfl rfl rfl ⟨rfl, rfl, rfl⟩
def laws_markRowS.l0 : Nat → (List S73) → Int → Int → Option (Int × (List S73))
 | 0, _, _, _ => none
 | k + 1, x2_ml0, x2_1, x2_5 => if x2_5 < (x2_ml0.length : Int) then (if 0 ≤ x2_5 then ((some (x2_ml0.set x2_5.toNat (⟨x2_1, (rd_T73 x2_ml0 x2_5).f1, (rd_T73 x2_ml0 x2_5).f2⟩ : S73))).bind fun s3 => (if x2_5 < (s3.length : Int) then ((some (s3.set x2_5.toNat (⟨(rd_T73 s3 x2_5).f0, wrap64 (x2_1 + 1), (rd_T73 s3 x2_5).f2⟩ : S73))).bind fun s5 => (if x2_5 < (s5.length : Int) then ((some (s5.set x2_5.toNat (⟨(rd_T73 s5 x2_5).f0, (rd_T73 s5 x2_5).f1, wrap64 ((wrap64 (x2_1 + 1)) + 1)⟩ : S73))).bind fun s7 => (laws_markRowS.l0 k s7 (wrap64 ((wrap64 ((wrap64 (x2_1 + 1)) + 1)) + 1)) (wrap64 (x2_5 + 1)))) else none)) else none)) else none) else (some (x2_1, x2_ml0))
def laws_markRowS.f (k : Nat) (l0 : List S73) (a1 : Int) : Option (Int × (List S73)) := laws_markRowS.l0 k l0 a1 0
set_option maxHeartbeats 4000000 in
set_option maxRecDepth 100000 in
theorem laws_markRowS.ok (k : Nat) (l0 : List S73) (Al0 : Option Addr) (cl0 : Nat) (a1 : Int) (r0 : Int) (r1 : List S73) (H : laws_markRowS.f k l0 a1 = some (r0, r1)) : Fn Try.prog 17 [.slice Al0 l0.length cl0, .int .i64 a1] [] [.sl 1 k73 Al0 cl0 l0 1 false] (fun v bx en => v = .int .i64 r0 ∧ bx = [] ∧ en = [.sl 1 k73 Al0 cl0 r1 1 false] ∧ r1.length = l0.length) := by
 refine fn_ 34 Try.func17 rfl rfl rfl (fun base T w0 => ?_)
 rw [laws_markRowS.f] at H
 refine gs (rg (sv (EV.as rfl) rfl (re (gs (gs (rg (sv (EV.as rfl) rfl (re (gb ?_)))))))))
 refine lo (fun kk S => ∃ (x2_ml0 : List S73) (x2_1 : Int) (x2_5 : Int), laws_markRowS.l0 kk x2_ml0 x2_1 x2_5 = some (r0, r1) ∧ x2_ml0.length = l0.length ∧ S = ⟨[(0, .slice Al0 x2_ml0.length cl0), (1, .int .i64 x2_1), (5, .int .i64 x2_5)], [], [.sl 1 k73 Al0 cl0 x2_ml0 1 false]⟩) (fun S hS => ?_) (fun n0 ih0 S hS => ?_) ⟨l0, a1, 0, H, (by first | rfl | assumption | omega | (simp only [List.length_set]; first | done | assumption | omega)), rfl⟩ (fun h => wk [0, 1, 5] [] [⟨0, 1, 1, false⟩] h)
 · clear H; obtain ⟨_, _, _, H, _⟩ := hS; rw [laws_markRowS.l0] at H; cases H
 clear H
 obtain ⟨x2_ml0, x2_1, x2_5, H, ex2_ml0, rfl⟩ := hS
 rw [laws_markRowS.l0] at H
 refine gs (gs (rg (sv (EV.mv rfl) rfl (sv (EV.mv rfl) rfl (sv (EV.ln rfl) rfl (sv (EV.lss rfl rfl) rfl (re ?_)))))))
 revert H; refine ifsI ?_ ?_ <;> intro c1 H
 ·
  refine gt rfl (dT c1) (gk (gs (gb (gs (rg (sv (EV.mv rfl) rfl (sv (EV.mv rfl) rfl (sv (EV.mv rfl) rfl ?_))))))))
  revert H; refine ggI ?_; intro g2 H
  refine sv (EV.ix 0 rfl rfl rfl g2 c1 rfl) rfl (sv (EV.fa 0 rfl) rfl ?_)
  revert H; refine bdI ?_; intro s3 A3 H; have q3 := stl (Option.some.inj A3)
  refine so rfl (op_stg x2_5 0 0 z73 (⟨x2_1, (rd_T73 x2_ml0 x2_5).f1, (rd_T73 x2_ml0 x2_5).f2⟩ : S73) (Option.some.inj A3) rfl rfl rfl rfl g2 c1 rfl rfl rfl rfl dq rfl (rlT 0 (v' := .slice Al0 s3.length cl0) rfl (slq _ _ q3) (rlT 7 (v' := .slice Al0 s3.length cl0) rfl (slq _ _ q3) (rlT 12 (v' := .slice Al0 s3.length cl0) rfl (slq _ _ q3) (nmE (en := [.sl 1 k73 Al0 cl0 s3 1 true]) (by kernel_rfl) (re (pr [0, 1, 5] [] [0] rfl rfl rfl rfl (gs (rg (sv (EV.mv rfl) rfl (sv (EV.add rfl rfl) rfl (sv (EV.as rfl) rfl (re (gs (rg (sv (EV.mv rfl) rfl (sv (EV.mv rfl) rfl (sv (EV.mv rfl) rfl ?_))))))))))))))))))
  revert H; refine ggI ?_; intro g4 H
  refine sv (EV.ix 0 rfl rfl rfl g2 g4 rfl) rfl (sv (EV.fa 1 rfl) rfl ?_)
  revert H; refine bdI ?_; intro s5 A5 H; have q5 := stl (Option.some.inj A5)
  refine so rfl (op_stg x2_5 1 0 z73 (⟨(rd_T73 s3 x2_5).f0, wrap64 (x2_1 + 1), (rd_T73 s3 x2_5).f2⟩ : S73) (Option.some.inj A5) rfl rfl rfl rfl g2 g4 rfl rfl rfl rfl dq rfl (rlT 0 (v' := .slice Al0 s5.length cl0) rfl (slq _ _ q5) (rlT 19 (v' := .slice Al0 s5.length cl0) rfl (slq _ _ q5) (nmE (en := [.sl 1 k73 Al0 cl0 s5 1 true]) (by kernel_rfl) (re (gs (rg (sv (EV.mv rfl) rfl (sv (EV.add rfl rfl) rfl (sv (EV.as rfl) rfl (re (pr [0, 1, 5] [] [0] rfl rfl rfl rfl (gs (rg (sv (EV.mv rfl) rfl (sv (EV.mv rfl) rfl (sv (EV.mv rfl) rfl ?_)))))))))))))))))
  revert H; refine ggI ?_; intro g6 H
  refine sv (EV.ix 0 rfl rfl rfl g2 g6 rfl) rfl (sv (EV.fa 2 rfl) rfl ?_)
  revert H; refine bdI ?_; intro s7 A7 H; have q7 := stl (Option.some.inj A7)
  exact so rfl (op_stg x2_5 2 0 z73 (⟨(rd_T73 s5 x2_5).f0, (rd_T73 s5 x2_5).f1, wrap64 ((wrap64 (x2_1 + 1)) + 1)⟩ : S73) (Option.some.inj A7) rfl rfl rfl rfl g2 g6 rfl rfl rfl rfl dq rfl (rlT 0 (v' := .slice Al0 s7.length cl0) rfl (slq _ _ q7) (rlT 26 (v' := .slice Al0 s7.length cl0) rfl (slq _ _ q7) (nmE (en := [.sl 1 k73 Al0 cl0 s7 1 true]) (by kernel_rfl) (re (rg (sv (EV.mv rfl) rfl (sv (EV.add rfl rfl) rfl (sv (EV.as rfl) rfl (re (ge (rg (sv (EV.mv rfl) rfl (sv (EV.add rfl rfl) rfl (sv (EV.as rfl) rfl (re (pr [0, 1, 5] [] [0] rfl rfl rfl rfl (wk [0, 1, 5] [] [⟨0, 1, 1, false⟩] (ih0 _ (by omega) _ ⟨s7, wrap64 ((wrap64 ((wrap64 (x2_1 + 1)) + 1)) + 1), wrap64 (x2_5 + 1), H, (by first | rfl | assumption | omega | (simp only [List.length_set]; first | done | assumption | omega)), rfl⟩)))))))))))))))))))
 ·
  refine gf rfl (dF c1) (gx rfl (gs (rg (sv (EV.mv rfl) rfl (sv (EV.as rfl) rfl (re (pr [4] [] [0] rfl rfl rfl rfl ?_)))))))
  cases H
  exact rt Try.func17 rfl (.tmp rfl .nil) rfl [] [⟨0, 1, 1, false⟩] rfl rfl rfl rfl rfl ⟨rfl, rfl, rfl, by first | rfl | assumption | omega | (simp only [List.length_set]; first | done | assumption | omega)⟩
def laws_eqGroup.f (a0_0 : Int) (a0_1 : Int) (a0_2 : Int) (a0_3 : Int) (a0_4 : Int) (a1_0 : Int) (a1_1 : Int) (a1_2 : Int) (a1_3 : Int) (a1_4 : Int) : Option (Bool) := if a0_0 = a1_0 then (if a0_1 = a1_1 then (if a0_2 = a1_2 then (if a0_3 = a1_3 then (if a0_4 = a1_4 then (some true) else (some false)) else (some false)) else (some false)) else (some false)) else (some false)
set_option maxHeartbeats 4000000 in
set_option maxRecDepth 100000 in
theorem laws_eqGroup.ok (a0_0 : Int) (a0_1 : Int) (a0_2 : Int) (a0_3 : Int) (a0_4 : Int) (a1_0 : Int) (a1_1 : Int) (a1_2 : Int) (a1_3 : Int) (a1_4 : Int) (r0 : Bool) (H : laws_eqGroup.f a0_0 a0_1 a0_2 a0_3 a0_4 a1_0 a1_1 a1_2 a1_3 a1_4 = some r0) : Fn Try.prog 71 [.agg #[.int .i64 a0_0, .int .i64 a0_1, .int .i64 a0_2, .int .i64 a0_3, .int .i64 a0_4], .agg #[.int .i64 a1_0, .int .i64 a1_1, .int .i64 a1_2, .int .i64 a1_3, .int .i64 a1_4]] [] [] (fun v bx en => v = .bool r0 ∧ bx = [] ∧ en = []) := by
 refine fn_ 30 Try.func71 rfl rfl rfl (fun base T w0 => ?_)
 rw [laws_eqGroup.f] at H
 refine gs (rg (so rfl (op_box (cs := [.int .i64 a0_0, .int .i64 a0_1, .int .i64 a0_2, .int .i64 a0_3, .int .i64 a0_4]) rfl rfl rfl fun b2 => (so rfl (op_box (cs := [.int .i64 a1_0, .int .i64 a1_1, .int .i64 a1_2, .int .i64 a1_3, .int .i64 a1_4]) rfl rfl rfl fun b3 => (sv (EV.as rfl) rfl (re (gs (gs (rg (sv (EV.fa 0 rfl) rfl (sv (EV.ld 0 none rfl rfl rfl) rfl (sv (EV.fa 0 rfl) rfl (sv (EV.ld 1 none rfl rfl rfl) rfl (sv (EV.neq rfl rfl) rfl (re (pr [2, 3, 9] [0, 1] [] rfl rfl rfl rfl ?_)))))))))))))))))
 revert H; refine ifsI ?_ ?_ <;> intro c1 H
 ·
  refine gf rfl (nF c1) (gk (gs (gs (rg (sv (EV.fa 1 rfl) rfl (sv (EV.ld 0 none rfl rfl rfl) rfl (sv (EV.fa 1 rfl) rfl (sv (EV.ld 1 none rfl rfl rfl) rfl (sv (EV.neq rfl rfl) rfl (re ?_))))))))))
  revert H; refine ifsI ?_ ?_ <;> intro c2 H
  ·
   refine gf rfl (nF c2) (gk (gs (gs (rg (sv (EV.fa 2 rfl) rfl (sv (EV.ld 0 none rfl rfl rfl) rfl (sv (EV.fa 2 rfl) rfl (sv (EV.ld 1 none rfl rfl rfl) rfl (sv (EV.neq rfl rfl) rfl (re (pr [2, 3, 19] [0, 1] [] rfl rfl rfl rfl ?_)))))))))))
   revert H; refine ifsI ?_ ?_ <;> intro c3 H
   ·
    refine gf rfl (nF c3) (gk (gs (gs (rg (sv (EV.fa 3 rfl) rfl (sv (EV.ld 0 none rfl rfl rfl) rfl (sv (EV.fa 3 rfl) rfl (sv (EV.ld 1 none rfl rfl rfl) rfl (sv (EV.neq rfl rfl) rfl (re ?_))))))))))
    revert H; refine ifsI ?_ ?_ <;> intro c4 H
    ·
     refine gf rfl (nF c4) (gk (gs (gs (rg (sv (EV.fa 4 rfl) rfl (sv (EV.ld 0 none rfl rfl rfl) rfl (sv (EV.fa 4 rfl) rfl (sv (EV.ld 1 none rfl rfl rfl) rfl (sv (EV.neq rfl rfl) rfl (re (pr [29] [] [] rfl rfl rfl rfl ?_)))))))))))
     revert H; refine ifsI ?_ ?_ <;> intro c5 H
     ·
      refine gf rfl (nF c5) (gk (gs (rg (sv (EV.as rfl) rfl (re ?_)))))
      cases H
      exact rt Try.func71 rfl (.tmp rfl .nil) rfl [] [] rfl rfl rfl rfl rfl ⟨rfl, rfl, rfl⟩
     ·
      refine gt rfl (nT c5) (gs (rg (sv (EV.as rfl) rfl (re ?_))))
      cases H
      exact rt Try.func71 rfl (.tmp rfl .nil) rfl [] [] rfl rfl rfl rfl rfl ⟨rfl, rfl, rfl⟩
    ·
     refine gt rfl (nT c4) (gs (rg (sv (EV.as rfl) rfl (re (pr [4] [] [] rfl rfl rfl rfl ?_)))))
     cases H
     exact rt Try.func71 rfl (.tmp rfl .nil) rfl [] [] rfl rfl rfl rfl rfl ⟨rfl, rfl, rfl⟩
   ·
    refine gt rfl (nT c3) (gs (rg (sv (EV.as rfl) rfl (re ?_))))
    cases H
    exact rt Try.func71 rfl (.tmp rfl .nil) rfl [] [] rfl rfl rfl rfl rfl ⟨rfl, rfl, rfl⟩
  ·
   refine gt rfl (nT c2) (gs (rg (sv (EV.as rfl) rfl (re (pr [4] [] [] rfl rfl rfl rfl ?_)))))
   cases H
   exact rt Try.func71 rfl (.tmp rfl .nil) rfl [] [] rfl rfl rfl rfl rfl ⟨rfl, rfl, rfl⟩
 ·
  refine gt rfl (nT c1) (gs (rg (sv (EV.as rfl) rfl (re ?_))))
  cases H
  exact rt Try.func71 rfl (.tmp rfl .nil) rfl [] [] rfl rfl rfl rfl rfl ⟨rfl, rfl, rfl⟩
def laws_eqRollupRow.f (a0_0 : Int) (a0_1 : Int) (a0_2 : Int) (a0_3 : Int) (a0_4 : Int) (a0_5 : Int) (a1_0 : Int) (a1_1 : Int) (a1_2 : Int) (a1_3 : Int) (a1_4 : Int) (a1_5 : Int) : Option (Bool) := if a0_0 = a1_0 then ((laws_eqGroup.f a0_1 a0_2 a0_3 a0_4 a0_5 a1_1 a1_2 a1_3 a1_4 a1_5).bind fun t2 => (if t2 = true then (some true) else (some false))) else (some false)
set_option maxHeartbeats 4000000 in
set_option maxRecDepth 100000 in
theorem laws_eqRollupRow.ok (a0_0 : Int) (a0_1 : Int) (a0_2 : Int) (a0_3 : Int) (a0_4 : Int) (a0_5 : Int) (a1_0 : Int) (a1_1 : Int) (a1_2 : Int) (a1_3 : Int) (a1_4 : Int) (a1_5 : Int) (r0 : Bool) (H : laws_eqRollupRow.f a0_0 a0_1 a0_2 a0_3 a0_4 a0_5 a1_0 a1_1 a1_2 a1_3 a1_4 a1_5 = some r0) : Fn Try.prog 70 [.agg #[.int .i64 a0_0, .int .i64 a0_1, .int .i64 a0_2, .int .i64 a0_3, .int .i64 a0_4, .int .i64 a0_5], .agg #[.int .i64 a1_0, .int .i64 a1_1, .int .i64 a1_2, .int .i64 a1_3, .int .i64 a1_4, .int .i64 a1_5]] [] [] (fun v bx en => v = .bool r0 ∧ bx = [] ∧ en = []) := by
 refine fn_ 16 Try.func70 rfl rfl rfl (fun base T w0 => ?_)
 rw [laws_eqRollupRow.f] at H
 refine gs (rg (so rfl (op_box (cs := [.int .i64 a0_0, .int .i64 a0_1, .int .i64 a0_2, .int .i64 a0_3, .int .i64 a0_4, .int .i64 a0_5]) rfl rfl rfl fun b2 => (so rfl (op_box (cs := [.int .i64 a1_0, .int .i64 a1_1, .int .i64 a1_2, .int .i64 a1_3, .int .i64 a1_4, .int .i64 a1_5]) rfl rfl rfl fun b3 => (sv (EV.as rfl) rfl (re (gs (gs (rg (sv (EV.fa 0 rfl) rfl (sv (EV.ld 0 none rfl rfl rfl) rfl (sv (EV.fa 0 rfl) rfl (sv (EV.ld 1 none rfl rfl rfl) rfl (sv (EV.neq rfl rfl) rfl (re (pr [2, 3, 9] [0, 1] [] rfl rfl rfl rfl ?_)))))))))))))))))
 revert H; refine ifsI ?_ ?_ <;> intro c1 H
 ·
  refine gf rfl (nF c1) (gk (gs (gs (rg (sv (EV.fa 1 rfl) rfl (sv (EV.ld (v := .agg #[.int .i64 a0_1, .int .i64 a0_2, .int .i64 a0_3, .int .i64 a0_4, .int .i64 a0_5]) 0 (some 5) rfl rfl rfl) rfl (sv (EV.fa 1 rfl) rfl (sv (EV.ld (v := .agg #[.int .i64 a1_1, .int .i64 a1_2, .int .i64 a1_3, .int .i64 a1_4, .int .i64 a1_5]) 1 (some 5) rfl rfl rfl) rfl ?_))))))))
  revert H; refine bdI ?_; rintro t2 A2 H
  refine so rfl (op_call (laws_eqGroup.ok a0_1 a0_2 a0_3 a0_4 a0_5 a1_1 a1_2 a1_3 a1_4 a1_5 _ A2) [] 1 rfl rfl rfl rfl rfl ?_)
  rintro _ _ _ ⟨rfl, rfl, rfl⟩
  refine sv (EV.nt rfl) rfl (re (pr [15] [] [] rfl rfl rfl rfl ?_))
  revert H; refine ifsI ?_ ?_ <;> intro c3 H
  ·
   subst c3
   refine gf rfl rfl (gk (gs (rg (sv (EV.as rfl) rfl (re ?_)))))
   cases H
   exact rt Try.func70 rfl (.tmp rfl .nil) rfl [] [] rfl rfl rfl rfl rfl ⟨rfl, rfl, rfl⟩
  ·
   have xc3 := bF c3; subst xc3
   refine gt rfl rfl (gs (rg (sv (EV.as rfl) rfl (re ?_))))
   cases H
   exact rt Try.func70 rfl (.tmp rfl .nil) rfl [] [] rfl rfl rfl rfl rfl ⟨rfl, rfl, rfl⟩
 ·
  refine gt rfl (nT c1) (gs (rg (sv (EV.as rfl) rfl (re ?_))))
  cases H
  exact rt Try.func70 rfl (.tmp rfl .nil) rfl [] [] rfl rfl rfl rfl rfl ⟨rfl, rfl, rfl⟩
def laws_eqRollupRowS.l0 : Nat → Int → (List S92) → (List S92) → Option (Bool)
 | 0, _, _, _ => none
 | k + 1, x2_5, l0, l1 => if x2_5 < (l0.length : Int) then (if 0 ≤ x2_5 then (if x2_5 < (l1.length : Int) then ((laws_eqRollupRow.f ((rd_T92 l0 x2_5).f0) ((rd_T92 l0 x2_5).f1.f0) ((rd_T92 l0 x2_5).f1.f1) ((rd_T92 l0 x2_5).f1.f2) ((rd_T92 l0 x2_5).f1.f3) ((rd_T92 l0 x2_5).f1.f4) ((rd_T92 l1 x2_5).f0) ((rd_T92 l1 x2_5).f1.f0) ((rd_T92 l1 x2_5).f1.f1) ((rd_T92 l1 x2_5).f1.f2) ((rd_T92 l1 x2_5).f1.f3) ((rd_T92 l1 x2_5).f1.f4)).bind fun t5 => (if t5 = true then (laws_eqRollupRowS.l0 k (wrap64 (x2_5 + 1)) l0 l1) else (some false))) else none) else none) else (some true)
def laws_eqRollupRowS.f (k : Nat) (l0 : List S92) (l1 : List S92) : Option (Bool) := if (l0.length : Int) = (l1.length : Int) then (laws_eqRollupRowS.l0 k 0 l0 l1) else (some false)
set_option maxHeartbeats 4000000 in
set_option maxRecDepth 100000 in
theorem laws_eqRollupRowS.ok (k : Nat) (l0 : List S92) (Al0 : Option Addr) (cl0 : Nat) (l1 : List S92) (Al1 : Option Addr) (cl1 : Nat) (r0 : Bool) (H : laws_eqRollupRowS.f k l0 l1 = some r0) : Fn Try.prog 35 [.slice Al0 l0.length cl0, .slice Al1 l1.length cl1] [] [.sl 0 k92 Al0 cl0 l0 0 false, .sl 0 k92 Al1 cl1 l1 0 false] (fun v bx en => v = .bool r0 ∧ bx = [] ∧ en = []) := by
 refine fn_ 27 Try.func35 rfl rfl rfl (fun base T w0 => ?_)
 rw [laws_eqRollupRowS.f] at H
 refine gs (rg (sv (EV.as rfl) rfl (re (gs (gs (rg (sv (EV.mv rfl) rfl (sv (EV.ln rfl) rfl (sv (EV.mv rfl) rfl (sv (EV.ln rfl) rfl (sv (EV.neq rfl rfl) rfl (re ?_))))))))))))
 revert H; refine ifsI ?_ ?_ <;> intro c1 H
 ·
  refine gf rfl (nF c1) (gk (gs (gs (rg (sv (EV.as rfl) rfl (re (pr [0, 1, 5] [] [0, 1] rfl rfl rfl rfl (gb ?_))))))))
  refine lo (fun kk S => ∃ (x2_5 : Int), laws_eqRollupRowS.l0 kk x2_5 l0 l1 = some r0 ∧ S = ⟨[(0, .slice Al0 l0.length cl0), (1, .slice Al1 l1.length cl1), (5, .int .i64 x2_5)], [], [.sl 0 k92 Al0 cl0 l0 0 false, .sl 0 k92 Al1 cl1 l1 0 false]⟩) (fun S hS => ?_) (fun n0 ih0 S hS => ?_) ⟨0, H, rfl⟩ (fun h => wk [0, 1, 5] [] [⟨0, 0, 0, false⟩, ⟨1, 0, 0, false⟩] h)
  · clear H; obtain ⟨_, H, _⟩ := hS; rw [laws_eqRollupRowS.l0] at H; cases H
  clear H
  obtain ⟨x2_5, H, rfl⟩ := hS
  rw [laws_eqRollupRowS.l0] at H
  refine gs (gs (rg (sv (EV.mv rfl) rfl (sv (EV.mv rfl) rfl (sv (EV.ln rfl) rfl (sv (EV.lss rfl rfl) rfl (re ?_)))))))
  revert H; refine ifsI ?_ ?_ <;> intro c2 H
  ·
   refine gt rfl (dT c2) (gk (gs (gb (gs ?_))))
   revert H; refine ggI ?_; intro g3 H
   revert H; refine ggI ?_; intro g4 H
   refine dr [] [0, 1] [] 10 rfl rfl rfl rfl (xv 0 [] [0, 1] rfl (EV.mv rfl) rfl rfl rfl rfl (xv 1 [] [0, 1] rfl (EV.mv rfl) rfl rfl rfl rfl (xv 2 [] [0, 1] rfl (EV.ix 0 rfl rfl rfl g3 c2 rfl) rfl rfl rfl rfl (xv 3 [] [0, 1] rfl (EV.le (v := .agg #[.int .i64 ((rd_T92 l0 x2_5).f0), .int .i64 ((rd_T92 l0 x2_5).f1.f0), .int .i64 ((rd_T92 l0 x2_5).f1.f1), .int .i64 ((rd_T92 l0 x2_5).f1.f2), .int .i64 ((rd_T92 l0 x2_5).f1.f3), .int .i64 ((rd_T92 l0 x2_5).f1.f4)]) x2_5 0 (some 6) 0 z92 rfl rfl rfl g3 c2 rfl rfl rfl) rfl rfl rfl rfl (xv 4 [] [0, 1] rfl (EV.mv rfl) rfl rfl rfl rfl (xv 5 [] [0, 1] rfl (EV.mv rfl) rfl rfl rfl rfl (xv 6 [] [0, 1] rfl (EV.ix 1 rfl rfl rfl g3 g4 rfl) rfl rfl rfl rfl (xv 7 [] [0, 1] rfl (EV.le (v := .agg #[.int .i64 ((rd_T92 l1 x2_5).f0), .int .i64 ((rd_T92 l1 x2_5).f1.f0), .int .i64 ((rd_T92 l1 x2_5).f1.f1), .int .i64 ((rd_T92 l1 x2_5).f1.f2), .int .i64 ((rd_T92 l1 x2_5).f1.f3), .int .i64 ((rd_T92 l1 x2_5).f1.f4)]) x2_5 0 (some 6) 1 z92 rfl rfl rfl g3 g4 rfl rfl rfl) rfl rfl rfl rfl (one1 8 rfl rfl ?_)))))))))
   revert H; refine bdI ?_; rintro t5 A5 H
   refine op_call (laws_eqRollupRow.ok ((rd_T92 l0 x2_5).f0) ((rd_T92 l0 x2_5).f1.f0) ((rd_T92 l0 x2_5).f1.f1) ((rd_T92 l0 x2_5).f1.f2) ((rd_T92 l0 x2_5).f1.f3) ((rd_T92 l0 x2_5).f1.f4) ((rd_T92 l1 x2_5).f0) ((rd_T92 l1 x2_5).f1.f0) ((rd_T92 l1 x2_5).f1.f1) ((rd_T92 l1 x2_5).f1.f2) ((rd_T92 l1 x2_5).f1.f3) ((rd_T92 l1 x2_5).f1.f4) _ A5) [] 1 rfl rfl rfl rfl rfl ?_
   rintro _ _ _ ⟨rfl, rfl, rfl⟩
   refine xs [] [0, 1] rfl rfl rfl (xv 9 [] [0, 1] rfl (EV.nt rfl) rfl rfl rfl rfl (xd (pr [0, 1, 5, 26] [] [0, 1] rfl rfl rfl rfl ?_)))
   revert H; refine ifsI ?_ ?_ <;> intro c6 H
   ·
    subst c6
    exact gf rfl rfl (gk (ge (rg (sv (EV.mv rfl) rfl (sv (EV.add rfl rfl) rfl (sv (EV.as rfl) rfl (re (wk [0, 1, 5] [] [⟨0, 0, 0, false⟩, ⟨1, 0, 0, false⟩] (ih0 _ (by omega) _ ⟨wrap64 (x2_5 + 1), H, rfl⟩)))))))))
   ·
    have xc6 := bF c6; subst xc6
    refine gt rfl rfl (gs (rg (sv (EV.as rfl) rfl (re ?_))))
    cases H
    exact rt Try.func35 rfl (.tmp rfl .nil) rfl [] [] rfl rfl rfl rfl rfl ⟨rfl, rfl, rfl⟩
  ·
   refine gf rfl (dF c2) (gx rfl (gs (rg (sv (EV.as rfl) rfl (re (pr [4] [] [] rfl rfl rfl rfl ?_))))))
   cases H
   exact rt Try.func35 rfl (.tmp rfl .nil) rfl [] [] rfl rfl rfl rfl rfl ⟨rfl, rfl, rfl⟩
 ·
  refine gt rfl (nT c1) (gs (rg (sv (EV.as rfl) rfl (re (pr [4] [] [] rfl rfl rfl rfl ?_)))))
  cases H
  exact rt Try.func35 rfl (.tmp rfl .nil) rfl [] [] rfl rfl rfl rfl rfl ⟨rfl, rfl, rfl⟩
def laws_markRollupRowS.l0 : Nat → (List S92) → Int → Int → Option (Int × (List S92))
 | 0, _, _, _ => none
 | k + 1, x2_ml0, x2_1, x2_5 => if x2_5 < (x2_ml0.length : Int) then (if 0 ≤ x2_5 then ((some (x2_ml0.set x2_5.toNat (⟨x2_1, (⟨(rd_T92 x2_ml0 x2_5).f1.f0, (rd_T92 x2_ml0 x2_5).f1.f1, (rd_T92 x2_ml0 x2_5).f1.f2, (rd_T92 x2_ml0 x2_5).f1.f3, (rd_T92 x2_ml0 x2_5).f1.f4⟩ : S88)⟩ : S92))).bind fun s3 => (if x2_5 < (s3.length : Int) then ((some (s3.set x2_5.toNat (⟨(rd_T92 s3 x2_5).f0, (⟨wrap64 (x2_1 + 1), (rd_T92 s3 x2_5).f1.f1, (rd_T92 s3 x2_5).f1.f2, (rd_T92 s3 x2_5).f1.f3, (rd_T92 s3 x2_5).f1.f4⟩ : S88)⟩ : S92))).bind fun s5 => (if x2_5 < (s5.length : Int) then ((some (s5.set x2_5.toNat (⟨(rd_T92 s5 x2_5).f0, (⟨(rd_T92 s5 x2_5).f1.f0, wrap64 ((wrap64 (x2_1 + 1)) + 1), (rd_T92 s5 x2_5).f1.f2, (rd_T92 s5 x2_5).f1.f3, (rd_T92 s5 x2_5).f1.f4⟩ : S88)⟩ : S92))).bind fun s7 => (if x2_5 < (s7.length : Int) then ((some (s7.set x2_5.toNat (⟨(rd_T92 s7 x2_5).f0, (⟨(rd_T92 s7 x2_5).f1.f0, (rd_T92 s7 x2_5).f1.f1, wrap64 ((wrap64 ((wrap64 (x2_1 + 1)) + 1)) + 1), (rd_T92 s7 x2_5).f1.f3, (rd_T92 s7 x2_5).f1.f4⟩ : S88)⟩ : S92))).bind fun s9 => (if x2_5 < (s9.length : Int) then ((some (s9.set x2_5.toNat (⟨(rd_T92 s9 x2_5).f0, (⟨(rd_T92 s9 x2_5).f1.f0, (rd_T92 s9 x2_5).f1.f1, (rd_T92 s9 x2_5).f1.f2, wrap64 ((wrap64 ((wrap64 ((wrap64 (x2_1 + 1)) + 1)) + 1)) + 1), (rd_T92 s9 x2_5).f1.f4⟩ : S88)⟩ : S92))).bind fun s11 => (if x2_5 < (s11.length : Int) then ((some (s11.set x2_5.toNat (⟨(rd_T92 s11 x2_5).f0, (⟨(rd_T92 s11 x2_5).f1.f0, (rd_T92 s11 x2_5).f1.f1, (rd_T92 s11 x2_5).f1.f2, (rd_T92 s11 x2_5).f1.f3, wrap64 ((wrap64 ((wrap64 ((wrap64 ((wrap64 (x2_1 + 1)) + 1)) + 1)) + 1)) + 1)⟩ : S88)⟩ : S92))).bind fun s13 => (laws_markRollupRowS.l0 k s13 (wrap64 ((wrap64 ((wrap64 ((wrap64 ((wrap64 ((wrap64 (x2_1 + 1)) + 1)) + 1)) + 1)) + 1)) + 1)) (wrap64 (x2_5 + 1)))) else none)) else none)) else none)) else none)) else none)) else none) else (some (x2_1, x2_ml0))
def laws_markRollupRowS.f (k : Nat) (l0 : List S92) (a1 : Int) : Option (Int × (List S92)) := laws_markRollupRowS.l0 k l0 a1 0
set_option maxHeartbeats 4000000 in
set_option maxRecDepth 100000 in
theorem laws_markRollupRowS.ok (k : Nat) (l0 : List S92) (Al0 : Option Addr) (cl0 : Nat) (a1 : Int) (r0 : Int) (r1 : List S92) (H : laws_markRollupRowS.f k l0 a1 = some (r0, r1)) : Fn Try.prog 38 [.slice Al0 l0.length cl0, .int .i64 a1] [] [.sl 1 k92 Al0 cl0 l0 1 false] (fun v bx en => v = .int .i64 r0 ∧ bx = [] ∧ en = [.sl 1 k92 Al0 cl0 r1 1 false] ∧ r1.length = l0.length) := by
 refine fn_ 60 Try.func38 rfl rfl rfl (fun base T w0 => ?_)
 rw [laws_markRollupRowS.f] at H
 refine gs (rg (sv (EV.as rfl) rfl (re (gs (gs (rg (sv (EV.as rfl) rfl (re (gb ?_)))))))))
 refine lo (fun kk S => ∃ (x2_ml0 : List S92) (x2_1 : Int) (x2_5 : Int), laws_markRollupRowS.l0 kk x2_ml0 x2_1 x2_5 = some (r0, r1) ∧ x2_ml0.length = l0.length ∧ S = ⟨[(0, .slice Al0 x2_ml0.length cl0), (1, .int .i64 x2_1), (5, .int .i64 x2_5)], [], [.sl 1 k92 Al0 cl0 x2_ml0 1 false]⟩) (fun S hS => ?_) (fun n0 ih0 S hS => ?_) ⟨l0, a1, 0, H, (by first | rfl | assumption | omega | (simp only [List.length_set]; first | done | assumption | omega)), rfl⟩ (fun h => wk [0, 1, 5] [] [⟨0, 1, 1, false⟩] h)
 · clear H; obtain ⟨_, _, _, H, _⟩ := hS; rw [laws_markRollupRowS.l0] at H; cases H
 clear H
 obtain ⟨x2_ml0, x2_1, x2_5, H, ex2_ml0, rfl⟩ := hS
 rw [laws_markRollupRowS.l0] at H
 refine gs (gs (rg (sv (EV.mv rfl) rfl (sv (EV.mv rfl) rfl (sv (EV.ln rfl) rfl (sv (EV.lss rfl rfl) rfl (re ?_)))))))
 revert H; refine ifsI ?_ ?_ <;> intro c1 H
 ·
  refine gt rfl (dT c1) (gk (gs (gb (gs (rg (sv (EV.mv rfl) rfl (sv (EV.mv rfl) rfl (sv (EV.mv rfl) rfl ?_))))))))
  revert H; refine ggI ?_; intro g2 H
  refine sv (EV.ix 0 rfl rfl rfl g2 c1 rfl) rfl (sv (EV.fa 0 rfl) rfl ?_)
  revert H; refine bdI ?_; intro s3 A3 H; have q3 := stl (Option.some.inj A3)
  refine so rfl (op_stg x2_5 0 0 z92 (⟨x2_1, (⟨(rd_T92 x2_ml0 x2_5).f1.f0, (rd_T92 x2_ml0 x2_5).f1.f1, (rd_T92 x2_ml0 x2_5).f1.f2, (rd_T92 x2_ml0 x2_5).f1.f3, (rd_T92 x2_ml0 x2_5).f1.f4⟩ : S88)⟩ : S92) (Option.some.inj A3) rfl rfl rfl rfl g2 c1 rfl rfl rfl rfl dq rfl (rlT 0 (v' := .slice Al0 s3.length cl0) rfl (slq _ _ q3) (rlT 7 (v' := .slice Al0 s3.length cl0) rfl (slq _ _ q3) (rlT 12 (v' := .slice Al0 s3.length cl0) rfl (slq _ _ q3) (nmE (en := [.sl 1 k92 Al0 cl0 s3 1 true]) (by kernel_rfl) (re (pr [0, 1, 5] [] [0] rfl rfl rfl rfl (gs (rg (sv (EV.mv rfl) rfl (sv (EV.add rfl rfl) rfl (sv (EV.as rfl) rfl (re (gs (rg (sv (EV.mv rfl) rfl (sv (EV.mv rfl) rfl (sv (EV.mv rfl) rfl ?_))))))))))))))))))
  revert H; refine ggI ?_; intro g4 H
  refine sv (EV.ix 0 rfl rfl rfl g2 g4 rfl) rfl (sv (EV.fa 1 rfl) rfl (sv (EV.fa 0 rfl) rfl ?_))
  revert H; refine bdI ?_; intro s5 A5 H; have q5 := stl (Option.some.inj A5)
  refine so rfl (op_stg x2_5 1 0 z92 (⟨(rd_T92 s3 x2_5).f0, (⟨wrap64 (x2_1 + 1), (rd_T92 s3 x2_5).f1.f1, (rd_T92 s3 x2_5).f1.f2, (rd_T92 s3 x2_5).f1.f3, (rd_T92 s3 x2_5).f1.f4⟩ : S88)⟩ : S92) (Option.some.inj A5) rfl rfl rfl rfl g2 g4 rfl rfl rfl rfl dq rfl (rlT 0 (v' := .slice Al0 s5.length cl0) rfl (slq _ _ q5) (rlT 19 (v' := .slice Al0 s5.length cl0) rfl (slq _ _ q5) (nmE (en := [.sl 1 k92 Al0 cl0 s5 1 true]) (by kernel_rfl) (re (gs (rg (sv (EV.mv rfl) rfl (sv (EV.add rfl rfl) rfl (sv (EV.as rfl) rfl (re (pr [0, 1, 5] [] [0] rfl rfl rfl rfl (gs (rg (sv (EV.mv rfl) rfl (sv (EV.mv rfl) rfl (sv (EV.mv rfl) rfl ?_)))))))))))))))))
  revert H; refine ggI ?_; intro g6 H
  refine sv (EV.ix 0 rfl rfl rfl g2 g6 rfl) rfl (sv (EV.fa 1 rfl) rfl (sv (EV.fa 1 rfl) rfl ?_))
  revert H; refine bdI ?_; intro s7 A7 H; have q7 := stl (Option.some.inj A7)
  refine so rfl (op_stg x2_5 2 0 z92 (⟨(rd_T92 s5 x2_5).f0, (⟨(rd_T92 s5 x2_5).f1.f0, wrap64 ((wrap64 (x2_1 + 1)) + 1), (rd_T92 s5 x2_5).f1.f2, (rd_T92 s5 x2_5).f1.f3, (rd_T92 s5 x2_5).f1.f4⟩ : S88)⟩ : S92) (Option.some.inj A7) rfl rfl rfl rfl g2 g6 rfl rfl rfl rfl dq rfl (rlT 0 (v' := .slice Al0 s7.length cl0) rfl (slq _ _ q7) (rlT 27 (v' := .slice Al0 s7.length cl0) rfl (slq _ _ q7) (nmE (en := [.sl 1 k92 Al0 cl0 s7 1 true]) (by kernel_rfl) (re (gs (rg (sv (EV.mv rfl) rfl (sv (EV.add rfl rfl) rfl (sv (EV.as rfl) rfl (re (gs (rg (sv (EV.mv rfl) rfl (sv (EV.mv rfl) rfl (sv (EV.mv rfl) rfl ?_))))))))))))))))
  revert H; refine ggI ?_; intro g8 H
  refine sv (EV.ix 0 rfl rfl rfl g2 g8 rfl) rfl (sv (EV.fa 1 rfl) rfl (sv (EV.fa 2 rfl) rfl ?_))
  revert H; refine bdI ?_; intro s9 A9 H; have q9 := stl (Option.some.inj A9)
  refine so rfl (op_stg x2_5 3 0 z92 (⟨(rd_T92 s7 x2_5).f0, (⟨(rd_T92 s7 x2_5).f1.f0, (rd_T92 s7 x2_5).f1.f1, wrap64 ((wrap64 ((wrap64 (x2_1 + 1)) + 1)) + 1), (rd_T92 s7 x2_5).f1.f3, (rd_T92 s7 x2_5).f1.f4⟩ : S88)⟩ : S92) (Option.some.inj A9) rfl rfl rfl rfl g2 g8 rfl rfl rfl rfl dq rfl (rlT 0 (v' := .slice Al0 s9.length cl0) rfl (slq _ _ q9) (rlT 27 (v' := .slice Al0 s9.length cl0) rfl (slq _ _ q9) (rlT 35 (v' := .slice Al0 s9.length cl0) rfl (slq _ _ q9) (nmE (en := [.sl 1 k92 Al0 cl0 s9 1 true]) (by kernel_rfl) (re (pr [0, 1, 5] [] [0] rfl rfl rfl rfl (gs (rg (sv (EV.mv rfl) rfl (sv (EV.add rfl rfl) rfl (sv (EV.as rfl) rfl (re (gs (rg (sv (EV.mv rfl) rfl (sv (EV.mv rfl) rfl (sv (EV.mv rfl) rfl ?_))))))))))))))))))
  revert H; refine ggI ?_; intro g10 H
  refine sv (EV.ix 0 rfl rfl rfl g2 g10 rfl) rfl (sv (EV.fa 1 rfl) rfl (sv (EV.fa 3 rfl) rfl ?_))
  revert H; refine bdI ?_; intro s11 A11 H; have q11 := stl (Option.some.inj A11)
  refine so rfl (op_stg x2_5 4 0 z92 (⟨(rd_T92 s9 x2_5).f0, (⟨(rd_T92 s9 x2_5).f1.f0, (rd_T92 s9 x2_5).f1.f1, (rd_T92 s9 x2_5).f1.f2, wrap64 ((wrap64 ((wrap64 ((wrap64 (x2_1 + 1)) + 1)) + 1)) + 1), (rd_T92 s9 x2_5).f1.f4⟩ : S88)⟩ : S92) (Option.some.inj A11) rfl rfl rfl rfl g2 g10 rfl rfl rfl rfl dq rfl (rlT 0 (v' := .slice Al0 s11.length cl0) rfl (slq _ _ q11) (rlT 43 (v' := .slice Al0 s11.length cl0) rfl (slq _ _ q11) (nmE (en := [.sl 1 k92 Al0 cl0 s11 1 true]) (by kernel_rfl) (re (gs (rg (sv (EV.mv rfl) rfl (sv (EV.add rfl rfl) rfl (sv (EV.as rfl) rfl (re (pr [0, 1, 5] [] [0] rfl rfl rfl rfl (gs (rg (sv (EV.mv rfl) rfl (sv (EV.mv rfl) rfl (sv (EV.mv rfl) rfl ?_)))))))))))))))))
  revert H; refine ggI ?_; intro g12 H
  refine sv (EV.ix 0 rfl rfl rfl g2 g12 rfl) rfl (sv (EV.fa 1 rfl) rfl (sv (EV.fa 4 rfl) rfl ?_))
  revert H; refine bdI ?_; intro s13 A13 H; have q13 := stl (Option.some.inj A13)
  exact so rfl (op_stg x2_5 5 0 z92 (⟨(rd_T92 s11 x2_5).f0, (⟨(rd_T92 s11 x2_5).f1.f0, (rd_T92 s11 x2_5).f1.f1, (rd_T92 s11 x2_5).f1.f2, (rd_T92 s11 x2_5).f1.f3, wrap64 ((wrap64 ((wrap64 ((wrap64 ((wrap64 (x2_1 + 1)) + 1)) + 1)) + 1)) + 1)⟩ : S88)⟩ : S92) (Option.some.inj A13) rfl rfl rfl rfl g2 g12 rfl rfl rfl rfl dq rfl (rlT 0 (v' := .slice Al0 s13.length cl0) rfl (slq _ _ q13) (rlT 51 (v' := .slice Al0 s13.length cl0) rfl (slq _ _ q13) (nmE (en := [.sl 1 k92 Al0 cl0 s13 1 true]) (by kernel_rfl) (re (rg (sv (EV.mv rfl) rfl (sv (EV.add rfl rfl) rfl (sv (EV.as rfl) rfl (re (ge (rg (sv (EV.mv rfl) rfl (sv (EV.add rfl rfl) rfl (sv (EV.as rfl) rfl (re (pr [0, 1, 5] [] [0] rfl rfl rfl rfl (wk [0, 1, 5] [] [⟨0, 1, 1, false⟩] (ih0 _ (by omega) _ ⟨s13, wrap64 ((wrap64 ((wrap64 ((wrap64 ((wrap64 ((wrap64 (x2_1 + 1)) + 1)) + 1)) + 1)) + 1)) + 1), wrap64 (x2_5 + 1), H, (by first | rfl | assumption | omega | (simp only [List.length_set]; first | done | assumption | omega)), rfl⟩)))))))))))))))))))
 ·
  refine gf rfl (dF c1) (gx rfl (gs (rg (sv (EV.mv rfl) rfl (sv (EV.as rfl) rfl (re (pr [4] [] [0] rfl rfl rfl rfl ?_)))))))
  cases H
  exact rt Try.func38 rfl (.tmp rfl .nil) rfl [] [⟨0, 1, 1, false⟩] rfl rfl rfl rfl rfl ⟨rfl, rfl, rfl, by first | rfl | assumption | omega | (simp only [List.length_set]; first | done | assumption | omega)⟩
def laws_heldRollupRowS.l0 : Nat → Int → Int → (List S92) → Option (Int)
 | 0, _, _, _ => none
 | k + 1, x2_1, x2_5, l0 => if x2_5 < (l0.length : Int) then (if 0 ≤ x2_5 then (if ((rd_T92 l0 x2_5).f0) = x2_1 then (if ((rd_T92 l0 x2_5).f1.f0) = (wrap64 (x2_1 + 1)) then (if ((rd_T92 l0 x2_5).f1.f1) = (wrap64 ((wrap64 (x2_1 + 1)) + 1)) then (if ((rd_T92 l0 x2_5).f1.f2) = (wrap64 ((wrap64 ((wrap64 (x2_1 + 1)) + 1)) + 1)) then (if ((rd_T92 l0 x2_5).f1.f3) = (wrap64 ((wrap64 ((wrap64 ((wrap64 (x2_1 + 1)) + 1)) + 1)) + 1)) then (if ((rd_T92 l0 x2_5).f1.f4) = (wrap64 ((wrap64 ((wrap64 ((wrap64 ((wrap64 (x2_1 + 1)) + 1)) + 1)) + 1)) + 1)) then (laws_heldRollupRowS.l0 k (wrap64 ((wrap64 ((wrap64 ((wrap64 ((wrap64 ((wrap64 (x2_1 + 1)) + 1)) + 1)) + 1)) + 1)) + 1)) (wrap64 (x2_5 + 1)) l0) else (some (-1))) else (some (-1))) else (some (-1))) else (some (-1))) else (some (-1))) else (some (-1))) else none) else (some x2_1)
def laws_heldRollupRowS.f (k : Nat) (l0 : List S92) (a1 : Int) : Option (Int) := laws_heldRollupRowS.l0 k a1 0 l0
set_option maxHeartbeats 4000000 in
set_option maxRecDepth 100000 in
theorem laws_heldRollupRowS.ok (k : Nat) (l0 : List S92) (Al0 : Option Addr) (cl0 : Nat) (a1 : Int) (r0 : Int) (H : laws_heldRollupRowS.f k l0 a1 = some r0) : Fn Try.prog 39 [.slice Al0 l0.length cl0, .int .i64 a1] [] [.sl 0 k92 Al0 cl0 l0 0 false] (fun v bx en => v = .int .i64 r0 ∧ bx = [] ∧ en = []) := by
 refine fn_ 72 Try.func39 rfl rfl rfl (fun base T w0 => ?_)
 rw [laws_heldRollupRowS.f] at H
 refine gs (rg (sv (EV.as rfl) rfl (re (gs (gs (rg (sv (EV.as rfl) rfl (re (gb ?_)))))))))
 refine lo (fun kk S => ∃ (x2_1 : Int) (x2_5 : Int), laws_heldRollupRowS.l0 kk x2_1 x2_5 l0 = some r0 ∧ S = ⟨[(0, .slice Al0 l0.length cl0), (1, .int .i64 x2_1), (5, .int .i64 x2_5)], [], [.sl 0 k92 Al0 cl0 l0 0 false]⟩) (fun S hS => ?_) (fun n0 ih0 S hS => ?_) ⟨a1, 0, H, rfl⟩ (fun h => wk [0, 1, 5] [] [⟨0, 0, 0, false⟩] h)
 · clear H; obtain ⟨_, _, H, _⟩ := hS; rw [laws_heldRollupRowS.l0] at H; cases H
 clear H
 obtain ⟨x2_1, x2_5, H, rfl⟩ := hS
 rw [laws_heldRollupRowS.l0] at H
 refine gs (gs (rg (sv (EV.mv rfl) rfl (sv (EV.mv rfl) rfl (sv (EV.ln rfl) rfl (sv (EV.lss rfl rfl) rfl (re ?_)))))))
 revert H; refine ifsI ?_ ?_ <;> intro c1 H
 ·
  refine gt rfl (dT c1) (gk (gs (gb (gs (gs (rg (sv (EV.mv rfl) rfl (sv (EV.mv rfl) rfl ?_))))))))
  revert H; refine ggI ?_; intro g2 H
  refine sv (EV.ix 0 rfl rfl rfl g2 c1 rfl) rfl (sv (EV.fa 0 rfl) rfl (sv (EV.le (v := .int .i64 ((rd_T92 l0 x2_5).f0)) x2_5 0 none 0 z92 rfl rfl rfl g2 c1 rfl rfl rfl) rfl (sv (EV.mv rfl) rfl (sv (EV.neq rfl rfl) rfl (re (pr [0, 1, 5, 18] [] [0] rfl rfl rfl rfl ?_))))))
  revert H; refine ifsI ?_ ?_ <;> intro c3 H
  ·
   refine gf rfl (nF c3) (gk (gs (rg (sv (EV.mv rfl) rfl (sv (EV.add rfl rfl) rfl (sv (EV.as rfl) rfl (re (gs (gs (rg (sv (EV.mv rfl) rfl (sv (EV.mv rfl) rfl (sv (EV.ix 0 rfl rfl rfl g2 c1 rfl) rfl (sv (EV.fa 1 rfl) rfl (sv (EV.fa 0 rfl) rfl (sv (EV.le (v := .int .i64 ((rd_T92 l0 x2_5).f1.f0)) x2_5 1 none 0 z92 rfl rfl rfl g2 c1 rfl rfl rfl) rfl (sv (EV.mv rfl) rfl (sv (EV.neq rfl rfl) rfl (re (pr [0, 1, 5, 28] [] [0] rfl rfl rfl rfl ?_))))))))))))))))))))
   revert H; refine ifsI ?_ ?_ <;> intro c4 H
   ·
    refine gf rfl (nF c4) (gk (gs (rg (sv (EV.mv rfl) rfl (sv (EV.add rfl rfl) rfl (sv (EV.as rfl) rfl (re (gs (gs (rg (sv (EV.mv rfl) rfl (sv (EV.mv rfl) rfl (sv (EV.ix 0 rfl rfl rfl g2 c1 rfl) rfl (sv (EV.fa 1 rfl) rfl (sv (EV.fa 1 rfl) rfl (sv (EV.le (v := .int .i64 ((rd_T92 l0 x2_5).f1.f1)) x2_5 2 none 0 z92 rfl rfl rfl g2 c1 rfl rfl rfl) rfl (sv (EV.mv rfl) rfl (sv (EV.neq rfl rfl) rfl (re (pr [0, 1, 5, 38] [] [0] rfl rfl rfl rfl ?_))))))))))))))))))))
    revert H; refine ifsI ?_ ?_ <;> intro c5 H
    ·
     refine gf rfl (nF c5) (gk (gs (rg (sv (EV.mv rfl) rfl (sv (EV.add rfl rfl) rfl (sv (EV.as rfl) rfl (re (gs (gs (rg (sv (EV.mv rfl) rfl (sv (EV.mv rfl) rfl (sv (EV.ix 0 rfl rfl rfl g2 c1 rfl) rfl (sv (EV.fa 1 rfl) rfl (sv (EV.fa 2 rfl) rfl (sv (EV.le (v := .int .i64 ((rd_T92 l0 x2_5).f1.f2)) x2_5 3 none 0 z92 rfl rfl rfl g2 c1 rfl rfl rfl) rfl (sv (EV.mv rfl) rfl (sv (EV.neq rfl rfl) rfl (re (pr [0, 1, 5, 48] [] [0] rfl rfl rfl rfl ?_))))))))))))))))))))
     revert H; refine ifsI ?_ ?_ <;> intro c6 H
     ·
      refine gf rfl (nF c6) (gk (gs (rg (sv (EV.mv rfl) rfl (sv (EV.add rfl rfl) rfl (sv (EV.as rfl) rfl (re (gs (gs (rg (sv (EV.mv rfl) rfl (sv (EV.mv rfl) rfl (sv (EV.ix 0 rfl rfl rfl g2 c1 rfl) rfl (sv (EV.fa 1 rfl) rfl (sv (EV.fa 3 rfl) rfl (sv (EV.le (v := .int .i64 ((rd_T92 l0 x2_5).f1.f3)) x2_5 4 none 0 z92 rfl rfl rfl g2 c1 rfl rfl rfl) rfl (sv (EV.mv rfl) rfl (sv (EV.neq rfl rfl) rfl (re (pr [0, 1, 5, 58] [] [0] rfl rfl rfl rfl ?_))))))))))))))))))))
      revert H; refine ifsI ?_ ?_ <;> intro c7 H
      ·
       refine gf rfl (nF c7) (gk (gs (rg (sv (EV.mv rfl) rfl (sv (EV.add rfl rfl) rfl (sv (EV.as rfl) rfl (re (gs (gs (rg (sv (EV.mv rfl) rfl (sv (EV.mv rfl) rfl (sv (EV.ix 0 rfl rfl rfl g2 c1 rfl) rfl (sv (EV.fa 1 rfl) rfl (sv (EV.fa 4 rfl) rfl (sv (EV.le (v := .int .i64 ((rd_T92 l0 x2_5).f1.f4)) x2_5 5 none 0 z92 rfl rfl rfl g2 c1 rfl rfl rfl) rfl (sv (EV.mv rfl) rfl (sv (EV.neq rfl rfl) rfl (re (pr [0, 1, 5, 68] [] [0] rfl rfl rfl rfl ?_))))))))))))))))))))
       revert H; refine ifsI ?_ ?_ <;> intro c8 H
       ·
        exact gf rfl (nF c8) (gk (rg (sv (EV.mv rfl) rfl (sv (EV.add rfl rfl) rfl (sv (EV.as rfl) rfl (re (ge (rg (sv (EV.mv rfl) rfl (sv (EV.add rfl rfl) rfl (sv (EV.as rfl) rfl (re (wk [0, 1, 5] [] [⟨0, 0, 0, false⟩] (ih0 _ (by omega) _ ⟨wrap64 ((wrap64 ((wrap64 ((wrap64 ((wrap64 ((wrap64 (x2_1 + 1)) + 1)) + 1)) + 1)) + 1)) + 1), wrap64 (x2_5 + 1), H, rfl⟩))))))))))))))
       ·
        refine gt rfl (nT c8) (gs (rg (sv (EV.as rfl) rfl (re ?_))))
        cases H
        exact rt Try.func39 rfl (.tmp rfl .nil) rfl [] [] rfl rfl rfl rfl rfl ⟨rfl, rfl, rfl⟩
      ·
       refine gt rfl (nT c7) (gs (rg (sv (EV.as rfl) rfl (re ?_))))
       cases H
       exact rt Try.func39 rfl (.tmp rfl .nil) rfl [] [] rfl rfl rfl rfl rfl ⟨rfl, rfl, rfl⟩
     ·
      refine gt rfl (nT c6) (gs (rg (sv (EV.as rfl) rfl (re ?_))))
      cases H
      exact rt Try.func39 rfl (.tmp rfl .nil) rfl [] [] rfl rfl rfl rfl rfl ⟨rfl, rfl, rfl⟩
    ·
     refine gt rfl (nT c5) (gs (rg (sv (EV.as rfl) rfl (re ?_))))
     cases H
     exact rt Try.func39 rfl (.tmp rfl .nil) rfl [] [] rfl rfl rfl rfl rfl ⟨rfl, rfl, rfl⟩
   ·
    refine gt rfl (nT c4) (gs (rg (sv (EV.as rfl) rfl (re ?_))))
    cases H
    exact rt Try.func39 rfl (.tmp rfl .nil) rfl [] [] rfl rfl rfl rfl rfl ⟨rfl, rfl, rfl⟩
  ·
   refine gt rfl (nT c3) (gs (rg (sv (EV.as rfl) rfl (re ?_))))
   cases H
   exact rt Try.func39 rfl (.tmp rfl .nil) rfl [] [] rfl rfl rfl rfl rfl ⟨rfl, rfl, rfl⟩
 ·
  refine gf rfl (dF c1) (gx rfl (gs (rg (sv (EV.mv rfl) rfl (sv (EV.as rfl) rfl (re (pr [4] [] [] rfl rfl rfl rfl ?_)))))))
  cases H
  exact rt Try.func39 rfl (.tmp rfl .nil) rfl [] [] rfl rfl rfl rfl rfl ⟨rfl, rfl, rfl⟩
def spec_RollupKey.f (a0 : Int) (a1 : Int) : Option (Int) := if a1 = 0 then (some a0) else (if a1 = 1 then (some (wrap64 (Int.tdiv a0 5))) else (some 0))
set_option maxHeartbeats 4000000 in
set_option maxRecDepth 100000 in
theorem spec_RollupKey.ok (a0 : Int) (a1 : Int) (r0 : Int) (H : spec_RollupKey.f a0 a1 = some r0) : Fn Try.prog 65 [.int .i64 a0, .int .i64 a1] [] [] (fun v bx en => v = .int .i64 r0 ∧ bx = [] ∧ en = []) := by
 refine fn_ 13 Try.func65 rfl rfl rfl (fun base T w0 => ?_)
 rw [spec_RollupKey.f] at H
 refine gs (rg (sv (EV.as rfl) rfl (re (gs (gs (rg (sv (EV.mv rfl) rfl (re (gb (gs (rg (sv (EV.eql rfl rfl) rfl (sv (EV.as rfl) rfl (re ?_))))))))))))))
 revert H; refine ifsI ?_ ?_ <;> intro c1 H
 ·
  refine gt rfl (dT c1) (gs (rg (sv (EV.mv rfl) rfl (sv (EV.as rfl) rfl (re (pr [4] [] [] rfl rfl rfl rfl ?_))))))
  cases H
  exact rt Try.func65 rfl (.tmp rfl .nil) rfl [] [] rfl rfl rfl rfl rfl ⟨rfl, rfl, rfl⟩
 ·
  refine gf rfl (dF c1) (gs (rg (sv (EV.eql rfl rfl) rfl (sv (EV.as rfl) rfl (re (pr [0, 9] [] [] rfl rfl rfl rfl ?_))))))
  revert H; refine ifsI ?_ ?_ <;> intro c2 H
  ·
   refine gt rfl (dT c2) (gs (rg (sv (EV.mv rfl) rfl (sv (EV.quo rfl rfl dq) rfl (sv (EV.as rfl) rfl (re ?_))))))
   cases H
   exact rt Try.func65 rfl (.tmp rfl .nil) rfl [] [] rfl rfl rfl rfl rfl ⟨rfl, rfl, rfl⟩
  ·
   refine gf rfl (dF c2) (gk (ge (gs (rg (sv (EV.as rfl) rfl (re ?_))))))
   cases H
   exact rt Try.func65 rfl (.tmp rfl .nil) rfl [] [] rfl rfl rfl rfl rfl ⟨rfl, rfl, rfl⟩
def spec_CombineGroups.f (a0_0 : Int) (a0_1 : Int) (a0_2 : Int) (a0_3 : Int) (a0_4 : Int) (a1_0 : Int) (a1_1 : Int) (a1_2 : Int) (a1_3 : Int) (a1_4 : Int) : Option (Int × Int × Int × Int × Int) := if a0_0 = a1_0 then (some (a0_0, wrap64 (a0_1 + a1_1), wrap64 (a0_2 + a1_2), mn a0_3 a1_3, mx a0_4 a1_4)) else (some (a0_0, a0_1, a0_2, a0_3, a0_4))
set_option maxHeartbeats 4000000 in
set_option maxRecDepth 100000 in
theorem spec_CombineGroups.ok (a0_0 : Int) (a0_1 : Int) (a0_2 : Int) (a0_3 : Int) (a0_4 : Int) (a1_0 : Int) (a1_1 : Int) (a1_2 : Int) (a1_3 : Int) (a1_4 : Int) (r0 : Int) (r1 : Int) (r2 : Int) (r3 : Int) (r4 : Int) (H : spec_CombineGroups.f a0_0 a0_1 a0_2 a0_3 a0_4 a1_0 a1_1 a1_2 a1_3 a1_4 = some (r0, r1, r2, r3, r4)) : Fn Try.prog 90 [.agg #[.int .i64 a0_0, .int .i64 a0_1, .int .i64 a0_2, .int .i64 a0_3, .int .i64 a0_4], .agg #[.int .i64 a1_0, .int .i64 a1_1, .int .i64 a1_2, .int .i64 a1_3, .int .i64 a1_4]] [] [] (fun v bx en => v = .agg #[.int .i64 r0, .int .i64 r1, .int .i64 r2, .int .i64 r3, .int .i64 r4] ∧ bx = [] ∧ en = []) := by
 refine fn_ 34 Try.func90 rfl rfl rfl (fun base T w0 => ?_)
 rw [spec_CombineGroups.f] at H
 refine gs (rg (so rfl (op_box (cs := [.int .i64 a0_0, .int .i64 a0_1, .int .i64 a0_2, .int .i64 a0_3, .int .i64 a0_4]) rfl rfl rfl fun b2 => (so rfl (op_box (cs := [.int .i64 a1_0, .int .i64 a1_1, .int .i64 a1_2, .int .i64 a1_3, .int .i64 a1_4]) rfl rfl rfl fun b3 => (so rfl (op_alloc (cs := [.int .i64 0, .int .i64 0, .int .i64 0, .int .i64 0, .int .i64 0]) (by kernel_rfl) rfl fun b4 => (re (gs (gs (rg (sv (EV.fa 0 rfl) rfl (sv (EV.ld 0 none rfl rfl rfl) rfl (sv (EV.fa 0 rfl) rfl (sv (EV.ld 1 none rfl rfl rfl) rfl (sv (EV.neq rfl rfl) rfl (re (pr [2, 3, 4, 9] [0, 1, 2] [] rfl rfl rfl rfl ?_))))))))))))))))))
 revert H; refine ifsI ?_ ?_ <;> intro c1 H
 ·
  refine gf rfl (nF c1) (gk (gs (rg (sv (EV.fa 0 rfl) rfl (sv (EV.ld 0 none rfl rfl rfl) rfl (sv (EV.fa 1 rfl) rfl (sv (EV.ld 0 none rfl rfl rfl) rfl (sv (EV.fa 1 rfl) rfl (sv (EV.ld 1 none rfl rfl rfl) rfl (sv (EV.add rfl rfl) rfl (sv (EV.fa 2 rfl) rfl (sv (EV.ld 0 none rfl rfl rfl) rfl (sv (EV.fa 2 rfl) rfl (sv (EV.ld 1 none rfl rfl rfl) rfl (sv (EV.add rfl rfl) rfl (sv (EV.fa 3 rfl) rfl (sv (EV.ld 0 none rfl rfl rfl) rfl (sv (EV.fa 3 rfl) rfl (sv (EV.ld 1 none rfl rfl rfl) rfl (sv (EV.mn rfl rfl) rfl (sv (EV.fa 4 rfl) rfl (sv (EV.ld 0 none rfl rfl rfl) rfl (sv (EV.fa 4 rfl) rfl (sv (EV.ld 1 none rfl rfl rfl) rfl (sv (EV.mx rfl rfl) rfl (sv (EV.bd (v := .agg #[.int .i64 a0_0, .int .i64 (wrap64 (a0_1 + a1_1)), .int .i64 (wrap64 (a0_2 + a1_2)), .int .i64 (mn a0_3 a1_3), .int .i64 (mx a0_4 a1_4)]) rfl (by kernel_rfl)) rfl (so rfl (op_st (cs' := [.int .i64 a0_0, .int .i64 (wrap64 (a0_1 + a1_1)), .int .i64 (wrap64 (a0_2 + a1_2)), .int .i64 (mn a0_3 a1_3), .int .i64 (mx a0_4 a1_4)]) 2 rfl rfl rfl rfl rfl rfl (re ?_)))))))))))))))))))))))))))))
  refine pr [4] [2] [] rfl rfl rfl rfl ?_
  cases H
  exact rt Try.func90 rfl (.cell 0 (some 5) rfl rfl rfl .nil) rfl [] [] rfl rfl rfl rfl rfl ⟨rfl, rfl, rfl⟩
 ·
  refine gt rfl (nT c1) (gs (rg (sv (EV.ld (v := .agg #[.int .i64 a0_0, .int .i64 a0_1, .int .i64 a0_2, .int .i64 a0_3, .int .i64 a0_4]) 0 (some 5) rfl rfl rfl) rfl (so rfl (op_st (cs' := [.int .i64 a0_0, .int .i64 a0_1, .int .i64 a0_2, .int .i64 a0_3, .int .i64 a0_4]) 2 rfl rfl rfl rfl rfl rfl (re ?_))))))
  cases H
  exact rt Try.func90 rfl (.cell 2 (some 5) rfl rfl rfl .nil) rfl [] [] rfl rfl rfl rfl rfl ⟨rfl, rfl, rfl⟩
mutual
def spec_MergeGroups.j1 : Nat → (List S88) → Int → Int → (List S88) → Option ((List S88))
 | 0, _, _, _, _ => none
 | k + 1, x33_3, x33_4, x33_5, l0 => if 0 ≤ x33_4 then (if x33_4 < (l0.length : Int) then (if 0 ≤ x33_5 then (if x33_5 ≤ (x33_3.length : Int) then (if ([(⟨(rd_T88 l0 x33_4).f0, (rd_T88 l0 x33_4).f1, (rd_T88 l0 x33_4).f2, (rd_T88 l0 x33_4).f3, (rd_T88 l0 x33_4).f4⟩ : S88)] : List S88).length + (x33_3.drop x33_5.toNat).length ≤ 3518437208883 then (if (x33_3.take x33_5.toNat).length ≤ 3518437208883 then (if (x33_3.take x33_5.toNat).length + (([(⟨(rd_T88 l0 x33_4).f0, (rd_T88 l0 x33_4).f1, (rd_T88 l0 x33_4).f2, (rd_T88 l0 x33_4).f3, (rd_T88 l0 x33_4).f4⟩ : S88)] : List S88) ++ (x33_3.drop x33_5.toNat)).length ≤ 3518437208883 then (spec_MergeGroups.l0 k ((x33_3.take x33_5.toNat) ++ (([(⟨(rd_T88 l0 x33_4).f0, (rd_T88 l0 x33_4).f1, (rd_T88 l0 x33_4).f2, (rd_T88 l0 x33_4).f3, (rd_T88 l0 x33_4).f4⟩ : S88)] : List S88) ++ (x33_3.drop x33_5.toNat))) (wrap64 (x33_4 + 1)) l0) else none) else none) else none) else none) else none) else none) else none
def spec_MergeGroups.j0 : Nat → (List S88) → Int → Int → (List S88) → Option ((List S88))
 | 0, _, _, _, _ => none
 | k + 1, x32_3, x32_4, x32_5, l0 => if x32_5 < (x32_3.length : Int) then (if 0 ≤ x32_5 then (if 0 ≤ x32_4 then (if x32_4 < (l0.length : Int) then (if ((rd_T88 x32_3 x32_5).f0) = ((rd_T88 l0 x32_4).f0) then ((spec_CombineGroups.f ((rd_T88 x32_3 x32_5).f0) ((rd_T88 x32_3 x32_5).f1) ((rd_T88 x32_3 x32_5).f2) ((rd_T88 x32_3 x32_5).f3) ((rd_T88 x32_3 x32_5).f4) ((rd_T88 l0 x32_4).f0) ((rd_T88 l0 x32_4).f1) ((rd_T88 l0 x32_4).f2) ((rd_T88 l0 x32_4).f3) ((rd_T88 l0 x32_4).f4)).bind fun bt22 => ((some (x32_3.set x32_5.toNat (⟨bt22.1, bt22.2.1, bt22.2.2.1, bt22.2.2.2.1, bt22.2.2.2.2⟩ : S88))).bind fun s23 => (spec_MergeGroups.l0 k s23 (wrap64 (x32_4 + 1)) l0))) else (spec_MergeGroups.j1 k x32_3 x32_4 x32_5 l0)) else none) else none) else none) else (spec_MergeGroups.j1 k x32_3 x32_4 x32_5 l0)
def spec_MergeGroups.l1 : Nat → (List S88) → Int → Int → (List S88) → Option ((List S88))
 | 0, _, _, _, _ => none
 | k + 1, x34_3, x34_4, x34_5, l0 => if x34_5 < (x34_3.length : Int) then (if 0 ≤ x34_5 then (if 0 ≤ x34_4 then (if x34_4 < (l0.length : Int) then (if ((rd_T88 x34_3 x34_5).f0) < ((rd_T88 l0 x34_4).f0) then (spec_MergeGroups.l1 k x34_3 x34_4 (wrap64 (x34_5 + 1)) l0) else (spec_MergeGroups.j0 k x34_3 x34_4 x34_5 l0)) else none) else none) else none) else (spec_MergeGroups.j0 k x34_3 x34_4 x34_5 l0)
def spec_MergeGroups.l0 : Nat → (List S88) → Int → (List S88) → Option ((List S88))
 | 0, _, _, _ => none
 | k + 1, x18_3, x18_4, l0 => if x18_4 < (l0.length : Int) then (spec_MergeGroups.l1 k x18_3 x18_4 0 l0) else (some x18_3)
end
def spec_MergeGroups.f (k : Nat) (l0 : List S88) : Option ((List S88)) := spec_MergeGroups.l0 k [] 0 l0
set_option maxHeartbeats 4000000 in
set_option maxRecDepth 100000 in
theorem spec_MergeGroups.ok (k : Nat) (l0 : List S88) (Al0 : Option Addr) (cl0 : Nat) (r0 : List S88) (H : spec_MergeGroups.f k l0 = some r0) : Fn Try.prog 66 [.slice Al0 l0.length cl0] [] [.sl 0 k88 Al0 cl0 l0 0 false] (fun v bx en => ∃ A0 c0, v = .slice A0 r0.length c0 ∧ bx = [] ∧ en = [.sl 2 k88 A0 c0 r0 1 true]) := by
 refine fn_ 79 Try.func66 rfl rfl rfl (fun base T w0 => ?_)
 rw [spec_MergeGroups.f] at H
 refine gs (rg (sv (EV.as rfl) rfl (re (gs (rg (so rfl (op_lit (s := 5) (by_ := 40) k88 ([] : List S88) [] [] 1 [] rfl rfl rfl rfl rfl rfl rfl rfl rfl rfl rfl rfl rfl dq rfl fun A7_1 c7_1 => (sv (EV.as rfl) rfl (re (gs (gs (rg (sv (EV.as rfl) rfl (re (gb ?_)))))))))))))))
 refine lo (fun kk S => ∃ (x18_3 : List S88) (Ax18_3 : Option Addr) (cx18_3 : Nat) (x18_4 : Int), spec_MergeGroups.l0 kk x18_3 x18_4 l0 = some r0 ∧ S = ⟨[(0, .slice Al0 l0.length cl0), (3, .slice Ax18_3 x18_3.length cx18_3), (4, .int .i64 x18_4)], [], [.sl 2 k88 Ax18_3 cx18_3 x18_3 1 true, .sl 0 k88 Al0 cl0 l0 0 false]⟩) (fun S hS => ?_) (fun n0 ih0 S hS => ?_) ⟨[], A7_1, c7_1, 0, H, rfl⟩ (fun h => wk [0, 3, 4] [] [⟨1, 2, 1, true⟩, ⟨0, 0, 0, false⟩] h)
 · clear H; obtain ⟨_, _, _, _, H, _⟩ := hS; rw [spec_MergeGroups.l0] at H; cases H
 clear H
 obtain ⟨x18_3, Ax18_3, cx18_3, x18_4, H, rfl⟩ := hS
 rw [spec_MergeGroups.l0] at H
 refine gs (gs (rg (sv (EV.mv rfl) rfl (sv (EV.mv rfl) rfl (sv (EV.ln rfl) rfl (sv (EV.lss rfl rfl) rfl (re ?_)))))))
 revert H; refine ifsI ?_ ?_ <;> intro c2 H
 ·
  refine gt rfl (dT c2) (gk (gs (gb (gs (rg (sv (EV.as rfl) rfl (re ?_)))))))
  refine jo (fun S => ∃ (m : Nat) (x32_3 : List S88) (Ax32_3 : Option Addr) (cx32_3 : Nat) (x32_4 : Int) (x32_5 : Int), m ≤ n0 ∧ spec_MergeGroups.j0 m x32_3 x32_4 x32_5 l0 = some r0 ∧ S = ⟨[(0, .slice Al0 l0.length cl0), (3, .slice Ax32_3 x32_3.length cx32_3), (4, .int .i64 x32_4), (5, .int .i64 x32_5)], [], [.sl 2 k88 Ax32_3 cx32_3 x32_3 1 true, .sl 0 k88 Al0 cl0 l0 0 false]⟩) (fun S hS => ?_) (fun jh0 => ?_)
  ·
   clear H
   obtain ⟨m3, x32_3, Ax32_3, cx32_3, x32_4, x32_5, lm3, H, rfl⟩ := hS
   rcases m3 with _ | m3
   · rw [spec_MergeGroups.j0] at H; cases H
   rw [spec_MergeGroups.j0] at H
   refine jo (fun S => ∃ (m : Nat) (x33_3 : List S88) (Ax33_3 : Option Addr) (cx33_3 : Nat) (x33_4 : Int) (x33_5 : Int), m ≤ m3 ∧ spec_MergeGroups.j1 m x33_3 x33_4 x33_5 l0 = some r0 ∧ S = ⟨[(0, .slice Al0 l0.length cl0), (3, .slice Ax33_3 x33_3.length cx33_3), (4, .int .i64 x33_4), (5, .int .i64 x33_5)], [], [.sl 2 k88 Ax33_3 cx33_3 x33_3 1 true, .sl 0 k88 Al0 cl0 l0 0 false]⟩) (fun S hS => ?_) (fun jh1 => ?_)
   ·
    clear H
    obtain ⟨m4, x33_3, Ax33_3, cx33_3, x33_4, x33_5, lm4, H, rfl⟩ := hS
    rcases m4 with _ | m4
    · rw [spec_MergeGroups.j1] at H; cases H
    rw [spec_MergeGroups.j1] at H
    refine gs ?_
    revert H; refine ggI ?_; intro g5 H
    revert H; refine ggI ?_; intro g6 H
    revert H; refine ggI ?_; intro g7 H
    revert H; refine ggI ?_; intro g8 H
    refine dr [] [0, 1] [9] 10 rfl rfl rfl rfl (xv 0 [] [0, 1] rfl (EV.mv rfl) rfl rfl rfl rfl (xv 1 [] [0, 1] rfl (EV.mv rfl) rfl rfl rfl rfl (xv 2 [] [0, 1] rfl (EV.ix 1 rfl rfl rfl g5 g6 rfl) rfl rfl rfl rfl (xv 3 [] [0, 1] rfl (EV.le (v := .agg #[.int .i64 ((rd_T88 l0 x33_4).f0), .int .i64 ((rd_T88 l0 x33_4).f1), .int .i64 ((rd_T88 l0 x33_4).f2), .int .i64 ((rd_T88 l0 x33_4).f3), .int .i64 ((rd_T88 l0 x33_4).f4)]) x33_4 0 (some 5) 1 z88 rfl rfl rfl g5 g6 rfl rfl rfl) rfl rfl rfl rfl (xv 5 [] [0, 1] rfl (EV.mv rfl) rfl rfl rfl rfl (xv 6 [] [0, 1] rfl (EV.mv rfl) rfl rfl rfl rfl (cutp (l' := x33_3.drop x33_5.toNat) x33_5 (x33_3.length : Int) 0 rfl g7 g8 (Int.le_refl _) rfl 1 dq (.inl dq) ctl (xv 7 [] [0, 1] rfl (EV.ct x33_5 (x33_3.length : Int) 0 rfl rfl rfl rfl g7 g8 (Int.le_refl _) rfl rfl ctnl) rfl rfl rfl rfl (one1 4 rfl rfl (op_lit (s := 5) (by_ := 40) k88 ([(⟨(rd_T88 l0 x33_4).f0, (rd_T88 l0 x33_4).f1, (rd_T88 l0 x33_4).f2, (rd_T88 l0 x33_4).f3, (rd_T88 l0 x33_4).f4⟩ : S88)] : List S88) [[]] [] 2 [.tmp 65] rfl rfl rfl rfl rfl rfl rfl rfl rfl rfl rfl rfl rfl dq rfl fun A66_9 c66_9 => (xs [] [0, 1] rfl rfl rfl (one1 8 rfl rfl ?_))))))))))))
    revert H; refine ggI ?_; intro g10 H
    refine op_app (k := k88) (s := 5) (by_ := 40) 3 2 rfl rfl rfl rfl (ap2 g10 dq) (ap2n g10 dq) (.inl rfl) true (fun _ => .inl rfl) rfl rfl fun A70_11 c70_11 => (nmE (en := [.sl 2 k88 Ax33_3 cx33_3 x33_3 1 true, .sl 0 k88 Al0 cl0 l0 0 false, .sl 1 k88 (cutA Ax33_3 cx33_3 x33_5.toNat 5) (cx33_3 - x33_5.toNat) (x33_3.drop x33_5.toNat) 1 true, .sl 2 k88 A70_11 c70_11 (([(⟨(rd_T88 l0 x33_4).f0, (rd_T88 l0 x33_4).f1, (rd_T88 l0 x33_4).f2, (rd_T88 l0 x33_4).f3, (rd_T88 l0 x33_4).f4⟩ : S88)] : List S88) ++ (x33_3.drop x33_5.toNat)) 2 true]) (by kernel_rfl) (xs [] [0, 1] rfl rfl rfl (one1 9 rfl rfl (ov (EV.as rfl) rfl (xn rfl (xd (pr [0, 3, 4, 5, 6] [] [0, 1, 3] rfl rfl rfl rfl (rg (so rfl (op_lit (s := 5) (by_ := 40) k88 ([] : List S88) [] [] 3 [] rfl rfl rfl rfl rfl rfl rfl rfl rfl rfl rfl rfl rfl dq rfl fun A71_12 c71_12 => (sv (EV.mv rfl) rfl (sv (EV.mv rfl) rfl (cutp (l' := x33_3.take x33_5.toNat) 0 x33_5 0 rfl (Int.le_refl 0) g7 g8 rfl 2 dq (.inr rfl) rfl (sv (EV.ct 0 x33_5 0 rfl rfl rfl rfl (Int.le_refl 0) g7 g8 rfl rfl ctnh) rfl ?_))))))))))))))
    revert H; refine ggI ?_; intro g13 H
    refine so rfl (op_app (k := k88) (s := 5) (by_ := 40) 3 4 rfl rfl rfl rfl (ap0 g13 dq) (ap0n g13 dq) (.inl rfl) true (fun _ => .inl rfl) rfl rfl fun A75_14 c75_14 => (nmE (en := [.sl 2 k88 Ax33_3 cx33_3 x33_3 1 true, .sl 0 k88 Al0 cl0 l0 0 false, .sl 2 k88 A70_11 c70_11 (([(⟨(rd_T88 l0 x33_4).f0, (rd_T88 l0 x33_4).f1, (rd_T88 l0 x33_4).f2, (rd_T88 l0 x33_4).f3, (rd_T88 l0 x33_4).f4⟩ : S88)] : List S88) ++ (x33_3.drop x33_5.toNat)) 2 true, .sl 2 k88 (cutA Ax33_3 cx33_3 (0 : Int).toNat 5) (cx33_3 - (0 : Int).toNat) (x33_3.take x33_5.toNat) 1 true, .sl 2 k88 A75_14 c75_14 (x33_3.take x33_5.toNat) 3 true]) (by kernel_rfl) (sv (EV.mv rfl) rfl ?_)))
    revert H; refine ggI ?_; intro g15 H
    exact so rfl (op_app (k := k88) (s := 5) (by_ := 40) 4 2 rfl rfl rfl rfl (ap2 g15 dq) (ap2n g15 dq) (.inl rfl) true (fun _ => .inl rfl) rfl rfl fun A77_16 c77_16 => (nmE (en := [.sl 2 k88 Ax33_3 cx33_3 x33_3 1 true, .sl 0 k88 Al0 cl0 l0 0 false, .sl 2 k88 A70_11 c70_11 (([(⟨(rd_T88 l0 x33_4).f0, (rd_T88 l0 x33_4).f1, (rd_T88 l0 x33_4).f2, (rd_T88 l0 x33_4).f3, (rd_T88 l0 x33_4).f4⟩ : S88)] : List S88) ++ (x33_3.drop x33_5.toNat)) 2 true, .sl 2 k88 (cutA Ax33_3 cx33_3 (0 : Int).toNat 5) (cx33_3 - (0 : Int).toNat) (x33_3.take x33_5.toNat) 1 true, .sl 2 k88 A77_16 c77_16 ((x33_3.take x33_5.toNat) ++ (([(⟨(rd_T88 l0 x33_4).f0, (rd_T88 l0 x33_4).f1, (rd_T88 l0 x33_4).f2, (rd_T88 l0 x33_4).f3, (rd_T88 l0 x33_4).f4⟩ : S88)] : List S88) ++ (x33_3.drop x33_5.toNat))) 3 true]) (by kernel_rfl) (sv (EV.as rfl) rfl (re (pr [0, 3, 4] [] [1, 4] rfl rfl rfl rfl (ge (rg (sv (EV.mv rfl) rfl (sv (EV.add rfl rfl) rfl (sv (EV.as rfl) rfl (re (wk [0, 3, 4] [] [⟨1, 2, 1, true⟩, ⟨0, 0, 0, false⟩] (ih0 _ (by omega) _ ⟨(x33_3.take x33_5.toNat) ++ (([(⟨(rd_T88 l0 x33_4).f0, (rd_T88 l0 x33_4).f1, (rd_T88 l0 x33_4).f2, (rd_T88 l0 x33_4).f3, (rd_T88 l0 x33_4).f4⟩ : S88)] : List S88) ++ (x33_3.drop x33_5.toNat)), A77_16, c77_16, wrap64 (x33_4 + 1), H, rfl⟩)))))))))))))
   ·
    refine gs (dr [] [0, 1] [] 17 rfl rfl rfl rfl (xv 0 [] [0, 1] rfl (EV.mv rfl) rfl rfl rfl rfl (xv 1 [] [0, 1] rfl (EV.mv rfl) rfl rfl rfl rfl (xv 2 [] [0, 1] rfl (EV.ln rfl) rfl rfl rfl rfl (xv 3 [] [0, 1] rfl (EV.lss rfl rfl) rfl rfl rfl rfl (xv 4 [] [0, 1] rfl (EV.mv rfl) rfl rfl rfl rfl ?_))))))
    revert H; refine ifsI ?_ ?_ <;> intro c17 H
    ·
     refine ts 37 rfl (dT c17) (xv 5 [] [0, 1] rfl (EV.mv rfl) rfl rfl rfl rfl (xv 6 [] [0, 1] rfl (EV.mv rfl) rfl rfl rfl rfl ?_))
     revert H; refine ggI ?_; intro g18 H
     refine xv 7 [] [0, 1] rfl (EV.ix 0 rfl rfl rfl g18 c17 rfl) rfl rfl rfl rfl (xv 8 [] [0, 1] rfl (EV.fa 0 rfl) rfl rfl rfl rfl (xv 9 [] [0, 1] rfl (EV.le (v := .int .i64 ((rd_T88 x32_3 x32_5).f0)) x32_5 0 none 0 z88 rfl rfl rfl g18 c17 rfl rfl rfl) rfl rfl rfl rfl (xv 10 [] [0, 1] rfl (EV.mv rfl) rfl rfl rfl rfl (xv 11 [] [0, 1] rfl (EV.mv rfl) rfl rfl rfl rfl ?_))))
     revert H; refine ggI ?_; intro g19 H
     revert H; refine ggI ?_; intro g20 H
     refine xv 12 [] [0, 1] rfl (EV.ix 1 rfl rfl rfl g19 g20 rfl) rfl rfl rfl rfl (xv 13 [] [0, 1] rfl (EV.fa 0 rfl) rfl rfl rfl rfl (xv 14 [] [0, 1] rfl (EV.le (v := .int .i64 ((rd_T88 l0 x32_4).f0)) x32_4 0 none 1 z88 rfl rfl rfl g19 g20 rfl rfl rfl) rfl rfl rfl rfl (xv 15 [] [0, 1] rfl (EV.eql rfl rfl) rfl rfl rfl rfl (xv 16 [] [0, 1] rfl (EV.pt rfl rfl rfl) rfl rfl rfl rfl (xd ?_)))))
     revert H; refine ifsI ?_ ?_ <;> intro c21 H
     ·
      refine gt rfl (dT c21) (gs (dr [] [0, 1] [12] 13 rfl rfl rfl rfl (xv 0 [] [0, 1] rfl (EV.mv rfl) rfl rfl rfl rfl (xv 1 [] [0, 1] rfl (EV.mv rfl) rfl rfl rfl rfl (xv 2 [] [0, 1] rfl (EV.mv rfl) rfl rfl rfl rfl (xv 3 [] [0, 1] rfl (EV.mv rfl) rfl rfl rfl rfl (xv 4 [] [0, 1] rfl (EV.ix 0 rfl rfl rfl g18 c17 rfl) rfl rfl rfl rfl (xv 5 [] [0, 1] rfl (EV.le (v := .agg #[.int .i64 ((rd_T88 x32_3 x32_5).f0), .int .i64 ((rd_T88 x32_3 x32_5).f1), .int .i64 ((rd_T88 x32_3 x32_5).f2), .int .i64 ((rd_T88 x32_3 x32_5).f3), .int .i64 ((rd_T88 x32_3 x32_5).f4)]) x32_5 0 (some 5) 0 z88 rfl rfl rfl g18 c17 rfl rfl rfl) rfl rfl rfl rfl (xv 6 [] [0, 1] rfl (EV.mv rfl) rfl rfl rfl rfl (xv 7 [] [0, 1] rfl (EV.mv rfl) rfl rfl rfl rfl (xv 8 [] [0, 1] rfl (EV.ix 1 rfl rfl rfl g19 g20 rfl) rfl rfl rfl rfl (xv 9 [] [0, 1] rfl (EV.le (v := .agg #[.int .i64 ((rd_T88 l0 x32_4).f0), .int .i64 ((rd_T88 l0 x32_4).f1), .int .i64 ((rd_T88 l0 x32_4).f2), .int .i64 ((rd_T88 l0 x32_4).f3), .int .i64 ((rd_T88 l0 x32_4).f4)]) x32_4 0 (some 5) 1 z88 rfl rfl rfl g19 g20 rfl rfl rfl) rfl rfl rfl rfl (one1 10 rfl rfl ?_)))))))))))))
      revert H; refine bdI ?_; rintro ⟨t22_0, t22_1, t22_2, t22_3, t22_4⟩ A22 H
      refine op_call (spec_CombineGroups.ok ((rd_T88 x32_3 x32_5).f0) ((rd_T88 x32_3 x32_5).f1) ((rd_T88 x32_3 x32_5).f2) ((rd_T88 x32_3 x32_5).f3) ((rd_T88 x32_3 x32_5).f4) ((rd_T88 l0 x32_4).f0) ((rd_T88 l0 x32_4).f1) ((rd_T88 l0 x32_4).f2) ((rd_T88 l0 x32_4).f3) ((rd_T88 l0 x32_4).f4) _ _ _ _ _ A22) [] 2 rfl rfl rfl rfl rfl ?_
      rintro _ _ _ ⟨rfl, rfl, rfl⟩
      refine xs [] [0, 1] rfl rfl rfl (xv 11 [] [0, 1] rfl (EV.ix 0 rfl rfl rfl g18 c17 rfl) rfl rfl rfl rfl (one1 12 rfl rfl ?_))
      revert H; refine bdI ?_; intro s23 A23 H; have q23 := stl (Option.some.inj A23)
      exact op_stg x32_5 0 0 z88 (⟨t22_0, t22_1, t22_2, t22_3, t22_4⟩ : S88) (Option.some.inj A23) rfl rfl rfl rfl g18 c17 rfl rfl rfl rfl dq rfl (rlT 3 (v' := .slice Ax32_3 s23.length cx32_3) rfl (slq _ _ q23) (rlT 34 (v' := .slice Ax32_3 s23.length cx32_3) rfl (slq _ _ q23) (rlT 38 (v' := .slice Ax32_3 s23.length cx32_3) rfl (slq _ _ q23) (rlT 50 (v' := .slice Ax32_3 s23.length cx32_3) rfl (slq _ _ q23) (rlT 52 (v' := .slice Ax32_3 s23.length cx32_3) rfl (slq _ _ q23) (nmE (en := [.sl 0 k88 Al0 cl0 l0 0 false, .sl 2 k88 Ax32_3 cx32_3 s23 1 true]) (by kernel_rfl) (xn rfl (xd (pr [0, 3, 4, 38, 39, 42, 43, 44, 45, 46, 47, 48] [] [0, 1] rfl rfl rfl rfl (gx rfl (rg (sv (EV.mv rfl) rfl (sv (EV.add rfl rfl) rfl (sv (EV.as rfl) rfl (re (wk [0, 3, 4] [] [⟨1, 2, 1, true⟩, ⟨0, 0, 0, false⟩] (ih0 _ (by omega) _ ⟨s23, Ax32_3, cx32_3, wrap64 (x32_4 + 1), H, rfl⟩)))))))))))))))))
     ·
      exact gf rfl (dF c21) (gk (wk [0, 3, 4, 5] [] [⟨0, 2, 1, true⟩, ⟨1, 0, 0, false⟩] (jh1 _ ⟨_, x32_3, Ax32_3, cx32_3, x32_4, x32_5, by omega, H, rfl⟩)))
    ·
     exact ts 37 rfl (dF c17) (xk 5 [] [0, 1] rfl rfl rfl rfl rfl (xk 6 [] [0, 1] rfl rfl rfl rfl rfl (xk 7 [] [0, 1] rfl rfl rfl rfl rfl (xk 8 [] [0, 1] rfl rfl rfl rfl rfl (xk 9 [] [0, 1] rfl rfl rfl rfl rfl (xk 10 [] [0, 1] rfl rfl rfl rfl rfl (xk 11 [] [0, 1] rfl rfl rfl rfl rfl (xk 12 [] [0, 1] rfl rfl rfl rfl rfl (xk 13 [] [0, 1] rfl rfl rfl rfl rfl (xk 14 [] [0, 1] rfl rfl rfl rfl rfl (xk 15 [] [0, 1] rfl rfl rfl rfl rfl (xv 16 [] [0, 1] rfl (EV.pf rfl rfl rfl) rfl rfl rfl rfl (xd (pr [0, 3, 4, 5, 49] [] [0, 1] rfl rfl rfl rfl (gf rfl rfl (gk (wk [0, 3, 4, 5] [] [⟨0, 2, 1, true⟩, ⟨1, 0, 0, false⟩] (jh1 _ ⟨_, x32_3, Ax32_3, cx32_3, x32_4, x32_5, by omega, H, rfl⟩))))))))))))))))))
  ·
   refine gb ?_
   refine lo (fun kk S => ∃ (x34_3 : List S88) (Ax34_3 : Option Addr) (cx34_3 : Nat) (x34_4 : Int) (x34_5 : Int), kk ≤ n0 ∧ spec_MergeGroups.l1 kk x34_3 x34_4 x34_5 l0 = some r0 ∧ S = ⟨[(0, .slice Al0 l0.length cl0), (3, .slice Ax34_3 x34_3.length cx34_3), (4, .int .i64 x34_4), (5, .int .i64 x34_5)], [], [.sl 2 k88 Ax34_3 cx34_3 x34_3 1 true, .sl 0 k88 Al0 cl0 l0 0 false]⟩) (fun S hS => ?_) (fun n1 ih1 S hS => ?_) ⟨x18_3, Ax18_3, cx18_3, x18_4, 0, by omega, H, rfl⟩ (fun h => wk [0, 3, 4, 5] [] [⟨0, 2, 1, true⟩, ⟨1, 0, 0, false⟩] h)
   · clear H; obtain ⟨_, _, _, _, _, _, H, _⟩ := hS; rw [spec_MergeGroups.l1] at H; cases H
   clear H
   obtain ⟨x34_3, Ax34_3, cx34_3, x34_4, x34_5, lk1, H, rfl⟩ := hS
   rw [spec_MergeGroups.l1] at H
   refine gs (gs (dr [] [0, 1] [] 17 rfl rfl rfl rfl (xv 0 [] [0, 1] rfl (EV.mv rfl) rfl rfl rfl rfl (xv 1 [] [0, 1] rfl (EV.mv rfl) rfl rfl rfl rfl (xv 2 [] [0, 1] rfl (EV.ln rfl) rfl rfl rfl rfl (xv 3 [] [0, 1] rfl (EV.lss rfl rfl) rfl rfl rfl rfl (xv 4 [] [0, 1] rfl (EV.mv rfl) rfl rfl rfl rfl ?_)))))))
   revert H; refine ifsI ?_ ?_ <;> intro c24 H
   ·
    refine ts 18 rfl (dT c24) (xv 5 [] [0, 1] rfl (EV.mv rfl) rfl rfl rfl rfl (xv 6 [] [0, 1] rfl (EV.mv rfl) rfl rfl rfl rfl ?_))
    revert H; refine ggI ?_; intro g25 H
    refine xv 7 [] [0, 1] rfl (EV.ix 0 rfl rfl rfl g25 c24 rfl) rfl rfl rfl rfl (xv 8 [] [0, 1] rfl (EV.fa 0 rfl) rfl rfl rfl rfl (xv 9 [] [0, 1] rfl (EV.le (v := .int .i64 ((rd_T88 x34_3 x34_5).f0)) x34_5 0 none 0 z88 rfl rfl rfl g25 c24 rfl rfl rfl) rfl rfl rfl rfl (xv 10 [] [0, 1] rfl (EV.mv rfl) rfl rfl rfl rfl (xv 11 [] [0, 1] rfl (EV.mv rfl) rfl rfl rfl rfl ?_))))
    revert H; refine ggI ?_; intro g26 H
    revert H; refine ggI ?_; intro g27 H
    refine xv 12 [] [0, 1] rfl (EV.ix 1 rfl rfl rfl g26 g27 rfl) rfl rfl rfl rfl (xv 13 [] [0, 1] rfl (EV.fa 0 rfl) rfl rfl rfl rfl (xv 14 [] [0, 1] rfl (EV.le (v := .int .i64 ((rd_T88 l0 x34_4).f0)) x34_4 0 none 1 z88 rfl rfl rfl g26 g27 rfl rfl rfl) rfl rfl rfl rfl (xv 15 [] [0, 1] rfl (EV.lss rfl rfl) rfl rfl rfl rfl (xv 16 [] [0, 1] rfl (EV.pt rfl rfl rfl) rfl rfl rfl rfl (xd ?_)))))
    revert H; refine ifsI ?_ ?_ <;> intro c28 H
    ·
     exact gt rfl (dT c28) (gk (gb (rg (sv (EV.mv rfl) rfl (sv (EV.add rfl rfl) rfl (sv (EV.as rfl) rfl (re (pr [0, 3, 4, 5, 19, 20, 21, 22, 23, 24, 25, 26, 27, 28, 29] [] [0, 1] rfl rfl rfl rfl (ge (wk [0, 3, 4, 5] [] [⟨0, 2, 1, true⟩, ⟨1, 0, 0, false⟩] (ih1 _ (by omega) _ ⟨x34_3, Ax34_3, cx34_3, x34_4, wrap64 (x34_5 + 1), by omega, H, rfl⟩)))))))))))
    ·
     exact gf rfl (dF c28) (gx rfl (wk [0, 3, 4, 5] [] [⟨0, 2, 1, true⟩, ⟨1, 0, 0, false⟩] (jh0 _ ⟨_, x34_3, Ax34_3, cx34_3, x34_4, x34_5, by omega, H, rfl⟩)))
   ·
    exact ts 18 rfl (dF c24) (xk 5 [] [0, 1] rfl rfl rfl rfl rfl (xk 6 [] [0, 1] rfl rfl rfl rfl rfl (xk 7 [] [0, 1] rfl rfl rfl rfl rfl (xk 8 [] [0, 1] rfl rfl rfl rfl rfl (xk 9 [] [0, 1] rfl rfl rfl rfl rfl (xk 10 [] [0, 1] rfl rfl rfl rfl rfl (xk 11 [] [0, 1] rfl rfl rfl rfl rfl (xk 12 [] [0, 1] rfl rfl rfl rfl rfl (xk 13 [] [0, 1] rfl rfl rfl rfl rfl (xk 14 [] [0, 1] rfl rfl rfl rfl rfl (xk 15 [] [0, 1] rfl rfl rfl rfl rfl (xv 16 [] [0, 1] rfl (EV.pf rfl rfl rfl) rfl rfl rfl rfl (xd (pr [0, 3, 4, 5, 30] [] [0, 1] rfl rfl rfl rfl (gf rfl rfl (gx rfl (wk [0, 3, 4, 5] [] [⟨0, 2, 1, true⟩, ⟨1, 0, 0, false⟩] (jh0 _ ⟨_, x34_3, Ax34_3, cx34_3, x34_4, x34_5, by omega, H, rfl⟩))))))))))))))))))
 ·
  refine gf rfl (dF c2) (gx rfl (gs (rg (sv (EV.mv rfl) rfl (sv (EV.as rfl) rfl (re (pr [2] [] [0] rfl rfl rfl rfl ?_)))))))
  cases H
  exact rt Try.func66 rfl (.tmp rfl .nil) rfl [] [⟨0, 2, 1, true⟩] rfl rfl rfl rfl rfl ⟨_, _, rfl, rfl, rfl⟩
mutual
def spec_RollupGroups.l2 : Nat → (List S92) → Int → (List S88) → Int → (List S88) → Option ((List S92))
 | 0, _, _, _, _, _ => none
 | k + 1, x34_3, x34_4, x34_8, x34_9, l0 => if x34_9 < (x34_8.length : Int) then (if 0 ≤ x34_9 then (if x34_3.length < 2932031007402 then (spec_RollupGroups.l2 k (x34_3 ++ ([(⟨x34_4, (⟨(rd_T88 x34_8 x34_9).f0, (rd_T88 x34_8 x34_9).f1, (rd_T88 x34_8 x34_9).f2, (rd_T88 x34_8 x34_9).f3, (rd_T88 x34_8 x34_9).f4⟩ : S88)⟩ : S92)] : List S92)) x34_4 x34_8 (wrap64 (x34_9 + 1)) l0) else none) else none) else (spec_RollupGroups.l0 k x34_3 (wrap64 (x34_4 + 1)) l0)
def spec_RollupGroups.l1 : Nat → (List S92) → Int → (List S88) → Int → (List S88) → Option ((List S92))
 | 0, _, _, _, _, _ => none
 | k + 1, x32_3, x32_4, x32_5, x32_6, l0 => if x32_6 < (l0.length : Int) then (if 0 ≤ x32_6 then ((spec_RollupKey.f ((rd_T88 l0 x32_6).f0) x32_4).bind fun t6 => (if x32_5.length < 3518437208883 then (spec_RollupGroups.l1 k x32_3 x32_4 (x32_5 ++ ([(⟨t6, (rd_T88 l0 x32_6).f1, (rd_T88 l0 x32_6).f2, (rd_T88 l0 x32_6).f3, (rd_T88 l0 x32_6).f4⟩ : S88)] : List S88)) (wrap64 (x32_6 + 1)) l0) else none)) else none) else ((spec_MergeGroups.f k x32_5).bind fun t10 => (spec_RollupGroups.l2 k x32_3 x32_4 t10 0 l0))
def spec_RollupGroups.l0 : Nat → (List S92) → Int → (List S88) → Option ((List S92))
 | 0, _, _, _ => none
 | k + 1, x18_3, x18_4, l0 => if x18_4 < 3 then (spec_RollupGroups.l1 k x18_3 x18_4 [] 0 l0) else (some x18_3)
end
def spec_RollupGroups.f (k : Nat) (l0 : List S88) : Option ((List S92)) := spec_RollupGroups.l0 k [] 0 l0
set_option maxHeartbeats 4000000 in
set_option maxRecDepth 100000 in
theorem spec_RollupGroups.ok (k : Nat) (l0 : List S88) (Al0 : Option Addr) (cl0 : Nat) (r0 : List S92) (H : spec_RollupGroups.f k l0 = some r0) : Fn Try.prog 32 [.slice Al0 l0.length cl0] [] [.sl 0 k88 Al0 cl0 l0 0 false] (fun v bx en => ∃ A0 c0, v = .slice A0 r0.length c0 ∧ bx = [] ∧ en = [.sl 2 k92 A0 c0 r0 1 true]) := by
 refine fn_ 56 Try.func32 rfl rfl rfl (fun base T w0 => ?_)
 rw [spec_RollupGroups.f] at H
 refine gs (rg (sv (EV.as rfl) rfl (re (gs (rg (so rfl (op_lit (s := 6) (by_ := 48) k92 ([] : List S92) [] [] 1 [] rfl rfl rfl rfl rfl rfl rfl rfl rfl rfl rfl rfl rfl dq rfl fun A10_1 c10_1 => (sv (EV.as rfl) rfl (re (gs (gs (rg (sv (EV.as rfl) rfl (re (gb ?_)))))))))))))))
 refine lo (fun kk S => ∃ (x18_3 : List S92) (Ax18_3 : Option Addr) (cx18_3 : Nat) (x18_4 : Int), spec_RollupGroups.l0 kk x18_3 x18_4 l0 = some r0 ∧ S = ⟨[(0, .slice Al0 l0.length cl0), (3, .slice Ax18_3 x18_3.length cx18_3), (4, .int .i64 x18_4)], [], [.sl 2 k92 Ax18_3 cx18_3 x18_3 1 true, .sl 0 k88 Al0 cl0 l0 0 false]⟩) (fun S hS => ?_) (fun n0 ih0 S hS => ?_) ⟨[], A10_1, c10_1, 0, H, rfl⟩ (fun h => wk [0, 3, 4] [] [⟨1, 2, 1, true⟩, ⟨0, 0, 0, false⟩] h)
 · clear H; obtain ⟨_, _, _, _, H, _⟩ := hS; rw [spec_RollupGroups.l0] at H; cases H
 clear H
 obtain ⟨x18_3, Ax18_3, cx18_3, x18_4, H, rfl⟩ := hS
 rw [spec_RollupGroups.l0] at H
 refine gs (gs (rg (sv (EV.mv rfl) rfl (sv (EV.lss rfl rfl) rfl (re ?_)))))
 revert H; refine ifsI ?_ ?_ <;> intro c2 H
 ·
  refine gt rfl (dT c2) (gk (gs (gb (gs (rg (so rfl (op_lit (s := 5) (by_ := 40) k88 ([] : List S88) [] [] 2 [] rfl rfl rfl rfl rfl rfl rfl rfl rfl rfl rfl rfl rfl dq rfl fun A15_3 c15_3 => (sv (EV.as rfl) rfl (re (gs (gs (rg (sv (EV.as rfl) rfl (re (gb ?_)))))))))))))))
  refine lo (fun kk S => ∃ (x32_3 : List S92) (Ax32_3 : Option Addr) (cx32_3 : Nat) (x32_4 : Int) (x32_5 : List S88) (Ax32_5 : Option Addr) (cx32_5 : Nat) (x32_6 : Int), kk ≤ n0 ∧ spec_RollupGroups.l1 kk x32_3 x32_4 x32_5 x32_6 l0 = some r0 ∧ S = ⟨[(0, .slice Al0 l0.length cl0), (3, .slice Ax32_3 x32_3.length cx32_3), (4, .int .i64 x32_4), (5, .slice Ax32_5 x32_5.length cx32_5), (6, .int .i64 x32_6)], [], [.sl 2 k92 Ax32_3 cx32_3 x32_3 1 true, .sl 2 k88 Ax32_5 cx32_5 x32_5 2 true, .sl 0 k88 Al0 cl0 l0 0 false]⟩) (fun S hS => ?_) (fun n1 ih1 S hS => ?_) ⟨x18_3, Ax18_3, cx18_3, x18_4, [], A15_3, c15_3, 0, by omega, H, rfl⟩ (fun h => wk [0, 3, 4, 5, 6] [] [⟨0, 2, 1, true⟩, ⟨2, 2, 2, true⟩, ⟨1, 0, 0, false⟩] h)
  · clear H; obtain ⟨_, _, _, _, _, _, _, _, _, H, _⟩ := hS; rw [spec_RollupGroups.l1] at H; cases H
  clear H
  obtain ⟨x32_3, Ax32_3, cx32_3, x32_4, x32_5, Ax32_5, cx32_5, x32_6, lk1, H, rfl⟩ := hS
  rw [spec_RollupGroups.l1] at H
  refine gs (gs (rg (sv (EV.mv rfl) rfl (sv (EV.mv rfl) rfl (sv (EV.ln rfl) rfl (sv (EV.lss rfl rfl) rfl (re ?_)))))))
  revert H; refine ifsI ?_ ?_ <;> intro c4 H
  ·
   refine gt rfl (dT c4) (gk (gs (gb (gs (rg (sv (EV.mv rfl) rfl (sv (EV.mv rfl) rfl ?_)))))))
   revert H; refine ggI ?_; intro g5 H
   refine sv (EV.ix 2 rfl rfl rfl g5 c4 rfl) rfl (sv (EV.le (v := .agg #[.int .i64 ((rd_T88 l0 x32_6).f0), .int .i64 ((rd_T88 l0 x32_6).f1), .int .i64 ((rd_T88 l0 x32_6).f2), .int .i64 ((rd_T88 l0 x32_6).f3), .int .i64 ((rd_T88 l0 x32_6).f4)]) x32_6 0 (some 5) 2 z88 rfl rfl rfl g5 c4 rfl rfl rfl) rfl (so rfl (op_alloc (cs := [.int .i64 0, .int .i64 0, .int .i64 0, .int .i64 0, .int .i64 0]) (by kernel_rfl) rfl fun b7 => (so rfl (op_st (cs' := [.int .i64 ((rd_T88 l0 x32_6).f0), .int .i64 ((rd_T88 l0 x32_6).f1), .int .i64 ((rd_T88 l0 x32_6).f2), .int .i64 ((rd_T88 l0 x32_6).f3), .int .i64 ((rd_T88 l0 x32_6).f4)]) 0 rfl rfl rfl rfl rfl rfl (re (pr [0, 3, 4, 5, 6, 7] [0] [0, 1, 2] rfl rfl rfl rfl (gs (rg (sv (EV.mv rfl) rfl (sv (EV.mv rfl) rfl (sv (EV.ix 2 rfl rfl rfl g5 c4 rfl) rfl (sv (EV.fa 0 rfl) rfl (sv (EV.le (v := .int .i64 ((rd_T88 l0 x32_6).f0)) x32_6 0 none 2 z88 rfl rfl rfl g5 c4 rfl rfl rfl) rfl (sv (EV.mv rfl) rfl ?_)))))))))))))))
   revert H; refine bdI ?_; rintro t6 A6 H
   refine so rfl (op_call (spec_RollupKey.ok ((rd_T88 l0 x32_6).f0) x32_4 _ A6) [] 3 rfl rfl rfl rfl rfl ?_)
   rintro _ _ _ ⟨rfl, rfl, rfl⟩
   refine sv (EV.fa 0 rfl) rfl (so rfl (op_st (cs' := [.int .i64 t6, .int .i64 ((rd_T88 l0 x32_6).f1), .int .i64 ((rd_T88 l0 x32_6).f2), .int .i64 ((rd_T88 l0 x32_6).f3), .int .i64 ((rd_T88 l0 x32_6).f4)]) 0 rfl rfl rfl rfl rfl rfl (re (pr [0, 3, 4, 5, 6, 7] [0] [0, 1, 2] rfl rfl rfl rfl (rg (sv (EV.mv rfl) rfl (sv (EV.ld (v := .agg #[.int .i64 t6, .int .i64 ((rd_T88 l0 x32_6).f1), .int .i64 ((rd_T88 l0 x32_6).f2), .int .i64 ((rd_T88 l0 x32_6).f3), .int .i64 ((rd_T88 l0 x32_6).f4)]) 0 (some 5) rfl rfl rfl) rfl (so rfl (op_lit (s := 5) (by_ := 40) k88 ([(⟨t6, (rd_T88 l0 x32_6).f1, (rd_T88 l0 x32_6).f2, (rd_T88 l0 x32_6).f3, (rd_T88 l0 x32_6).f4⟩ : S88)] : List S88) [[]] [] 3 [.tmp 35] rfl rfl rfl rfl rfl rfl rfl rfl rfl rfl rfl rfl rfl dq rfl fun A36_7 c36_7 => ?_)))))))))
   revert H; refine ggI ?_; intro g8 H
   exact so rfl (op_app (k := k88) (s := 5) (by_ := 40) 1 3 rfl rfl rfl rfl (ap1 g8 dq) (ap1n g8 dq) (.inl rfl) true (fun _ => .inl rfl) rfl rfl fun A37_9 c37_9 => (nmE (en := [.sl 2 k92 Ax32_3 cx32_3 x32_3 1 true, .sl 0 k88 Al0 cl0 l0 0 false, .sl 2 k88 A36_7 c36_7 ([(⟨t6, (rd_T88 l0 x32_6).f1, (rd_T88 l0 x32_6).f2, (rd_T88 l0 x32_6).f3, (rd_T88 l0 x32_6).f4⟩ : S88)] : List S88) 3 true, .sl 2 k88 A37_9 c37_9 (x32_5 ++ ([(⟨t6, (rd_T88 l0 x32_6).f1, (rd_T88 l0 x32_6).f2, (rd_T88 l0 x32_6).f3, (rd_T88 l0 x32_6).f4⟩ : S88)] : List S88)) 2 true]) (by kernel_rfl) (sv (EV.as rfl) rfl (re (ge (rg (sv (EV.mv rfl) rfl (sv (EV.add rfl rfl) rfl (sv (EV.as rfl) rfl (re (pr [0, 3, 4, 5, 6] [] [0, 1, 3] rfl rfl rfl rfl (wk [0, 3, 4, 5, 6] [] [⟨0, 2, 1, true⟩, ⟨2, 2, 2, true⟩, ⟨1, 0, 0, false⟩] (ih1 _ (by omega) _ ⟨x32_3, Ax32_3, cx32_3, x32_4, x32_5 ++ ([(⟨t6, (rd_T88 l0 x32_6).f1, (rd_T88 l0 x32_6).f2, (rd_T88 l0 x32_6).f3, (rd_T88 l0 x32_6).f4⟩ : S88)] : List S88), A37_9, c37_9, wrap64 (x32_6 + 1), by omega, H, rfl⟩)))))))))))))
  ·
   refine gf rfl (dF c4) (gx rfl (gs (rg (sv (EV.mv rfl) rfl ?_))))
   revert H; refine bdI ?_; rintro t10 A10 H
   refine so rfl (op_call (spec_MergeGroups.ok n1 x32_5 Ax32_5 cx32_5 _ A10) [⟨1, 0, 0, false⟩] 3 rfl rfl rfl rfl rfl ?_)
   rintro _ _ _ ⟨At10, ct10, rfl, rfl, rfl⟩
   refine sv (EV.as rfl) rfl (re (pr [0, 3, 4, 8] [] [0, 2, 3] rfl rfl rfl rfl (gs (rg (sv (EV.as rfl) rfl (re (gb ?_)))))))
   refine lo (fun kk S => ∃ (x34_3 : List S92) (Ax34_3 : Option Addr) (cx34_3 : Nat) (x34_4 : Int) (x34_8 : List S88) (Ax34_8 : Option Addr) (cx34_8 : Nat) (x34_9 : Int), kk ≤ n1 ∧ spec_RollupGroups.l2 kk x34_3 x34_4 x34_8 x34_9 l0 = some r0 ∧ S = ⟨[(0, .slice Al0 l0.length cl0), (3, .slice Ax34_3 x34_3.length cx34_3), (4, .int .i64 x34_4), (8, .slice Ax34_8 x34_8.length cx34_8), (9, .int .i64 x34_9)], [], [.sl 2 k92 Ax34_3 cx34_3 x34_3 1 true, .sl 2 k88 Ax34_8 cx34_8 x34_8 2 true, .sl 0 k88 Al0 cl0 l0 0 false]⟩) (fun S hS => ?_) (fun n2 ih2 S hS => ?_) ⟨x32_3, Ax32_3, cx32_3, x32_4, t10, At10, ct10, 0, by omega, H, rfl⟩ (fun h => wk [0, 3, 4, 8, 9] [] [⟨0, 2, 1, true⟩, ⟨2, 2, 2, true⟩, ⟨1, 0, 0, false⟩] h)
   · clear H; obtain ⟨_, _, _, _, _, _, _, _, _, H, _⟩ := hS; rw [spec_RollupGroups.l2] at H; cases H
   clear H
   obtain ⟨x34_3, Ax34_3, cx34_3, x34_4, x34_8, Ax34_8, cx34_8, x34_9, lk2, H, rfl⟩ := hS
   rw [spec_RollupGroups.l2] at H
   refine gs (gs (rg (sv (EV.mv rfl) rfl (sv (EV.mv rfl) rfl (sv (EV.ln rfl) rfl (sv (EV.lss rfl rfl) rfl (re ?_)))))))
   revert H; refine ifsI ?_ ?_ <;> intro c11 H
   ·
    refine gt rfl (dT c11) (gk (gs (gb (rg (sv (EV.mv rfl) rfl (sv (EV.mv rfl) rfl (sv (EV.mv rfl) rfl (sv (EV.mv rfl) rfl ?_))))))))
    revert H; refine ggI ?_; intro g12 H
    refine sv (EV.ix 1 rfl rfl rfl g12 c11 rfl) rfl (sv (EV.le (v := .agg #[.int .i64 ((rd_T88 x34_8 x34_9).f0), .int .i64 ((rd_T88 x34_8 x34_9).f1), .int .i64 ((rd_T88 x34_8 x34_9).f2), .int .i64 ((rd_T88 x34_8 x34_9).f3), .int .i64 ((rd_T88 x34_8 x34_9).f4)]) x34_9 0 (some 5) 1 z88 rfl rfl rfl g12 c11 rfl rfl rfl) rfl (sv (EV.bd (v := .agg #[.int .i64 x34_4, .int .i64 ((rd_T88 x34_8 x34_9).f0), .int .i64 ((rd_T88 x34_8 x34_9).f1), .int .i64 ((rd_T88 x34_8 x34_9).f2), .int .i64 ((rd_T88 x34_8 x34_9).f3), .int .i64 ((rd_T88 x34_8 x34_9).f4)]) rfl (by kernel_rfl)) rfl (so rfl (op_lit (s := 6) (by_ := 48) k92 ([(⟨x34_4, (⟨(rd_T88 x34_8 x34_9).f0, (rd_T88 x34_8 x34_9).f1, (rd_T88 x34_8 x34_9).f2, (rd_T88 x34_8 x34_9).f3, (rd_T88 x34_8 x34_9).f4⟩ : S88)⟩ : S92)] : List S92) [[]] [] 3 [.tmp 52] rfl rfl rfl rfl rfl rfl rfl rfl rfl rfl rfl rfl rfl dq rfl fun A53_13 c53_13 => ?_))))
    revert H; refine ggI ?_; intro g14 H
    exact so rfl (op_app (k := k92) (s := 6) (by_ := 48) 0 3 rfl rfl rfl rfl (ap1 g14 dq) (ap1n g14 dq) (.inl rfl) true (fun _ => .inl rfl) rfl rfl fun A54_15 c54_15 => (nmE (en := [.sl 2 k88 Ax34_8 cx34_8 x34_8 2 true, .sl 0 k88 Al0 cl0 l0 0 false, .sl 2 k92 A53_13 c53_13 ([(⟨x34_4, (⟨(rd_T88 x34_8 x34_9).f0, (rd_T88 x34_8 x34_9).f1, (rd_T88 x34_8 x34_9).f2, (rd_T88 x34_8 x34_9).f3, (rd_T88 x34_8 x34_9).f4⟩ : S88)⟩ : S92)] : List S92) 3 true, .sl 2 k92 A54_15 c54_15 (x34_3 ++ ([(⟨x34_4, (⟨(rd_T88 x34_8 x34_9).f0, (rd_T88 x34_8 x34_9).f1, (rd_T88 x34_8 x34_9).f2, (rd_T88 x34_8 x34_9).f3, (rd_T88 x34_8 x34_9).f4⟩ : S88)⟩ : S92)] : List S92)) 1 true]) (by kernel_rfl) (sv (EV.as rfl) rfl (re (pr [0, 3, 4, 8, 9] [] [0, 1, 3] rfl rfl rfl rfl (ge (rg (sv (EV.mv rfl) rfl (sv (EV.add rfl rfl) rfl (sv (EV.as rfl) rfl (re (wk [0, 3, 4, 8, 9] [] [⟨2, 2, 1, true⟩, ⟨0, 2, 2, true⟩, ⟨1, 0, 0, false⟩] (ih2 _ (by omega) _ ⟨x34_3 ++ ([(⟨x34_4, (⟨(rd_T88 x34_8 x34_9).f0, (rd_T88 x34_8 x34_9).f1, (rd_T88 x34_8 x34_9).f2, (rd_T88 x34_8 x34_9).f3, (rd_T88 x34_8 x34_9).f4⟩ : S88)⟩ : S92)] : List S92), A54_15, c54_15, x34_4, x34_8, Ax34_8, cx34_8, wrap64 (x34_9 + 1), by omega, H, rfl⟩)))))))))))))
   ·
    exact gf rfl (dF c11) (gx rfl (ge (rg (sv (EV.mv rfl) rfl (sv (EV.add rfl rfl) rfl (sv (EV.as rfl) rfl (re (pr [0, 3, 4] [] [0, 2] rfl rfl rfl rfl (wk [0, 3, 4] [] [⟨0, 2, 1, true⟩, ⟨1, 0, 0, false⟩] (ih0 _ (by omega) _ ⟨x34_3, Ax34_3, cx34_3, wrap64 (x34_4 + 1), H, rfl⟩))))))))))
 ·
  refine gf rfl (dF c2) (gx rfl (gs (rg (sv (EV.mv rfl) rfl (sv (EV.as rfl) rfl (re (pr [2] [] [0] rfl rfl rfl rfl ?_)))))))
  cases H
  exact rt Try.func32 rfl (.tmp rfl .nil) rfl [] [⟨0, 2, 1, true⟩] rfl rfl rfl rfl rfl ⟨_, _, rfl, rfl, rfl⟩
def spec_GroupFromRow.f (a0_0 : Int) (a0_1 : Int) (a0_2 : Int) : Option (Int × Int × Int × Int × Int) := some (a0_0, 1, a0_1, a0_1, a0_1)
set_option maxHeartbeats 4000000 in
set_option maxRecDepth 100000 in
theorem spec_GroupFromRow.ok (a0_0 : Int) (a0_1 : Int) (a0_2 : Int) (r0 : Int) (r1 : Int) (r2 : Int) (r3 : Int) (r4 : Int) (H : spec_GroupFromRow.f a0_0 a0_1 a0_2 = some (r0, r1, r2, r3, r4)) : Fn Try.prog 95 [.agg #[.int .i64 a0_0, .int .i64 a0_1, .int .i64 a0_2]] [] [] (fun v bx en => v = .agg #[.int .i64 r0, .int .i64 r1, .int .i64 r2, .int .i64 r3, .int .i64 r4] ∧ bx = [] ∧ en = []) := by
 refine fn_ 12 Try.func95 rfl rfl rfl (fun base T w0 => ?_)
 rw [spec_GroupFromRow.f] at H
 refine gs (rg (so rfl (op_box (cs := [.int .i64 a0_0, .int .i64 a0_1, .int .i64 a0_2]) rfl rfl rfl fun b1 => (so rfl (op_alloc (cs := [.int .i64 0, .int .i64 0, .int .i64 0, .int .i64 0, .int .i64 0]) (by kernel_rfl) rfl fun b2 => (re (gs (rg (sv (EV.fa 0 rfl) rfl (sv (EV.ld 0 none rfl rfl rfl) rfl (sv (EV.fa 1 rfl) rfl (sv (EV.ld 0 none rfl rfl rfl) rfl (sv (EV.fa 1 rfl) rfl (sv (EV.ld 0 none rfl rfl rfl) rfl (sv (EV.fa 1 rfl) rfl (sv (EV.ld 0 none rfl rfl rfl) rfl (sv (EV.bd (v := .agg #[.int .i64 a0_0, .int .i64 1, .int .i64 a0_1, .int .i64 a0_1, .int .i64 a0_1]) rfl (by kernel_rfl)) rfl (so rfl (op_st (cs' := [.int .i64 a0_0, .int .i64 1, .int .i64 a0_1, .int .i64 a0_1, .int .i64 a0_1]) 1 rfl rfl rfl rfl rfl rfl (re (pr [2] [1] [] rfl rfl rfl rfl ?_)))))))))))))))))))))
 cases H
 exact rt Try.func95 rfl (.cell 0 (some 5) rfl rfl rfl .nil) rfl [] [] rfl rfl rfl rfl rfl ⟨rfl, rfl, rfl⟩
def spec_ReferenceGroups.l0 : Nat → (List S88) → Int → (List S73) → Option ((List S88))
 | 0, _, _, _ => none
 | k + 1, x2_3, x2_4, l0 => if x2_4 < (l0.length : Int) then (if 0 ≤ x2_4 then ((spec_GroupFromRow.f ((rd_T73 l0 x2_4).f0) ((rd_T73 l0 x2_4).f1) ((rd_T73 l0 x2_4).f2)).bind fun bt4 => (if x2_3.length < 3518437208883 then (spec_ReferenceGroups.l0 k (x2_3 ++ ([(⟨bt4.1, bt4.2.1, bt4.2.2.1, bt4.2.2.2.1, bt4.2.2.2.2⟩ : S88)] : List S88)) (wrap64 (x2_4 + 1)) l0) else none)) else none) else ((spec_MergeGroups.f k x2_3).bind fun t8 => (some t8))
def spec_ReferenceGroups.f (k : Nat) (l0 : List S73) : Option ((List S88)) := spec_ReferenceGroups.l0 k [] 0 l0
set_option maxHeartbeats 4000000 in
set_option maxRecDepth 100000 in
theorem spec_ReferenceGroups.ok (k : Nat) (l0 : List S73) (Al0 : Option Addr) (cl0 : Nat) (r0 : List S88) (H : spec_ReferenceGroups.f k l0 = some r0) : Fn Try.prog 72 [.slice Al0 l0.length cl0] [] [.sl 0 k73 Al0 cl0 l0 0 false] (fun v bx en => ∃ A0 c0, v = .slice A0 r0.length c0 ∧ bx = [] ∧ en = [.sl 2 k88 A0 c0 r0 1 true]) := by
 refine fn_ 22 Try.func72 rfl rfl rfl (fun base T w0 => ?_)
 rw [spec_ReferenceGroups.f] at H
 refine gs (rg (sv (EV.as rfl) rfl (re (gs (rg (so rfl (op_lit (s := 5) (by_ := 40) k88 ([] : List S88) [] [] 1 [] rfl rfl rfl rfl rfl rfl rfl rfl rfl rfl rfl rfl rfl dq rfl fun A5_1 c5_1 => (sv (EV.as rfl) rfl (re (gs (gs (rg (sv (EV.as rfl) rfl (re (gb ?_)))))))))))))))
 refine lo (fun kk S => ∃ (x2_3 : List S88) (Ax2_3 : Option Addr) (cx2_3 : Nat) (x2_4 : Int), spec_ReferenceGroups.l0 kk x2_3 x2_4 l0 = some r0 ∧ S = ⟨[(0, .slice Al0 l0.length cl0), (3, .slice Ax2_3 x2_3.length cx2_3), (4, .int .i64 x2_4)], [], [.sl 2 k88 Ax2_3 cx2_3 x2_3 1 true, .sl 0 k73 Al0 cl0 l0 0 false]⟩) (fun S hS => ?_) (fun n0 ih0 S hS => ?_) ⟨[], A5_1, c5_1, 0, H, rfl⟩ (fun h => wk [0, 3, 4] [] [⟨1, 2, 1, true⟩, ⟨0, 0, 0, false⟩] h)
 · clear H; obtain ⟨_, _, _, _, H, _⟩ := hS; rw [spec_ReferenceGroups.l0] at H; cases H
 clear H
 obtain ⟨x2_3, Ax2_3, cx2_3, x2_4, H, rfl⟩ := hS
 rw [spec_ReferenceGroups.l0] at H
 refine gs (gs (rg (sv (EV.mv rfl) rfl (sv (EV.mv rfl) rfl (sv (EV.ln rfl) rfl (sv (EV.lss rfl rfl) rfl (re ?_)))))))
 revert H; refine ifsI ?_ ?_ <;> intro c2 H
 ·
  refine gt rfl (dT c2) (gk (gs (gb (rg (sv (EV.mv rfl) rfl (sv (EV.mv rfl) rfl (sv (EV.mv rfl) rfl ?_)))))))
  revert H; refine ggI ?_; intro g3 H
  refine sv (EV.ix 1 rfl rfl rfl g3 c2 rfl) rfl (sv (EV.le (v := .agg #[.int .i64 ((rd_T73 l0 x2_4).f0), .int .i64 ((rd_T73 l0 x2_4).f1), .int .i64 ((rd_T73 l0 x2_4).f2)]) x2_4 0 (some 3) 1 z73 rfl rfl rfl g3 c2 rfl rfl rfl) rfl ?_)
  revert H; refine bdI ?_; rintro ⟨t4_0, t4_1, t4_2, t4_3, t4_4⟩ A4 H
  refine so rfl (op_call (spec_GroupFromRow.ok ((rd_T73 l0 x2_4).f0) ((rd_T73 l0 x2_4).f1) ((rd_T73 l0 x2_4).f2) _ _ _ _ _ A4) [] 2 rfl rfl rfl rfl rfl ?_)
  rintro _ _ _ ⟨rfl, rfl, rfl⟩
  refine so rfl (op_lit (s := 5) (by_ := 40) k88 ([(⟨t4_0, t4_1, t4_2, t4_3, t4_4⟩ : S88)] : List S88) [[]] [] 2 [.tmp 17] rfl rfl rfl rfl rfl rfl rfl rfl rfl rfl rfl rfl rfl dq rfl fun A18_5 c18_5 => ?_)
  revert H; refine ggI ?_; intro g6 H
  exact so rfl (op_app (k := k88) (s := 5) (by_ := 40) 0 2 rfl rfl rfl rfl (ap1 g6 dq) (ap1n g6 dq) (.inl rfl) true (fun _ => .inl rfl) rfl rfl fun A19_7 c19_7 => (nmE (en := [.sl 0 k73 Al0 cl0 l0 0 false, .sl 2 k88 A18_5 c18_5 ([(⟨t4_0, t4_1, t4_2, t4_3, t4_4⟩ : S88)] : List S88) 2 true, .sl 2 k88 A19_7 c19_7 (x2_3 ++ ([(⟨t4_0, t4_1, t4_2, t4_3, t4_4⟩ : S88)] : List S88)) 1 true]) (by kernel_rfl) (sv (EV.as rfl) rfl (re (pr [0, 3, 4] [] [0, 2] rfl rfl rfl rfl (ge (rg (sv (EV.mv rfl) rfl (sv (EV.add rfl rfl) rfl (sv (EV.as rfl) rfl (re (wk [0, 3, 4] [] [⟨1, 2, 1, true⟩, ⟨0, 0, 0, false⟩] (ih0 _ (by omega) _ ⟨x2_3 ++ ([(⟨t4_0, t4_1, t4_2, t4_3, t4_4⟩ : S88)] : List S88), A19_7, c19_7, wrap64 (x2_4 + 1), H, rfl⟩)))))))))))))
 ·
  refine gf rfl (dF c2) (gx rfl (gs (rg (sv (EV.mv rfl) rfl ?_))))
  revert H; refine bdI ?_; rintro t8 A8 H
  refine so rfl (op_call (spec_MergeGroups.ok n0 x2_3 Ax2_3 cx2_3 _ A8) [⟨0, 0, 0, false⟩] 2 rfl rfl rfl rfl rfl ?_)
  rintro _ _ _ ⟨At8, ct8, rfl, rfl, rfl⟩
  refine sv (EV.as rfl) rfl (re (pr [2] [] [2] rfl rfl rfl rfl ?_))
  cases H
  exact rt Try.func72 rfl (.tmp rfl .nil) rfl [] [⟨0, 2, 1, true⟩] rfl rfl rfl rfl rfl ⟨_, _, rfl, rfl, rfl⟩
def spec_RollupRows.f (k : Nat) (l0 : List S73) : Option ((List S92)) := (spec_ReferenceGroups.f k l0).bind fun t1 => ((spec_RollupGroups.f k t1).bind fun t2 => (some t2))
set_option maxHeartbeats 4000000 in
set_option maxRecDepth 100000 in
theorem spec_RollupRows.ok (k : Nat) (l0 : List S73) (Al0 : Option Addr) (cl0 : Nat) (r0 : List S92) (H : spec_RollupRows.f k l0 = some r0) : Fn Try.prog 40 [.slice Al0 l0.length cl0] [] [.sl 0 k73 Al0 cl0 l0 0 false] (fun v bx en => ∃ A0 c0, v = .slice A0 r0.length c0 ∧ bx = [] ∧ en = [.sl 2 k92 A0 c0 r0 1 true]) := by
 refine fn_ 6 Try.func40 rfl rfl rfl (fun base T w0 => ?_)
 rw [spec_RollupRows.f] at H
 refine gs (rg (sv (EV.as rfl) rfl (re (gs (rg (sv (EV.mv rfl) rfl ?_))))))
 revert H; refine bdI ?_; rintro t1 A1 H
 refine so rfl (op_call (spec_ReferenceGroups.ok k l0 Al0 cl0 _ A1) [⟨0, 0, 0, false⟩] 1 rfl rfl rfl rfl rfl ?_)
 rintro _ _ _ ⟨At1, ct1, rfl, rfl, rfl⟩
 revert H; refine bdI ?_; rintro t2 A2 H
 refine so rfl (op_call (spec_RollupGroups.ok k t1 At1 ct1 _ A2) [⟨1, 0, 0, false⟩] 3 rfl rfl rfl rfl rfl ?_)
 rintro _ _ _ ⟨At2, ct2, rfl, rfl, rfl⟩
 refine sv (EV.as rfl) rfl (re ?_)
 cases H
 exact rt Try.func40 rfl (.tmp rfl .nil) rfl [] [⟨2, 2, 1, true⟩] rfl rfl rfl rfl rfl ⟨_, _, rfl, rfl, rfl⟩
def impl_RollupKey.f (a0 : Int) (a1 : Int) : Option (Int) := if a1 = 0 then (some a0) else (if a1 = 1 then (some (wrap64 (Int.tdiv a0 5))) else (some 0))
set_option maxHeartbeats 4000000 in
set_option maxRecDepth 100000 in
theorem impl_RollupKey.ok (a0 : Int) (a1 : Int) (r0 : Int) (H : impl_RollupKey.f a0 a1 = some r0) : Fn Try.prog 68 [.int .i64 a0, .int .i64 a1] [] [] (fun v bx en => v = .int .i64 r0 ∧ bx = [] ∧ en = []) := by
 refine fn_ 13 Try.func68 rfl rfl rfl (fun base T w0 => ?_)
 rw [impl_RollupKey.f] at H
 refine gs (rg (sv (EV.as rfl) rfl (re (gs (gs (rg (sv (EV.mv rfl) rfl (re (gb (gs (rg (sv (EV.eql rfl rfl) rfl (sv (EV.as rfl) rfl (re ?_))))))))))))))
 revert H; refine ifsI ?_ ?_ <;> intro c1 H
 ·
  refine gt rfl (dT c1) (gs (rg (sv (EV.mv rfl) rfl (sv (EV.as rfl) rfl (re (pr [4] [] [] rfl rfl rfl rfl ?_))))))
  cases H
  exact rt Try.func68 rfl (.tmp rfl .nil) rfl [] [] rfl rfl rfl rfl rfl ⟨rfl, rfl, rfl⟩
 ·
  refine gf rfl (dF c1) (gs (rg (sv (EV.eql rfl rfl) rfl (sv (EV.as rfl) rfl (re (pr [0, 9] [] [] rfl rfl rfl rfl ?_))))))
  revert H; refine ifsI ?_ ?_ <;> intro c2 H
  ·
   refine gt rfl (dT c2) (gs (rg (sv (EV.mv rfl) rfl (sv (EV.quo rfl rfl dq) rfl (sv (EV.as rfl) rfl (re ?_))))))
   cases H
   exact rt Try.func68 rfl (.tmp rfl .nil) rfl [] [] rfl rfl rfl rfl rfl ⟨rfl, rfl, rfl⟩
  ·
   refine gf rfl (dF c2) (gk (ge (gs (rg (sv (EV.as rfl) rfl (re ?_))))))
   cases H
   exact rt Try.func68 rfl (.tmp rfl .nil) rfl [] [] rfl rfl rfl rfl rfl ⟨rfl, rfl, rfl⟩
def impl_order.f (a0 : Int) (a1 : Int) : Option (Int) := if a0 < a1 then (some (-1)) else (if a0 > a1 then (some 1) else (some 0))
set_option maxHeartbeats 4000000 in
set_option maxRecDepth 100000 in
theorem impl_order.ok (a0 : Int) (a1 : Int) (r0 : Int) (H : impl_order.f a0 a1 = some r0) : Fn Try.prog 94 [.int .i64 a0, .int .i64 a1] [] [] (fun v bx en => v = .int .i64 r0 ∧ bx = [] ∧ en = []) := by
 refine fn_ 13 Try.func94 rfl rfl rfl (fun base T w0 => ?_)
 rw [impl_order.f] at H
 refine gs (rg (sv (EV.as rfl) rfl (re (gs (gb (gs (rg (sv (EV.mv rfl) rfl (sv (EV.mv rfl) rfl (sv (EV.lss rfl rfl) rfl (sv (EV.as rfl) rfl (re ?_))))))))))))
 revert H; refine ifsI ?_ ?_ <;> intro c1 H
 ·
  refine gt rfl (dT c1) (gs (rg (sv (EV.as rfl) rfl (re (pr [4] [] [] rfl rfl rfl rfl ?_)))))
  cases H
  exact rt Try.func94 rfl (.tmp rfl .nil) rfl [] [] rfl rfl rfl rfl rfl ⟨rfl, rfl, rfl⟩
 ·
  refine gf rfl (dF c1) (gs (rg (sv (EV.mv rfl) rfl (sv (EV.mv rfl) rfl (sv (EV.gtr rfl rfl) rfl (sv (EV.as rfl) rfl (re (pr [9] [] [] rfl rfl rfl rfl ?_))))))))
  revert H; refine ifsI ?_ ?_ <;> intro c2 H
  ·
   refine gt rfl (dT c2) (gs (rg (sv (EV.as rfl) rfl (re ?_))))
   cases H
   exact rt Try.func94 rfl (.tmp rfl .nil) rfl [] [] rfl rfl rfl rfl rfl ⟨rfl, rfl, rfl⟩
  ·
   refine gf rfl (dF c2) (gk (ge (gs (rg (sv (EV.as rfl) rfl (re ?_))))))
   cases H
   exact rt Try.func94 rfl (.tmp rfl .nil) rfl [] [] rfl rfl rfl rfl rfl ⟨rfl, rfl, rfl⟩
def impl_MergeGroups_1.f (a0_0 : Int) (a0_1 : Int) (a0_2 : Int) (a0_3 : Int) (a0_4 : Int) (a1_0 : Int) (a1_1 : Int) (a1_2 : Int) (a1_3 : Int) (a1_4 : Int) : Option (Int) := (impl_order.f a0_0 a1_0).bind fun t1 => (some t1)
set_option maxHeartbeats 4000000 in
set_option maxRecDepth 100000 in
theorem impl_MergeGroups_1.ok (a0_0 : Int) (a0_1 : Int) (a0_2 : Int) (a0_3 : Int) (a0_4 : Int) (a1_0 : Int) (a1_1 : Int) (a1_2 : Int) (a1_3 : Int) (a1_4 : Int) (r0 : Int) (H : impl_MergeGroups_1.f a0_0 a0_1 a0_2 a0_3 a0_4 a1_0 a1_1 a1_2 a1_3 a1_4 = some r0) : Fn Try.prog 93 [.agg #[.int .i64 a0_0, .int .i64 a0_1, .int .i64 a0_2, .int .i64 a0_3, .int .i64 a0_4], .agg #[.int .i64 a1_0, .int .i64 a1_1, .int .i64 a1_2, .int .i64 a1_3, .int .i64 a1_4]] [] [] (fun v bx en => v = .int .i64 r0 ∧ bx = [] ∧ en = []) := by
 refine fn_ 10 Try.func93 rfl rfl rfl (fun base T w0 => ?_)
 rw [impl_MergeGroups_1.f] at H
 refine gs (rg (so rfl (op_box (cs := [.int .i64 a0_0, .int .i64 a0_1, .int .i64 a0_2, .int .i64 a0_3, .int .i64 a0_4]) rfl rfl rfl fun b2 => (so rfl (op_box (cs := [.int .i64 a1_0, .int .i64 a1_1, .int .i64 a1_2, .int .i64 a1_3, .int .i64 a1_4]) rfl rfl rfl fun b3 => (sv (EV.as rfl) rfl (re (gs (rg (sv (EV.fa 0 rfl) rfl (sv (EV.ld 0 none rfl rfl rfl) rfl (sv (EV.fa 0 rfl) rfl (sv (EV.ld 1 none rfl rfl rfl) rfl ?_)))))))))))))
 revert H; refine bdI ?_; rintro t1 A1 H
 refine so rfl (op_call (impl_order.ok a0_0 a1_0 _ A1) [] 1 rfl rfl rfl rfl rfl ?_)
 rintro _ _ _ ⟨rfl, rfl, rfl⟩
 refine sv (EV.as rfl) rfl (re (pr [4] [] [] rfl rfl rfl rfl ?_))
 cases H
 exact rt Try.func93 rfl (.tmp rfl .nil) rfl [] [] rfl rfl rfl rfl rfl ⟨rfl, rfl, rfl⟩
mutual
def slices_insertionSortCmpFunc_impl_Group_at93.l1 : Nat → (List S88) → Int → Int → Int → Int → Option ((List S88))
 | 0, _, _, _, _, _ => none
 | k + 1, x5_ml0, x5_1, x5_2, x5_8, x5_9 => if x5_9 > x5_1 then (if 0 ≤ x5_9 then (if x5_9 < (x5_ml0.length : Int) then (if 0 ≤ (wrap64 (x5_9 - 1)) then (if (wrap64 (x5_9 - 1)) < (x5_ml0.length : Int) then ((impl_MergeGroups_1.f ((rd_T88 x5_ml0 x5_9).f0) ((rd_T88 x5_ml0 x5_9).f1) ((rd_T88 x5_ml0 x5_9).f2) ((rd_T88 x5_ml0 x5_9).f3) ((rd_T88 x5_ml0 x5_9).f4) ((rd_T88 x5_ml0 (wrap64 (x5_9 - 1))).f0) ((rd_T88 x5_ml0 (wrap64 (x5_9 - 1))).f1) ((rd_T88 x5_ml0 (wrap64 (x5_9 - 1))).f2) ((rd_T88 x5_ml0 (wrap64 (x5_9 - 1))).f3) ((rd_T88 x5_ml0 (wrap64 (x5_9 - 1))).f4)).bind fun t7 => (if t7 < 0 then ((some (x5_ml0.set x5_9.toNat (⟨(rd_T88 x5_ml0 (wrap64 (x5_9 - 1))).f0, (rd_T88 x5_ml0 (wrap64 (x5_9 - 1))).f1, (rd_T88 x5_ml0 (wrap64 (x5_9 - 1))).f2, (rd_T88 x5_ml0 (wrap64 (x5_9 - 1))).f3, (rd_T88 x5_ml0 (wrap64 (x5_9 - 1))).f4⟩ : S88))).bind fun s9 => (if (wrap64 (x5_9 - 1)) < (s9.length : Int) then ((some (s9.set (wrap64 (x5_9 - 1)).toNat (⟨(rd_T88 x5_ml0 x5_9).f0, (rd_T88 x5_ml0 x5_9).f1, (rd_T88 x5_ml0 x5_9).f2, (rd_T88 x5_ml0 x5_9).f3, (rd_T88 x5_ml0 x5_9).f4⟩ : S88))).bind fun s11 => (slices_insertionSortCmpFunc_impl_Group_at93.l1 k s11 x5_1 x5_2 x5_8 (wrap64 (x5_9 - 1)))) else none)) else (slices_insertionSortCmpFunc_impl_Group_at93.l0 k x5_ml0 x5_1 x5_2 (wrap64 (x5_8 + 1))))) else none) else none) else none) else none) else (slices_insertionSortCmpFunc_impl_Group_at93.l0 k x5_ml0 x5_1 x5_2 (wrap64 (x5_8 + 1)))
def slices_insertionSortCmpFunc_impl_Group_at93.l0 : Nat → (List S88) → Int → Int → Int → Option ((List S88))
 | 0, _, _, _, _ => none
 | k + 1, x1_ml0, x1_1, x1_2, x1_8 => if x1_8 < x1_2 then (slices_insertionSortCmpFunc_impl_Group_at93.l1 k x1_ml0 x1_1 x1_2 x1_8 x1_8) else (some x1_ml0)
end
def slices_insertionSortCmpFunc_impl_Group_at93.f (k : Nat) (l0 : List S88) (a1 : Int) (a2 : Int) : Option ((List S88)) := slices_insertionSortCmpFunc_impl_Group_at93.l0 k l0 a1 a2 (wrap64 (a1 + 1))
set_option maxHeartbeats 4000000 in
set_option maxRecDepth 100000 in
theorem slices_insertionSortCmpFunc_impl_Group_at93.ok (k : Nat) (l0 : List S88) (Al0 : Option Addr) (cl0 : Nat) (a1 : Int) (a2 : Int) (r0 : List S88) (H : slices_insertionSortCmpFunc_impl_Group_at93.f k l0 a1 a2 = some r0) : Fn Try.prog 104 [.slice Al0 l0.length cl0, .int .i64 a1, .int .i64 a2, .func (.func 93) #[] #[]] [] [.sl 1 k88 Al0 cl0 l0 1 false] (fun v bx en => v = .tuple #[] ∧ bx = [] ∧ en = [.sl 1 k88 Al0 cl0 r0 1 false] ∧ r0.length = l0.length) := by
 refine fn_ 53 Try.func104 rfl rfl rfl (fun base T w0 => ?_)
 rw [slices_insertionSortCmpFunc_impl_Group_at93.f] at H
 refine gs (rg (sv (EV.mv rfl) rfl (sv (EV.add rfl rfl) rfl (sv (EV.as rfl) rfl (re (gb ?_))))))
 refine lo (fun kk S => ∃ (x1_ml0 : List S88) (x1_1 : Int) (x1_2 : Int) (x1_8 : Int), slices_insertionSortCmpFunc_impl_Group_at93.l0 kk x1_ml0 x1_1 x1_2 x1_8 = some r0 ∧ x1_ml0.length = l0.length ∧ S = ⟨[(0, .slice Al0 x1_ml0.length cl0), (1, .int .i64 x1_1), (2, .int .i64 x1_2), (3, .func (.func 93) #[] #[]), (8, .int .i64 x1_8)], [], [.sl 1 k88 Al0 cl0 x1_ml0 1 false]⟩) (fun S hS => ?_) (fun n0 ih0 S hS => ?_) ⟨l0, a1, a2, wrap64 (a1 + 1), H, (by first | rfl | assumption | omega | (simp only [List.length_set]; first | done | assumption | omega)), rfl⟩ (fun h => wk [0, 1, 2, 3, 8] [] [⟨0, 1, 1, false⟩] h)
 · clear H; obtain ⟨_, _, _, _, H, _⟩ := hS; rw [slices_insertionSortCmpFunc_impl_Group_at93.l0] at H; cases H
 clear H
 obtain ⟨x1_ml0, x1_1, x1_2, x1_8, H, ex1_ml0, rfl⟩ := hS
 rw [slices_insertionSortCmpFunc_impl_Group_at93.l0] at H
 refine gs (gs (rg (sv (EV.mv rfl) rfl (sv (EV.mv rfl) rfl (sv (EV.lss rfl rfl) rfl (re ?_))))))
 revert H; refine ifsI ?_ ?_ <;> intro c1 H
 ·
  refine gt rfl (dT c1) (gk (gs (gb (gs (rg (sv (EV.mv rfl) rfl (sv (EV.as rfl) rfl (re (gb ?_)))))))))
  refine lo (fun kk S => ∃ (x5_ml0 : List S88) (x5_1 : Int) (x5_2 : Int) (x5_8 : Int) (x5_9 : Int), kk ≤ n0 ∧ slices_insertionSortCmpFunc_impl_Group_at93.l1 kk x5_ml0 x5_1 x5_2 x5_8 x5_9 = some r0 ∧ x5_ml0.length = l0.length ∧ S = ⟨[(0, .slice Al0 x5_ml0.length cl0), (1, .int .i64 x5_1), (2, .int .i64 x5_2), (3, .func (.func 93) #[] #[]), (8, .int .i64 x5_8), (9, .int .i64 x5_9)], [], [.sl 1 k88 Al0 cl0 x5_ml0 1 false]⟩) (fun S hS => ?_) (fun n1 ih1 S hS => ?_) ⟨x1_ml0, x1_1, x1_2, x1_8, x1_8, by omega, H, (by first | rfl | assumption | omega | (simp only [List.length_set]; first | done | assumption | omega)), rfl⟩ (fun h => wk [0, 1, 2, 3, 8, 9] [] [⟨0, 1, 1, false⟩] h)
  · clear H; obtain ⟨_, _, _, _, _, _, H, _⟩ := hS; rw [slices_insertionSortCmpFunc_impl_Group_at93.l1] at H; cases H
  clear H
  obtain ⟨x5_ml0, x5_1, x5_2, x5_8, x5_9, lk1, H, ex5_ml0, rfl⟩ := hS
  rw [slices_insertionSortCmpFunc_impl_Group_at93.l1] at H
  refine gs (gs (dr [] [0] [] 17 rfl rfl rfl rfl (xv 0 [] [0] rfl (EV.mv rfl) rfl rfl rfl rfl (xv 1 [] [0] rfl (EV.mv rfl) rfl rfl rfl rfl (xv 2 [] [0] rfl (EV.gtr rfl rfl) rfl rfl rfl rfl (xv 3 [] [0] rfl (EV.mv rfl) rfl rfl rfl rfl ?_))))))
  revert H; refine ifsI ?_ ?_ <;> intro c2 H
  ·
   refine ts 21 rfl (dT c2) (xv 4 [] [0] rfl (EV.mv rfl) rfl rfl rfl rfl (xv 5 [] [0] rfl (EV.mv rfl) rfl rfl rfl rfl (xv 6 [] [0] rfl (EV.mv rfl) rfl rfl rfl rfl ?_)))
   revert H; refine ggI ?_; intro g3 H
   revert H; refine ggI ?_; intro g4 H
   refine xv 7 [] [0] rfl (EV.ix 0 rfl rfl rfl g3 g4 rfl) rfl rfl rfl rfl (xv 8 [] [0] rfl (EV.le (v := .agg #[.int .i64 ((rd_T88 x5_ml0 x5_9).f0), .int .i64 ((rd_T88 x5_ml0 x5_9).f1), .int .i64 ((rd_T88 x5_ml0 x5_9).f2), .int .i64 ((rd_T88 x5_ml0 x5_9).f3), .int .i64 ((rd_T88 x5_ml0 x5_9).f4)]) x5_9 0 (some 5) 0 z88 rfl rfl rfl g3 g4 rfl rfl rfl) rfl rfl rfl rfl (xv 9 [] [0] rfl (EV.mv rfl) rfl rfl rfl rfl (xv 10 [] [0] rfl (EV.mv rfl) rfl rfl rfl rfl (xv 11 [] [0] rfl (EV.sub rfl rfl) rfl rfl rfl rfl ?_))))
   revert H; refine ggI ?_; intro g5 H
   revert H; refine ggI ?_; intro g6 H
   refine xv 12 [] [0] rfl (EV.ix 0 rfl rfl rfl g5 g6 rfl) rfl rfl rfl rfl (xv 13 [] [0] rfl (EV.le (v := .agg #[.int .i64 ((rd_T88 x5_ml0 (wrap64 (x5_9 - 1))).f0), .int .i64 ((rd_T88 x5_ml0 (wrap64 (x5_9 - 1))).f1), .int .i64 ((rd_T88 x5_ml0 (wrap64 (x5_9 - 1))).f2), .int .i64 ((rd_T88 x5_ml0 (wrap64 (x5_9 - 1))).f3), .int .i64 ((rd_T88 x5_ml0 (wrap64 (x5_9 - 1))).f4)]) (wrap64 (x5_9 - 1)) 0 (some 5) 0 z88 rfl rfl rfl g5 g6 rfl rfl rfl) rfl rfl rfl rfl (one1 14 rfl rfl ?_))
   revert H; refine bdI ?_; rintro t7 A7 H
   refine cvf (f := 93) rfl (op_call (impl_MergeGroups_1.ok ((rd_T88 x5_ml0 x5_9).f0) ((rd_T88 x5_ml0 x5_9).f1) ((rd_T88 x5_ml0 x5_9).f2) ((rd_T88 x5_ml0 x5_9).f3) ((rd_T88 x5_ml0 x5_9).f4) ((rd_T88 x5_ml0 (wrap64 (x5_9 - 1))).f0) ((rd_T88 x5_ml0 (wrap64 (x5_9 - 1))).f1) ((rd_T88 x5_ml0 (wrap64 (x5_9 - 1))).f2) ((rd_T88 x5_ml0 (wrap64 (x5_9 - 1))).f3) ((rd_T88 x5_ml0 (wrap64 (x5_9 - 1))).f4) _ A7) [] 2 rfl rfl rfl rfl rfl ?_)
   rintro _ _ _ ⟨rfl, rfl, rfl⟩
   refine xs [] [0] rfl rfl rfl (xv 15 [] [0] rfl (EV.lss rfl rfl) rfl rfl rfl rfl (xv 16 [] [0] rfl (EV.pt rfl rfl rfl) rfl rfl rfl rfl (xd ?_)))
   revert H; refine ifsI ?_ ?_ <;> intro c8 H
   ·
    refine gt rfl (dT c8) (gk (gs (gb (dr [] [] [16, 17] 18 rfl rfl rfl rfl (xv 0 [] [] rfl (EV.mv rfl) rfl rfl rfl rfl (xv 1 [] [] rfl (EV.mv rfl) rfl rfl rfl rfl (xv 2 [] [] rfl (EV.mv rfl) rfl rfl rfl rfl (xv 3 [] [] rfl (EV.mv rfl) rfl rfl rfl rfl (xv 4 [] [] rfl (EV.sub rfl rfl) rfl rfl rfl rfl (xv 5 [] [] rfl (EV.mv rfl) rfl rfl rfl rfl (xv 6 [] [] rfl (EV.mv rfl) rfl rfl rfl rfl (xv 7 [] [] rfl (EV.sub rfl rfl) rfl rfl rfl rfl (xv 10 [] [] rfl (EV.mv rfl) rfl rfl rfl rfl (xv 11 [] [] rfl (EV.mv rfl) rfl rfl rfl rfl ?_))))))))))))))
    refine one2 8 12 rfl rfl rfl rfl ?_ ?_
    ·
     refine ov (EV.ix 0 rfl rfl rfl g5 g6 rfl) rfl (xs [] [] rfl rfl rfl ?_)
     refine one2 9 12 rfl rfl rfl rfl ?_ ?_
     ·
      refine ov (EV.le (v := .agg #[.int .i64 ((rd_T88 x5_ml0 (wrap64 (x5_9 - 1))).f0), .int .i64 ((rd_T88 x5_ml0 (wrap64 (x5_9 - 1))).f1), .int .i64 ((rd_T88 x5_ml0 (wrap64 (x5_9 - 1))).f2), .int .i64 ((rd_T88 x5_ml0 (wrap64 (x5_9 - 1))).f3), .int .i64 ((rd_T88 x5_ml0 (wrap64 (x5_9 - 1))).f4)]) (wrap64 (x5_9 - 1)) 0 (some 5) 0 z88 rfl rfl rfl g5 g6 rfl rfl rfl) rfl (xs [] [] rfl rfl rfl (one1 12 rfl rfl (ov (EV.ix 0 rfl rfl rfl g3 g4 rfl) rfl (xs [] [] rfl rfl rfl (one1 13 rfl rfl (ov (EV.le (v := .agg #[.int .i64 ((rd_T88 x5_ml0 x5_9).f0), .int .i64 ((rd_T88 x5_ml0 x5_9).f1), .int .i64 ((rd_T88 x5_ml0 x5_9).f2), .int .i64 ((rd_T88 x5_ml0 x5_9).f3), .int .i64 ((rd_T88 x5_ml0 x5_9).f4)]) x5_9 0 (some 5) 0 z88 rfl rfl rfl g3 g4 rfl rfl rfl) rfl (xs [] [] rfl rfl rfl (one1 14 rfl rfl (ov (EV.ix 0 rfl rfl rfl g3 g4 rfl) rfl (xs [] [] rfl rfl rfl (one1 15 rfl rfl ?_)))))))))))
      revert H; refine bdI ?_; intro s9 A9 H; have q9 := stl (Option.some.inj A9)
      refine op_stg x5_9 0 0 z88 (⟨(rd_T88 x5_ml0 (wrap64 (x5_9 - 1))).f0, (rd_T88 x5_ml0 (wrap64 (x5_9 - 1))).f1, (rd_T88 x5_ml0 (wrap64 (x5_9 - 1))).f2, (rd_T88 x5_ml0 (wrap64 (x5_9 - 1))).f3, (rd_T88 x5_ml0 (wrap64 (x5_9 - 1))).f4⟩ : S88) (Option.some.inj A9) rfl rfl rfl rfl g3 g4 rfl rfl rfl rfl dq rfl (rlT 0 (v' := .slice Al0 s9.length cl0) rfl (slq _ _ q9) (rlT 23 (v' := .slice Al0 s9.length cl0) rfl (slq _ _ q9) (rlT 27 (v' := .slice Al0 s9.length cl0) rfl (slq _ _ q9) (rlT 37 (v' := .slice Al0 s9.length cl0) rfl (slq _ _ q9) (rlT 39 (v' := .slice Al0 s9.length cl0) rfl (slq _ _ q9) (rlT 42 (v' := .slice Al0 s9.length cl0) rfl (slq _ _ q9) (rlT 47 (v' := .slice Al0 s9.length cl0) rfl (slq _ _ q9) (nmE (en := [.sl 1 k88 Al0 cl0 s9 1 true]) (by kernel_rfl) (xs [] [] rfl rfl rfl (one1 16 rfl rfl ?_))))))))))
      revert H; refine ggI ?_; intro g10 H
      refine ov (EV.ix 0 rfl rfl rfl g5 g10 rfl) rfl (xn rfl (one1 17 rfl rfl ?_))
      revert H; refine bdI ?_; intro s11 A11 H; have q11 := stl (Option.some.inj A11)
      exact op_stg (wrap64 (x5_9 - 1)) 0 0 z88 (⟨(rd_T88 x5_ml0 x5_9).f0, (rd_T88 x5_ml0 x5_9).f1, (rd_T88 x5_ml0 x5_9).f2, (rd_T88 x5_ml0 x5_9).f3, (rd_T88 x5_ml0 x5_9).f4⟩ : S88) (Option.some.inj A11) rfl rfl rfl rfl g5 g10 rfl rfl rfl rfl dq rfl (rlT 0 (v' := .slice Al0 s11.length cl0) rfl (slq _ _ q11) (rlT 23 (v' := .slice Al0 s11.length cl0) rfl (slq _ _ q11) (rlT 27 (v' := .slice Al0 s11.length cl0) rfl (slq _ _ q11) (rlT 37 (v' := .slice Al0 s11.length cl0) rfl (slq _ _ q11) (rlT 39 (v' := .slice Al0 s11.length cl0) rfl (slq _ _ q11) (rlT 42 (v' := .slice Al0 s11.length cl0) rfl (slq _ _ q11) (rlT 47 (v' := .slice Al0 s11.length cl0) rfl (slq _ _ q11) (nmE (en := [.sl 1 k88 Al0 cl0 s11 1 true]) (by kernel_rfl) (xn rfl (xd (pr [0, 1, 2, 3, 8, 9, 22, 23, 24, 26, 27, 28, 29, 31, 32, 33] [] [0] rfl rfl rfl rfl (ge (rg (sv (EV.mv rfl) rfl (sv (EV.sub rfl rfl) rfl (sv (EV.as rfl) rfl (re (wk [0, 1, 2, 3, 8, 9] [] [⟨0, 1, 1, false⟩] (ih1 _ (by omega) _ ⟨s11, x5_1, x5_2, x5_8, wrap64 (x5_9 - 1), by omega, H, (by first | rfl | assumption | omega | (simp only [List.length_set]; first | done | assumption | omega)), rfl⟩)))))))))))))))))))
     ·
      refine ov (EV.ix 0 rfl rfl rfl g3 g4 rfl) rfl (xs [] [] rfl rfl rfl ?_)
      refine one2 9 13 rfl rfl rfl rfl ?_ ?_
      ·
       refine ov (EV.le (v := .agg #[.int .i64 ((rd_T88 x5_ml0 (wrap64 (x5_9 - 1))).f0), .int .i64 ((rd_T88 x5_ml0 (wrap64 (x5_9 - 1))).f1), .int .i64 ((rd_T88 x5_ml0 (wrap64 (x5_9 - 1))).f2), .int .i64 ((rd_T88 x5_ml0 (wrap64 (x5_9 - 1))).f3), .int .i64 ((rd_T88 x5_ml0 (wrap64 (x5_9 - 1))).f4)]) (wrap64 (x5_9 - 1)) 0 (some 5) 0 z88 rfl rfl rfl g5 g6 rfl rfl rfl) rfl (xs [] [] rfl rfl rfl (one1 13 rfl rfl (ov (EV.le (v := .agg #[.int .i64 ((rd_T88 x5_ml0 x5_9).f0), .int .i64 ((rd_T88 x5_ml0 x5_9).f1), .int .i64 ((rd_T88 x5_ml0 x5_9).f2), .int .i64 ((rd_T88 x5_ml0 x5_9).f3), .int .i64 ((rd_T88 x5_ml0 x5_9).f4)]) x5_9 0 (some 5) 0 z88 rfl rfl rfl g3 g4 rfl rfl rfl) rfl (xs [] [] rfl rfl rfl (one1 14 rfl rfl (ov (EV.ix 0 rfl rfl rfl g3 g4 rfl) rfl (xs [] [] rfl rfl rfl (one1 15 rfl rfl ?_))))))))
       revert H; refine bdI ?_; intro s12 A12 H; have q12 := stl (Option.some.inj A12)
       refine op_stg x5_9 0 0 z88 (⟨(rd_T88 x5_ml0 (wrap64 (x5_9 - 1))).f0, (rd_T88 x5_ml0 (wrap64 (x5_9 - 1))).f1, (rd_T88 x5_ml0 (wrap64 (x5_9 - 1))).f2, (rd_T88 x5_ml0 (wrap64 (x5_9 - 1))).f3, (rd_T88 x5_ml0 (wrap64 (x5_9 - 1))).f4⟩ : S88) (Option.some.inj A12) rfl rfl rfl rfl g3 g4 rfl rfl rfl rfl dq rfl (rlT 0 (v' := .slice Al0 s12.length cl0) rfl (slq _ _ q12) (rlT 23 (v' := .slice Al0 s12.length cl0) rfl (slq _ _ q12) (rlT 27 (v' := .slice Al0 s12.length cl0) rfl (slq _ _ q12) (rlT 37 (v' := .slice Al0 s12.length cl0) rfl (slq _ _ q12) (rlT 39 (v' := .slice Al0 s12.length cl0) rfl (slq _ _ q12) (rlT 42 (v' := .slice Al0 s12.length cl0) rfl (slq _ _ q12) (rlT 47 (v' := .slice Al0 s12.length cl0) rfl (slq _ _ q12) (nmE (en := [.sl 1 k88 Al0 cl0 s12 1 true]) (by kernel_rfl) (xs [] [] rfl rfl rfl (one1 16 rfl rfl ?_))))))))))
       revert H; refine ggI ?_; intro g13 H
       refine ov (EV.ix 0 rfl rfl rfl g5 g13 rfl) rfl (xn rfl (one1 17 rfl rfl ?_))
       revert H; refine bdI ?_; intro s14 A14 H; have q14 := stl (Option.some.inj A14)
       exact op_stg (wrap64 (x5_9 - 1)) 0 0 z88 (⟨(rd_T88 x5_ml0 x5_9).f0, (rd_T88 x5_ml0 x5_9).f1, (rd_T88 x5_ml0 x5_9).f2, (rd_T88 x5_ml0 x5_9).f3, (rd_T88 x5_ml0 x5_9).f4⟩ : S88) (Option.some.inj A14) rfl rfl rfl rfl g5 g13 rfl rfl rfl rfl dq rfl (rlT 0 (v' := .slice Al0 s14.length cl0) rfl (slq _ _ q14) (rlT 23 (v' := .slice Al0 s14.length cl0) rfl (slq _ _ q14) (rlT 27 (v' := .slice Al0 s14.length cl0) rfl (slq _ _ q14) (rlT 37 (v' := .slice Al0 s14.length cl0) rfl (slq _ _ q14) (rlT 39 (v' := .slice Al0 s14.length cl0) rfl (slq _ _ q14) (rlT 42 (v' := .slice Al0 s14.length cl0) rfl (slq _ _ q14) (rlT 47 (v' := .slice Al0 s14.length cl0) rfl (slq _ _ q14) (nmE (en := [.sl 1 k88 Al0 cl0 s14 1 true]) (by kernel_rfl) (xn rfl (xd (pr [0, 1, 2, 3, 8, 9, 22, 23, 24, 26, 27, 28, 29, 31, 32, 33] [] [0] rfl rfl rfl rfl (ge (rg (sv (EV.mv rfl) rfl (sv (EV.sub rfl rfl) rfl (sv (EV.as rfl) rfl (re (wk [0, 1, 2, 3, 8, 9] [] [⟨0, 1, 1, false⟩] (ih1 _ (by omega) _ ⟨s14, x5_1, x5_2, x5_8, wrap64 (x5_9 - 1), by omega, H, (by first | rfl | assumption | omega | (simp only [List.length_set]; first | done | assumption | omega)), rfl⟩)))))))))))))))))))
      ·
       refine ov (EV.le (v := .agg #[.int .i64 ((rd_T88 x5_ml0 x5_9).f0), .int .i64 ((rd_T88 x5_ml0 x5_9).f1), .int .i64 ((rd_T88 x5_ml0 x5_9).f2), .int .i64 ((rd_T88 x5_ml0 x5_9).f3), .int .i64 ((rd_T88 x5_ml0 x5_9).f4)]) x5_9 0 (some 5) 0 z88 rfl rfl rfl g3 g4 rfl rfl rfl) rfl (xs [] [] rfl rfl rfl (one1 9 rfl rfl (ov (EV.le (v := .agg #[.int .i64 ((rd_T88 x5_ml0 (wrap64 (x5_9 - 1))).f0), .int .i64 ((rd_T88 x5_ml0 (wrap64 (x5_9 - 1))).f1), .int .i64 ((rd_T88 x5_ml0 (wrap64 (x5_9 - 1))).f2), .int .i64 ((rd_T88 x5_ml0 (wrap64 (x5_9 - 1))).f3), .int .i64 ((rd_T88 x5_ml0 (wrap64 (x5_9 - 1))).f4)]) (wrap64 (x5_9 - 1)) 0 (some 5) 0 z88 rfl rfl rfl g5 g6 rfl rfl rfl) rfl (xs [] [] rfl rfl rfl (one1 14 rfl rfl (ov (EV.ix 0 rfl rfl rfl g3 g4 rfl) rfl (xs [] [] rfl rfl rfl (one1 15 rfl rfl ?_))))))))
       revert H; refine bdI ?_; intro s15 A15 H; have q15 := stl (Option.some.inj A15)
       refine op_stg x5_9 0 0 z88 (⟨(rd_T88 x5_ml0 (wrap64 (x5_9 - 1))).f0, (rd_T88 x5_ml0 (wrap64 (x5_9 - 1))).f1, (rd_T88 x5_ml0 (wrap64 (x5_9 - 1))).f2, (rd_T88 x5_ml0 (wrap64 (x5_9 - 1))).f3, (rd_T88 x5_ml0 (wrap64 (x5_9 - 1))).f4⟩ : S88) (Option.some.inj A15) rfl rfl rfl rfl g3 g4 rfl rfl rfl rfl dq rfl (rlT 0 (v' := .slice Al0 s15.length cl0) rfl (slq _ _ q15) (rlT 23 (v' := .slice Al0 s15.length cl0) rfl (slq _ _ q15) (rlT 27 (v' := .slice Al0 s15.length cl0) rfl (slq _ _ q15) (rlT 37 (v' := .slice Al0 s15.length cl0) rfl (slq _ _ q15) (rlT 39 (v' := .slice Al0 s15.length cl0) rfl (slq _ _ q15) (rlT 42 (v' := .slice Al0 s15.length cl0) rfl (slq _ _ q15) (rlT 47 (v' := .slice Al0 s15.length cl0) rfl (slq _ _ q15) (nmE (en := [.sl 1 k88 Al0 cl0 s15 1 true]) (by kernel_rfl) (xs [] [] rfl rfl rfl (one1 16 rfl rfl ?_))))))))))
       revert H; refine ggI ?_; intro g16 H
       refine ov (EV.ix 0 rfl rfl rfl g5 g16 rfl) rfl (xn rfl (one1 17 rfl rfl ?_))
       revert H; refine bdI ?_; intro s17 A17 H; have q17 := stl (Option.some.inj A17)
       exact op_stg (wrap64 (x5_9 - 1)) 0 0 z88 (⟨(rd_T88 x5_ml0 x5_9).f0, (rd_T88 x5_ml0 x5_9).f1, (rd_T88 x5_ml0 x5_9).f2, (rd_T88 x5_ml0 x5_9).f3, (rd_T88 x5_ml0 x5_9).f4⟩ : S88) (Option.some.inj A17) rfl rfl rfl rfl g5 g16 rfl rfl rfl rfl dq rfl (rlT 0 (v' := .slice Al0 s17.length cl0) rfl (slq _ _ q17) (rlT 23 (v' := .slice Al0 s17.length cl0) rfl (slq _ _ q17) (rlT 27 (v' := .slice Al0 s17.length cl0) rfl (slq _ _ q17) (rlT 37 (v' := .slice Al0 s17.length cl0) rfl (slq _ _ q17) (rlT 39 (v' := .slice Al0 s17.length cl0) rfl (slq _ _ q17) (rlT 42 (v' := .slice Al0 s17.length cl0) rfl (slq _ _ q17) (rlT 47 (v' := .slice Al0 s17.length cl0) rfl (slq _ _ q17) (nmE (en := [.sl 1 k88 Al0 cl0 s17 1 true]) (by kernel_rfl) (xn rfl (xd (pr [0, 1, 2, 3, 8, 9, 22, 23, 24, 26, 27, 28, 29, 31, 32, 33] [] [0] rfl rfl rfl rfl (ge (rg (sv (EV.mv rfl) rfl (sv (EV.sub rfl rfl) rfl (sv (EV.as rfl) rfl (re (wk [0, 1, 2, 3, 8, 9] [] [⟨0, 1, 1, false⟩] (ih1 _ (by omega) _ ⟨s17, x5_1, x5_2, x5_8, wrap64 (x5_9 - 1), by omega, H, (by first | rfl | assumption | omega | (simp only [List.length_set]; first | done | assumption | omega)), rfl⟩)))))))))))))))))))
    ·
     refine ov (EV.ix 0 rfl rfl rfl g3 g4 rfl) rfl (xs [] [] rfl rfl rfl ?_)
     refine one2 8 13 rfl rfl rfl rfl ?_ ?_
     ·
      refine ov (EV.ix 0 rfl rfl rfl g5 g6 rfl) rfl (xs [] [] rfl rfl rfl ?_)
      refine one2 9 13 rfl rfl rfl rfl ?_ ?_
      ·
       refine ov (EV.le (v := .agg #[.int .i64 ((rd_T88 x5_ml0 (wrap64 (x5_9 - 1))).f0), .int .i64 ((rd_T88 x5_ml0 (wrap64 (x5_9 - 1))).f1), .int .i64 ((rd_T88 x5_ml0 (wrap64 (x5_9 - 1))).f2), .int .i64 ((rd_T88 x5_ml0 (wrap64 (x5_9 - 1))).f3), .int .i64 ((rd_T88 x5_ml0 (wrap64 (x5_9 - 1))).f4)]) (wrap64 (x5_9 - 1)) 0 (some 5) 0 z88 rfl rfl rfl g5 g6 rfl rfl rfl) rfl (xs [] [] rfl rfl rfl (one1 13 rfl rfl (ov (EV.le (v := .agg #[.int .i64 ((rd_T88 x5_ml0 x5_9).f0), .int .i64 ((rd_T88 x5_ml0 x5_9).f1), .int .i64 ((rd_T88 x5_ml0 x5_9).f2), .int .i64 ((rd_T88 x5_ml0 x5_9).f3), .int .i64 ((rd_T88 x5_ml0 x5_9).f4)]) x5_9 0 (some 5) 0 z88 rfl rfl rfl g3 g4 rfl rfl rfl) rfl (xs [] [] rfl rfl rfl (one1 14 rfl rfl (ov (EV.ix 0 rfl rfl rfl g3 g4 rfl) rfl (xs [] [] rfl rfl rfl (one1 15 rfl rfl ?_))))))))
       revert H; refine bdI ?_; intro s18 A18 H; have q18 := stl (Option.some.inj A18)
       refine op_stg x5_9 0 0 z88 (⟨(rd_T88 x5_ml0 (wrap64 (x5_9 - 1))).f0, (rd_T88 x5_ml0 (wrap64 (x5_9 - 1))).f1, (rd_T88 x5_ml0 (wrap64 (x5_9 - 1))).f2, (rd_T88 x5_ml0 (wrap64 (x5_9 - 1))).f3, (rd_T88 x5_ml0 (wrap64 (x5_9 - 1))).f4⟩ : S88) (Option.some.inj A18) rfl rfl rfl rfl g3 g4 rfl rfl rfl rfl dq rfl (rlT 0 (v' := .slice Al0 s18.length cl0) rfl (slq _ _ q18) (rlT 23 (v' := .slice Al0 s18.length cl0) rfl (slq _ _ q18) (rlT 27 (v' := .slice Al0 s18.length cl0) rfl (slq _ _ q18) (rlT 37 (v' := .slice Al0 s18.length cl0) rfl (slq _ _ q18) (rlT 39 (v' := .slice Al0 s18.length cl0) rfl (slq _ _ q18) (rlT 42 (v' := .slice Al0 s18.length cl0) rfl (slq _ _ q18) (rlT 47 (v' := .slice Al0 s18.length cl0) rfl (slq _ _ q18) (nmE (en := [.sl 1 k88 Al0 cl0 s18 1 true]) (by kernel_rfl) (xs [] [] rfl rfl rfl (one1 16 rfl rfl ?_))))))))))
       revert H; refine ggI ?_; intro g19 H
       refine ov (EV.ix 0 rfl rfl rfl g5 g19 rfl) rfl (xn rfl (one1 17 rfl rfl ?_))
       revert H; refine bdI ?_; intro s20 A20 H; have q20 := stl (Option.some.inj A20)
       exact op_stg (wrap64 (x5_9 - 1)) 0 0 z88 (⟨(rd_T88 x5_ml0 x5_9).f0, (rd_T88 x5_ml0 x5_9).f1, (rd_T88 x5_ml0 x5_9).f2, (rd_T88 x5_ml0 x5_9).f3, (rd_T88 x5_ml0 x5_9).f4⟩ : S88) (Option.some.inj A20) rfl rfl rfl rfl g5 g19 rfl rfl rfl rfl dq rfl (rlT 0 (v' := .slice Al0 s20.length cl0) rfl (slq _ _ q20) (rlT 23 (v' := .slice Al0 s20.length cl0) rfl (slq _ _ q20) (rlT 27 (v' := .slice Al0 s20.length cl0) rfl (slq _ _ q20) (rlT 37 (v' := .slice Al0 s20.length cl0) rfl (slq _ _ q20) (rlT 39 (v' := .slice Al0 s20.length cl0) rfl (slq _ _ q20) (rlT 42 (v' := .slice Al0 s20.length cl0) rfl (slq _ _ q20) (rlT 47 (v' := .slice Al0 s20.length cl0) rfl (slq _ _ q20) (nmE (en := [.sl 1 k88 Al0 cl0 s20 1 true]) (by kernel_rfl) (xn rfl (xd (pr [0, 1, 2, 3, 8, 9, 22, 23, 24, 26, 27, 28, 29, 31, 32, 33] [] [0] rfl rfl rfl rfl (ge (rg (sv (EV.mv rfl) rfl (sv (EV.sub rfl rfl) rfl (sv (EV.as rfl) rfl (re (wk [0, 1, 2, 3, 8, 9] [] [⟨0, 1, 1, false⟩] (ih1 _ (by omega) _ ⟨s20, x5_1, x5_2, x5_8, wrap64 (x5_9 - 1), by omega, H, (by first | rfl | assumption | omega | (simp only [List.length_set]; first | done | assumption | omega)), rfl⟩)))))))))))))))))))
      ·
       refine ov (EV.le (v := .agg #[.int .i64 ((rd_T88 x5_ml0 x5_9).f0), .int .i64 ((rd_T88 x5_ml0 x5_9).f1), .int .i64 ((rd_T88 x5_ml0 x5_9).f2), .int .i64 ((rd_T88 x5_ml0 x5_9).f3), .int .i64 ((rd_T88 x5_ml0 x5_9).f4)]) x5_9 0 (some 5) 0 z88 rfl rfl rfl g3 g4 rfl rfl rfl) rfl (xs [] [] rfl rfl rfl (one1 9 rfl rfl (ov (EV.le (v := .agg #[.int .i64 ((rd_T88 x5_ml0 (wrap64 (x5_9 - 1))).f0), .int .i64 ((rd_T88 x5_ml0 (wrap64 (x5_9 - 1))).f1), .int .i64 ((rd_T88 x5_ml0 (wrap64 (x5_9 - 1))).f2), .int .i64 ((rd_T88 x5_ml0 (wrap64 (x5_9 - 1))).f3), .int .i64 ((rd_T88 x5_ml0 (wrap64 (x5_9 - 1))).f4)]) (wrap64 (x5_9 - 1)) 0 (some 5) 0 z88 rfl rfl rfl g5 g6 rfl rfl rfl) rfl (xs [] [] rfl rfl rfl (one1 14 rfl rfl (ov (EV.ix 0 rfl rfl rfl g3 g4 rfl) rfl (xs [] [] rfl rfl rfl (one1 15 rfl rfl ?_))))))))
       revert H; refine bdI ?_; intro s21 A21 H; have q21 := stl (Option.some.inj A21)
       refine op_stg x5_9 0 0 z88 (⟨(rd_T88 x5_ml0 (wrap64 (x5_9 - 1))).f0, (rd_T88 x5_ml0 (wrap64 (x5_9 - 1))).f1, (rd_T88 x5_ml0 (wrap64 (x5_9 - 1))).f2, (rd_T88 x5_ml0 (wrap64 (x5_9 - 1))).f3, (rd_T88 x5_ml0 (wrap64 (x5_9 - 1))).f4⟩ : S88) (Option.some.inj A21) rfl rfl rfl rfl g3 g4 rfl rfl rfl rfl dq rfl (rlT 0 (v' := .slice Al0 s21.length cl0) rfl (slq _ _ q21) (rlT 23 (v' := .slice Al0 s21.length cl0) rfl (slq _ _ q21) (rlT 27 (v' := .slice Al0 s21.length cl0) rfl (slq _ _ q21) (rlT 37 (v' := .slice Al0 s21.length cl0) rfl (slq _ _ q21) (rlT 39 (v' := .slice Al0 s21.length cl0) rfl (slq _ _ q21) (rlT 42 (v' := .slice Al0 s21.length cl0) rfl (slq _ _ q21) (rlT 47 (v' := .slice Al0 s21.length cl0) rfl (slq _ _ q21) (nmE (en := [.sl 1 k88 Al0 cl0 s21 1 true]) (by kernel_rfl) (xs [] [] rfl rfl rfl (one1 16 rfl rfl ?_))))))))))
       revert H; refine ggI ?_; intro g22 H
       refine ov (EV.ix 0 rfl rfl rfl g5 g22 rfl) rfl (xn rfl (one1 17 rfl rfl ?_))
       revert H; refine bdI ?_; intro s23 A23 H; have q23 := stl (Option.some.inj A23)
       exact op_stg (wrap64 (x5_9 - 1)) 0 0 z88 (⟨(rd_T88 x5_ml0 x5_9).f0, (rd_T88 x5_ml0 x5_9).f1, (rd_T88 x5_ml0 x5_9).f2, (rd_T88 x5_ml0 x5_9).f3, (rd_T88 x5_ml0 x5_9).f4⟩ : S88) (Option.some.inj A23) rfl rfl rfl rfl g5 g22 rfl rfl rfl rfl dq rfl (rlT 0 (v' := .slice Al0 s23.length cl0) rfl (slq _ _ q23) (rlT 23 (v' := .slice Al0 s23.length cl0) rfl (slq _ _ q23) (rlT 27 (v' := .slice Al0 s23.length cl0) rfl (slq _ _ q23) (rlT 37 (v' := .slice Al0 s23.length cl0) rfl (slq _ _ q23) (rlT 39 (v' := .slice Al0 s23.length cl0) rfl (slq _ _ q23) (rlT 42 (v' := .slice Al0 s23.length cl0) rfl (slq _ _ q23) (rlT 47 (v' := .slice Al0 s23.length cl0) rfl (slq _ _ q23) (nmE (en := [.sl 1 k88 Al0 cl0 s23 1 true]) (by kernel_rfl) (xn rfl (xd (pr [0, 1, 2, 3, 8, 9, 22, 23, 24, 26, 27, 28, 29, 31, 32, 33] [] [0] rfl rfl rfl rfl (ge (rg (sv (EV.mv rfl) rfl (sv (EV.sub rfl rfl) rfl (sv (EV.as rfl) rfl (re (wk [0, 1, 2, 3, 8, 9] [] [⟨0, 1, 1, false⟩] (ih1 _ (by omega) _ ⟨s23, x5_1, x5_2, x5_8, wrap64 (x5_9 - 1), by omega, H, (by first | rfl | assumption | omega | (simp only [List.length_set]; first | done | assumption | omega)), rfl⟩)))))))))))))))))))
     ·
      refine ov (EV.le (v := .agg #[.int .i64 ((rd_T88 x5_ml0 x5_9).f0), .int .i64 ((rd_T88 x5_ml0 x5_9).f1), .int .i64 ((rd_T88 x5_ml0 x5_9).f2), .int .i64 ((rd_T88 x5_ml0 x5_9).f3), .int .i64 ((rd_T88 x5_ml0 x5_9).f4)]) x5_9 0 (some 5) 0 z88 rfl rfl rfl g3 g4 rfl rfl rfl) rfl (xs [] [] rfl rfl rfl (one1 8 rfl rfl (ov (EV.ix 0 rfl rfl rfl g5 g6 rfl) rfl (xs [] [] rfl rfl rfl (one1 9 rfl rfl (ov (EV.le (v := .agg #[.int .i64 ((rd_T88 x5_ml0 (wrap64 (x5_9 - 1))).f0), .int .i64 ((rd_T88 x5_ml0 (wrap64 (x5_9 - 1))).f1), .int .i64 ((rd_T88 x5_ml0 (wrap64 (x5_9 - 1))).f2), .int .i64 ((rd_T88 x5_ml0 (wrap64 (x5_9 - 1))).f3), .int .i64 ((rd_T88 x5_ml0 (wrap64 (x5_9 - 1))).f4)]) (wrap64 (x5_9 - 1)) 0 (some 5) 0 z88 rfl rfl rfl g5 g6 rfl rfl rfl) rfl (xs [] [] rfl rfl rfl (one1 14 rfl rfl (ov (EV.ix 0 rfl rfl rfl g3 g4 rfl) rfl (xs [] [] rfl rfl rfl (one1 15 rfl rfl ?_)))))))))))
      revert H; refine bdI ?_; intro s24 A24 H; have q24 := stl (Option.some.inj A24)
      refine op_stg x5_9 0 0 z88 (⟨(rd_T88 x5_ml0 (wrap64 (x5_9 - 1))).f0, (rd_T88 x5_ml0 (wrap64 (x5_9 - 1))).f1, (rd_T88 x5_ml0 (wrap64 (x5_9 - 1))).f2, (rd_T88 x5_ml0 (wrap64 (x5_9 - 1))).f3, (rd_T88 x5_ml0 (wrap64 (x5_9 - 1))).f4⟩ : S88) (Option.some.inj A24) rfl rfl rfl rfl g3 g4 rfl rfl rfl rfl dq rfl (rlT 0 (v' := .slice Al0 s24.length cl0) rfl (slq _ _ q24) (rlT 23 (v' := .slice Al0 s24.length cl0) rfl (slq _ _ q24) (rlT 27 (v' := .slice Al0 s24.length cl0) rfl (slq _ _ q24) (rlT 37 (v' := .slice Al0 s24.length cl0) rfl (slq _ _ q24) (rlT 39 (v' := .slice Al0 s24.length cl0) rfl (slq _ _ q24) (rlT 42 (v' := .slice Al0 s24.length cl0) rfl (slq _ _ q24) (rlT 47 (v' := .slice Al0 s24.length cl0) rfl (slq _ _ q24) (nmE (en := [.sl 1 k88 Al0 cl0 s24 1 true]) (by kernel_rfl) (xs [] [] rfl rfl rfl (one1 16 rfl rfl ?_))))))))))
      revert H; refine ggI ?_; intro g25 H
      refine ov (EV.ix 0 rfl rfl rfl g5 g25 rfl) rfl (xn rfl (one1 17 rfl rfl ?_))
      revert H; refine bdI ?_; intro s26 A26 H; have q26 := stl (Option.some.inj A26)
      exact op_stg (wrap64 (x5_9 - 1)) 0 0 z88 (⟨(rd_T88 x5_ml0 x5_9).f0, (rd_T88 x5_ml0 x5_9).f1, (rd_T88 x5_ml0 x5_9).f2, (rd_T88 x5_ml0 x5_9).f3, (rd_T88 x5_ml0 x5_9).f4⟩ : S88) (Option.some.inj A26) rfl rfl rfl rfl g5 g25 rfl rfl rfl rfl dq rfl (rlT 0 (v' := .slice Al0 s26.length cl0) rfl (slq _ _ q26) (rlT 23 (v' := .slice Al0 s26.length cl0) rfl (slq _ _ q26) (rlT 27 (v' := .slice Al0 s26.length cl0) rfl (slq _ _ q26) (rlT 37 (v' := .slice Al0 s26.length cl0) rfl (slq _ _ q26) (rlT 39 (v' := .slice Al0 s26.length cl0) rfl (slq _ _ q26) (rlT 42 (v' := .slice Al0 s26.length cl0) rfl (slq _ _ q26) (rlT 47 (v' := .slice Al0 s26.length cl0) rfl (slq _ _ q26) (nmE (en := [.sl 1 k88 Al0 cl0 s26 1 true]) (by kernel_rfl) (xn rfl (xd (pr [0, 1, 2, 3, 8, 9, 22, 23, 24, 26, 27, 28, 29, 31, 32, 33] [] [0] rfl rfl rfl rfl (ge (rg (sv (EV.mv rfl) rfl (sv (EV.sub rfl rfl) rfl (sv (EV.as rfl) rfl (re (wk [0, 1, 2, 3, 8, 9] [] [⟨0, 1, 1, false⟩] (ih1 _ (by omega) _ ⟨s26, x5_1, x5_2, x5_8, wrap64 (x5_9 - 1), by omega, H, (by first | rfl | assumption | omega | (simp only [List.length_set]; first | done | assumption | omega)), rfl⟩)))))))))))))))))))
   ·
    exact gf rfl (dF c8) (gx rfl (ge (rg (sv (EV.mv rfl) rfl (sv (EV.add rfl rfl) rfl (sv (EV.as rfl) rfl (re (pr [0, 1, 2, 3, 8, 22, 23, 24, 25, 26, 27, 28, 29, 30, 31, 32, 33] [] [0] rfl rfl rfl rfl (wk [0, 1, 2, 3, 8] [] [⟨0, 1, 1, false⟩] (ih0 _ (by omega) _ ⟨x5_ml0, x5_1, x5_2, wrap64 (x5_8 + 1), H, (by first | rfl | assumption | omega | (simp only [List.length_set]; first | done | assumption | omega)), rfl⟩))))))))))
  ·
   exact ts 21 rfl (dF c2) (xk 4 [] [0] rfl rfl rfl rfl rfl (xk 5 [] [0] rfl rfl rfl rfl rfl (xk 6 [] [0] rfl rfl rfl rfl rfl (xk 7 [] [0] rfl rfl rfl rfl rfl (xk 8 [] [0] rfl rfl rfl rfl rfl (xk 9 [] [0] rfl rfl rfl rfl rfl (xk 10 [] [0] rfl rfl rfl rfl rfl (xk 11 [] [0] rfl rfl rfl rfl rfl (xk 12 [] [0] rfl rfl rfl rfl rfl (xk 13 [] [0] rfl rfl rfl rfl rfl (xk 14 [] [0] rfl rfl rfl rfl rfl (xk 15 [] [0] rfl rfl rfl rfl rfl (xv 16 [] [0] rfl (EV.pf rfl rfl rfl) rfl rfl rfl rfl (xd (pr [0, 1, 2, 3, 8, 9, 34] [] [0] rfl rfl rfl rfl (gf rfl rfl (gx rfl (ge (rg (sv (EV.mv rfl) rfl (sv (EV.add rfl rfl) rfl (sv (EV.as rfl) rfl (re (wk [0, 1, 2, 3, 8] [] [⟨0, 1, 1, false⟩] (ih0 _ (by omega) _ ⟨x5_ml0, x5_1, x5_2, wrap64 (x5_8 + 1), H, (by first | rfl | assumption | omega | (simp only [List.length_set]; first | done | assumption | omega)), rfl⟩)))))))))))))))))))))))))
 ·
  refine gf rfl (dF c1) (gx rfl ?_)
  cases H
  exact rt0 Try.func104 rfl .nil rfl [] [⟨0, 1, 1, false⟩] rfl rfl rfl rfl rfl ⟨rfl, rfl, rfl, by first | rfl | assumption | omega | (simp only [List.length_set]; first | done | assumption | omega)⟩
mutual
def slices_siftDownCmpFunc_impl_Group_at93.j0 : Nat → (List S88) → Int → Int → Int → Int → Option ((List S88))
 | 0, _, _, _, _, _ => none
 | k + 1, x3_ml0, x3_2, x3_3, x3_10, x3_11 => if 0 ≤ (wrap64 (x3_3 + x3_10)) then (if (wrap64 (x3_3 + x3_10)) < (x3_ml0.length : Int) then (if 0 ≤ (wrap64 (x3_3 + x3_11)) then (if (wrap64 (x3_3 + x3_11)) < (x3_ml0.length : Int) then ((impl_MergeGroups_1.f ((rd_T88 x3_ml0 (wrap64 (x3_3 + x3_10))).f0) ((rd_T88 x3_ml0 (wrap64 (x3_3 + x3_10))).f1) ((rd_T88 x3_ml0 (wrap64 (x3_3 + x3_10))).f2) ((rd_T88 x3_ml0 (wrap64 (x3_3 + x3_10))).f3) ((rd_T88 x3_ml0 (wrap64 (x3_3 + x3_10))).f4) ((rd_T88 x3_ml0 (wrap64 (x3_3 + x3_11))).f0) ((rd_T88 x3_ml0 (wrap64 (x3_3 + x3_11))).f1) ((rd_T88 x3_ml0 (wrap64 (x3_3 + x3_11))).f2) ((rd_T88 x3_ml0 (wrap64 (x3_3 + x3_11))).f3) ((rd_T88 x3_ml0 (wrap64 (x3_3 + x3_11))).f4)).bind fun t7 => (if t7 < 0 then ((some (x3_ml0.set (wrap64 (x3_3 + x3_10)).toNat (⟨(rd_T88 x3_ml0 (wrap64 (x3_3 + x3_11))).f0, (rd_T88 x3_ml0 (wrap64 (x3_3 + x3_11))).f1, (rd_T88 x3_ml0 (wrap64 (x3_3 + x3_11))).f2, (rd_T88 x3_ml0 (wrap64 (x3_3 + x3_11))).f3, (rd_T88 x3_ml0 (wrap64 (x3_3 + x3_11))).f4⟩ : S88))).bind fun s9 => (if (wrap64 (x3_3 + x3_11)) < (s9.length : Int) then ((some (s9.set (wrap64 (x3_3 + x3_11)).toNat (⟨(rd_T88 x3_ml0 (wrap64 (x3_3 + x3_10))).f0, (rd_T88 x3_ml0 (wrap64 (x3_3 + x3_10))).f1, (rd_T88 x3_ml0 (wrap64 (x3_3 + x3_10))).f2, (rd_T88 x3_ml0 (wrap64 (x3_3 + x3_10))).f3, (rd_T88 x3_ml0 (wrap64 (x3_3 + x3_10))).f4⟩ : S88))).bind fun s11 => (slices_siftDownCmpFunc_impl_Group_at93.l0 k s11 x3_2 x3_3 x3_11)) else none)) else (some x3_ml0))) else none) else none) else none) else none
def slices_siftDownCmpFunc_impl_Group_at93.l0 : Nat → (List S88) → Int → Int → Int → Option ((List S88))
 | 0, _, _, _, _ => none
 | k + 1, x1_ml0, x1_2, x1_3, x1_10 => if (wrap64 ((wrap64 (2 * x1_10)) + 1)) ≥ x1_2 then (some x1_ml0) else (if (wrap64 ((wrap64 ((wrap64 (2 * x1_10)) + 1)) + 1)) < x1_2 then (if 0 ≤ (wrap64 (x1_3 + (wrap64 ((wrap64 (2 * x1_10)) + 1)))) then (if (wrap64 (x1_3 + (wrap64 ((wrap64 (2 * x1_10)) + 1)))) < (x1_ml0.length : Int) then (if 0 ≤ (wrap64 ((wrap64 (x1_3 + (wrap64 ((wrap64 (2 * x1_10)) + 1)))) + 1)) then (if (wrap64 ((wrap64 (x1_3 + (wrap64 ((wrap64 (2 * x1_10)) + 1)))) + 1)) < (x1_ml0.length : Int) then ((impl_MergeGroups_1.f ((rd_T88 x1_ml0 (wrap64 (x1_3 + (wrap64 ((wrap64 (2 * x1_10)) + 1))))).f0) ((rd_T88 x1_ml0 (wrap64 (x1_3 + (wrap64 ((wrap64 (2 * x1_10)) + 1))))).f1) ((rd_T88 x1_ml0 (wrap64 (x1_3 + (wrap64 ((wrap64 (2 * x1_10)) + 1))))).f2) ((rd_T88 x1_ml0 (wrap64 (x1_3 + (wrap64 ((wrap64 (2 * x1_10)) + 1))))).f3) ((rd_T88 x1_ml0 (wrap64 (x1_3 + (wrap64 ((wrap64 (2 * x1_10)) + 1))))).f4) ((rd_T88 x1_ml0 (wrap64 ((wrap64 (x1_3 + (wrap64 ((wrap64 (2 * x1_10)) + 1)))) + 1))).f0) ((rd_T88 x1_ml0 (wrap64 ((wrap64 (x1_3 + (wrap64 ((wrap64 (2 * x1_10)) + 1)))) + 1))).f1) ((rd_T88 x1_ml0 (wrap64 ((wrap64 (x1_3 + (wrap64 ((wrap64 (2 * x1_10)) + 1)))) + 1))).f2) ((rd_T88 x1_ml0 (wrap64 ((wrap64 (x1_3 + (wrap64 ((wrap64 (2 * x1_10)) + 1)))) + 1))).f3) ((rd_T88 x1_ml0 (wrap64 ((wrap64 (x1_3 + (wrap64 ((wrap64 (2 * x1_10)) + 1)))) + 1))).f4)).bind fun t32 => (if t32 < 0 then (slices_siftDownCmpFunc_impl_Group_at93.j0 k x1_ml0 x1_2 x1_3 x1_10 (wrap64 ((wrap64 ((wrap64 (2 * x1_10)) + 1)) + 1))) else (slices_siftDownCmpFunc_impl_Group_at93.j0 k x1_ml0 x1_2 x1_3 x1_10 (wrap64 ((wrap64 (2 * x1_10)) + 1))))) else none) else none) else none) else none) else (slices_siftDownCmpFunc_impl_Group_at93.j0 k x1_ml0 x1_2 x1_3 x1_10 (wrap64 ((wrap64 (2 * x1_10)) + 1))))
end
def slices_siftDownCmpFunc_impl_Group_at93.f (k : Nat) (l0 : List S88) (a1 : Int) (a2 : Int) (a3 : Int) : Option ((List S88)) := slices_siftDownCmpFunc_impl_Group_at93.l0 k l0 a2 a3 a1
set_option maxHeartbeats 4000000 in
set_option maxRecDepth 100000 in
theorem slices_siftDownCmpFunc_impl_Group_at93.ok (k : Nat) (l0 : List S88) (Al0 : Option Addr) (cl0 : Nat) (a1 : Int) (a2 : Int) (a3 : Int) (r0 : List S88) (H : slices_siftDownCmpFunc_impl_Group_at93.f k l0 a1 a2 a3 = some r0) : Fn Try.prog 114 [.slice Al0 l0.length cl0, .int .i64 a1, .int .i64 a2, .int .i64 a3, .func (.func 93) #[] #[]] [] [.sl 1 k88 Al0 cl0 l0 1 false] (fun v bx en => v = .tuple #[] ∧ bx = [] ∧ en = [.sl 1 k88 Al0 cl0 r0 1 false] ∧ r0.length = l0.length) := by
 refine fn_ 82 Try.func114 rfl rfl rfl (fun base T w0 => ?_)
 rw [slices_siftDownCmpFunc_impl_Group_at93.f] at H
 refine gs (rg (sv (EV.mv rfl) rfl (sv (EV.as rfl) rfl (re (gb ?_)))))
 refine lo (fun kk S => ∃ (x1_ml0 : List S88) (x1_2 : Int) (x1_3 : Int) (x1_10 : Int), slices_siftDownCmpFunc_impl_Group_at93.l0 kk x1_ml0 x1_2 x1_3 x1_10 = some r0 ∧ x1_ml0.length = l0.length ∧ S = ⟨[(0, .slice Al0 x1_ml0.length cl0), (2, .int .i64 x1_2), (3, .int .i64 x1_3), (4, .func (.func 93) #[] #[]), (10, .int .i64 x1_10)], [], [.sl 1 k88 Al0 cl0 x1_ml0 1 false]⟩) (fun S hS => ?_) (fun n0 ih0 S hS => ?_) ⟨l0, a2, a3, a1, H, (by first | rfl | assumption | omega | (simp only [List.length_set]; first | done | assumption | omega)), rfl⟩ (fun h => wk [0, 2, 3, 4, 10] [] [⟨0, 1, 1, false⟩] h)
 · clear H; obtain ⟨_, _, _, _, H, _⟩ := hS; rw [slices_siftDownCmpFunc_impl_Group_at93.l0] at H; cases H
 clear H
 obtain ⟨x1_ml0, x1_2, x1_3, x1_10, H, ex1_ml0, rfl⟩ := hS
 rw [slices_siftDownCmpFunc_impl_Group_at93.l0] at H
 refine gb (gs (rg (sv (EV.mv rfl) rfl (sv (EV.mul rfl rfl) rfl (sv (EV.add rfl rfl) rfl (sv (EV.as rfl) rfl (re (gs (gs (rg (sv (EV.mv rfl) rfl (sv (EV.mv rfl) rfl (sv (EV.geq rfl rfl) rfl (re ?_))))))))))))))
 revert H; refine ifsI ?_ ?_ <;> intro c1 H
 ·
  refine gt rfl (dT c1) (gx rfl ?_)
  cases H
  exact rt0 Try.func114 rfl .nil rfl [] [⟨0, 1, 1, false⟩] rfl rfl rfl rfl rfl ⟨rfl, rfl, rfl, by first | rfl | assumption | omega | (simp only [List.length_set]; first | done | assumption | omega)⟩
 ·
  refine gf rfl (dF c1) (gk ?_)
  refine jo (fun S => ∃ (m : Nat) (x3_ml0 : List S88) (x3_2 : Int) (x3_3 : Int) (x3_10 : Int) (x3_11 : Int), m ≤ n0 ∧ slices_siftDownCmpFunc_impl_Group_at93.j0 m x3_ml0 x3_2 x3_3 x3_10 x3_11 = some r0 ∧ x3_ml0.length = l0.length ∧ S = ⟨[(0, .slice Al0 x3_ml0.length cl0), (2, .int .i64 x3_2), (3, .int .i64 x3_3), (4, .func (.func 93) #[] #[]), (10, .int .i64 x3_10), (11, .int .i64 x3_11)], [], [.sl 1 k88 Al0 cl0 x3_ml0 1 false]⟩) (fun S hS => ?_) (fun jh0 => ?_)
  ·
   clear H
   obtain ⟨m2, x3_ml0, x3_2, x3_3, x3_10, x3_11, lm2, H, ex3_ml0, rfl⟩ := hS
   rcases m2 with _ | m2
   · rw [slices_siftDownCmpFunc_impl_Group_at93.j0] at H; cases H
   rw [slices_siftDownCmpFunc_impl_Group_at93.j0] at H
   refine gs (gs ?_)
   revert H; refine ggI ?_; intro g3 H
   revert H; refine ggI ?_; intro g4 H
   revert H; refine ggI ?_; intro g5 H
   revert H; refine ggI ?_; intro g6 H
   refine dr [] [0] [] 16 rfl rfl rfl rfl (xv 0 [] [0] rfl (EV.mv rfl) rfl rfl rfl rfl (xv 1 [] [0] rfl (EV.mv rfl) rfl rfl rfl rfl (xv 2 [] [0] rfl (EV.mv rfl) rfl rfl rfl rfl (xv 3 [] [0] rfl (EV.mv rfl) rfl rfl rfl rfl (xv 4 [] [0] rfl (EV.add rfl rfl) rfl rfl rfl rfl (xv 5 [] [0] rfl (EV.ix 0 rfl rfl rfl g3 g4 rfl) rfl rfl rfl rfl (xv 6 [] [0] rfl (EV.le (v := .agg #[.int .i64 ((rd_T88 x3_ml0 (wrap64 (x3_3 + x3_10))).f0), .int .i64 ((rd_T88 x3_ml0 (wrap64 (x3_3 + x3_10))).f1), .int .i64 ((rd_T88 x3_ml0 (wrap64 (x3_3 + x3_10))).f2), .int .i64 ((rd_T88 x3_ml0 (wrap64 (x3_3 + x3_10))).f3), .int .i64 ((rd_T88 x3_ml0 (wrap64 (x3_3 + x3_10))).f4)]) (wrap64 (x3_3 + x3_10)) 0 (some 5) 0 z88 rfl rfl rfl g3 g4 rfl rfl rfl) rfl rfl rfl rfl (xv 7 [] [0] rfl (EV.mv rfl) rfl rfl rfl rfl (xv 8 [] [0] rfl (EV.mv rfl) rfl rfl rfl rfl (xv 9 [] [0] rfl (EV.mv rfl) rfl rfl rfl rfl (xv 10 [] [0] rfl (EV.add rfl rfl) rfl rfl rfl rfl (xv 11 [] [0] rfl (EV.ix 0 rfl rfl rfl g5 g6 rfl) rfl rfl rfl rfl (xv 12 [] [0] rfl (EV.le (v := .agg #[.int .i64 ((rd_T88 x3_ml0 (wrap64 (x3_3 + x3_11))).f0), .int .i64 ((rd_T88 x3_ml0 (wrap64 (x3_3 + x3_11))).f1), .int .i64 ((rd_T88 x3_ml0 (wrap64 (x3_3 + x3_11))).f2), .int .i64 ((rd_T88 x3_ml0 (wrap64 (x3_3 + x3_11))).f3), .int .i64 ((rd_T88 x3_ml0 (wrap64 (x3_3 + x3_11))).f4)]) (wrap64 (x3_3 + x3_11)) 0 (some 5) 0 z88 rfl rfl rfl g5 g6 rfl rfl rfl) rfl rfl rfl rfl (one1 13 rfl rfl ?_))))))))))))))
   revert H; refine bdI ?_; rintro t7 A7 H
   refine cvf (f := 93) rfl (op_call (impl_MergeGroups_1.ok ((rd_T88 x3_ml0 (wrap64 (x3_3 + x3_10))).f0) ((rd_T88 x3_ml0 (wrap64 (x3_3 + x3_10))).f1) ((rd_T88 x3_ml0 (wrap64 (x3_3 + x3_10))).f2) ((rd_T88 x3_ml0 (wrap64 (x3_3 + x3_10))).f3) ((rd_T88 x3_ml0 (wrap64 (x3_3 + x3_10))).f4) ((rd_T88 x3_ml0 (wrap64 (x3_3 + x3_11))).f0) ((rd_T88 x3_ml0 (wrap64 (x3_3 + x3_11))).f1) ((rd_T88 x3_ml0 (wrap64 (x3_3 + x3_11))).f2) ((rd_T88 x3_ml0 (wrap64 (x3_3 + x3_11))).f3) ((rd_T88 x3_ml0 (wrap64 (x3_3 + x3_11))).f4) _ A7) [] 2 rfl rfl rfl rfl rfl ?_)
   rintro _ _ _ ⟨rfl, rfl, rfl⟩
   refine xs [] [0] rfl rfl rfl (xv 14 [] [0] rfl (EV.lss rfl rfl) rfl rfl rfl rfl (xv 15 [] [0] rfl (EV.nt rfl) rfl rfl rfl rfl (xd (pr [0, 2, 3, 4, 10, 11, 58] [] [0] rfl rfl rfl rfl ?_))))
   revert H; refine ifsI ?_ ?_ <;> intro c8 H
   ·
    refine gf rfl (nF c8) (gk (gs (dr [] [] [22, 23] 24 rfl rfl rfl rfl (xv 0 [] [] rfl (EV.mv rfl) rfl rfl rfl rfl (xv 1 [] [] rfl (EV.mv rfl) rfl rfl rfl rfl (xv 2 [] [] rfl (EV.mv rfl) rfl rfl rfl rfl (xv 3 [] [] rfl (EV.add rfl rfl) rfl rfl rfl rfl (xv 4 [] [] rfl (EV.mv rfl) rfl rfl rfl rfl (xv 5 [] [] rfl (EV.mv rfl) rfl rfl rfl rfl (xv 6 [] [] rfl (EV.mv rfl) rfl rfl rfl rfl (xv 7 [] [] rfl (EV.add rfl rfl) rfl rfl rfl rfl (xv 8 [] [] rfl (EV.mv rfl) rfl rfl rfl rfl (xv 9 [] [] rfl (EV.mv rfl) rfl rfl rfl rfl (xv 10 [] [] rfl (EV.mv rfl) rfl rfl rfl rfl (xv 11 [] [] rfl (EV.add rfl rfl) rfl rfl rfl rfl (xv 14 [] [] rfl (EV.mv rfl) rfl rfl rfl rfl (xv 15 [] [] rfl (EV.mv rfl) rfl rfl rfl rfl (xv 16 [] [] rfl (EV.mv rfl) rfl rfl rfl rfl (xv 17 [] [] rfl (EV.add rfl rfl) rfl rfl rfl rfl ?_)))))))))))))))))))
    refine one2 12 18 rfl rfl rfl rfl ?_ ?_
    ·
     refine ov (EV.ix 0 rfl rfl rfl g5 g6 rfl) rfl (xs [] [] rfl rfl rfl ?_)
     refine one2 13 18 rfl rfl rfl rfl ?_ ?_
     ·
      refine ov (EV.le (v := .agg #[.int .i64 ((rd_T88 x3_ml0 (wrap64 (x3_3 + x3_11))).f0), .int .i64 ((rd_T88 x3_ml0 (wrap64 (x3_3 + x3_11))).f1), .int .i64 ((rd_T88 x3_ml0 (wrap64 (x3_3 + x3_11))).f2), .int .i64 ((rd_T88 x3_ml0 (wrap64 (x3_3 + x3_11))).f3), .int .i64 ((rd_T88 x3_ml0 (wrap64 (x3_3 + x3_11))).f4)]) (wrap64 (x3_3 + x3_11)) 0 (some 5) 0 z88 rfl rfl rfl g5 g6 rfl rfl rfl) rfl (xs [] [] rfl rfl rfl (one1 18 rfl rfl (ov (EV.ix 0 rfl rfl rfl g3 g4 rfl) rfl (xs [] [] rfl rfl rfl (one1 19 rfl rfl (ov (EV.le (v := .agg #[.int .i64 ((rd_T88 x3_ml0 (wrap64 (x3_3 + x3_10))).f0), .int .i64 ((rd_T88 x3_ml0 (wrap64 (x3_3 + x3_10))).f1), .int .i64 ((rd_T88 x3_ml0 (wrap64 (x3_3 + x3_10))).f2), .int .i64 ((rd_T88 x3_ml0 (wrap64 (x3_3 + x3_10))).f3), .int .i64 ((rd_T88 x3_ml0 (wrap64 (x3_3 + x3_10))).f4)]) (wrap64 (x3_3 + x3_10)) 0 (some 5) 0 z88 rfl rfl rfl g3 g4 rfl rfl rfl) rfl (xs [] [] rfl rfl rfl (one1 20 rfl rfl (ov (EV.ix 0 rfl rfl rfl g3 g4 rfl) rfl (xs [] [] rfl rfl rfl (one1 21 rfl rfl ?_)))))))))))
      revert H; refine bdI ?_; intro s9 A9 H; have q9 := stl (Option.some.inj A9)
      refine op_stg (wrap64 (x3_3 + x3_10)) 0 0 z88 (⟨(rd_T88 x3_ml0 (wrap64 (x3_3 + x3_11))).f0, (rd_T88 x3_ml0 (wrap64 (x3_3 + x3_11))).f1, (rd_T88 x3_ml0 (wrap64 (x3_3 + x3_11))).f2, (rd_T88 x3_ml0 (wrap64 (x3_3 + x3_11))).f3, (rd_T88 x3_ml0 (wrap64 (x3_3 + x3_11))).f4⟩ : S88) (Option.some.inj A9) rfl rfl rfl rfl g3 g4 rfl rfl rfl rfl dq rfl (rlT 0 (v' := .slice Al0 s9.length cl0) rfl (slq _ _ q9) (rlT 59 (v' := .slice Al0 s9.length cl0) rfl (slq _ _ q9) (rlT 63 (v' := .slice Al0 s9.length cl0) rfl (slq _ _ q9) (rlT 67 (v' := .slice Al0 s9.length cl0) rfl (slq _ _ q9) (rlT 73 (v' := .slice Al0 s9.length cl0) rfl (slq _ _ q9) (nmE (en := [.sl 1 k88 Al0 cl0 s9 1 true]) (by kernel_rfl) (xs [] [] rfl rfl rfl (one1 22 rfl rfl ?_))))))))
      revert H; refine ggI ?_; intro g10 H
      refine ov (EV.ix 0 rfl rfl rfl g5 g10 rfl) rfl (xn rfl (one1 23 rfl rfl ?_))
      revert H; refine bdI ?_; intro s11 A11 H; have q11 := stl (Option.some.inj A11)
      exact op_stg (wrap64 (x3_3 + x3_11)) 0 0 z88 (⟨(rd_T88 x3_ml0 (wrap64 (x3_3 + x3_10))).f0, (rd_T88 x3_ml0 (wrap64 (x3_3 + x3_10))).f1, (rd_T88 x3_ml0 (wrap64 (x3_3 + x3_10))).f2, (rd_T88 x3_ml0 (wrap64 (x3_3 + x3_10))).f3, (rd_T88 x3_ml0 (wrap64 (x3_3 + x3_10))).f4⟩ : S88) (Option.some.inj A11) rfl rfl rfl rfl g5 g10 rfl rfl rfl rfl dq rfl (rlT 0 (v' := .slice Al0 s11.length cl0) rfl (slq _ _ q11) (rlT 59 (v' := .slice Al0 s11.length cl0) rfl (slq _ _ q11) (rlT 63 (v' := .slice Al0 s11.length cl0) rfl (slq _ _ q11) (rlT 67 (v' := .slice Al0 s11.length cl0) rfl (slq _ _ q11) (rlT 73 (v' := .slice Al0 s11.length cl0) rfl (slq _ _ q11) (nmE (en := [.sl 1 k88 Al0 cl0 s11 1 true]) (by kernel_rfl) (xn rfl (xd (pr [0, 2, 3, 4, 11] [] [0] rfl rfl rfl rfl (rg (sv (EV.mv rfl) rfl (sv (EV.as rfl) rfl (re (ge (wk [0, 2, 3, 4, 10] [] [⟨0, 1, 1, false⟩] (ih0 _ (by omega) _ ⟨s11, x3_2, x3_3, x3_11, H, (by first | rfl | assumption | omega | (simp only [List.length_set]; first | done | assumption | omega)), rfl⟩))))))))))))))))
     ·
      refine ov (EV.ix 0 rfl rfl rfl g3 g4 rfl) rfl (xs [] [] rfl rfl rfl ?_)
      refine one2 13 19 rfl rfl rfl rfl ?_ ?_
      ·
       refine ov (EV.le (v := .agg #[.int .i64 ((rd_T88 x3_ml0 (wrap64 (x3_3 + x3_11))).f0), .int .i64 ((rd_T88 x3_ml0 (wrap64 (x3_3 + x3_11))).f1), .int .i64 ((rd_T88 x3_ml0 (wrap64 (x3_3 + x3_11))).f2), .int .i64 ((rd_T88 x3_ml0 (wrap64 (x3_3 + x3_11))).f3), .int .i64 ((rd_T88 x3_ml0 (wrap64 (x3_3 + x3_11))).f4)]) (wrap64 (x3_3 + x3_11)) 0 (some 5) 0 z88 rfl rfl rfl g5 g6 rfl rfl rfl) rfl (xs [] [] rfl rfl rfl (one1 19 rfl rfl (ov (EV.le (v := .agg #[.int .i64 ((rd_T88 x3_ml0 (wrap64 (x3_3 + x3_10))).f0), .int .i64 ((rd_T88 x3_ml0 (wrap64 (x3_3 + x3_10))).f1), .int .i64 ((rd_T88 x3_ml0 (wrap64 (x3_3 + x3_10))).f2), .int .i64 ((rd_T88 x3_ml0 (wrap64 (x3_3 + x3_10))).f3), .int .i64 ((rd_T88 x3_ml0 (wrap64 (x3_3 + x3_10))).f4)]) (wrap64 (x3_3 + x3_10)) 0 (some 5) 0 z88 rfl rfl rfl g3 g4 rfl rfl rfl) rfl (xs [] [] rfl rfl rfl (one1 20 rfl rfl (ov (EV.ix 0 rfl rfl rfl g3 g4 rfl) rfl (xs [] [] rfl rfl rfl (one1 21 rfl rfl ?_))))))))
       revert H; refine bdI ?_; intro s12 A12 H; have q12 := stl (Option.some.inj A12)
       refine op_stg (wrap64 (x3_3 + x3_10)) 0 0 z88 (⟨(rd_T88 x3_ml0 (wrap64 (x3_3 + x3_11))).f0, (rd_T88 x3_ml0 (wrap64 (x3_3 + x3_11))).f1, (rd_T88 x3_ml0 (wrap64 (x3_3 + x3_11))).f2, (rd_T88 x3_ml0 (wrap64 (x3_3 + x3_11))).f3, (rd_T88 x3_ml0 (wrap64 (x3_3 + x3_11))).f4⟩ : S88) (Option.some.inj A12) rfl rfl rfl rfl g3 g4 rfl rfl rfl rfl dq rfl (rlT 0 (v' := .slice Al0 s12.length cl0) rfl (slq _ _ q12) (rlT 59 (v' := .slice Al0 s12.length cl0) rfl (slq _ _ q12) (rlT 63 (v' := .slice Al0 s12.length cl0) rfl (slq _ _ q12) (rlT 67 (v' := .slice Al0 s12.length cl0) rfl (slq _ _ q12) (rlT 73 (v' := .slice Al0 s12.length cl0) rfl (slq _ _ q12) (nmE (en := [.sl 1 k88 Al0 cl0 s12 1 true]) (by kernel_rfl) (xs [] [] rfl rfl rfl (one1 22 rfl rfl ?_))))))))
       revert H; refine ggI ?_; intro g13 H
       refine ov (EV.ix 0 rfl rfl rfl g5 g13 rfl) rfl (xn rfl (one1 23 rfl rfl ?_))
       revert H; refine bdI ?_; intro s14 A14 H; have q14 := stl (Option.some.inj A14)
       exact op_stg (wrap64 (x3_3 + x3_11)) 0 0 z88 (⟨(rd_T88 x3_ml0 (wrap64 (x3_3 + x3_10))).f0, (rd_T88 x3_ml0 (wrap64 (x3_3 + x3_10))).f1, (rd_T88 x3_ml0 (wrap64 (x3_3 + x3_10))).f2, (rd_T88 x3_ml0 (wrap64 (x3_3 + x3_10))).f3, (rd_T88 x3_ml0 (wrap64 (x3_3 + x3_10))).f4⟩ : S88) (Option.some.inj A14) rfl rfl rfl rfl g5 g13 rfl rfl rfl rfl dq rfl (rlT 0 (v' := .slice Al0 s14.length cl0) rfl (slq _ _ q14) (rlT 59 (v' := .slice Al0 s14.length cl0) rfl (slq _ _ q14) (rlT 63 (v' := .slice Al0 s14.length cl0) rfl (slq _ _ q14) (rlT 67 (v' := .slice Al0 s14.length cl0) rfl (slq _ _ q14) (rlT 73 (v' := .slice Al0 s14.length cl0) rfl (slq _ _ q14) (nmE (en := [.sl 1 k88 Al0 cl0 s14 1 true]) (by kernel_rfl) (xn rfl (xd (pr [0, 2, 3, 4, 11] [] [0] rfl rfl rfl rfl (rg (sv (EV.mv rfl) rfl (sv (EV.as rfl) rfl (re (ge (wk [0, 2, 3, 4, 10] [] [⟨0, 1, 1, false⟩] (ih0 _ (by omega) _ ⟨s14, x3_2, x3_3, x3_11, H, (by first | rfl | assumption | omega | (simp only [List.length_set]; first | done | assumption | omega)), rfl⟩))))))))))))))))
      ·
       refine ov (EV.le (v := .agg #[.int .i64 ((rd_T88 x3_ml0 (wrap64 (x3_3 + x3_10))).f0), .int .i64 ((rd_T88 x3_ml0 (wrap64 (x3_3 + x3_10))).f1), .int .i64 ((rd_T88 x3_ml0 (wrap64 (x3_3 + x3_10))).f2), .int .i64 ((rd_T88 x3_ml0 (wrap64 (x3_3 + x3_10))).f3), .int .i64 ((rd_T88 x3_ml0 (wrap64 (x3_3 + x3_10))).f4)]) (wrap64 (x3_3 + x3_10)) 0 (some 5) 0 z88 rfl rfl rfl g3 g4 rfl rfl rfl) rfl (xs [] [] rfl rfl rfl (one1 13 rfl rfl (ov (EV.le (v := .agg #[.int .i64 ((rd_T88 x3_ml0 (wrap64 (x3_3 + x3_11))).f0), .int .i64 ((rd_T88 x3_ml0 (wrap64 (x3_3 + x3_11))).f1), .int .i64 ((rd_T88 x3_ml0 (wrap64 (x3_3 + x3_11))).f2), .int .i64 ((rd_T88 x3_ml0 (wrap64 (x3_3 + x3_11))).f3), .int .i64 ((rd_T88 x3_ml0 (wrap64 (x3_3 + x3_11))).f4)]) (wrap64 (x3_3 + x3_11)) 0 (some 5) 0 z88 rfl rfl rfl g5 g6 rfl rfl rfl) rfl (xs [] [] rfl rfl rfl (one1 20 rfl rfl (ov (EV.ix 0 rfl rfl rfl g3 g4 rfl) rfl (xs [] [] rfl rfl rfl (one1 21 rfl rfl ?_))))))))
       revert H; refine bdI ?_; intro s15 A15 H; have q15 := stl (Option.some.inj A15)
       refine op_stg (wrap64 (x3_3 + x3_10)) 0 0 z88 (⟨(rd_T88 x3_ml0 (wrap64 (x3_3 + x3_11))).f0, (rd_T88 x3_ml0 (wrap64 (x3_3 + x3_11))).f1, (rd_T88 x3_ml0 (wrap64 (x3_3 + x3_11))).f2, (rd_T88 x3_ml0 (wrap64 (x3_3 + x3_11))).f3, (rd_T88 x3_ml0 (wrap64 (x3_3 + x3_11))).f4⟩ : S88) (Option.some.inj A15) rfl rfl rfl rfl g3 g4 rfl rfl rfl rfl dq rfl (rlT 0 (v' := .slice Al0 s15.length cl0) rfl (slq _ _ q15) (rlT 59 (v' := .slice Al0 s15.length cl0) rfl (slq _ _ q15) (rlT 63 (v' := .slice Al0 s15.length cl0) rfl (slq _ _ q15) (rlT 67 (v' := .slice Al0 s15.length cl0) rfl (slq _ _ q15) (rlT 73 (v' := .slice Al0 s15.length cl0) rfl (slq _ _ q15) (nmE (en := [.sl 1 k88 Al0 cl0 s15 1 true]) (by kernel_rfl) (xs [] [] rfl rfl rfl (one1 22 rfl rfl ?_))))))))
       revert H; refine ggI ?_; intro g16 H
       refine ov (EV.ix 0 rfl rfl rfl g5 g16 rfl) rfl (xn rfl (one1 23 rfl rfl ?_))
       revert H; refine bdI ?_; intro s17 A17 H; have q17 := stl (Option.some.inj A17)
       exact op_stg (wrap64 (x3_3 + x3_11)) 0 0 z88 (⟨(rd_T88 x3_ml0 (wrap64 (x3_3 + x3_10))).f0, (rd_T88 x3_ml0 (wrap64 (x3_3 + x3_10))).f1, (rd_T88 x3_ml0 (wrap64 (x3_3 + x3_10))).f2, (rd_T88 x3_ml0 (wrap64 (x3_3 + x3_10))).f3, (rd_T88 x3_ml0 (wrap64 (x3_3 + x3_10))).f4⟩ : S88) (Option.some.inj A17) rfl rfl rfl rfl g5 g16 rfl rfl rfl rfl dq rfl (rlT 0 (v' := .slice Al0 s17.length cl0) rfl (slq _ _ q17) (rlT 59 (v' := .slice Al0 s17.length cl0) rfl (slq _ _ q17) (rlT 63 (v' := .slice Al0 s17.length cl0) rfl (slq _ _ q17) (rlT 67 (v' := .slice Al0 s17.length cl0) rfl (slq _ _ q17) (rlT 73 (v' := .slice Al0 s17.length cl0) rfl (slq _ _ q17) (nmE (en := [.sl 1 k88 Al0 cl0 s17 1 true]) (by kernel_rfl) (xn rfl (xd (pr [0, 2, 3, 4, 11] [] [0] rfl rfl rfl rfl (rg (sv (EV.mv rfl) rfl (sv (EV.as rfl) rfl (re (ge (wk [0, 2, 3, 4, 10] [] [⟨0, 1, 1, false⟩] (ih0 _ (by omega) _ ⟨s17, x3_2, x3_3, x3_11, H, (by first | rfl | assumption | omega | (simp only [List.length_set]; first | done | assumption | omega)), rfl⟩))))))))))))))))
    ·
     refine ov (EV.ix 0 rfl rfl rfl g3 g4 rfl) rfl (xs [] [] rfl rfl rfl ?_)
     refine one2 12 19 rfl rfl rfl rfl ?_ ?_
     ·
      refine ov (EV.ix 0 rfl rfl rfl g5 g6 rfl) rfl (xs [] [] rfl rfl rfl ?_)
      refine one2 13 19 rfl rfl rfl rfl ?_ ?_
      ·
       refine ov (EV.le (v := .agg #[.int .i64 ((rd_T88 x3_ml0 (wrap64 (x3_3 + x3_11))).f0), .int .i64 ((rd_T88 x3_ml0 (wrap64 (x3_3 + x3_11))).f1), .int .i64 ((rd_T88 x3_ml0 (wrap64 (x3_3 + x3_11))).f2), .int .i64 ((rd_T88 x3_ml0 (wrap64 (x3_3 + x3_11))).f3), .int .i64 ((rd_T88 x3_ml0 (wrap64 (x3_3 + x3_11))).f4)]) (wrap64 (x3_3 + x3_11)) 0 (some 5) 0 z88 rfl rfl rfl g5 g6 rfl rfl rfl) rfl (xs [] [] rfl rfl rfl (one1 19 rfl rfl (ov (EV.le (v := .agg #[.int .i64 ((rd_T88 x3_ml0 (wrap64 (x3_3 + x3_10))).f0), .int .i64 ((rd_T88 x3_ml0 (wrap64 (x3_3 + x3_10))).f1), .int .i64 ((rd_T88 x3_ml0 (wrap64 (x3_3 + x3_10))).f2), .int .i64 ((rd_T88 x3_ml0 (wrap64 (x3_3 + x3_10))).f3), .int .i64 ((rd_T88 x3_ml0 (wrap64 (x3_3 + x3_10))).f4)]) (wrap64 (x3_3 + x3_10)) 0 (some 5) 0 z88 rfl rfl rfl g3 g4 rfl rfl rfl) rfl (xs [] [] rfl rfl rfl (one1 20 rfl rfl (ov (EV.ix 0 rfl rfl rfl g3 g4 rfl) rfl (xs [] [] rfl rfl rfl (one1 21 rfl rfl ?_))))))))
       revert H; refine bdI ?_; intro s18 A18 H; have q18 := stl (Option.some.inj A18)
       refine op_stg (wrap64 (x3_3 + x3_10)) 0 0 z88 (⟨(rd_T88 x3_ml0 (wrap64 (x3_3 + x3_11))).f0, (rd_T88 x3_ml0 (wrap64 (x3_3 + x3_11))).f1, (rd_T88 x3_ml0 (wrap64 (x3_3 + x3_11))).f2, (rd_T88 x3_ml0 (wrap64 (x3_3 + x3_11))).f3, (rd_T88 x3_ml0 (wrap64 (x3_3 + x3_11))).f4⟩ : S88) (Option.some.inj A18) rfl rfl rfl rfl g3 g4 rfl rfl rfl rfl dq rfl (rlT 0 (v' := .slice Al0 s18.length cl0) rfl (slq _ _ q18) (rlT 59 (v' := .slice Al0 s18.length cl0) rfl (slq _ _ q18) (rlT 63 (v' := .slice Al0 s18.length cl0) rfl (slq _ _ q18) (rlT 67 (v' := .slice Al0 s18.length cl0) rfl (slq _ _ q18) (rlT 73 (v' := .slice Al0 s18.length cl0) rfl (slq _ _ q18) (nmE (en := [.sl 1 k88 Al0 cl0 s18 1 true]) (by kernel_rfl) (xs [] [] rfl rfl rfl (one1 22 rfl rfl ?_))))))))
       revert H; refine ggI ?_; intro g19 H
       refine ov (EV.ix 0 rfl rfl rfl g5 g19 rfl) rfl (xn rfl (one1 23 rfl rfl ?_))
       revert H; refine bdI ?_; intro s20 A20 H; have q20 := stl (Option.some.inj A20)
       exact op_stg (wrap64 (x3_3 + x3_11)) 0 0 z88 (⟨(rd_T88 x3_ml0 (wrap64 (x3_3 + x3_10))).f0, (rd_T88 x3_ml0 (wrap64 (x3_3 + x3_10))).f1, (rd_T88 x3_ml0 (wrap64 (x3_3 + x3_10))).f2, (rd_T88 x3_ml0 (wrap64 (x3_3 + x3_10))).f3, (rd_T88 x3_ml0 (wrap64 (x3_3 + x3_10))).f4⟩ : S88) (Option.some.inj A20) rfl rfl rfl rfl g5 g19 rfl rfl rfl rfl dq rfl (rlT 0 (v' := .slice Al0 s20.length cl0) rfl (slq _ _ q20) (rlT 59 (v' := .slice Al0 s20.length cl0) rfl (slq _ _ q20) (rlT 63 (v' := .slice Al0 s20.length cl0) rfl (slq _ _ q20) (rlT 67 (v' := .slice Al0 s20.length cl0) rfl (slq _ _ q20) (rlT 73 (v' := .slice Al0 s20.length cl0) rfl (slq _ _ q20) (nmE (en := [.sl 1 k88 Al0 cl0 s20 1 true]) (by kernel_rfl) (xn rfl (xd (pr [0, 2, 3, 4, 11] [] [0] rfl rfl rfl rfl (rg (sv (EV.mv rfl) rfl (sv (EV.as rfl) rfl (re (ge (wk [0, 2, 3, 4, 10] [] [⟨0, 1, 1, false⟩] (ih0 _ (by omega) _ ⟨s20, x3_2, x3_3, x3_11, H, (by first | rfl | assumption | omega | (simp only [List.length_set]; first | done | assumption | omega)), rfl⟩))))))))))))))))
      ·
       refine ov (EV.le (v := .agg #[.int .i64 ((rd_T88 x3_ml0 (wrap64 (x3_3 + x3_10))).f0), .int .i64 ((rd_T88 x3_ml0 (wrap64 (x3_3 + x3_10))).f1), .int .i64 ((rd_T88 x3_ml0 (wrap64 (x3_3 + x3_10))).f2), .int .i64 ((rd_T88 x3_ml0 (wrap64 (x3_3 + x3_10))).f3), .int .i64 ((rd_T88 x3_ml0 (wrap64 (x3_3 + x3_10))).f4)]) (wrap64 (x3_3 + x3_10)) 0 (some 5) 0 z88 rfl rfl rfl g3 g4 rfl rfl rfl) rfl (xs [] [] rfl rfl rfl (one1 13 rfl rfl (ov (EV.le (v := .agg #[.int .i64 ((rd_T88 x3_ml0 (wrap64 (x3_3 + x3_11))).f0), .int .i64 ((rd_T88 x3_ml0 (wrap64 (x3_3 + x3_11))).f1), .int .i64 ((rd_T88 x3_ml0 (wrap64 (x3_3 + x3_11))).f2), .int .i64 ((rd_T88 x3_ml0 (wrap64 (x3_3 + x3_11))).f3), .int .i64 ((rd_T88 x3_ml0 (wrap64 (x3_3 + x3_11))).f4)]) (wrap64 (x3_3 + x3_11)) 0 (some 5) 0 z88 rfl rfl rfl g5 g6 rfl rfl rfl) rfl (xs [] [] rfl rfl rfl (one1 20 rfl rfl (ov (EV.ix 0 rfl rfl rfl g3 g4 rfl) rfl (xs [] [] rfl rfl rfl (one1 21 rfl rfl ?_))))))))
       revert H; refine bdI ?_; intro s21 A21 H; have q21 := stl (Option.some.inj A21)
       refine op_stg (wrap64 (x3_3 + x3_10)) 0 0 z88 (⟨(rd_T88 x3_ml0 (wrap64 (x3_3 + x3_11))).f0, (rd_T88 x3_ml0 (wrap64 (x3_3 + x3_11))).f1, (rd_T88 x3_ml0 (wrap64 (x3_3 + x3_11))).f2, (rd_T88 x3_ml0 (wrap64 (x3_3 + x3_11))).f3, (rd_T88 x3_ml0 (wrap64 (x3_3 + x3_11))).f4⟩ : S88) (Option.some.inj A21) rfl rfl rfl rfl g3 g4 rfl rfl rfl rfl dq rfl (rlT 0 (v' := .slice Al0 s21.length cl0) rfl (slq _ _ q21) (rlT 59 (v' := .slice Al0 s21.length cl0) rfl (slq _ _ q21) (rlT 63 (v' := .slice Al0 s21.length cl0) rfl (slq _ _ q21) (rlT 67 (v' := .slice Al0 s21.length cl0) rfl (slq _ _ q21) (rlT 73 (v' := .slice Al0 s21.length cl0) rfl (slq _ _ q21) (nmE (en := [.sl 1 k88 Al0 cl0 s21 1 true]) (by kernel_rfl) (xs [] [] rfl rfl rfl (one1 22 rfl rfl ?_))))))))
       revert H; refine ggI ?_; intro g22 H
       refine ov (EV.ix 0 rfl rfl rfl g5 g22 rfl) rfl (xn rfl (one1 23 rfl rfl ?_))
       revert H; refine bdI ?_; intro s23 A23 H; have q23 := stl (Option.some.inj A23)
       exact op_stg (wrap64 (x3_3 + x3_11)) 0 0 z88 (⟨(rd_T88 x3_ml0 (wrap64 (x3_3 + x3_10))).f0, (rd_T88 x3_ml0 (wrap64 (x3_3 + x3_10))).f1, (rd_T88 x3_ml0 (wrap64 (x3_3 + x3_10))).f2, (rd_T88 x3_ml0 (wrap64 (x3_3 + x3_10))).f3, (rd_T88 x3_ml0 (wrap64 (x3_3 + x3_10))).f4⟩ : S88) (Option.some.inj A23) rfl rfl rfl rfl g5 g22 rfl rfl rfl rfl dq rfl (rlT 0 (v' := .slice Al0 s23.length cl0) rfl (slq _ _ q23) (rlT 59 (v' := .slice Al0 s23.length cl0) rfl (slq _ _ q23) (rlT 63 (v' := .slice Al0 s23.length cl0) rfl (slq _ _ q23) (rlT 67 (v' := .slice Al0 s23.length cl0) rfl (slq _ _ q23) (rlT 73 (v' := .slice Al0 s23.length cl0) rfl (slq _ _ q23) (nmE (en := [.sl 1 k88 Al0 cl0 s23 1 true]) (by kernel_rfl) (xn rfl (xd (pr [0, 2, 3, 4, 11] [] [0] rfl rfl rfl rfl (rg (sv (EV.mv rfl) rfl (sv (EV.as rfl) rfl (re (ge (wk [0, 2, 3, 4, 10] [] [⟨0, 1, 1, false⟩] (ih0 _ (by omega) _ ⟨s23, x3_2, x3_3, x3_11, H, (by first | rfl | assumption | omega | (simp only [List.length_set]; first | done | assumption | omega)), rfl⟩))))))))))))))))
     ·
      refine ov (EV.le (v := .agg #[.int .i64 ((rd_T88 x3_ml0 (wrap64 (x3_3 + x3_10))).f0), .int .i64 ((rd_T88 x3_ml0 (wrap64 (x3_3 + x3_10))).f1), .int .i64 ((rd_T88 x3_ml0 (wrap64 (x3_3 + x3_10))).f2), .int .i64 ((rd_T88 x3_ml0 (wrap64 (x3_3 + x3_10))).f3), .int .i64 ((rd_T88 x3_ml0 (wrap64 (x3_3 + x3_10))).f4)]) (wrap64 (x3_3 + x3_10)) 0 (some 5) 0 z88 rfl rfl rfl g3 g4 rfl rfl rfl) rfl (xs [] [] rfl rfl rfl (one1 12 rfl rfl (ov (EV.ix 0 rfl rfl rfl g5 g6 rfl) rfl (xs [] [] rfl rfl rfl (one1 13 rfl rfl (ov (EV.le (v := .agg #[.int .i64 ((rd_T88 x3_ml0 (wrap64 (x3_3 + x3_11))).f0), .int .i64 ((rd_T88 x3_ml0 (wrap64 (x3_3 + x3_11))).f1), .int .i64 ((rd_T88 x3_ml0 (wrap64 (x3_3 + x3_11))).f2), .int .i64 ((rd_T88 x3_ml0 (wrap64 (x3_3 + x3_11))).f3), .int .i64 ((rd_T88 x3_ml0 (wrap64 (x3_3 + x3_11))).f4)]) (wrap64 (x3_3 + x3_11)) 0 (some 5) 0 z88 rfl rfl rfl g5 g6 rfl rfl rfl) rfl (xs [] [] rfl rfl rfl (one1 20 rfl rfl (ov (EV.ix 0 rfl rfl rfl g3 g4 rfl) rfl (xs [] [] rfl rfl rfl (one1 21 rfl rfl ?_)))))))))))
      revert H; refine bdI ?_; intro s24 A24 H; have q24 := stl (Option.some.inj A24)
      refine op_stg (wrap64 (x3_3 + x3_10)) 0 0 z88 (⟨(rd_T88 x3_ml0 (wrap64 (x3_3 + x3_11))).f0, (rd_T88 x3_ml0 (wrap64 (x3_3 + x3_11))).f1, (rd_T88 x3_ml0 (wrap64 (x3_3 + x3_11))).f2, (rd_T88 x3_ml0 (wrap64 (x3_3 + x3_11))).f3, (rd_T88 x3_ml0 (wrap64 (x3_3 + x3_11))).f4⟩ : S88) (Option.some.inj A24) rfl rfl rfl rfl g3 g4 rfl rfl rfl rfl dq rfl (rlT 0 (v' := .slice Al0 s24.length cl0) rfl (slq _ _ q24) (rlT 59 (v' := .slice Al0 s24.length cl0) rfl (slq _ _ q24) (rlT 63 (v' := .slice Al0 s24.length cl0) rfl (slq _ _ q24) (rlT 67 (v' := .slice Al0 s24.length cl0) rfl (slq _ _ q24) (rlT 73 (v' := .slice Al0 s24.length cl0) rfl (slq _ _ q24) (nmE (en := [.sl 1 k88 Al0 cl0 s24 1 true]) (by kernel_rfl) (xs [] [] rfl rfl rfl (one1 22 rfl rfl ?_))))))))
      revert H; refine ggI ?_; intro g25 H
      refine ov (EV.ix 0 rfl rfl rfl g5 g25 rfl) rfl (xn rfl (one1 23 rfl rfl ?_))
      revert H; refine bdI ?_; intro s26 A26 H; have q26 := stl (Option.some.inj A26)
      exact op_stg (wrap64 (x3_3 + x3_11)) 0 0 z88 (⟨(rd_T88 x3_ml0 (wrap64 (x3_3 + x3_10))).f0, (rd_T88 x3_ml0 (wrap64 (x3_3 + x3_10))).f1, (rd_T88 x3_ml0 (wrap64 (x3_3 + x3_10))).f2, (rd_T88 x3_ml0 (wrap64 (x3_3 + x3_10))).f3, (rd_T88 x3_ml0 (wrap64 (x3_3 + x3_10))).f4⟩ : S88) (Option.some.inj A26) rfl rfl rfl rfl g5 g25 rfl rfl rfl rfl dq rfl (rlT 0 (v' := .slice Al0 s26.length cl0) rfl (slq _ _ q26) (rlT 59 (v' := .slice Al0 s26.length cl0) rfl (slq _ _ q26) (rlT 63 (v' := .slice Al0 s26.length cl0) rfl (slq _ _ q26) (rlT 67 (v' := .slice Al0 s26.length cl0) rfl (slq _ _ q26) (rlT 73 (v' := .slice Al0 s26.length cl0) rfl (slq _ _ q26) (nmE (en := [.sl 1 k88 Al0 cl0 s26 1 true]) (by kernel_rfl) (xn rfl (xd (pr [0, 2, 3, 4, 11] [] [0] rfl rfl rfl rfl (rg (sv (EV.mv rfl) rfl (sv (EV.as rfl) rfl (re (ge (wk [0, 2, 3, 4, 10] [] [⟨0, 1, 1, false⟩] (ih0 _ (by omega) _ ⟨s26, x3_2, x3_3, x3_11, H, (by first | rfl | assumption | omega | (simp only [List.length_set]; first | done | assumption | omega)), rfl⟩))))))))))))))))
   ·
    refine gt rfl (nT c8) ?_
    cases H
    exact rt Try.func114 rfl .nil rfl [] [⟨0, 1, 1, false⟩] rfl rfl rfl rfl rfl ⟨rfl, rfl, rfl, by first | rfl | assumption | omega | (simp only [List.length_set]; first | done | assumption | omega)⟩
  ·
   refine gs (dr [] [0] [] 22 rfl rfl rfl rfl (xv 0 [] [0] rfl (EV.mv rfl) rfl rfl rfl rfl (xv 1 [] [0] rfl (EV.add rfl rfl) rfl rfl rfl rfl (xv 2 [] [0] rfl (EV.mv rfl) rfl rfl rfl rfl (xv 3 [] [0] rfl (EV.lss rfl rfl) rfl rfl rfl rfl (xv 4 [] [0] rfl (EV.mv rfl) rfl rfl rfl rfl ?_))))))
   revert H; refine ifsI ?_ ?_ <;> intro c27 H
   ·
    refine ts 23 rfl (dT c27) (xv 5 [] [0] rfl (EV.mv rfl) rfl rfl rfl rfl (xv 6 [] [0] rfl (EV.mv rfl) rfl rfl rfl rfl (xv 7 [] [0] rfl (EV.mv rfl) rfl rfl rfl rfl (xv 8 [] [0] rfl (EV.mv rfl) rfl rfl rfl rfl (xv 9 [] [0] rfl (EV.add rfl rfl) rfl rfl rfl rfl ?_)))))
    revert H; refine ggI ?_; intro g28 H
    revert H; refine ggI ?_; intro g29 H
    refine xv 10 [] [0] rfl (EV.ix 0 rfl rfl rfl g28 g29 rfl) rfl rfl rfl rfl (xv 11 [] [0] rfl (EV.le (v := .agg #[.int .i64 ((rd_T88 x1_ml0 (wrap64 (x1_3 + (wrap64 ((wrap64 (2 * x1_10)) + 1))))).f0), .int .i64 ((rd_T88 x1_ml0 (wrap64 (x1_3 + (wrap64 ((wrap64 (2 * x1_10)) + 1))))).f1), .int .i64 ((rd_T88 x1_ml0 (wrap64 (x1_3 + (wrap64 ((wrap64 (2 * x1_10)) + 1))))).f2), .int .i64 ((rd_T88 x1_ml0 (wrap64 (x1_3 + (wrap64 ((wrap64 (2 * x1_10)) + 1))))).f3), .int .i64 ((rd_T88 x1_ml0 (wrap64 (x1_3 + (wrap64 ((wrap64 (2 * x1_10)) + 1))))).f4)]) (wrap64 (x1_3 + (wrap64 ((wrap64 (2 * x1_10)) + 1)))) 0 (some 5) 0 z88 rfl rfl rfl g28 g29 rfl rfl rfl) rfl rfl rfl rfl (xv 12 [] [0] rfl (EV.mv rfl) rfl rfl rfl rfl (xv 13 [] [0] rfl (EV.mv rfl) rfl rfl rfl rfl (xv 14 [] [0] rfl (EV.mv rfl) rfl rfl rfl rfl (xv 15 [] [0] rfl (EV.add rfl rfl) rfl rfl rfl rfl (xv 16 [] [0] rfl (EV.add rfl rfl) rfl rfl rfl rfl ?_))))))
    revert H; refine ggI ?_; intro g30 H
    revert H; refine ggI ?_; intro g31 H
    refine xv 17 [] [0] rfl (EV.ix 0 rfl rfl rfl g30 g31 rfl) rfl rfl rfl rfl (xv 18 [] [0] rfl (EV.le (v := .agg #[.int .i64 ((rd_T88 x1_ml0 (wrap64 ((wrap64 (x1_3 + (wrap64 ((wrap64 (2 * x1_10)) + 1)))) + 1))).f0), .int .i64 ((rd_T88 x1_ml0 (wrap64 ((wrap64 (x1_3 + (wrap64 ((wrap64 (2 * x1_10)) + 1)))) + 1))).f1), .int .i64 ((rd_T88 x1_ml0 (wrap64 ((wrap64 (x1_3 + (wrap64 ((wrap64 (2 * x1_10)) + 1)))) + 1))).f2), .int .i64 ((rd_T88 x1_ml0 (wrap64 ((wrap64 (x1_3 + (wrap64 ((wrap64 (2 * x1_10)) + 1)))) + 1))).f3), .int .i64 ((rd_T88 x1_ml0 (wrap64 ((wrap64 (x1_3 + (wrap64 ((wrap64 (2 * x1_10)) + 1)))) + 1))).f4)]) (wrap64 ((wrap64 (x1_3 + (wrap64 ((wrap64 (2 * x1_10)) + 1)))) + 1)) 0 (some 5) 0 z88 rfl rfl rfl g30 g31 rfl rfl rfl) rfl rfl rfl rfl (one1 19 rfl rfl ?_))
    revert H; refine bdI ?_; rintro t32 A32 H
    refine cvf (f := 93) rfl (op_call (impl_MergeGroups_1.ok ((rd_T88 x1_ml0 (wrap64 (x1_3 + (wrap64 ((wrap64 (2 * x1_10)) + 1))))).f0) ((rd_T88 x1_ml0 (wrap64 (x1_3 + (wrap64 ((wrap64 (2 * x1_10)) + 1))))).f1) ((rd_T88 x1_ml0 (wrap64 (x1_3 + (wrap64 ((wrap64 (2 * x1_10)) + 1))))).f2) ((rd_T88 x1_ml0 (wrap64 (x1_3 + (wrap64 ((wrap64 (2 * x1_10)) + 1))))).f3) ((rd_T88 x1_ml0 (wrap64 (x1_3 + (wrap64 ((wrap64 (2 * x1_10)) + 1))))).f4) ((rd_T88 x1_ml0 (wrap64 ((wrap64 (x1_3 + (wrap64 ((wrap64 (2 * x1_10)) + 1)))) + 1))).f0) ((rd_T88 x1_ml0 (wrap64 ((wrap64 (x1_3 + (wrap64 ((wrap64 (2 * x1_10)) + 1)))) + 1))).f1) ((rd_T88 x1_ml0 (wrap64 ((wrap64 (x1_3 + (wrap64 ((wrap64 (2 * x1_10)) + 1)))) + 1))).f2) ((rd_T88 x1_ml0 (wrap64 ((wrap64 (x1_3 + (wrap64 ((wrap64 (2 * x1_10)) + 1)))) + 1))).f3) ((rd_T88 x1_ml0 (wrap64 ((wrap64 (x1_3 + (wrap64 ((wrap64 (2 * x1_10)) + 1)))) + 1))).f4) _ A32) [] 2 rfl rfl rfl rfl rfl ?_)
    rintro _ _ _ ⟨rfl, rfl, rfl⟩
    refine xs [] [0] rfl rfl rfl (xv 20 [] [0] rfl (EV.lss rfl rfl) rfl rfl rfl rfl (xv 21 [] [0] rfl (EV.pt rfl rfl rfl) rfl rfl rfl rfl (xd (pr [0, 2, 3, 4, 10, 11, 24, 25, 26, 27, 28, 29, 30, 31, 32, 33, 34, 35, 36, 37, 38, 39, 40] [] [0] rfl rfl rfl rfl ?_))))
    revert H; refine ifsI ?_ ?_ <;> intro c33 H
    ·
     exact gt rfl (dT c33) (rg (sv (EV.mv rfl) rfl (sv (EV.add rfl rfl) rfl (sv (EV.as rfl) rfl (re (wk [0, 2, 3, 4, 10, 11] [] [⟨0, 1, 1, false⟩] (jh0 _ ⟨_, x1_ml0, x1_2, x1_3, x1_10, wrap64 ((wrap64 ((wrap64 (2 * x1_10)) + 1)) + 1), by omega, H, (by first | rfl | assumption | omega | (simp only [List.length_set]; first | done | assumption | omega)), rfl⟩)))))))
    ·
     exact gf rfl (dF c33) (gk (wk [0, 2, 3, 4, 10, 11] [] [⟨0, 1, 1, false⟩] (jh0 _ ⟨_, x1_ml0, x1_2, x1_3, x1_10, wrap64 ((wrap64 (2 * x1_10)) + 1), by omega, H, (by first | rfl | assumption | omega | (simp only [List.length_set]; first | done | assumption | omega)), rfl⟩)))
   ·
    exact ts 23 rfl (dF c27) (xk 5 [] [0] rfl rfl rfl rfl rfl (xk 6 [] [0] rfl rfl rfl rfl rfl (xk 7 [] [0] rfl rfl rfl rfl rfl (xk 8 [] [0] rfl rfl rfl rfl rfl (xk 9 [] [0] rfl rfl rfl rfl rfl (xk 10 [] [0] rfl rfl rfl rfl rfl (xk 11 [] [0] rfl rfl rfl rfl rfl (xk 12 [] [0] rfl rfl rfl rfl rfl (xk 13 [] [0] rfl rfl rfl rfl rfl (xk 14 [] [0] rfl rfl rfl rfl rfl (xk 15 [] [0] rfl rfl rfl rfl rfl (xk 16 [] [0] rfl rfl rfl rfl rfl (xk 17 [] [0] rfl rfl rfl rfl rfl (xk 18 [] [0] rfl rfl rfl rfl rfl (xk 19 [] [0] rfl rfl rfl rfl rfl (xk 20 [] [0] rfl rfl rfl rfl rfl (xv 21 [] [0] rfl (EV.pf rfl rfl rfl) rfl rfl rfl rfl (xd (pr [0, 2, 3, 4, 10, 11, 40] [] [0] rfl rfl rfl rfl (gf rfl rfl (gk (wk [0, 2, 3, 4, 10, 11] [] [⟨0, 1, 1, false⟩] (jh0 _ ⟨_, x1_ml0, x1_2, x1_3, x1_10, wrap64 ((wrap64 (2 * x1_10)) + 1), by omega, H, (by first | rfl | assumption | omega | (simp only [List.length_set]; first | done | assumption | omega)), rfl⟩)))))))))))))))))))))))
mutual
def slices_heapSortCmpFunc_impl_Group_at93.l1 : Nat → (List S88) → Int → Int → Int → Option ((List S88))
 | 0, _, _, _, _ => none
 | k + 1, x4_ml0, x4_8, x4_9, x4_12 => if x4_12 ≥ 0 then (if 0 ≤ (wrap64 (x4_8 + x4_12)) then (if (wrap64 (x4_8 + x4_12)) < (x4_ml0.length : Int) then (if 0 ≤ x4_8 then (if x4_8 < (x4_ml0.length : Int) then ((some (x4_ml0.set x4_8.toNat (⟨(rd_T88 x4_ml0 (wrap64 (x4_8 + x4_12))).f0, (rd_T88 x4_ml0 (wrap64 (x4_8 + x4_12))).f1, (rd_T88 x4_ml0 (wrap64 (x4_8 + x4_12))).f2, (rd_T88 x4_ml0 (wrap64 (x4_8 + x4_12))).f3, (rd_T88 x4_ml0 (wrap64 (x4_8 + x4_12))).f4⟩ : S88))).bind fun s8 => (if (wrap64 (x4_8 + x4_12)) < (s8.length : Int) then ((some (s8.set (wrap64 (x4_8 + x4_12)).toNat (⟨(rd_T88 x4_ml0 x4_8).f0, (rd_T88 x4_ml0 x4_8).f1, (rd_T88 x4_ml0 x4_8).f2, (rd_T88 x4_ml0 x4_8).f3, (rd_T88 x4_ml0 x4_8).f4⟩ : S88))).bind fun s10 => ((slices_siftDownCmpFunc_impl_Group_at93.f k s10 x4_9 x4_12 x4_8).bind fun t11 => (slices_heapSortCmpFunc_impl_Group_at93.l1 k t11 x4_8 x4_9 (wrap64 (x4_12 - 1))))) else none)) else none) else none) else none) else none) else (some x4_ml0)
def slices_heapSortCmpFunc_impl_Group_at93.l0 : Nat → (List S88) → Int → Int → Int → Int → Option ((List S88))
 | 0, _, _, _, _, _ => none
 | k + 1, x2_ml0, x2_8, x2_9, x2_10, x2_11 => if x2_11 ≥ 0 then ((slices_siftDownCmpFunc_impl_Group_at93.f k x2_ml0 x2_11 x2_10 x2_8).bind fun t2 => (slices_heapSortCmpFunc_impl_Group_at93.l0 k t2 x2_8 x2_9 x2_10 (wrap64 (x2_11 - 1)))) else (slices_heapSortCmpFunc_impl_Group_at93.l1 k x2_ml0 x2_8 x2_9 (wrap64 (x2_10 - 1)))
end
def slices_heapSortCmpFunc_impl_Group_at93.f (k : Nat) (l0 : List S88) (a1 : Int) (a2 : Int) : Option ((List S88)) := slices_heapSortCmpFunc_impl_Group_at93.l0 k l0 a1 0 (wrap64 (a2 - a1)) (wrap64 (Int.tdiv (wrap64 ((wrap64 (a2 - a1)) - 1)) 2))
set_option maxHeartbeats 4000000 in
set_option maxRecDepth 100000 in
theorem slices_heapSortCmpFunc_impl_Group_at93.ok (k : Nat) (l0 : List S88) (Al0 : Option Addr) (cl0 : Nat) (a1 : Int) (a2 : Int) (r0 : List S88) (H : slices_heapSortCmpFunc_impl_Group_at93.f k l0 a1 a2 = some r0) : Fn Try.prog 105 [.slice Al0 l0.length cl0, .int .i64 a1, .int .i64 a2, .func (.func 93) #[] #[]] [] [.sl 1 k88 Al0 cl0 l0 1 false] (fun v bx en => v = .tuple #[] ∧ bx = [] ∧ en = [.sl 1 k88 Al0 cl0 r0 1 false] ∧ r0.length = l0.length) := by
 refine fn_ 60 Try.func105 rfl rfl rfl (fun base T w0 => ?_)
 rw [slices_heapSortCmpFunc_impl_Group_at93.f] at H
 refine gs (rg (sv (EV.mv rfl) rfl (sv (EV.as rfl) rfl (re (gs (rg (sv (EV.as rfl) rfl (re (gs (rg (sv (EV.mv rfl) rfl (sv (EV.mv rfl) rfl (sv (EV.sub rfl rfl) rfl (sv (EV.as rfl) rfl (re (pr [0, 3, 8, 9, 10] [] [0] rfl rfl rfl rfl (gs (gs (rg (sv (EV.mv rfl) rfl (sv (EV.sub rfl rfl) rfl (sv (EV.quo rfl rfl dq) rfl (sv (EV.as rfl) rfl (re (gb ?_)))))))))))))))))))))))))
 refine lo (fun kk S => ∃ (x2_ml0 : List S88) (x2_8 : Int) (x2_9 : Int) (x2_10 : Int) (x2_11 : Int), slices_heapSortCmpFunc_impl_Group_at93.l0 kk x2_ml0 x2_8 x2_9 x2_10 x2_11 = some r0 ∧ x2_ml0.length = l0.length ∧ S = ⟨[(0, .slice Al0 x2_ml0.length cl0), (3, .func (.func 93) #[] #[]), (8, .int .i64 x2_8), (9, .int .i64 x2_9), (10, .int .i64 x2_10), (11, .int .i64 x2_11)], [], [.sl 1 k88 Al0 cl0 x2_ml0 1 false]⟩) (fun S hS => ?_) (fun n0 ih0 S hS => ?_) ⟨l0, a1, 0, wrap64 (a2 - a1), wrap64 (Int.tdiv (wrap64 ((wrap64 (a2 - a1)) - 1)) 2), H, (by first | rfl | assumption | omega | (simp only [List.length_set]; first | done | assumption | omega)), rfl⟩ (fun h => wk [0, 3, 8, 9, 10, 11] [] [⟨0, 1, 1, false⟩] h)
 · clear H; obtain ⟨_, _, _, _, _, H, _⟩ := hS; rw [slices_heapSortCmpFunc_impl_Group_at93.l0] at H; cases H
 clear H
 obtain ⟨x2_ml0, x2_8, x2_9, x2_10, x2_11, H, ex2_ml0, rfl⟩ := hS
 rw [slices_heapSortCmpFunc_impl_Group_at93.l0] at H
 refine gs (gs (rg (sv (EV.mv rfl) rfl (sv (EV.geq rfl rfl) rfl (re ?_)))))
 revert H; refine ifsI ?_ ?_ <;> intro c1 H
 ·
  refine gt rfl (dT c1) (gk (gs (gb (rg (sv (EV.mv rfl) rfl (sv (EV.mv rfl) rfl (sv (EV.mv rfl) rfl (sv (EV.mv rfl) rfl (sv (EV.mv rfl) rfl ?_)))))))))
  revert H; refine bdI ?_; rintro t2 A2 H
  refine so rfl (op_callM (slices_siftDownCmpFunc_impl_Group_at93.ok n0 x2_ml0 Al0 cl0 x2_11 x2_10 x2_8 _ A2) [⟨0, 1, 1, false⟩] [] [] 2 rfl rfl rfl rfl rfl rfl rfl rfl ?_)
  rintro _ _ _ ⟨rfl, rfl, rfl, q2_0⟩
  exact rlT 0 (v' := .slice Al0 t2.length cl0) rfl (slq _ _ q2_0) (rlT 24 (v' := .slice Al0 t2.length cl0) rfl (slq _ _ q2_0) (nmE (en := [.sl 1 k88 Al0 cl0 t2 3 false]) (by kernel_rfl) (re (pr [0, 3, 8, 9, 10, 11] [] [0] rfl rfl rfl rfl (ge (rg (sv (EV.mv rfl) rfl (sv (EV.sub rfl rfl) rfl (sv (EV.as rfl) rfl (re (wk [0, 3, 8, 9, 10, 11] [] [⟨0, 1, 1, false⟩] (ih0 _ (by omega) _ ⟨t2, x2_8, x2_9, x2_10, wrap64 (x2_11 - 1), H, (by first | rfl | assumption | omega | (simp only [List.length_set]; first | done | assumption | omega)), rfl⟩))))))))))))
 ·
  refine gf rfl (dF c1) (gx rfl (gs (rg (sv (EV.mv rfl) rfl (sv (EV.sub rfl rfl) rfl (sv (EV.as rfl) rfl (re (pr [0, 3, 8, 9, 12] [] [0] rfl rfl rfl rfl (gb ?_)))))))))
  refine lo (fun kk S => ∃ (x4_ml0 : List S88) (x4_8 : Int) (x4_9 : Int) (x4_12 : Int), kk ≤ n0 ∧ slices_heapSortCmpFunc_impl_Group_at93.l1 kk x4_ml0 x4_8 x4_9 x4_12 = some r0 ∧ x4_ml0.length = l0.length ∧ S = ⟨[(0, .slice Al0 x4_ml0.length cl0), (3, .func (.func 93) #[] #[]), (8, .int .i64 x4_8), (9, .int .i64 x4_9), (12, .int .i64 x4_12)], [], [.sl 1 k88 Al0 cl0 x4_ml0 1 false]⟩) (fun S hS => ?_) (fun n1 ih1 S hS => ?_) ⟨x2_ml0, x2_8, x2_9, wrap64 (x2_10 - 1), by omega, H, (by first | rfl | assumption | omega | (simp only [List.length_set]; first | done | assumption | omega)), rfl⟩ (fun h => wk [0, 3, 8, 9, 12] [] [⟨0, 1, 1, false⟩] h)
  · clear H; obtain ⟨_, _, _, _, _, H, _⟩ := hS; rw [slices_heapSortCmpFunc_impl_Group_at93.l1] at H; cases H
  clear H
  obtain ⟨x4_ml0, x4_8, x4_9, x4_12, lk1, H, ex4_ml0, rfl⟩ := hS
  rw [slices_heapSortCmpFunc_impl_Group_at93.l1] at H
  refine gs (gs (rg (sv (EV.mv rfl) rfl (sv (EV.geq rfl rfl) rfl (re ?_)))))
  revert H; refine ifsI ?_ ?_ <;> intro c3 H
  ·
   refine gt rfl (dT c3) (gk (gs (gb (gs ?_))))
   revert H; refine ggI ?_; intro g4 H
   revert H; refine ggI ?_; intro g5 H
   revert H; refine ggI ?_; intro g6 H
   revert H; refine ggI ?_; intro g7 H
   refine dr [] [] [18, 19] 20 rfl rfl rfl rfl (xv 0 [] [] rfl (EV.mv rfl) rfl rfl rfl rfl (xv 1 [] [] rfl (EV.mv rfl) rfl rfl rfl rfl (xv 2 [] [] rfl (EV.mv rfl) rfl rfl rfl rfl (xv 3 [] [] rfl (EV.mv rfl) rfl rfl rfl rfl (xv 4 [] [] rfl (EV.mv rfl) rfl rfl rfl rfl (xv 5 [] [] rfl (EV.add rfl rfl) rfl rfl rfl rfl (xv 6 [] [] rfl (EV.mv rfl) rfl rfl rfl rfl (xv 7 [] [] rfl (EV.mv rfl) rfl rfl rfl rfl (xv 8 [] [] rfl (EV.mv rfl) rfl rfl rfl rfl (xv 9 [] [] rfl (EV.add rfl rfl) rfl rfl rfl rfl (xv 12 [] [] rfl (EV.mv rfl) rfl rfl rfl rfl (xv 13 [] [] rfl (EV.mv rfl) rfl rfl rfl rfl ?_))))))))))))
   refine one2 10 14 rfl rfl rfl rfl ?_ ?_
   ·
    refine ov (EV.ix 0 rfl rfl rfl g4 g5 rfl) rfl (xs [] [] rfl rfl rfl ?_)
    refine one2 11 14 rfl rfl rfl rfl ?_ ?_
    ·
     refine ov (EV.le (v := .agg #[.int .i64 ((rd_T88 x4_ml0 (wrap64 (x4_8 + x4_12))).f0), .int .i64 ((rd_T88 x4_ml0 (wrap64 (x4_8 + x4_12))).f1), .int .i64 ((rd_T88 x4_ml0 (wrap64 (x4_8 + x4_12))).f2), .int .i64 ((rd_T88 x4_ml0 (wrap64 (x4_8 + x4_12))).f3), .int .i64 ((rd_T88 x4_ml0 (wrap64 (x4_8 + x4_12))).f4)]) (wrap64 (x4_8 + x4_12)) 0 (some 5) 0 z88 rfl rfl rfl g4 g5 rfl rfl rfl) rfl (xs [] [] rfl rfl rfl (one1 14 rfl rfl (ov (EV.ix 0 rfl rfl rfl g6 g7 rfl) rfl (xs [] [] rfl rfl rfl (one1 15 rfl rfl (ov (EV.le (v := .agg #[.int .i64 ((rd_T88 x4_ml0 x4_8).f0), .int .i64 ((rd_T88 x4_ml0 x4_8).f1), .int .i64 ((rd_T88 x4_ml0 x4_8).f2), .int .i64 ((rd_T88 x4_ml0 x4_8).f3), .int .i64 ((rd_T88 x4_ml0 x4_8).f4)]) x4_8 0 (some 5) 0 z88 rfl rfl rfl g6 g7 rfl rfl rfl) rfl (xs [] [] rfl rfl rfl (one1 16 rfl rfl (ov (EV.ix 0 rfl rfl rfl g6 g7 rfl) rfl (xs [] [] rfl rfl rfl (one1 17 rfl rfl ?_)))))))))))
     revert H; refine bdI ?_; intro s8 A8 H; have q8 := stl (Option.some.inj A8)
     refine op_stg x4_8 0 0 z88 (⟨(rd_T88 x4_ml0 (wrap64 (x4_8 + x4_12))).f0, (rd_T88 x4_ml0 (wrap64 (x4_8 + x4_12))).f1, (rd_T88 x4_ml0 (wrap64 (x4_8 + x4_12))).f2, (rd_T88 x4_ml0 (wrap64 (x4_8 + x4_12))).f3, (rd_T88 x4_ml0 (wrap64 (x4_8 + x4_12))).f4⟩ : S88) (Option.some.inj A8) rfl rfl rfl rfl g6 g7 rfl rfl rfl rfl dq rfl (rlT 0 (v' := .slice Al0 s8.length cl0) rfl (slq _ _ q8) (rlT 36 (v' := .slice Al0 s8.length cl0) rfl (slq _ _ q8) (rlT 38 (v' := .slice Al0 s8.length cl0) rfl (slq _ _ q8) (rlT 42 (v' := .slice Al0 s8.length cl0) rfl (slq _ _ q8) (rlT 48 (v' := .slice Al0 s8.length cl0) rfl (slq _ _ q8) (nmE (en := [.sl 1 k88 Al0 cl0 s8 1 true]) (by kernel_rfl) (xs [] [] rfl rfl rfl (one1 18 rfl rfl ?_))))))))
     revert H; refine ggI ?_; intro g9 H
     refine ov (EV.ix 0 rfl rfl rfl g4 g9 rfl) rfl (xn rfl (one1 19 rfl rfl ?_))
     revert H; refine bdI ?_; intro s10 A10 H; have q10 := stl (Option.some.inj A10)
     refine op_stg (wrap64 (x4_8 + x4_12)) 0 0 z88 (⟨(rd_T88 x4_ml0 x4_8).f0, (rd_T88 x4_ml0 x4_8).f1, (rd_T88 x4_ml0 x4_8).f2, (rd_T88 x4_ml0 x4_8).f3, (rd_T88 x4_ml0 x4_8).f4⟩ : S88) (Option.some.inj A10) rfl rfl rfl rfl g4 g9 rfl rfl rfl rfl dq rfl (rlT 0 (v' := .slice Al0 s10.length cl0) rfl (slq _ _ q10) (rlT 36 (v' := .slice Al0 s10.length cl0) rfl (slq _ _ q10) (rlT 38 (v' := .slice Al0 s10.length cl0) rfl (slq _ _ q10) (rlT 42 (v' := .slice Al0 s10.length cl0) rfl (slq _ _ q10) (rlT 48 (v' := .slice Al0 s10.length cl0) rfl (slq _ _ q10) (nmE (en := [.sl 1 k88 Al0 cl0 s10 1 true]) (by kernel_rfl) (xn rfl (xd (pr [0, 3, 8, 9, 12] [] [0] rfl rfl rfl rfl (rg (sv (EV.mv rfl) rfl (sv (EV.mv rfl) rfl (sv (EV.mv rfl) rfl (sv (EV.mv rfl) rfl (sv (EV.mv rfl) rfl ?_)))))))))))))))
     revert H; refine bdI ?_; rintro t11 A11 H
     refine so rfl (op_callM (slices_siftDownCmpFunc_impl_Group_at93.ok n1 s10 Al0 cl0 x4_9 x4_12 x4_8 _ A11) [⟨0, 1, 1, false⟩] [] [] 2 rfl rfl rfl rfl rfl rfl rfl rfl ?_)
     rintro _ _ _ ⟨rfl, rfl, rfl, q11_0⟩
     exact rlT 0 (v' := .slice Al0 t11.length cl0) rfl (slq _ _ q11_0) (rlT 54 (v' := .slice Al0 t11.length cl0) rfl (slq _ _ q11_0) (nmE (en := [.sl 1 k88 Al0 cl0 t11 3 false]) (by kernel_rfl) (re (pr [0, 3, 8, 9, 12] [] [0] rfl rfl rfl rfl (ge (rg (sv (EV.mv rfl) rfl (sv (EV.sub rfl rfl) rfl (sv (EV.as rfl) rfl (re (wk [0, 3, 8, 9, 12] [] [⟨0, 1, 1, false⟩] (ih1 _ (by omega) _ ⟨t11, x4_8, x4_9, wrap64 (x4_12 - 1), by omega, H, (by first | rfl | assumption | omega | (simp only [List.length_set]; first | done | assumption | omega)), rfl⟩))))))))))))
    ·
     refine ov (EV.ix 0 rfl rfl rfl g6 g7 rfl) rfl (xs [] [] rfl rfl rfl ?_)
     refine one2 11 15 rfl rfl rfl rfl ?_ ?_
     ·
      refine ov (EV.le (v := .agg #[.int .i64 ((rd_T88 x4_ml0 (wrap64 (x4_8 + x4_12))).f0), .int .i64 ((rd_T88 x4_ml0 (wrap64 (x4_8 + x4_12))).f1), .int .i64 ((rd_T88 x4_ml0 (wrap64 (x4_8 + x4_12))).f2), .int .i64 ((rd_T88 x4_ml0 (wrap64 (x4_8 + x4_12))).f3), .int .i64 ((rd_T88 x4_ml0 (wrap64 (x4_8 + x4_12))).f4)]) (wrap64 (x4_8 + x4_12)) 0 (some 5) 0 z88 rfl rfl rfl g4 g5 rfl rfl rfl) rfl (xs [] [] rfl rfl rfl (one1 15 rfl rfl (ov (EV.le (v := .agg #[.int .i64 ((rd_T88 x4_ml0 x4_8).f0), .int .i64 ((rd_T88 x4_ml0 x4_8).f1), .int .i64 ((rd_T88 x4_ml0 x4_8).f2), .int .i64 ((rd_T88 x4_ml0 x4_8).f3), .int .i64 ((rd_T88 x4_ml0 x4_8).f4)]) x4_8 0 (some 5) 0 z88 rfl rfl rfl g6 g7 rfl rfl rfl) rfl (xs [] [] rfl rfl rfl (one1 16 rfl rfl (ov (EV.ix 0 rfl rfl rfl g6 g7 rfl) rfl (xs [] [] rfl rfl rfl (one1 17 rfl rfl ?_))))))))
      revert H; refine bdI ?_; intro s12 A12 H; have q12 := stl (Option.some.inj A12)
      refine op_stg x4_8 0 0 z88 (⟨(rd_T88 x4_ml0 (wrap64 (x4_8 + x4_12))).f0, (rd_T88 x4_ml0 (wrap64 (x4_8 + x4_12))).f1, (rd_T88 x4_ml0 (wrap64 (x4_8 + x4_12))).f2, (rd_T88 x4_ml0 (wrap64 (x4_8 + x4_12))).f3, (rd_T88 x4_ml0 (wrap64 (x4_8 + x4_12))).f4⟩ : S88) (Option.some.inj A12) rfl rfl rfl rfl g6 g7 rfl rfl rfl rfl dq rfl (rlT 0 (v' := .slice Al0 s12.length cl0) rfl (slq _ _ q12) (rlT 36 (v' := .slice Al0 s12.length cl0) rfl (slq _ _ q12) (rlT 38 (v' := .slice Al0 s12.length cl0) rfl (slq _ _ q12) (rlT 42 (v' := .slice Al0 s12.length cl0) rfl (slq _ _ q12) (rlT 48 (v' := .slice Al0 s12.length cl0) rfl (slq _ _ q12) (nmE (en := [.sl 1 k88 Al0 cl0 s12 1 true]) (by kernel_rfl) (xs [] [] rfl rfl rfl (one1 18 rfl rfl ?_))))))))
      revert H; refine ggI ?_; intro g13 H
      refine ov (EV.ix 0 rfl rfl rfl g4 g13 rfl) rfl (xn rfl (one1 19 rfl rfl ?_))
      revert H; refine bdI ?_; intro s14 A14 H; have q14 := stl (Option.some.inj A14)
      refine op_stg (wrap64 (x4_8 + x4_12)) 0 0 z88 (⟨(rd_T88 x4_ml0 x4_8).f0, (rd_T88 x4_ml0 x4_8).f1, (rd_T88 x4_ml0 x4_8).f2, (rd_T88 x4_ml0 x4_8).f3, (rd_T88 x4_ml0 x4_8).f4⟩ : S88) (Option.some.inj A14) rfl rfl rfl rfl g4 g13 rfl rfl rfl rfl dq rfl (rlT 0 (v' := .slice Al0 s14.length cl0) rfl (slq _ _ q14) (rlT 36 (v' := .slice Al0 s14.length cl0) rfl (slq _ _ q14) (rlT 38 (v' := .slice Al0 s14.length cl0) rfl (slq _ _ q14) (rlT 42 (v' := .slice Al0 s14.length cl0) rfl (slq _ _ q14) (rlT 48 (v' := .slice Al0 s14.length cl0) rfl (slq _ _ q14) (nmE (en := [.sl 1 k88 Al0 cl0 s14 1 true]) (by kernel_rfl) (xn rfl (xd (pr [0, 3, 8, 9, 12] [] [0] rfl rfl rfl rfl (rg (sv (EV.mv rfl) rfl (sv (EV.mv rfl) rfl (sv (EV.mv rfl) rfl (sv (EV.mv rfl) rfl (sv (EV.mv rfl) rfl ?_)))))))))))))))
      revert H; refine bdI ?_; rintro t15 A15 H
      refine so rfl (op_callM (slices_siftDownCmpFunc_impl_Group_at93.ok n1 s14 Al0 cl0 x4_9 x4_12 x4_8 _ A15) [⟨0, 1, 1, false⟩] [] [] 2 rfl rfl rfl rfl rfl rfl rfl rfl ?_)
      rintro _ _ _ ⟨rfl, rfl, rfl, q15_0⟩
      exact rlT 0 (v' := .slice Al0 t15.length cl0) rfl (slq _ _ q15_0) (rlT 54 (v' := .slice Al0 t15.length cl0) rfl (slq _ _ q15_0) (nmE (en := [.sl 1 k88 Al0 cl0 t15 3 false]) (by kernel_rfl) (re (pr [0, 3, 8, 9, 12] [] [0] rfl rfl rfl rfl (ge (rg (sv (EV.mv rfl) rfl (sv (EV.sub rfl rfl) rfl (sv (EV.as rfl) rfl (re (wk [0, 3, 8, 9, 12] [] [⟨0, 1, 1, false⟩] (ih1 _ (by omega) _ ⟨t15, x4_8, x4_9, wrap64 (x4_12 - 1), by omega, H, (by first | rfl | assumption | omega | (simp only [List.length_set]; first | done | assumption | omega)), rfl⟩))))))))))))
     ·
      refine ov (EV.le (v := .agg #[.int .i64 ((rd_T88 x4_ml0 x4_8).f0), .int .i64 ((rd_T88 x4_ml0 x4_8).f1), .int .i64 ((rd_T88 x4_ml0 x4_8).f2), .int .i64 ((rd_T88 x4_ml0 x4_8).f3), .int .i64 ((rd_T88 x4_ml0 x4_8).f4)]) x4_8 0 (some 5) 0 z88 rfl rfl rfl g6 g7 rfl rfl rfl) rfl (xs [] [] rfl rfl rfl (one1 11 rfl rfl (ov (EV.le (v := .agg #[.int .i64 ((rd_T88 x4_ml0 (wrap64 (x4_8 + x4_12))).f0), .int .i64 ((rd_T88 x4_ml0 (wrap64 (x4_8 + x4_12))).f1), .int .i64 ((rd_T88 x4_ml0 (wrap64 (x4_8 + x4_12))).f2), .int .i64 ((rd_T88 x4_ml0 (wrap64 (x4_8 + x4_12))).f3), .int .i64 ((rd_T88 x4_ml0 (wrap64 (x4_8 + x4_12))).f4)]) (wrap64 (x4_8 + x4_12)) 0 (some 5) 0 z88 rfl rfl rfl g4 g5 rfl rfl rfl) rfl (xs [] [] rfl rfl rfl (one1 16 rfl rfl (ov (EV.ix 0 rfl rfl rfl g6 g7 rfl) rfl (xs [] [] rfl rfl rfl (one1 17 rfl rfl ?_))))))))
      revert H; refine bdI ?_; intro s16 A16 H; have q16 := stl (Option.some.inj A16)
      refine op_stg x4_8 0 0 z88 (⟨(rd_T88 x4_ml0 (wrap64 (x4_8 + x4_12))).f0, (rd_T88 x4_ml0 (wrap64 (x4_8 + x4_12))).f1, (rd_T88 x4_ml0 (wrap64 (x4_8 + x4_12))).f2, (rd_T88 x4_ml0 (wrap64 (x4_8 + x4_12))).f3, (rd_T88 x4_ml0 (wrap64 (x4_8 + x4_12))).f4⟩ : S88) (Option.some.inj A16) rfl rfl rfl rfl g6 g7 rfl rfl rfl rfl dq rfl (rlT 0 (v' := .slice Al0 s16.length cl0) rfl (slq _ _ q16) (rlT 36 (v' := .slice Al0 s16.length cl0) rfl (slq _ _ q16) (rlT 38 (v' := .slice Al0 s16.length cl0) rfl (slq _ _ q16) (rlT 42 (v' := .slice Al0 s16.length cl0) rfl (slq _ _ q16) (rlT 48 (v' := .slice Al0 s16.length cl0) rfl (slq _ _ q16) (nmE (en := [.sl 1 k88 Al0 cl0 s16 1 true]) (by kernel_rfl) (xs [] [] rfl rfl rfl (one1 18 rfl rfl ?_))))))))
      revert H; refine ggI ?_; intro g17 H
      refine ov (EV.ix 0 rfl rfl rfl g4 g17 rfl) rfl (xn rfl (one1 19 rfl rfl ?_))
      revert H; refine bdI ?_; intro s18 A18 H; have q18 := stl (Option.some.inj A18)
      refine op_stg (wrap64 (x4_8 + x4_12)) 0 0 z88 (⟨(rd_T88 x4_ml0 x4_8).f0, (rd_T88 x4_ml0 x4_8).f1, (rd_T88 x4_ml0 x4_8).f2, (rd_T88 x4_ml0 x4_8).f3, (rd_T88 x4_ml0 x4_8).f4⟩ : S88) (Option.some.inj A18) rfl rfl rfl rfl g4 g17 rfl rfl rfl rfl dq rfl (rlT 0 (v' := .slice Al0 s18.length cl0) rfl (slq _ _ q18) (rlT 36 (v' := .slice Al0 s18.length cl0) rfl (slq _ _ q18) (rlT 38 (v' := .slice Al0 s18.length cl0) rfl (slq _ _ q18) (rlT 42 (v' := .slice Al0 s18.length cl0) rfl (slq _ _ q18) (rlT 48 (v' := .slice Al0 s18.length cl0) rfl (slq _ _ q18) (nmE (en := [.sl 1 k88 Al0 cl0 s18 1 true]) (by kernel_rfl) (xn rfl (xd (pr [0, 3, 8, 9, 12] [] [0] rfl rfl rfl rfl (rg (sv (EV.mv rfl) rfl (sv (EV.mv rfl) rfl (sv (EV.mv rfl) rfl (sv (EV.mv rfl) rfl (sv (EV.mv rfl) rfl ?_)))))))))))))))
      revert H; refine bdI ?_; rintro t19 A19 H
      refine so rfl (op_callM (slices_siftDownCmpFunc_impl_Group_at93.ok n1 s18 Al0 cl0 x4_9 x4_12 x4_8 _ A19) [⟨0, 1, 1, false⟩] [] [] 2 rfl rfl rfl rfl rfl rfl rfl rfl ?_)
      rintro _ _ _ ⟨rfl, rfl, rfl, q19_0⟩
      exact rlT 0 (v' := .slice Al0 t19.length cl0) rfl (slq _ _ q19_0) (rlT 54 (v' := .slice Al0 t19.length cl0) rfl (slq _ _ q19_0) (nmE (en := [.sl 1 k88 Al0 cl0 t19 3 false]) (by kernel_rfl) (re (pr [0, 3, 8, 9, 12] [] [0] rfl rfl rfl rfl (ge (rg (sv (EV.mv rfl) rfl (sv (EV.sub rfl rfl) rfl (sv (EV.as rfl) rfl (re (wk [0, 3, 8, 9, 12] [] [⟨0, 1, 1, false⟩] (ih1 _ (by omega) _ ⟨t19, x4_8, x4_9, wrap64 (x4_12 - 1), by omega, H, (by first | rfl | assumption | omega | (simp only [List.length_set]; first | done | assumption | omega)), rfl⟩))))))))))))
   ·
    refine ov (EV.ix 0 rfl rfl rfl g6 g7 rfl) rfl (xs [] [] rfl rfl rfl ?_)
    refine one2 10 15 rfl rfl rfl rfl ?_ ?_
    ·
     refine ov (EV.ix 0 rfl rfl rfl g4 g5 rfl) rfl (xs [] [] rfl rfl rfl ?_)
     refine one2 11 15 rfl rfl rfl rfl ?_ ?_
     ·
      refine ov (EV.le (v := .agg #[.int .i64 ((rd_T88 x4_ml0 (wrap64 (x4_8 + x4_12))).f0), .int .i64 ((rd_T88 x4_ml0 (wrap64 (x4_8 + x4_12))).f1), .int .i64 ((rd_T88 x4_ml0 (wrap64 (x4_8 + x4_12))).f2), .int .i64 ((rd_T88 x4_ml0 (wrap64 (x4_8 + x4_12))).f3), .int .i64 ((rd_T88 x4_ml0 (wrap64 (x4_8 + x4_12))).f4)]) (wrap64 (x4_8 + x4_12)) 0 (some 5) 0 z88 rfl rfl rfl g4 g5 rfl rfl rfl) rfl (xs [] [] rfl rfl rfl (one1 15 rfl rfl (ov (EV.le (v := .agg #[.int .i64 ((rd_T88 x4_ml0 x4_8).f0), .int .i64 ((rd_T88 x4_ml0 x4_8).f1), .int .i64 ((rd_T88 x4_ml0 x4_8).f2), .int .i64 ((rd_T88 x4_ml0 x4_8).f3), .int .i64 ((rd_T88 x4_ml0 x4_8).f4)]) x4_8 0 (some 5) 0 z88 rfl rfl rfl g6 g7 rfl rfl rfl) rfl (xs [] [] rfl rfl rfl (one1 16 rfl rfl (ov (EV.ix 0 rfl rfl rfl g6 g7 rfl) rfl (xs [] [] rfl rfl rfl (one1 17 rfl rfl ?_))))))))
      revert H; refine bdI ?_; intro s20 A20 H; have q20 := stl (Option.some.inj A20)
      refine op_stg x4_8 0 0 z88 (⟨(rd_T88 x4_ml0 (wrap64 (x4_8 + x4_12))).f0, (rd_T88 x4_ml0 (wrap64 (x4_8 + x4_12))).f1, (rd_T88 x4_ml0 (wrap64 (x4_8 + x4_12))).f2, (rd_T88 x4_ml0 (wrap64 (x4_8 + x4_12))).f3, (rd_T88 x4_ml0 (wrap64 (x4_8 + x4_12))).f4⟩ : S88) (Option.some.inj A20) rfl rfl rfl rfl g6 g7 rfl rfl rfl rfl dq rfl (rlT 0 (v' := .slice Al0 s20.length cl0) rfl (slq _ _ q20) (rlT 36 (v' := .slice Al0 s20.length cl0) rfl (slq _ _ q20) (rlT 38 (v' := .slice Al0 s20.length cl0) rfl (slq _ _ q20) (rlT 42 (v' := .slice Al0 s20.length cl0) rfl (slq _ _ q20) (rlT 48 (v' := .slice Al0 s20.length cl0) rfl (slq _ _ q20) (nmE (en := [.sl 1 k88 Al0 cl0 s20 1 true]) (by kernel_rfl) (xs [] [] rfl rfl rfl (one1 18 rfl rfl ?_))))))))
      revert H; refine ggI ?_; intro g21 H
      refine ov (EV.ix 0 rfl rfl rfl g4 g21 rfl) rfl (xn rfl (one1 19 rfl rfl ?_))
      revert H; refine bdI ?_; intro s22 A22 H; have q22 := stl (Option.some.inj A22)
      refine op_stg (wrap64 (x4_8 + x4_12)) 0 0 z88 (⟨(rd_T88 x4_ml0 x4_8).f0, (rd_T88 x4_ml0 x4_8).f1, (rd_T88 x4_ml0 x4_8).f2, (rd_T88 x4_ml0 x4_8).f3, (rd_T88 x4_ml0 x4_8).f4⟩ : S88) (Option.some.inj A22) rfl rfl rfl rfl g4 g21 rfl rfl rfl rfl dq rfl (rlT 0 (v' := .slice Al0 s22.length cl0) rfl (slq _ _ q22) (rlT 36 (v' := .slice Al0 s22.length cl0) rfl (slq _ _ q22) (rlT 38 (v' := .slice Al0 s22.length cl0) rfl (slq _ _ q22) (rlT 42 (v' := .slice Al0 s22.length cl0) rfl (slq _ _ q22) (rlT 48 (v' := .slice Al0 s22.length cl0) rfl (slq _ _ q22) (nmE (en := [.sl 1 k88 Al0 cl0 s22 1 true]) (by kernel_rfl) (xn rfl (xd (pr [0, 3, 8, 9, 12] [] [0] rfl rfl rfl rfl (rg (sv (EV.mv rfl) rfl (sv (EV.mv rfl) rfl (sv (EV.mv rfl) rfl (sv (EV.mv rfl) rfl (sv (EV.mv rfl) rfl ?_)))))))))))))))
      revert H; refine bdI ?_; rintro t23 A23 H
      refine so rfl (op_callM (slices_siftDownCmpFunc_impl_Group_at93.ok n1 s22 Al0 cl0 x4_9 x4_12 x4_8 _ A23) [⟨0, 1, 1, false⟩] [] [] 2 rfl rfl rfl rfl rfl rfl rfl rfl ?_)
      rintro _ _ _ ⟨rfl, rfl, rfl, q23_0⟩
      exact rlT 0 (v' := .slice Al0 t23.length cl0) rfl (slq _ _ q23_0) (rlT 54 (v' := .slice Al0 t23.length cl0) rfl (slq _ _ q23_0) (nmE (en := [.sl 1 k88 Al0 cl0 t23 3 false]) (by kernel_rfl) (re (pr [0, 3, 8, 9, 12] [] [0] rfl rfl rfl rfl (ge (rg (sv (EV.mv rfl) rfl (sv (EV.sub rfl rfl) rfl (sv (EV.as rfl) rfl (re (wk [0, 3, 8, 9, 12] [] [⟨0, 1, 1, false⟩] (ih1 _ (by omega) _ ⟨t23, x4_8, x4_9, wrap64 (x4_12 - 1), by omega, H, (by first | rfl | assumption | omega | (simp only [List.length_set]; first | done | assumption | omega)), rfl⟩))))))))))))
     ·
      refine ov (EV.le (v := .agg #[.int .i64 ((rd_T88 x4_ml0 x4_8).f0), .int .i64 ((rd_T88 x4_ml0 x4_8).f1), .int .i64 ((rd_T88 x4_ml0 x4_8).f2), .int .i64 ((rd_T88 x4_ml0 x4_8).f3), .int .i64 ((rd_T88 x4_ml0 x4_8).f4)]) x4_8 0 (some 5) 0 z88 rfl rfl rfl g6 g7 rfl rfl rfl) rfl (xs [] [] rfl rfl rfl (one1 11 rfl rfl (ov (EV.le (v := .agg #[.int .i64 ((rd_T88 x4_ml0 (wrap64 (x4_8 + x4_12))).f0), .int .i64 ((rd_T88 x4_ml0 (wrap64 (x4_8 + x4_12))).f1), .int .i64 ((rd_T88 x4_ml0 (wrap64 (x4_8 + x4_12))).f2), .int .i64 ((rd_T88 x4_ml0 (wrap64 (x4_8 + x4_12))).f3), .int .i64 ((rd_T88 x4_ml0 (wrap64 (x4_8 + x4_12))).f4)]) (wrap64 (x4_8 + x4_12)) 0 (some 5) 0 z88 rfl rfl rfl g4 g5 rfl rfl rfl) rfl (xs [] [] rfl rfl rfl (one1 16 rfl rfl (ov (EV.ix 0 rfl rfl rfl g6 g7 rfl) rfl (xs [] [] rfl rfl rfl (one1 17 rfl rfl ?_))))))))
      revert H; refine bdI ?_; intro s24 A24 H; have q24 := stl (Option.some.inj A24)
      refine op_stg x4_8 0 0 z88 (⟨(rd_T88 x4_ml0 (wrap64 (x4_8 + x4_12))).f0, (rd_T88 x4_ml0 (wrap64 (x4_8 + x4_12))).f1, (rd_T88 x4_ml0 (wrap64 (x4_8 + x4_12))).f2, (rd_T88 x4_ml0 (wrap64 (x4_8 + x4_12))).f3, (rd_T88 x4_ml0 (wrap64 (x4_8 + x4_12))).f4⟩ : S88) (Option.some.inj A24) rfl rfl rfl rfl g6 g7 rfl rfl rfl rfl dq rfl (rlT 0 (v' := .slice Al0 s24.length cl0) rfl (slq _ _ q24) (rlT 36 (v' := .slice Al0 s24.length cl0) rfl (slq _ _ q24) (rlT 38 (v' := .slice Al0 s24.length cl0) rfl (slq _ _ q24) (rlT 42 (v' := .slice Al0 s24.length cl0) rfl (slq _ _ q24) (rlT 48 (v' := .slice Al0 s24.length cl0) rfl (slq _ _ q24) (nmE (en := [.sl 1 k88 Al0 cl0 s24 1 true]) (by kernel_rfl) (xs [] [] rfl rfl rfl (one1 18 rfl rfl ?_))))))))
      revert H; refine ggI ?_; intro g25 H
      refine ov (EV.ix 0 rfl rfl rfl g4 g25 rfl) rfl (xn rfl (one1 19 rfl rfl ?_))
      revert H; refine bdI ?_; intro s26 A26 H; have q26 := stl (Option.some.inj A26)
      refine op_stg (wrap64 (x4_8 + x4_12)) 0 0 z88 (⟨(rd_T88 x4_ml0 x4_8).f0, (rd_T88 x4_ml0 x4_8).f1, (rd_T88 x4_ml0 x4_8).f2, (rd_T88 x4_ml0 x4_8).f3, (rd_T88 x4_ml0 x4_8).f4⟩ : S88) (Option.some.inj A26) rfl rfl rfl rfl g4 g25 rfl rfl rfl rfl dq rfl (rlT 0 (v' := .slice Al0 s26.length cl0) rfl (slq _ _ q26) (rlT 36 (v' := .slice Al0 s26.length cl0) rfl (slq _ _ q26) (rlT 38 (v' := .slice Al0 s26.length cl0) rfl (slq _ _ q26) (rlT 42 (v' := .slice Al0 s26.length cl0) rfl (slq _ _ q26) (rlT 48 (v' := .slice Al0 s26.length cl0) rfl (slq _ _ q26) (nmE (en := [.sl 1 k88 Al0 cl0 s26 1 true]) (by kernel_rfl) (xn rfl (xd (pr [0, 3, 8, 9, 12] [] [0] rfl rfl rfl rfl (rg (sv (EV.mv rfl) rfl (sv (EV.mv rfl) rfl (sv (EV.mv rfl) rfl (sv (EV.mv rfl) rfl (sv (EV.mv rfl) rfl ?_)))))))))))))))
      revert H; refine bdI ?_; rintro t27 A27 H
      refine so rfl (op_callM (slices_siftDownCmpFunc_impl_Group_at93.ok n1 s26 Al0 cl0 x4_9 x4_12 x4_8 _ A27) [⟨0, 1, 1, false⟩] [] [] 2 rfl rfl rfl rfl rfl rfl rfl rfl ?_)
      rintro _ _ _ ⟨rfl, rfl, rfl, q27_0⟩
      exact rlT 0 (v' := .slice Al0 t27.length cl0) rfl (slq _ _ q27_0) (rlT 54 (v' := .slice Al0 t27.length cl0) rfl (slq _ _ q27_0) (nmE (en := [.sl 1 k88 Al0 cl0 t27 3 false]) (by kernel_rfl) (re (pr [0, 3, 8, 9, 12] [] [0] rfl rfl rfl rfl (ge (rg (sv (EV.mv rfl) rfl (sv (EV.sub rfl rfl) rfl (sv (EV.as rfl) rfl (re (wk [0, 3, 8, 9, 12] [] [⟨0, 1, 1, false⟩] (ih1 _ (by omega) _ ⟨t27, x4_8, x4_9, wrap64 (x4_12 - 1), by omega, H, (by first | rfl | assumption | omega | (simp only [List.length_set]; first | done | assumption | omega)), rfl⟩))))))))))))
    ·
     refine ov (EV.le (v := .agg #[.int .i64 ((rd_T88 x4_ml0 x4_8).f0), .int .i64 ((rd_T88 x4_ml0 x4_8).f1), .int .i64 ((rd_T88 x4_ml0 x4_8).f2), .int .i64 ((rd_T88 x4_ml0 x4_8).f3), .int .i64 ((rd_T88 x4_ml0 x4_8).f4)]) x4_8 0 (some 5) 0 z88 rfl rfl rfl g6 g7 rfl rfl rfl) rfl (xs [] [] rfl rfl rfl (one1 10 rfl rfl (ov (EV.ix 0 rfl rfl rfl g4 g5 rfl) rfl (xs [] [] rfl rfl rfl (one1 11 rfl rfl (ov (EV.le (v := .agg #[.int .i64 ((rd_T88 x4_ml0 (wrap64 (x4_8 + x4_12))).f0), .int .i64 ((rd_T88 x4_ml0 (wrap64 (x4_8 + x4_12))).f1), .int .i64 ((rd_T88 x4_ml0 (wrap64 (x4_8 + x4_12))).f2), .int .i64 ((rd_T88 x4_ml0 (wrap64 (x4_8 + x4_12))).f3), .int .i64 ((rd_T88 x4_ml0 (wrap64 (x4_8 + x4_12))).f4)]) (wrap64 (x4_8 + x4_12)) 0 (some 5) 0 z88 rfl rfl rfl g4 g5 rfl rfl rfl) rfl (xs [] [] rfl rfl rfl (one1 16 rfl rfl (ov (EV.ix 0 rfl rfl rfl g6 g7 rfl) rfl (xs [] [] rfl rfl rfl (one1 17 rfl rfl ?_)))))))))))
     revert H; refine bdI ?_; intro s28 A28 H; have q28 := stl (Option.some.inj A28)
     refine op_stg x4_8 0 0 z88 (⟨(rd_T88 x4_ml0 (wrap64 (x4_8 + x4_12))).f0, (rd_T88 x4_ml0 (wrap64 (x4_8 + x4_12))).f1, (rd_T88 x4_ml0 (wrap64 (x4_8 + x4_12))).f2, (rd_T88 x4_ml0 (wrap64 (x4_8 + x4_12))).f3, (rd_T88 x4_ml0 (wrap64 (x4_8 + x4_12))).f4⟩ : S88) (Option.some.inj A28) rfl rfl rfl rfl g6 g7 rfl rfl rfl rfl dq rfl (rlT 0 (v' := .slice Al0 s28.length cl0) rfl (slq _ _ q28) (rlT 36 (v' := .slice Al0 s28.length cl0) rfl (slq _ _ q28) (rlT 38 (v' := .slice Al0 s28.length cl0) rfl (slq _ _ q28) (rlT 42 (v' := .slice Al0 s28.length cl0) rfl (slq _ _ q28) (rlT 48 (v' := .slice Al0 s28.length cl0) rfl (slq _ _ q28) (nmE (en := [.sl 1 k88 Al0 cl0 s28 1 true]) (by kernel_rfl) (xs [] [] rfl rfl rfl (one1 18 rfl rfl ?_))))))))
     revert H; refine ggI ?_; intro g29 H
     refine ov (EV.ix 0 rfl rfl rfl g4 g29 rfl) rfl (xn rfl (one1 19 rfl rfl ?_))
     revert H; refine bdI ?_; intro s30 A30 H; have q30 := stl (Option.some.inj A30)
     refine op_stg (wrap64 (x4_8 + x4_12)) 0 0 z88 (⟨(rd_T88 x4_ml0 x4_8).f0, (rd_T88 x4_ml0 x4_8).f1, (rd_T88 x4_ml0 x4_8).f2, (rd_T88 x4_ml0 x4_8).f3, (rd_T88 x4_ml0 x4_8).f4⟩ : S88) (Option.some.inj A30) rfl rfl rfl rfl g4 g29 rfl rfl rfl rfl dq rfl (rlT 0 (v' := .slice Al0 s30.length cl0) rfl (slq _ _ q30) (rlT 36 (v' := .slice Al0 s30.length cl0) rfl (slq _ _ q30) (rlT 38 (v' := .slice Al0 s30.length cl0) rfl (slq _ _ q30) (rlT 42 (v' := .slice Al0 s30.length cl0) rfl (slq _ _ q30) (rlT 48 (v' := .slice Al0 s30.length cl0) rfl (slq _ _ q30) (nmE (en := [.sl 1 k88 Al0 cl0 s30 1 true]) (by kernel_rfl) (xn rfl (xd (pr [0, 3, 8, 9, 12] [] [0] rfl rfl rfl rfl (rg (sv (EV.mv rfl) rfl (sv (EV.mv rfl) rfl (sv (EV.mv rfl) rfl (sv (EV.mv rfl) rfl (sv (EV.mv rfl) rfl ?_)))))))))))))))
     revert H; refine bdI ?_; rintro t31 A31 H
     refine so rfl (op_callM (slices_siftDownCmpFunc_impl_Group_at93.ok n1 s30 Al0 cl0 x4_9 x4_12 x4_8 _ A31) [⟨0, 1, 1, false⟩] [] [] 2 rfl rfl rfl rfl rfl rfl rfl rfl ?_)
     rintro _ _ _ ⟨rfl, rfl, rfl, q31_0⟩
     exact rlT 0 (v' := .slice Al0 t31.length cl0) rfl (slq _ _ q31_0) (rlT 54 (v' := .slice Al0 t31.length cl0) rfl (slq _ _ q31_0) (nmE (en := [.sl 1 k88 Al0 cl0 t31 3 false]) (by kernel_rfl) (re (pr [0, 3, 8, 9, 12] [] [0] rfl rfl rfl rfl (ge (rg (sv (EV.mv rfl) rfl (sv (EV.sub rfl rfl) rfl (sv (EV.as rfl) rfl (re (wk [0, 3, 8, 9, 12] [] [⟨0, 1, 1, false⟩] (ih1 _ (by omega) _ ⟨t31, x4_8, x4_9, wrap64 (x4_12 - 1), by omega, H, (by first | rfl | assumption | omega | (simp only [List.length_set]; first | done | assumption | omega)), rfl⟩))))))))))))
  ·
   refine gf rfl (dF c3) (gx rfl ?_)
   cases H
   exact rt0 Try.func105 rfl .nil rfl [] [⟨0, 1, 1, false⟩] rfl rfl rfl rfl rfl ⟨rfl, rfl, rfl, by first | rfl | assumption | omega | (simp only [List.length_set]; first | done | assumption | omega)⟩
mutual
def bits_Len64.j2 : Nat → Int → Int → Option (Int)
 | 0, _, _ => none
 | k + 1, x3_0, x3_2 => if 0 ≤ (IntKind.u8.wrap x3_0) then (if (IntKind.u8.wrap x3_0) < ((⟨#[0, 1, 2, 2, 3, 3, 3, 3, 4, 4, 4, 4, 4, 4, 4, 4, 5, 5, 5, 5, 5, 5, 5, 5, 5, 5, 5, 5, 5, 5, 5, 5, 6, 6, 6, 6, 6, 6, 6, 6, 6, 6, 6, 6, 6, 6, 6, 6, 6, 6, 6, 6, 6, 6, 6, 6, 6, 6, 6, 6, 6, 6, 6, 6, 7, 7, 7, 7, 7, 7, 7, 7, 7, 7, 7, 7, 7, 7, 7, 7, 7, 7, 7, 7, 7, 7, 7, 7, 7, 7, 7, 7, 7, 7, 7, 7, 7, 7, 7, 7, 7, 7, 7, 7, 7, 7, 7, 7, 7, 7, 7, 7, 7, 7, 7, 7, 7, 7, 7, 7, 7, 7, 7, 7, 7, 7, 7, 7, 8, 8, 8, 8, 8, 8, 8, 8, 8, 8, 8, 8, 8, 8, 8, 8, 8, 8, 8, 8, 8, 8, 8, 8, 8, 8, 8, 8, 8, 8, 8, 8, 8, 8, 8, 8, 8, 8, 8, 8, 8, 8, 8, 8, 8, 8, 8, 8, 8, 8, 8, 8, 8, 8, 8, 8, 8, 8, 8, 8, 8, 8, 8, 8, 8, 8, 8, 8, 8, 8, 8, 8, 8, 8, 8, 8, 8, 8, 8, 8, 8, 8, 8, 8, 8, 8, 8, 8, 8, 8, 8, 8, 8, 8, 8, 8, 8, 8, 8, 8, 8, 8, 8, 8, 8, 8, 8, 8, 8, 8, 8, 8, 8, 8, 8, 8, 8, 8, 8, 8, 8, 8, 8, 8, 8, 8, 8, 8]⟩ : ByteArray).size : Int) then (some (wrap64 (x3_2 + (IntKind.i64.wrap (bt (⟨#[0, 1, 2, 2, 3, 3, 3, 3, 4, 4, 4, 4, 4, 4, 4, 4, 5, 5, 5, 5, 5, 5, 5, 5, 5, 5, 5, 5, 5, 5, 5, 5, 6, 6, 6, 6, 6, 6, 6, 6, 6, 6, 6, 6, 6, 6, 6, 6, 6, 6, 6, 6, 6, 6, 6, 6, 6, 6, 6, 6, 6, 6, 6, 6, 7, 7, 7, 7, 7, 7, 7, 7, 7, 7, 7, 7, 7, 7, 7, 7, 7, 7, 7, 7, 7, 7, 7, 7, 7, 7, 7, 7, 7, 7, 7, 7, 7, 7, 7, 7, 7, 7, 7, 7, 7, 7, 7, 7, 7, 7, 7, 7, 7, 7, 7, 7, 7, 7, 7, 7, 7, 7, 7, 7, 7, 7, 7, 7, 8, 8, 8, 8, 8, 8, 8, 8, 8, 8, 8, 8, 8, 8, 8, 8, 8, 8, 8, 8, 8, 8, 8, 8, 8, 8, 8, 8, 8, 8, 8, 8, 8, 8, 8, 8, 8, 8, 8, 8, 8, 8, 8, 8, 8, 8, 8, 8, 8, 8, 8, 8, 8, 8, 8, 8, 8, 8, 8, 8, 8, 8, 8, 8, 8, 8, 8, 8, 8, 8, 8, 8, 8, 8, 8, 8, 8, 8, 8, 8, 8, 8, 8, 8, 8, 8, 8, 8, 8, 8, 8, 8, 8, 8, 8, 8, 8, 8, 8, 8, 8, 8, 8, 8, 8, 8, 8, 8, 8, 8, 8, 8, 8, 8, 8, 8, 8, 8, 8, 8, 8, 8, 8, 8, 8, 8, 8, 8]⟩ : ByteArray) (IntKind.u8.wrap x3_0)))))) else none) else none
def bits_Len64.j1 : Nat → Int → Int → Option (Int)
 | 0, _, _ => none
 | k + 1, x2_0, x2_2 => if x2_0 ≥ 256 then (bits_Len64.j2 k (shrI x2_0 8) (wrap64 (x2_2 + 8))) else (bits_Len64.j2 k x2_0 x2_2)
def bits_Len64.j0 : Nat → Int → Int → Option (Int)
 | 0, _, _ => none
 | k + 1, x1_0, x1_2 => if x1_0 ≥ 65536 then (bits_Len64.j1 k (shrI x1_0 16) (wrap64 (x1_2 + 16))) else (bits_Len64.j1 k x1_0 x1_2)
end
def bits_Len64.f (k : Nat) (a0 : Int) : Option (Int) := if a0 ≥ 4294967296 then (bits_Len64.j0 k (shrI a0 32) 32) else (bits_Len64.j0 k a0 0)
set_option maxHeartbeats 4000000 in
set_option maxRecDepth 100000 in
theorem bits_Len64.ok (k : Nat) (a0 : Int) (r0 : Int) (H : bits_Len64.f k a0 = some r0) : Fn Try.prog 113 [.int .u64 a0] [] [] (fun v bx en => v = .int .i64 r0 ∧ bx = [] ∧ en = []) := by
 refine fn_ 25 Try.func113 rfl rfl rfl (fun base T w0 => ?_)
 rw [bits_Len64.f] at H
 refine gs (rg (sv (EV.as rfl) rfl (re ?_)))
 refine jo (fun S => ∃ (m : Nat) (x1_0 : Int) (x1_2 : Int), bits_Len64.j0 m x1_0 x1_2 = some r0 ∧ S = ⟨[(0, .int .u64 x1_0), (2, .int .i64 x1_2)], [], []⟩) (fun S hS => ?_) (fun jh0 => ?_)
 ·
  clear H
  obtain ⟨m1, x1_0, x1_2, H, rfl⟩ := hS
  rcases m1 with _ | m1
  · rw [bits_Len64.j0] at H; cases H
  rw [bits_Len64.j0] at H
  refine jo (fun S => ∃ (m : Nat) (x2_0 : Int) (x2_2 : Int), m ≤ m1 ∧ bits_Len64.j1 m x2_0 x2_2 = some r0 ∧ S = ⟨[(0, .int .u64 x2_0), (2, .int .i64 x2_2)], [], []⟩) (fun S hS => ?_) (fun jh1 => ?_)
  ·
   clear H
   obtain ⟨m2, x2_0, x2_2, lm2, H, rfl⟩ := hS
   rcases m2 with _ | m2
   · rw [bits_Len64.j1] at H; cases H
   rw [bits_Len64.j1] at H
   refine jo (fun S => ∃ (m : Nat) (x3_0 : Int) (x3_2 : Int), m ≤ m2 ∧ bits_Len64.j2 m x3_0 x3_2 = some r0 ∧ S = ⟨[(0, .int .u64 x3_0), (2, .int .i64 x3_2)], [], []⟩) (fun S hS => ?_) (fun jh2 => ?_)
   ·
    clear H
    obtain ⟨m3, x3_0, x3_2, lm3, H, rfl⟩ := hS
    rcases m3 with _ | m3
    · rw [bits_Len64.j2] at H; cases H
    rw [bits_Len64.j2] at H
    refine gs (rg (sv (EV.mv rfl) rfl (sv (EV.mv rfl) rfl (sv (EV.cv (k' := .u8) rfl) rfl ?_))))
    revert H; refine ggI ?_; intro g4 H
    revert H; refine ggI ?_; intro g5 H
    refine sv (EV.is rfl rfl g4 g5) rfl (sv (EV.cv (k' := .i64) rfl) rfl (sv (EV.add rfl rfl) rfl (sv (EV.as rfl) rfl (re (pr [2] [] [] rfl rfl rfl rfl ?_)))))
    cases H
    exact rt Try.func113 rfl (.tmp rfl .nil) rfl [] [] rfl rfl rfl rfl rfl ⟨rfl, rfl, rfl⟩
   ·
    refine gs (rg (sv (EV.mv rfl) rfl (sv (EV.geq rfl rfl) rfl (re ?_))))
    revert H; refine ifsI ?_ ?_ <;> intro c6 H
    ·
     exact gt rfl (dT c6) (gs (rg (sv (EV.mv rfl) rfl (sv (EV.shr64 rfl rfl dq) rfl (sv (EV.as rfl) rfl (re (rg (sv (EV.mv rfl) rfl (sv (EV.add rfl rfl) rfl (sv (EV.as rfl) rfl (re (pr [0, 2] [] [] rfl rfl rfl rfl (wk [0, 2] [] [] (jh2 _ ⟨_, shrI x2_0 8, wrap64 (x2_2 + 8), by omega, H, rfl⟩))))))))))))))
    ·
     exact gf rfl (dF c6) (gk (wk [0, 2] [] [] (jh2 _ ⟨_, x2_0, x2_2, by omega, H, rfl⟩)))
  ·
   refine gs (rg (sv (EV.mv rfl) rfl (sv (EV.geq rfl rfl) rfl (re ?_))))
   revert H; refine ifsI ?_ ?_ <;> intro c7 H
   ·
    exact gt rfl (dT c7) (gs (rg (sv (EV.mv rfl) rfl (sv (EV.shr64 rfl rfl dq) rfl (sv (EV.as rfl) rfl (re (rg (sv (EV.mv rfl) rfl (sv (EV.add rfl rfl) rfl (sv (EV.as rfl) rfl (re (pr [0, 2] [] [] rfl rfl rfl rfl (wk [0, 2] [] [] (jh1 _ ⟨_, shrI x1_0 16, wrap64 (x1_2 + 16), by omega, H, rfl⟩))))))))))))))
   ·
    exact gf rfl (dF c7) (gk (wk [0, 2] [] [] (jh1 _ ⟨_, x1_0, x1_2, by omega, H, rfl⟩)))
 ·
  refine gs (rg (sv (EV.mv rfl) rfl (sv (EV.geq rfl rfl) rfl (re ?_))))
  revert H; refine ifsI ?_ ?_ <;> intro c8 H
  ·
   exact gt rfl (dT c8) (gs (rg (sv (EV.mv rfl) rfl (sv (EV.shr64 rfl rfl dq) rfl (sv (EV.as rfl) rfl (re (rg (sv (EV.as rfl) rfl (re (wk [0, 2] [] [] (jh0 _ ⟨_, shrI a0 32, 32, H, rfl⟩)))))))))))
  ·
   exact gf rfl (dF c8) (gk (wk [0, 2] [] [] (jh0 _ ⟨_, a0, 0, H, rfl⟩)))
def bits_Len.f (k : Nat) (a0 : Int) : Option (Int) := (bits_Len64.f k a0).bind fun t1 => (some t1)
set_option maxHeartbeats 4000000 in
set_option maxRecDepth 100000 in
theorem bits_Len.ok (k : Nat) (a0 : Int) (r0 : Int) (H : bits_Len.f k a0 = some r0) : Fn Try.prog 103 [.int .u64 a0] [] [] (fun v bx en => v = .int .i64 r0 ∧ bx = [] ∧ en = []) := by
 refine fn_ 8 Try.func103 rfl rfl rfl (fun base T w0 => ?_)
 rw [bits_Len.f] at H
 refine gs (rg (sv (EV.as rfl) rfl (re (gs (gf rfl rfl (gk (gs (rg (sv (EV.mv rfl) rfl ?_)))))))))
 revert H; refine bdI ?_; rintro t1 A1 H
 refine so rfl (op_call (bits_Len64.ok k a0 _ A1) [] 1 rfl rfl rfl rfl rfl ?_)
 rintro _ _ _ ⟨rfl, rfl, rfl⟩
 refine sv (EV.as rfl) rfl (re ?_)
 cases H
 exact rt Try.func103 rfl (.tmp rfl .nil) rfl [] [] rfl rfl rfl rfl rfl ⟨rfl, rfl, rfl⟩
def slices_nextPowerOfTwo.f (k : Nat) (a0 : Int) : Option (Int) := (bits_Len.f k (IntKind.u64.wrap a0)).bind fun t1 => (if 0 ≤ t1 then (some (shl64 1 t1)) else none)
set_option maxHeartbeats 4000000 in
set_option maxRecDepth 100000 in
theorem slices_nextPowerOfTwo.ok (k : Nat) (a0 : Int) (r0 : Int) (H : slices_nextPowerOfTwo.f k a0 = some r0) : Fn Try.prog 115 [.int .i64 a0] [] [] (fun v bx en => v = .int .u64 r0 ∧ bx = [] ∧ en = []) := by
 refine fn_ 7 Try.func115 rfl rfl rfl (fun base T w0 => ?_)
 rw [slices_nextPowerOfTwo.f] at H
 refine gs (rg (sv (EV.as rfl) rfl (re (gs (rg (sv (EV.mv rfl) rfl (sv (EV.cv (k' := .u64) rfl) rfl ?_)))))))
 revert H; refine bdI ?_; rintro t1 A1 H
 refine so rfl (op_call (bits_Len.ok k (IntKind.u64.wrap a0) _ A1) [] 1 rfl rfl rfl rfl rfl ?_)
 rintro _ _ _ ⟨rfl, rfl, rfl⟩
 revert H; refine ggI ?_; intro g2 H
 refine sv (EV.shl64 rfl rfl g2) rfl (sv (EV.as rfl) rfl (re ?_))
 cases H
 exact rt Try.func115 rfl (.tmp rfl .nil) rfl [] [] rfl rfl rfl rfl rfl ⟨rfl, rfl, rfl⟩
def slices_xorshift_Next.f (a0_0 : Int) : Option (Int × Int) := some (xor64 (xor64 (xor64 a0_0 (shl64 a0_0 13)) (shrI (xor64 a0_0 (shl64 a0_0 13)) 7)) (shl64 (xor64 (xor64 a0_0 (shl64 a0_0 13)) (shrI (xor64 a0_0 (shl64 a0_0 13)) 7)) 17), xor64 (xor64 (xor64 a0_0 (shl64 a0_0 13)) (shrI (xor64 a0_0 (shl64 a0_0 13)) 7)) (shl64 (xor64 (xor64 a0_0 (shl64 a0_0 13)) (shrI (xor64 a0_0 (shl64 a0_0 13)) 7)) 17))
set_option maxHeartbeats 4000000 in
set_option maxRecDepth 100000 in
theorem slices_xorshift_Next.ok (b1000 : Nat) (a0_0 : Int) (r0 : Int) (r1 : Int) (H : slices_xorshift_Next.f a0_0 = some (r0, r1)) : Fn Try.prog 116 [.pointer (some ⟨b1000, 0, none⟩)] [⟨b1000, 132, [.int .u64 a0_0]⟩] [] (fun v bx en => v = .int .u64 r0 ∧ bx = [⟨b1000, 132, [.int .u64 r1]⟩] ∧ en = []) := by
 refine fn_ 33 Try.func116 rfl rfl rfl (fun base T w0 => ?_)
 rw [slices_xorshift_Next.f] at H
 refine gs (rg (sv (EV.as rfl) rfl (re (gs (dr [0] [] [9] 10 rfl rfl rfl rfl (xv 0 [0] [] rfl (EV.mv rfl) rfl rfl rfl rfl (xv 1 [0] [] rfl (EV.nc rfl) rfl rfl rfl rfl (xv 2 [0] [] rfl (EV.ld 0 none rfl rfl rfl) rfl rfl rfl rfl (xv 3 [0] [] rfl (EV.mv rfl) rfl rfl rfl rfl (xv 4 [0] [] rfl (EV.nc rfl) rfl rfl rfl rfl (xv 5 [0] [] rfl (EV.ld 0 none rfl rfl rfl) rfl rfl rfl rfl (xv 6 [0] [] rfl (EV.shl64 rfl rfl dq) rfl rfl rfl rfl (xv 7 [0] [] rfl (EV.xor64 rfl rfl) rfl rfl rfl rfl (xv 8 [0] [] rfl (EV.nc rfl) rfl rfl rfl rfl (one1 9 rfl rfl (op_st (cs' := [.int .u64 (xor64 a0_0 (shl64 a0_0 13))]) 0 rfl rfl rfl rfl rfl rfl (xn rfl (xd (pr [0] [0] [] rfl rfl rfl rfl (gs (dr [0] [] [9] 10 rfl rfl rfl rfl (xv 0 [0] [] rfl (EV.mv rfl) rfl rfl rfl rfl (xv 1 [0] [] rfl (EV.nc rfl) rfl rfl rfl rfl (xv 2 [0] [] rfl (EV.ld 0 none rfl rfl rfl) rfl rfl rfl rfl (xv 3 [0] [] rfl (EV.mv rfl) rfl rfl rfl rfl (xv 4 [0] [] rfl (EV.nc rfl) rfl rfl rfl rfl (xv 5 [0] [] rfl (EV.ld 0 none rfl rfl rfl) rfl rfl rfl rfl (xv 6 [0] [] rfl (EV.shr64 rfl rfl dq) rfl rfl rfl rfl (xv 7 [0] [] rfl (EV.xor64 rfl rfl) rfl rfl rfl rfl ?_)))))))))))))))))))))))))))))
 refine xv 8 [0] [] rfl (EV.nc rfl) rfl rfl rfl rfl (one1 9 rfl rfl (op_st (cs' := [.int .u64 (xor64 (xor64 a0_0 (shl64 a0_0 13)) (shrI (xor64 a0_0 (shl64 a0_0 13)) 7))]) 0 rfl rfl rfl rfl rfl rfl (xn rfl (xd (pr [0] [0] [] rfl rfl rfl rfl (gs (dr [0] [] [9] 10 rfl rfl rfl rfl (xv 0 [0] [] rfl (EV.mv rfl) rfl rfl rfl rfl (xv 1 [0] [] rfl (EV.nc rfl) rfl rfl rfl rfl (xv 2 [0] [] rfl (EV.ld 0 none rfl rfl rfl) rfl rfl rfl rfl (xv 3 [0] [] rfl (EV.mv rfl) rfl rfl rfl rfl (xv 4 [0] [] rfl (EV.nc rfl) rfl rfl rfl rfl (xv 5 [0] [] rfl (EV.ld 0 none rfl rfl rfl) rfl rfl rfl rfl (xv 6 [0] [] rfl (EV.shl64 rfl rfl dq) rfl rfl rfl rfl (xv 7 [0] [] rfl (EV.xor64 rfl rfl) rfl rfl rfl rfl (xv 8 [0] [] rfl (EV.nc rfl) rfl rfl rfl rfl (one1 9 rfl rfl (op_st (cs' := [.int .u64 (xor64 (xor64 (xor64 a0_0 (shl64 a0_0 13)) (shrI (xor64 a0_0 (shl64 a0_0 13)) 7)) (shl64 (xor64 (xor64 a0_0 (shl64 a0_0 13)) (shrI (xor64 a0_0 (shl64 a0_0 13)) 7)) 17))]) 0 rfl rfl rfl rfl rfl rfl (xn rfl (xd (pr [0] [0] [] rfl rfl rfl rfl (gs (rg (sv (EV.mv rfl) rfl (sv (EV.nc rfl) rfl (sv (EV.ld 0 none rfl rfl rfl) rfl (sv (EV.as rfl) rfl (re ?_))))))))))))))))))))))))))))
 cases H
 exact rt Try.func116 rfl (.tmp rfl .nil) rfl [0] [] rfl rfl rfl rfl rfl ⟨rfl, rfl, rfl⟩
end Go.Proofs.Ytoncjohnkiilcaa.K
