/- Walks: what the functions compute. Printed by gen.py; no condition. -/
import Derived.Test.YtnllplklggoabaaProg
import Derived.Test.YtnllplklggoabaaSB
namespace Go.Proofs.Ytnllplklggoabaa.K
open Go Go.RowKit
set_option linter.unusedVariables false
set_option linter.unusedSimpArgs false
structure S126 where
  f0 : Int
  f1 : Int
  f2 : Int
def z126 : S126 := ⟨0, 0, 0⟩
def k126 : Kd S126 := .iso (fun p => ⟨p.1, p.2.1, p.2.2⟩) (fun x => (x.f0, x.f1, x.f2)) (fun _ => rfl) (.pair (.int .i64) (.pair (.int .i64) (.int .i64)))
def rd_T126 (xs : List S126) (i : Int) : S126 := xs.getD i.toNat z126
structure S32 where
  f0 : Int
  f1 : List S126
  f2 : List S126
  f3 : List Bool
  f4 : Int
def z32 : S32 := ⟨0, [], [], [], 0⟩
def k32 : Kd S32 := .iso (fun p => ⟨p.1, p.2.1, p.2.2.1, p.2.2.2.1, p.2.2.2.2⟩) (fun x => (x.f0, x.f1, x.f2, x.f3, x.f4)) (fun _ => rfl) (.pair (.int .i64) (.pair (.slice k126) (.pair (.slice k126) (.pair (.slice .bool) (.int .i64)))))
def rd_T32 (xs : List S32) (i : Int) : S32 := xs.getD i.toNat z32
structure S124 where
  f0 : Int
  f1 : Int
  f2 : Int
def z124 : S124 := ⟨0, 0, 0⟩
def k124 : Kd S124 := .iso (fun p => ⟨p.1, p.2.1, p.2.2⟩) (fun x => (x.f0, x.f1, x.f2)) (fun _ => rfl) (.pair (.int .i64) (.pair (.int .i64) (.int .i64)))
def rd_T124 (xs : List S124) (i : Int) : S124 := xs.getD i.toNat z124
structure S37 where
  f0 : Int
  f1 : List S124
  f2 : List S124
  f3 : List Bool
  f4 : Int
def z37 : S37 := ⟨0, [], [], [], 0⟩
def k37 : Kd S37 := .iso (fun p => ⟨p.1, p.2.1, p.2.2.1, p.2.2.2.1, p.2.2.2.2⟩) (fun x => (x.f0, x.f1, x.f2, x.f3, x.f4)) (fun _ => rfl) (.pair (.int .i64) (.pair (.slice k124) (.pair (.slice k124) (.pair (.slice .bool) (.int .i64)))))
def rd_T37 (xs : List S37) (i : Int) : S37 := xs.getD i.toNat z37
structure S130 where
  f0 : List S126
  f1 : Int
def z130 : S130 := ⟨[], 0⟩
def k130 : Kd S130 := .iso (fun p => ⟨p.1, p.2⟩) (fun x => (x.f0, x.f1)) (fun _ => rfl) (.pair (.slice k126) (.int .i64))
def rd_T130 (xs : List S130) (i : Int) : S130 := xs.getD i.toNat z130
structure S43 where
  f0 : List S130
  f1 : Int
  f2 : Bool
def z43 : S43 := ⟨[], 0, false⟩
def k43 : Kd S43 := .iso (fun p => ⟨p.1, p.2.1, p.2.2⟩) (fun x => (x.f0, x.f1, x.f2)) (fun _ => rfl) (.pair (.slice k130) (.pair (.int .i64) .bool))
def rd_T43 (xs : List S43) (i : Int) : S43 := xs.getD i.toNat z43
structure S99 where
  f0 : List S124
  f1 : Int
def z99 : S99 := ⟨[], 0⟩
def k99 : Kd S99 := .iso (fun p => ⟨p.1, p.2⟩) (fun x => (x.f0, x.f1)) (fun _ => rfl) (.pair (.slice k124) (.int .i64))
def rd_T99 (xs : List S99) (i : Int) : S99 := xs.getD i.toNat z99
structure S48 where
  f0 : List S99
  f1 : Int
  f2 : Bool
def z48 : S48 := ⟨[], 0, false⟩
def k48 : Kd S48 := .iso (fun p => ⟨p.1, p.2.1, p.2.2⟩) (fun x => (x.f0, x.f1, x.f2)) (fun _ => rfl) (.pair (.slice k99) (.pair (.int .i64) .bool))
def rd_T48 (xs : List S48) (i : Int) : S48 := xs.getD i.toNat z48
structure S54 where
  f0 : List S32
  f1 : Int
  f2 : Int
def z54 : S54 := ⟨[], 0, 0⟩
def k54 : Kd S54 := .iso (fun p => ⟨p.1, p.2.1, p.2.2⟩) (fun x => (x.f0, x.f1, x.f2)) (fun _ => rfl) (.pair (.slice k32) (.pair (.int .i64) (.int .i64)))
def rd_T54 (xs : List S54) (i : Int) : S54 := xs.getD i.toNat z54
structure S59 where
  f0 : List S37
  f1 : Int
  f2 : Int
def z59 : S59 := ⟨[], 0, 0⟩
def k59 : Kd S59 := .iso (fun p => ⟨p.1, p.2.1, p.2.2⟩) (fun x => (x.f0, x.f1, x.f2)) (fun _ => rfl) (.pair (.slice k37) (.pair (.int .i64) (.int .i64)))
def rd_T59 (xs : List S59) (i : Int) : S59 := xs.getD i.toNat z59
structure S75 where
  f0 : Int
  f1 : Int
  f2 : Int
  f3 : Int
  f4 : Int
def z75 : S75 := ⟨0, 0, 0, 0, 0⟩
def k75 : Kd S75 := .iso (fun p => ⟨p.1, p.2.1, p.2.2.1, p.2.2.2.1, p.2.2.2.2⟩) (fun x => (x.f0, x.f1, x.f2, x.f3, x.f4)) (fun _ => rfl) (.pair (.int .i64) (.pair (.int .i64) (.pair (.int .i64) (.pair (.int .i64) (.int .i64)))))
def rd_T75 (xs : List S75) (i : Int) : S75 := xs.getD i.toNat z75
structure S77 where
  f0 : Int
  f1 : S75
def z77 : S77 := ⟨0, z75⟩
def k77 : Kd S77 := .iso (fun p => ⟨p.1, p.2⟩) (fun x => (x.f0, x.f1)) (fun _ => rfl) (.pair (.int .i64) k75)
def rd_T77 (xs : List S77) (i : Int) : S77 := xs.getD i.toNat z77
structure S81 where
  f0 : Int
  f1 : Int
  f2 : Int
  f3 : Int
  f4 : Int
def z81 : S81 := ⟨0, 0, 0, 0, 0⟩
def k81 : Kd S81 := .iso (fun p => ⟨p.1, p.2.1, p.2.2.1, p.2.2.2.1, p.2.2.2.2⟩) (fun x => (x.f0, x.f1, x.f2, x.f3, x.f4)) (fun _ => rfl) (.pair (.int .i64) (.pair (.int .i64) (.pair (.int .i64) (.pair (.int .i64) (.int .i64)))))
def rd_T81 (xs : List S81) (i : Int) : S81 := xs.getD i.toNat z81
structure S83 where
  f0 : Int
  f1 : S81
def z83 : S83 := ⟨0, z81⟩
def k83 : Kd S83 := .iso (fun p => ⟨p.1, p.2⟩) (fun x => (x.f0, x.f1)) (fun _ => rfl) (.pair (.int .i64) k81)
def rd_T83 (xs : List S83) (i : Int) : S83 := xs.getD i.toNat z83
theorem mk25 : ∀ (zz : Value) (e : TypeId) (i : TypeInfo), Try.prog.underlying 25 = some (.slice e) → Try.prog.info? e = some i → i.zero = some zz → ∀ w, Kd.rep k77 1 w zz.cells.toList z77 [] := by
  intro zz e i hu hi hz w
  have h1 : (Try.prog.underlying 25).bind (fun d => match d with | .slice e => (Try.prog.info? e).bind (fun i => i.zero) | _ => none) = some (.agg #[.int .i64 0, .int .i64 0, .int .i64 0, .int .i64 0, .int .i64 0, .int .i64 0]) := by kernel_rfl
  rw [hu] at h1
  simp only [Option.bind_some, hi, hz, Option.some.injEq] at h1
  subst h1
  exact Kd.closed k77 (o := 1) (w := w) (x := z77) (hs := []) (bs := []) 0 false (Nat.le_refl 1) rfl .nil
theorem mk30 : ∀ (zz : Value) (e : TypeId) (i : TypeInfo), Try.prog.underlying 30 = some (.slice e) → Try.prog.info? e = some i → i.zero = some zz → ∀ w, Kd.rep .bool 1 w zz.cells.toList false [] := by
  intro zz e i hu hi hz w
  have h1 : (Try.prog.underlying 30).bind (fun d => match d with | .slice e => (Try.prog.info? e).bind (fun i => i.zero) | _ => none) = some (.bool false) := by kernel_rfl
  rw [hu] at h1
  simp only [Option.bind_some, hi, hz, Option.some.injEq] at h1
  subst h1
  exact Kd.closed .bool (o := 1) (w := w) (x := false) (hs := []) (bs := []) 0 false (Nat.le_refl 1) rfl .nil
theorem mk35 : ∀ (zz : Value) (e : TypeId) (i : TypeInfo), Try.prog.underlying 35 = some (.slice e) → Try.prog.info? e = some i → i.zero = some zz → ∀ w, Kd.rep k124 1 w zz.cells.toList z124 [] := by
  intro zz e i hu hi hz w
  have h1 : (Try.prog.underlying 35).bind (fun d => match d with | .slice e => (Try.prog.info? e).bind (fun i => i.zero) | _ => none) = some (.agg #[.int .i64 0, .int .i64 0, .int .i64 0]) := by kernel_rfl
  rw [hu] at h1
  simp only [Option.bind_some, hi, hz, Option.some.injEq] at h1
  subst h1
  exact Kd.closed k124 (o := 1) (w := w) (x := z124) (hs := []) (bs := []) 0 false (Nat.le_refl 1) rfl .nil
theorem mk46 : ∀ (zz : Value) (e : TypeId) (i : TypeInfo), Try.prog.underlying 46 = some (.slice e) → Try.prog.info? e = some i → i.zero = some zz → ∀ w, Kd.rep k99 1 w zz.cells.toList z99 [] := by
  intro zz e i hu hi hz w
  have h1 : (Try.prog.underlying 46).bind (fun d => match d with | .slice e => (Try.prog.info? e).bind (fun i => i.zero) | _ => none) = some (.agg #[.slice none 0 0, .int .i64 0]) := by kernel_rfl
  rw [hu] at h1
  simp only [Option.bind_some, hi, hz, Option.some.injEq] at h1
  subst h1
  exact Kd.closed k99 (o := 1) (w := w) (x := z99) (hs := [(none, 0)]) (bs := [[]]) 0 false (Nat.le_refl 1) rfl (.cons ⟨Nat.zero_le _, .inl ⟨rfl, rfl, rfl⟩⟩ .nil)
theorem mk57 : ∀ (zz : Value) (e : TypeId) (i : TypeInfo), Try.prog.underlying 57 = some (.slice e) → Try.prog.info? e = some i → i.zero = some zz → ∀ w, Kd.rep k37 1 w zz.cells.toList z37 [] := by
  intro zz e i hu hi hz w
  have h1 : (Try.prog.underlying 57).bind (fun d => match d with | .slice e => (Try.prog.info? e).bind (fun i => i.zero) | _ => none) = some (.agg #[.int .i64 0, .slice none 0 0, .slice none 0 0, .slice none 0 0, .int .i64 0]) := by kernel_rfl
  rw [hu] at h1
  simp only [Option.bind_some, hi, hz, Option.some.injEq] at h1
  subst h1
  exact Kd.closed k37 (o := 1) (w := w) (x := z37) (hs := [(none, 0), (none, 0), (none, 0)]) (bs := [[], [], []]) 0 false (Nat.le_refl 1) rfl (.cons ⟨Nat.zero_le _, .inl ⟨rfl, rfl, rfl⟩⟩ (.cons ⟨Nat.zero_le _, .inl ⟨rfl, rfl, rfl⟩⟩ (.cons ⟨Nat.zero_le _, .inl ⟨rfl, rfl, rfl⟩⟩ .nil)))
end Go.Proofs.Ytnllplklggoabaa.K
namespace Go.Proofs.Ytnllplklggoabaa.K
open Go Go.RowKit
set_option linter.unusedVariables false
set_option linter.unusedSimpArgs false
def good81 (x : S81) : Prop := ((Lit.int .i64 x.f0).wf = true) ∧ ((Lit.int .i64 x.f1).wf = true) ∧ ((Lit.int .i64 x.f2).wf = true) ∧ ((Lit.int .i64 x.f3).wf = true) ∧ ((Lit.int .i64 x.f4).wf = true)
theorem open81 : Opens Try.prog 81 k81 good81 := opens_struct Try.underlying81 (by kernel_rfl) (.cons rfl (opens_int Try.underlying3 (by kernel_rfl)) (.cons rfl (opens_int Try.underlying3 (by kernel_rfl)) (.cons rfl (opens_int Try.underlying3 (by kernel_rfl)) (.cons rfl (opens_int Try.underlying3 (by kernel_rfl)) (.one rfl (opens_int Try.underlying3 (by kernel_rfl))))))) (fun _ => rfl) (fun _ h => h)
def good83 (x : S83) : Prop := ((Lit.int .i64 x.f0).wf = true) ∧ (good81 x.f1)
theorem open83 : Opens Try.prog 83 k83 good83 := opens_struct Try.underlying83 (by kernel_rfl) (.cons rfl (opens_int Try.underlying3 (by kernel_rfl)) (.one rfl open81)) (fun _ => rfl) (fun _ h => h)
def good126 (x : S126) : Prop := ((Lit.int .i64 x.f0).wf = true) ∧ ((Lit.int .i64 x.f1).wf = true) ∧ ((Lit.int .i64 x.f2).wf = true)
theorem open126 : Opens Try.prog 126 k126 good126 := opens_struct Try.underlying126 (by kernel_rfl) (.cons rfl (opens_int Try.underlying3 (by kernel_rfl)) (.cons rfl (opens_int Try.underlying3 (by kernel_rfl)) (.one rfl (opens_int Try.underlying3 (by kernel_rfl))))) (fun _ => rfl) (fun _ h => h)
def good32 (x : S32) : Prop := ((Lit.int .i64 x.f0).wf = true) ∧ ((x.f1.length ≤ maxLen ∧ ∀ y ∈ x.f1, good126 y)) ∧ ((x.f2.length ≤ maxLen ∧ ∀ y ∈ x.f2, good126 y)) ∧ ((x.f3.length ≤ maxLen ∧ ∀ y ∈ x.f3, True)) ∧ ((Lit.int .i64 x.f4).wf = true)
theorem open32 : Opens Try.prog 32 k32 good32 := opens_struct Try.underlying32 (by kernel_rfl) (.cons rfl (opens_int Try.underlying3 (by kernel_rfl)) (.cons rfl (opens_slice Try.underlying29 (by kernel_rfl) (by kernel_rfl) open126) (.cons rfl (opens_slice Try.underlying29 (by kernel_rfl) (by kernel_rfl) open126) (.cons rfl (opens_slice Try.underlying30 (by kernel_rfl) (by kernel_rfl) (opens_bool Try.underlying4 (by kernel_rfl))) (.one rfl (opens_int Try.underlying3 (by kernel_rfl))))))) (fun _ => rfl) (fun _ h => h)
def good130 (x : S130) : Prop := ((x.f0.length ≤ maxLen ∧ ∀ y ∈ x.f0, good126 y)) ∧ ((Lit.int .i64 x.f1).wf = true)
theorem open130 : Opens Try.prog 130 k130 good130 := opens_struct Try.underlying130 (by kernel_rfl) (.cons rfl (opens_slice Try.underlying29 (by kernel_rfl) (by kernel_rfl) open126) (.one rfl (opens_int Try.underlying3 (by kernel_rfl)))) (fun _ => rfl) (fun _ h => h)
def good43 (x : S43) : Prop := ((x.f0.length ≤ maxLen ∧ ∀ y ∈ x.f0, good130 y)) ∧ ((Lit.int .i64 x.f1).wf = true) ∧ (True)
theorem open43 : Opens Try.prog 43 k43 good43 := opens_struct Try.underlying43 (by kernel_rfl) (.cons rfl (opens_slice Try.underlying41 (by kernel_rfl) (by kernel_rfl) open130) (.cons rfl (opens_int Try.underlying3 (by kernel_rfl)) (.one rfl (opens_bool Try.underlying4 (by kernel_rfl))))) (fun _ => rfl) (fun _ h => h)
def good54 (x : S54) : Prop := ((x.f0.length ≤ maxLen ∧ ∀ y ∈ x.f0, good32 y)) ∧ ((Lit.int .i64 x.f1).wf = true) ∧ ((Lit.int .i64 x.f2).wf = true)
theorem open54 : Opens Try.prog 54 k54 good54 := opens_struct Try.underlying54 (by kernel_rfl) (.cons rfl (opens_slice Try.underlying52 (by kernel_rfl) (by kernel_rfl) open32) (.cons rfl (opens_int Try.underlying3 (by kernel_rfl)) (.one rfl (opens_int Try.underlying3 (by kernel_rfl))))) (fun _ => rfl) (fun _ h => h)
end Go.Proofs.Ytnllplklggoabaa.K
namespace Go.Proofs.Ytnllplklggoabaa.K
open Go Go.RowKit
set_option linter.unusedVariables false
set_option linter.unusedSimpArgs false
def laws_eqRow.f (a0_0 : Int) (a0_1 : Int) (a0_2 : Int) (a1_0 : Int) (a1_1 : Int) (a1_2 : Int) : Option (Bool) := if a0_0 = a1_0 then (if a0_1 = a1_1 then (if a0_2 = a1_2 then (some true) else (some false)) else (some false)) else (some false)
set_option maxHeartbeats 4000000 in
set_option maxRecDepth 100000 in
theorem laws_eqRow.ok (a0_0 : Int) (a0_1 : Int) (a0_2 : Int) (a1_0 : Int) (a1_1 : Int) (a1_2 : Int) (r0 : Bool) (H : laws_eqRow.f a0_0 a0_1 a0_2 a1_0 a1_1 a1_2 = some r0) : Fn Try.prog 95 [.agg #[.int .i64 a0_0, .int .i64 a0_1, .int .i64 a0_2], .agg #[.int .i64 a1_0, .int .i64 a1_1, .int .i64 a1_2]] [] [] (fun v bx en => v = .bool r0 ∧ bx = [] ∧ en = []) := by
 refine fn_ 20 Try.func95 rfl rfl rfl (fun base T w0 => ?_)
 rw [laws_eqRow.f] at H
 refine gs (rg (so rfl (op_box (cs := [.int .i64 a0_0, .int .i64 a0_1, .int .i64 a0_2]) rfl rfl rfl fun b2 => (so rfl (op_box (cs := [.int .i64 a1_0, .int .i64 a1_1, .int .i64 a1_2]) rfl rfl rfl fun b3 => (sv (EV.as rfl) rfl (re (gs (gs (rg (sv (EV.fa 0 rfl) rfl (sv (EV.ld 0 none rfl rfl rfl) rfl (sv (EV.fa 0 rfl) rfl (sv (EV.ld 1 none rfl rfl rfl) rfl (sv (EV.neq rfl rfl) rfl (re (pr [2, 3, 9] [0, 1] [] rfl rfl rfl rfl ?_)))))))))))))))))
 revert H; refine ifsI ?_ ?_ <;> intro c1 H
 ·
  refine gf rfl (nF c1) (gk (gs (gs (rg (sv (EV.fa 1 rfl) rfl (sv (EV.ld 0 none rfl rfl rfl) rfl (sv (EV.fa 1 rfl) rfl (sv (EV.ld 1 none rfl rfl rfl) rfl (sv (EV.neq rfl rfl) rfl (re ?_))))))))))
  revert H; refine ifsI ?_ ?_ <;> intro c2 H
  ·
   refine gf rfl (nF c2) (gk (gs (gs (rg (sv (EV.fa 2 rfl) rfl (sv (EV.ld 0 none rfl rfl rfl) rfl (sv (EV.fa 2 rfl) rfl (sv (EV.ld 1 none rfl rfl rfl) rfl (sv (EV.neq rfl rfl) rfl (re (pr [19] [] [] rfl rfl rfl rfl ?_)))))))))))
   revert H; refine ifsI ?_ ?_ <;> intro c3 H
   ·
    refine gf rfl (nF c3) (gk (gs (rg (sv (EV.as rfl) rfl (re ?_)))))
    cases H
    exact rt Try.func95 rfl (.tmp rfl .nil) rfl [] [] rfl rfl rfl rfl rfl ⟨rfl, rfl, rfl⟩
   ·
    refine gt rfl (nT c3) (gs (rg (sv (EV.as rfl) rfl (re ?_))))
    cases H
    exact rt Try.func95 rfl (.tmp rfl .nil) rfl [] [] rfl rfl rfl rfl rfl ⟨rfl, rfl, rfl⟩
  ·
   refine gt rfl (nT c2) (gs (rg (sv (EV.as rfl) rfl (re (pr [4] [] [] rfl rfl rfl rfl ?_)))))
   cases H
   exact rt Try.func95 rfl (.tmp rfl .nil) rfl [] [] rfl rfl rfl rfl rfl ⟨rfl, rfl, rfl⟩
 ·
  refine gt rfl (nT c1) (gs (rg (sv (EV.as rfl) rfl (re ?_))))
  cases H
  exact rt Try.func95 rfl (.tmp rfl .nil) rfl [] [] rfl rfl rfl rfl rfl ⟨rfl, rfl, rfl⟩
end Go.Proofs.Ytnllplklggoabaa.K
namespace Go.Proofs.Ytnllplklggoabaa.K
open Go Go.RowKit
set_option linter.unusedVariables false
set_option linter.unusedSimpArgs false
def laws_eqRowS.l0 : Nat → Int → (List S124) → (List S124) → Option (Bool)
 | 0, _, _, _ => none
 | k + 1, x2_5, l0, l1 => if x2_5 < (l0.length : Int) then (if 0 ≤ x2_5 then (if x2_5 < (l1.length : Int) then ((laws_eqRow.f ((rd_T124 l0 x2_5).f0) ((rd_T124 l0 x2_5).f1) ((rd_T124 l0 x2_5).f2) ((rd_T124 l1 x2_5).f0) ((rd_T124 l1 x2_5).f1) ((rd_T124 l1 x2_5).f2)).bind fun t5 => (if t5 = true then (laws_eqRowS.l0 k (wrap64 (x2_5 + 1)) l0 l1) else (some false))) else none) else none) else (some true)
def laws_eqRowS.f (k : Nat) (l0 : List S124) (l1 : List S124) : Option (Bool) := if (l0.length : Int) = (l1.length : Int) then (laws_eqRowS.l0 k 0 l0 l1) else (some false)
set_option maxHeartbeats 4000000 in
set_option maxRecDepth 100000 in
theorem laws_eqRowS.ok (k : Nat) (l0 : List S124) (Al0 : Option Addr) (cl0 : Nat) (l1 : List S124) (Al1 : Option Addr) (cl1 : Nat) (r0 : Bool) (H : laws_eqRowS.f k l0 l1 = some r0) : Fn Try.prog 57 [.slice Al0 l0.length cl0, .slice Al1 l1.length cl1] [] [.sl 0 k124 Al0 cl0 l0 0 false, .sl 0 k124 Al1 cl1 l1 0 false] (fun v bx en => v = .bool r0 ∧ bx = [] ∧ en = []) := by
 refine fn_ 27 Try.func57 rfl rfl rfl (fun base T w0 => ?_)
 rw [laws_eqRowS.f] at H
 refine gs (rg (sv (EV.as rfl) rfl (re (gs (gs (rg (sv (EV.mv rfl) rfl (sv (EV.ln rfl) rfl (sv (EV.mv rfl) rfl (sv (EV.ln rfl) rfl (sv (EV.neq rfl rfl) rfl (re ?_))))))))))))
 revert H; refine ifsI ?_ ?_ <;> intro c1 H
 ·
  refine gf rfl (nF c1) (gk (gs (gs (rg (sv (EV.as rfl) rfl (re (pr [0, 1, 5] [] [0, 1] rfl rfl rfl rfl (gb ?_))))))))
  refine lo (fun kk S => ∃ (x2_5 : Int), laws_eqRowS.l0 kk x2_5 l0 l1 = some r0 ∧ S = ⟨[(0, .slice Al0 l0.length cl0), (1, .slice Al1 l1.length cl1), (5, .int .i64 x2_5)], [], [.sl 0 k124 Al0 cl0 l0 0 false, .sl 0 k124 Al1 cl1 l1 0 false]⟩) (fun S hS => ?_) (fun n0 ih0 S hS => ?_) ⟨0, H, rfl⟩ (fun h => wk [0, 1, 5] [] [⟨0, 0, 0, false⟩, ⟨1, 0, 0, false⟩] h)
  · clear H; obtain ⟨_, H, _⟩ := hS; rw [laws_eqRowS.l0] at H; cases H
  clear H
  obtain ⟨x2_5, H, rfl⟩ := hS
  rw [laws_eqRowS.l0] at H
  refine gs (gs (rg (sv (EV.mv rfl) rfl (sv (EV.mv rfl) rfl (sv (EV.ln rfl) rfl (sv (EV.lss rfl rfl) rfl (re ?_)))))))
  revert H; refine ifsI ?_ ?_ <;> intro c2 H
  ·
   refine gt rfl (dT c2) (gk (gs (gb (gs ?_))))
   revert H; refine ggI ?_; intro g3 H
   revert H; refine ggI ?_; intro g4 H
   refine dr [] [0, 1] [] 10 rfl rfl rfl rfl (xv 0 [] [0, 1] rfl (EV.mv rfl) rfl rfl rfl rfl (xv 1 [] [0, 1] rfl (EV.mv rfl) rfl rfl rfl rfl (xv 2 [] [0, 1] rfl (EV.ix 0 rfl rfl rfl g3 c2 rfl) rfl rfl rfl rfl (xv 3 [] [0, 1] rfl (EV.le (v := .agg #[.int .i64 ((rd_T124 l0 x2_5).f0), .int .i64 ((rd_T124 l0 x2_5).f1), .int .i64 ((rd_T124 l0 x2_5).f2)]) x2_5 0 (some 3) 0 z124 rfl rfl rfl g3 c2 rfl rfl rfl) rfl rfl rfl rfl (xv 4 [] [0, 1] rfl (EV.mv rfl) rfl rfl rfl rfl (xv 5 [] [0, 1] rfl (EV.mv rfl) rfl rfl rfl rfl (xv 6 [] [0, 1] rfl (EV.ix 1 rfl rfl rfl g3 g4 rfl) rfl rfl rfl rfl (xv 7 [] [0, 1] rfl (EV.le (v := .agg #[.int .i64 ((rd_T124 l1 x2_5).f0), .int .i64 ((rd_T124 l1 x2_5).f1), .int .i64 ((rd_T124 l1 x2_5).f2)]) x2_5 0 (some 3) 1 z124 rfl rfl rfl g3 g4 rfl rfl rfl) rfl rfl rfl rfl (one1 8 rfl rfl ?_)))))))))
   revert H; refine bdI ?_; rintro t5 A5 H
   refine op_call (laws_eqRow.ok ((rd_T124 l0 x2_5).f0) ((rd_T124 l0 x2_5).f1) ((rd_T124 l0 x2_5).f2) ((rd_T124 l1 x2_5).f0) ((rd_T124 l1 x2_5).f1) ((rd_T124 l1 x2_5).f2) _ A5) [] 1 rfl rfl rfl rfl rfl ?_
   rintro _ _ _ ⟨rfl, rfl, rfl⟩
   refine xs [] [0, 1] rfl rfl rfl (xv 9 [] [0, 1] rfl (EV.nt rfl) rfl rfl rfl rfl (xd (pr [0, 1, 5, 26] [] [0, 1] rfl rfl rfl rfl ?_)))
   revert H; refine ifsI ?_ ?_ <;> intro c6 H
   ·
    subst c6
    exact gf rfl rfl (gk (ge (rg (sv (EV.mv rfl) rfl (sv (EV.add rfl rfl) rfl (sv (EV.as rfl) rfl (re (wk [0, 1, 5] [] [⟨0, 0, 0, false⟩, ⟨1, 0, 0, false⟩] (ih0 _ (by omega) _ ⟨wrap64 (x2_5 + 1), H, rfl⟩)))))))))
   ·
    obtain rfl := bF c6
    refine gt rfl rfl (gs (rg (sv (EV.as rfl) rfl (re ?_))))
    cases H
    exact rt Try.func57 rfl (.tmp rfl .nil) rfl [] [] rfl rfl rfl rfl rfl ⟨rfl, rfl, rfl⟩
  ·
   refine gf rfl (dF c2) (gx rfl (gs (rg (sv (EV.as rfl) rfl (re (pr [4] [] [] rfl rfl rfl rfl ?_))))))
   cases H
   exact rt Try.func57 rfl (.tmp rfl .nil) rfl [] [] rfl rfl rfl rfl rfl ⟨rfl, rfl, rfl⟩
 ·
  refine gt rfl (nT c1) (gs (rg (sv (EV.as rfl) rfl (re (pr [4] [] [] rfl rfl rfl rfl ?_)))))
  cases H
  exact rt Try.func57 rfl (.tmp rfl .nil) rfl [] [] rfl rfl rfl rfl rfl ⟨rfl, rfl, rfl⟩
end Go.Proofs.Ytnllplklggoabaa.K
namespace Go.Proofs.Ytnllplklggoabaa.K
open Go Go.RowKit
set_option linter.unusedVariables false
set_option linter.unusedSimpArgs false
def laws_eqGroupTask.f (k : Nat) (l0_0 : List S124) (a0_1 : Int) (l1_0 : List S124) (a1_1 : Int) : Option (Bool) := (laws_eqRowS.f k l0_0 l1_0).bind fun t1 => (if t1 = true then (if a0_1 = a1_1 then (some true) else (some false)) else (some false))
set_option maxHeartbeats 4000000 in
set_option maxRecDepth 100000 in
theorem laws_eqGroupTask.ok (k : Nat) (l0_0 : List S124) (Al0_0 : Option Addr) (cl0_0 : Nat) (a0_1 : Int) (l1_0 : List S124) (Al1_0 : Option Addr) (cl1_0 : Nat) (a1_1 : Int) (r0 : Bool) (H : laws_eqGroupTask.f k l0_0 a0_1 l1_0 a1_1 = some r0) : Fn Try.prog 98 [.agg #[.slice Al0_0 l0_0.length cl0_0, .int .i64 a0_1], .agg #[.slice Al1_0 l1_0.length cl1_0, .int .i64 a1_1]] [] [.sl 0 k124 Al0_0 cl0_0 l0_0 0 false, .sl 0 k124 Al1_0 cl1_0 l1_0 0 false] (fun v bx en => v = .bool r0 ∧ bx = [] ∧ en = []) := by
 refine fn_ 16 Try.func98 rfl rfl rfl (fun base T w0 => ?_)
 rw [laws_eqGroupTask.f] at H
 refine gs (rg (so rfl (op_box (cs := [.slice Al0_0 l0_0.length cl0_0, .int .i64 a0_1]) rfl rfl rfl fun b2 => (so rfl (op_box (cs := [.slice Al1_0 l1_0.length cl1_0, .int .i64 a1_1]) rfl rfl rfl fun b3 => (sv (EV.as rfl) rfl (re (gs (gs (rg (sv (EV.fa 0 rfl) rfl (sv (EV.ld 0 none rfl rfl rfl) rfl (sv (EV.fa 0 rfl) rfl (sv (EV.ld 1 none rfl rfl rfl) rfl ?_))))))))))))))
 revert H; refine bdI ?_; rintro t1 A1 H
 refine so rfl (op_call (laws_eqRowS.ok k l0_0 Al0_0 cl0_0 l1_0 Al1_0 cl1_0 _ A1) [⟨0, 0, 0, false⟩, ⟨1, 0, 0, false⟩] 1 rfl rfl rfl rfl rfl ?_)
 rintro _ _ _ ⟨rfl, rfl, rfl⟩
 refine sv (EV.nt rfl) rfl (re (pr [2, 3, 10] [0, 1] [0, 1] rfl rfl rfl rfl ?_))
 revert H; refine ifsI ?_ ?_ <;> intro c2 H
 ·
  subst c2
  refine gf rfl rfl (gk (gs (gs (rg (sv (EV.fa 1 rfl) rfl (sv (EV.ld 0 none rfl rfl rfl) rfl (sv (EV.fa 1 rfl) rfl (sv (EV.ld 1 none rfl rfl rfl) rfl (sv (EV.neq rfl rfl) rfl (re (pr [15] [] [] rfl rfl rfl rfl ?_)))))))))))
  revert H; refine ifsI ?_ ?_ <;> intro c3 H
  ·
   refine gf rfl (nF c3) (gk (gs (rg (sv (EV.as rfl) rfl (re ?_)))))
   cases H
   exact rt Try.func98 rfl (.tmp rfl .nil) rfl [] [] rfl rfl rfl rfl rfl ⟨rfl, rfl, rfl⟩
  ·
   refine gt rfl (nT c3) (gs (rg (sv (EV.as rfl) rfl (re ?_))))
   cases H
   exact rt Try.func98 rfl (.tmp rfl .nil) rfl [] [] rfl rfl rfl rfl rfl ⟨rfl, rfl, rfl⟩
 ·
  obtain rfl := bF c2
  refine gt rfl rfl (gs (rg (sv (EV.as rfl) rfl (re ?_))))
  cases H
  exact rt Try.func98 rfl (.tmp rfl .nil) rfl [] [] rfl rfl rfl rfl rfl ⟨rfl, rfl, rfl⟩
end Go.Proofs.Ytnllplklggoabaa.K
namespace Go.Proofs.Ytnllplklggoabaa.K
open Go Go.RowKit
set_option linter.unusedVariables false
set_option linter.unusedSimpArgs false
def laws_eqGroupTaskS.l0 : Nat → Int → (List S99) → (List S99) → Option (Bool)
 | 0, _, _, _ => none
 | k + 1, x2_5, l0, l1 => if x2_5 < (l0.length : Int) then (if 0 ≤ x2_5 then (if x2_5 < (l1.length : Int) then ((laws_eqGroupTask.f k ((rd_T99 l0 x2_5).f0) ((rd_T99 l0 x2_5).f1) ((rd_T99 l1 x2_5).f0) ((rd_T99 l1 x2_5).f1)).bind fun t7 => (if t7 = true then (laws_eqGroupTaskS.l0 k (wrap64 (x2_5 + 1)) l0 l1) else (some false))) else none) else none) else (some true)
def laws_eqGroupTaskS.f (k : Nat) (l0 : List S99) (l1 : List S99) : Option (Bool) := if (l0.length : Int) = (l1.length : Int) then (laws_eqGroupTaskS.l0 k 0 l0 l1) else (some false)
set_option maxHeartbeats 4000000 in
set_option maxRecDepth 100000 in
theorem laws_eqGroupTaskS.ok (k : Nat) (l0 : List S99) (Al0 : Option Addr) (cl0 : Nat) (l1 : List S99) (Al1 : Option Addr) (cl1 : Nat) (r0 : Bool) (H : laws_eqGroupTaskS.f k l0 l1 = some r0) : Fn Try.prog 63 [.slice Al0 l0.length cl0, .slice Al1 l1.length cl1] [] [.sl 0 k99 Al0 cl0 l0 0 false, .sl 0 k99 Al1 cl1 l1 0 false] (fun v bx en => v = .bool r0 ∧ bx = [] ∧ en = []) := by
 refine fn_ 27 Try.func63 rfl rfl rfl (fun base T w0 => ?_)
 rw [laws_eqGroupTaskS.f] at H
 refine gs (rg (sv (EV.as rfl) rfl (re (gs (gs (rg (sv (EV.mv rfl) rfl (sv (EV.ln rfl) rfl (sv (EV.mv rfl) rfl (sv (EV.ln rfl) rfl (sv (EV.neq rfl rfl) rfl (re ?_))))))))))))
 revert H; refine ifsI ?_ ?_ <;> intro c1 H
 ·
  refine gf rfl (nF c1) (gk (gs (gs (rg (sv (EV.as rfl) rfl (re (pr [0, 1, 5] [] [0, 1] rfl rfl rfl rfl (gb ?_))))))))
  refine lo (fun kk S => ∃ (x2_5 : Int), laws_eqGroupTaskS.l0 kk x2_5 l0 l1 = some r0 ∧ S = ⟨[(0, .slice Al0 l0.length cl0), (1, .slice Al1 l1.length cl1), (5, .int .i64 x2_5)], [], [.sl 0 k99 Al0 cl0 l0 0 false, .sl 0 k99 Al1 cl1 l1 0 false]⟩) (fun S hS => ?_) (fun n0 ih0 S hS => ?_) ⟨0, H, rfl⟩ (fun h => wk [0, 1, 5] [] [⟨0, 0, 0, false⟩, ⟨1, 0, 0, false⟩] h)
  · clear H; obtain ⟨_, H, _⟩ := hS; rw [laws_eqGroupTaskS.l0] at H; cases H
  clear H
  obtain ⟨x2_5, H, rfl⟩ := hS
  rw [laws_eqGroupTaskS.l0] at H
  refine gs (gs (rg (sv (EV.mv rfl) rfl (sv (EV.mv rfl) rfl (sv (EV.ln rfl) rfl (sv (EV.lss rfl rfl) rfl (re ?_)))))))
  revert H; refine ifsI ?_ ?_ <;> intro c2 H
  ·
   refine gt rfl (dT c2) (gk (gs (gb (gs ?_))))
   revert H; refine ggI ?_; intro g3 H
   refine opn (i := x2_5) 0 z99 rfl g3 c2 fun A_4 c_4 => ?_
   revert H; refine ggI ?_; intro g5 H
   refine opn (i := x2_5) 1 z99 rfl g3 g5 fun A_6 c_6 => (dr [] [0, 1, 2, 3, 4, 5] [] 10 rfl rfl rfl rfl (xv 0 [] [0, 1, 2, 3, 4, 5] rfl (EV.mv rfl) rfl rfl rfl rfl (xv 1 [] [0, 1, 2, 3, 4, 5] rfl (EV.mv rfl) rfl rfl rfl rfl (xv 2 [] [0, 1, 2, 3, 4, 5] rfl (EV.ix 0 rfl rfl rfl g3 c2 rfl) rfl rfl rfl rfl (xv 3 [] [0, 1, 2, 3, 4, 5] rfl (EV.lc (v := .agg #[.slice A_4 ((rd_T99 l0 x2_5).f0).length c_4, .int .i64 ((rd_T99 l0 x2_5).f1)]) 0 (some 2) 2 rfl rfl rfl rfl) rfl rfl rfl rfl (xv 4 [] [0, 1, 2, 3, 4, 5] rfl (EV.mv rfl) rfl rfl rfl rfl (xv 5 [] [0, 1, 2, 3, 4, 5] rfl (EV.mv rfl) rfl rfl rfl rfl (xv 6 [] [0, 1, 2, 3, 4, 5] rfl (EV.ix 1 rfl rfl rfl g3 g5 rfl) rfl rfl rfl rfl (xv 7 [] [0, 1, 2, 3, 4, 5] rfl (EV.lc (v := .agg #[.slice A_6 ((rd_T99 l1 x2_5).f0).length c_6, .int .i64 ((rd_T99 l1 x2_5).f1)]) 0 (some 2) 4 rfl rfl rfl rfl) rfl rfl rfl rfl (one1 8 rfl rfl ?_))))))))))
   revert H; refine bdI ?_; rintro t7 A7 H
   refine op_call (laws_eqGroupTask.ok n0 ((rd_T99 l0 x2_5).f0) A_4 c_4 ((rd_T99 l0 x2_5).f1) ((rd_T99 l1 x2_5).f0) A_6 c_6 ((rd_T99 l1 x2_5).f1) _ A7) [⟨3, 0, 0, false⟩, ⟨5, 0, 0, false⟩] 1 rfl rfl rfl rfl rfl ?_
   rintro _ _ _ ⟨rfl, rfl, rfl⟩
   refine xs [] [0, 1, 2, 3, 4, 5] rfl rfl rfl (xv 9 [] [0, 1, 2, 3, 4, 5] rfl (EV.nt rfl) rfl rfl rfl rfl (xd (pr [0, 1, 5, 26] [] [0, 1] rfl rfl rfl rfl ?_)))
   revert H; refine ifsI ?_ ?_ <;> intro c8 H
   ·
    subst c8
    exact gf rfl rfl (gk (ge (rg (sv (EV.mv rfl) rfl (sv (EV.add rfl rfl) rfl (sv (EV.as rfl) rfl (re (wk [0, 1, 5] [] [⟨0, 0, 0, false⟩, ⟨1, 0, 0, false⟩] (ih0 _ (by omega) _ ⟨wrap64 (x2_5 + 1), H, rfl⟩)))))))))
   ·
    obtain rfl := bF c8
    refine gt rfl rfl (gs (rg (sv (EV.as rfl) rfl (re ?_))))
    cases H
    exact rt Try.func63 rfl (.tmp rfl .nil) rfl [] [] rfl rfl rfl rfl rfl ⟨rfl, rfl, rfl⟩
  ·
   refine gf rfl (dF c2) (gx rfl (gs (rg (sv (EV.as rfl) rfl (re (pr [4] [] [] rfl rfl rfl rfl ?_))))))
   cases H
   exact rt Try.func63 rfl (.tmp rfl .nil) rfl [] [] rfl rfl rfl rfl rfl ⟨rfl, rfl, rfl⟩
 ·
  refine gt rfl (nT c1) (gs (rg (sv (EV.as rfl) rfl (re (pr [4] [] [] rfl rfl rfl rfl ?_)))))
  cases H
  exact rt Try.func63 rfl (.tmp rfl .nil) rfl [] [] rfl rfl rfl rfl rfl ⟨rfl, rfl, rfl⟩
end Go.Proofs.Ytnllplklggoabaa.K
namespace Go.Proofs.Ytnllplklggoabaa.K
open Go Go.RowKit
set_option linter.unusedVariables false
set_option linter.unusedSimpArgs false
def laws_eqAggregator.f (k : Nat) (l0_0 : List S99) (a0_1 : Int) (a0_2 : Bool) (l1_0 : List S99) (a1_1 : Int) (a1_2 : Bool) : Option (Bool) := (laws_eqGroupTaskS.f k l0_0 l1_0).bind fun t1 => (if t1 = true then (if a0_1 = a1_1 then (if (a0_2 == a1_2) = true then (some true) else (some false)) else (some false)) else (some false))
set_option maxHeartbeats 4000000 in
set_option maxRecDepth 100000 in
theorem laws_eqAggregator.ok (k : Nat) (l0_0 : List S99) (Al0_0 : Option Addr) (cl0_0 : Nat) (a0_1 : Int) (a0_2 : Bool) (l1_0 : List S99) (Al1_0 : Option Addr) (cl1_0 : Nat) (a1_1 : Int) (a1_2 : Bool) (r0 : Bool) (H : laws_eqAggregator.f k l0_0 a0_1 a0_2 l1_0 a1_1 a1_2 = some r0) : Fn Try.prog 24 [.agg #[.slice Al0_0 l0_0.length cl0_0, .int .i64 a0_1, .bool a0_2], .agg #[.slice Al1_0 l1_0.length cl1_0, .int .i64 a1_1, .bool a1_2]] [] [.sl 0 k99 Al0_0 cl0_0 l0_0 0 false, .sl 0 k99 Al1_0 cl1_0 l1_0 0 false] (fun v bx en => v = .bool r0 ∧ bx = [] ∧ en = []) := by
 refine fn_ 21 Try.func24 rfl rfl rfl (fun base T w0 => ?_)
 rw [laws_eqAggregator.f] at H
 refine gs (rg (so rfl (op_box (cs := [.slice Al0_0 l0_0.length cl0_0, .int .i64 a0_1, .bool a0_2]) rfl rfl rfl fun b2 => (so rfl (op_box (cs := [.slice Al1_0 l1_0.length cl1_0, .int .i64 a1_1, .bool a1_2]) rfl rfl rfl fun b3 => (sv (EV.as rfl) rfl (re (gs (gs (rg (sv (EV.fa 0 rfl) rfl (sv (EV.ld 0 none rfl rfl rfl) rfl (sv (EV.fa 0 rfl) rfl (sv (EV.ld 1 none rfl rfl rfl) rfl ?_))))))))))))))
 revert H; refine bdI ?_; rintro t1 A1 H
 refine so rfl (op_call (laws_eqGroupTaskS.ok k l0_0 Al0_0 cl0_0 l1_0 Al1_0 cl1_0 _ A1) [⟨0, 0, 0, false⟩, ⟨1, 0, 0, false⟩] 1 rfl rfl rfl rfl rfl ?_)
 rintro _ _ _ ⟨rfl, rfl, rfl⟩
 refine sv (EV.nt rfl) rfl (re (pr [2, 3, 10] [0, 1] [0, 1] rfl rfl rfl rfl ?_))
 revert H; refine ifsI ?_ ?_ <;> intro c2 H
 ·
  subst c2
  refine gf rfl rfl (gk (gs (gs (rg (sv (EV.fa 1 rfl) rfl (sv (EV.ld 0 none rfl rfl rfl) rfl (sv (EV.fa 1 rfl) rfl (sv (EV.ld 1 none rfl rfl rfl) rfl (sv (EV.neq rfl rfl) rfl (re ?_))))))))))
  revert H; refine ifsI ?_ ?_ <;> intro c3 H
  ·
   refine gf rfl (nF c3) (gk (gs (gs (rg (sv (EV.fa 2 rfl) rfl (sv (EV.ld 0 none rfl rfl rfl) rfl (sv (EV.fa 2 rfl) rfl (sv (EV.ld 1 none rfl rfl rfl) rfl (sv (EV.neb rfl rfl) rfl (re (pr [20] [] [] rfl rfl rfl rfl ?_)))))))))))
   revert H; refine ifsI ?_ ?_ <;> intro c4 H
   ·
    refine gf rfl (bN c4) (gk (gs (rg (sv (EV.as rfl) rfl (re ?_)))))
    cases H
    exact rt Try.func24 rfl (.tmp rfl .nil) rfl [] [] rfl rfl rfl rfl rfl ⟨rfl, rfl, rfl⟩
   ·
    refine gt rfl (bM c4) (gs (rg (sv (EV.as rfl) rfl (re ?_))))
    cases H
    exact rt Try.func24 rfl (.tmp rfl .nil) rfl [] [] rfl rfl rfl rfl rfl ⟨rfl, rfl, rfl⟩
  ·
   refine gt rfl (nT c3) (gs (rg (sv (EV.as rfl) rfl (re (pr [4] [] [] rfl rfl rfl rfl ?_)))))
   cases H
   exact rt Try.func24 rfl (.tmp rfl .nil) rfl [] [] rfl rfl rfl rfl rfl ⟨rfl, rfl, rfl⟩
 ·
  obtain rfl := bF c2
  refine gt rfl rfl (gs (rg (sv (EV.as rfl) rfl (re ?_))))
  cases H
  exact rt Try.func24 rfl (.tmp rfl .nil) rfl [] [] rfl rfl rfl rfl rfl ⟨rfl, rfl, rfl⟩
end Go.Proofs.Ytnllplklggoabaa.K
namespace Go.Proofs.Ytnllplklggoabaa.K
open Go Go.RowKit
set_option linter.unusedVariables false
set_option linter.unusedSimpArgs false
mutual
def spec_FormatInt.j0 : Nat → Int → ByteArray → Bool → Int → Option (ByteArray)
 | 0, _, _, _, _ => none
 | k + 1, x6_0, x6_3, x6_4, x6_5 => if (strOfNums ([IntKind.u8.wrap (wrap64 (48 + x6_5))] : List Int)).size + x6_3.size ≤ 9223372036854775807 then (spec_FormatInt.l0 k (wrap64 (Int.tdiv x6_0 10)) ((strOfNums ([IntKind.u8.wrap (wrap64 (48 + x6_5))] : List Int)) ++ x6_3) x6_4) else none
def spec_FormatInt.l0 : Nat → Int → ByteArray → Bool → Option (ByteArray)
 | 0, _, _, _ => none
 | k + 1, x4_0, x4_3, x4_4 => if x4_0 = 0 then (if x4_4 = true then (if (⟨#[45]⟩ : ByteArray).size + x4_3.size ≤ 9223372036854775807 then (some ((⟨#[45]⟩ : ByteArray) ++ x4_3)) else none) else (some x4_3)) else (if (Int.tmod x4_0 10) < 0 then (spec_FormatInt.j0 k x4_0 x4_3 x4_4 (wrap64 (-(Int.tmod x4_0 10)))) else (spec_FormatInt.j0 k x4_0 x4_3 x4_4 (Int.tmod x4_0 10)))
end
def spec_FormatInt.f (k : Nat) (a0 : Int) : Option (ByteArray) := if a0 = 0 then (some (⟨#[48]⟩ : ByteArray)) else (spec_FormatInt.l0 k a0 (⟨#[]⟩ : ByteArray) (decide (a0 < 0)))
set_option maxHeartbeats 4000000 in
set_option maxRecDepth 100000 in
theorem spec_FormatInt.ok (k : Nat) (a0 : Int) (r0 : ByteArray) (H : spec_FormatInt.f k a0 = some r0) : Fn Try.prog 42 [.int .i64 a0] [] [] (fun v bx en => v = .string r0 ∧ bx = [] ∧ en = []) := by
 refine fn_ 31 Try.func42 rfl rfl rfl (fun base T w0 => ?_)
 rw [spec_FormatInt.f] at H
 refine gs (rg (sv (EV.as rfl) rfl (re (gs (gs (rg (sv (EV.mv rfl) rfl (sv (EV.eql rfl rfl) rfl (re ?_)))))))))
 revert H; refine ifsI ?_ ?_ <;> intro c1 H
 ·
  refine gt rfl (dT c1) (gs (rg (sv (EV.as rfl) rfl (re ?_))))
  cases H
  exact rt Try.func42 rfl (.tmp rfl .nil) rfl [] [] rfl rfl rfl rfl rfl ⟨rfl, rfl, rfl⟩
 ·
  refine gf rfl (dF c1) (gk (gs (rg (sv (EV.as rfl) rfl (re (gs (rg (sv (EV.mv rfl) rfl (sv (EV.lss rfl rfl) rfl (sv (EV.as rfl) rfl (re (gs (gb ?_)))))))))))))
  refine lo (fun kk S => ∃ (x4_0 : Int) (x4_3 : ByteArray) (x4_4 : Bool), spec_FormatInt.l0 kk x4_0 x4_3 x4_4 = some r0 ∧ S = ⟨[(0, .int .i64 x4_0), (3, .string x4_3), (4, .bool x4_4)], [], []⟩) (fun S hS => ?_) (fun n0 ih0 S hS => ?_) ⟨a0, (⟨#[]⟩ : ByteArray), decide (a0 < 0), H, rfl⟩ (fun h => wk [0, 3, 4] [] [] h)
  · clear H; obtain ⟨_, _, _, H, _⟩ := hS; rw [spec_FormatInt.l0] at H; cases H
  clear H
  obtain ⟨x4_0, x4_3, x4_4, H, rfl⟩ := hS
  rw [spec_FormatInt.l0] at H
  refine gs (gs (rg (sv (EV.mv rfl) rfl (sv (EV.neq rfl rfl) rfl (re ?_)))))
  revert H; refine ifsI ?_ ?_ <;> intro c2 H
  ·
   refine gf rfl (nF c2) (gx rfl (gs (gs (rg (sv (EV.mv rfl) rfl (re ?_))))))
   revert H; refine ifsI ?_ ?_ <;> intro c3 H
   ·
    subst c3
    refine gt rfl rfl (gs (rg (sv (EV.mv rfl) rfl ?_)))
    revert H; refine ggI ?_; intro g4 H
    refine sv (EV.ads rfl rfl g4) rfl (sv (EV.as rfl) rfl (re (pr [2] [] [] rfl rfl rfl rfl ?_)))
    cases H
    exact rt Try.func42 rfl (.tmp rfl .nil) rfl [] [] rfl rfl rfl rfl rfl ⟨rfl, rfl, rfl⟩
   ·
    obtain rfl := bF c3
    refine gf rfl rfl (gk (gs (rg (sv (EV.mv rfl) rfl (sv (EV.as rfl) rfl (re (pr [2] [] [] rfl rfl rfl rfl ?_)))))))
    cases H
    exact rt Try.func42 rfl (.tmp rfl .nil) rfl [] [] rfl rfl rfl rfl rfl ⟨rfl, rfl, rfl⟩
  ·
   refine gt rfl (nT c2) (gk (gb (gs (rg (sv (EV.mv rfl) rfl (sv (EV.rem rfl rfl dq) rfl (sv (EV.as rfl) rfl (re ?_))))))))
   refine jo (fun S => ∃ (m : Nat) (x6_0 : Int) (x6_3 : ByteArray) (x6_4 : Bool) (x6_5 : Int), m ≤ n0 ∧ spec_FormatInt.j0 m x6_0 x6_3 x6_4 x6_5 = some r0 ∧ S = ⟨[(0, .int .i64 x6_0), (3, .string x6_3), (4, .bool x6_4), (5, .int .i64 x6_5)], [], []⟩) (fun S hS => ?_) (fun jh0 => ?_)
   ·
    clear H
    obtain ⟨m5, x6_0, x6_3, x6_4, x6_5, lm5, H, rfl⟩ := hS
    rcases m5 with _ | m5
    · rw [spec_FormatInt.j0] at H; cases H
    rw [spec_FormatInt.j0] at H
    refine gs (rg (sv (EV.mv rfl) rfl (sv (EV.add rfl rfl) rfl (sv (EV.cv (k' := .u8) rfl) rfl (so rfl (op_lit (s := 1) (by_ := 1) (.int .u8) ([IntKind.u8.wrap (wrap64 (48 + x6_5))] : List Int) [[]] [] 1 [.tmp 20] rfl rfl rfl rfl rfl rfl rfl rfl rfl rfl rfl rfl rfl dq rfl fun A21_6 c21_6 => (sv (EV.bs 0 rfl rfl) rfl (sv (EV.mv rfl) rfl ?_))))))))
    revert H; refine ggI ?_; intro g7 H
    exact sv (EV.ads rfl rfl g7) rfl (sv (EV.as rfl) rfl (re (pr [0, 3, 4] [] [] rfl rfl rfl rfl (rg (sv (EV.mv rfl) rfl (sv (EV.quo rfl rfl dq) rfl (sv (EV.as rfl) rfl (re (ge (wk [0, 3, 4] [] [] (ih0 _ (by omega) _ ⟨wrap64 (Int.tdiv x6_0 10), (strOfNums ([IntKind.u8.wrap (wrap64 (48 + x6_5))] : List Int)) ++ x6_3, x6_4, H, rfl⟩)))))))))))
   ·
    refine gs (rg (sv (EV.mv rfl) rfl (sv (EV.lss rfl rfl) rfl (re ?_))))
    revert H; refine ifsI ?_ ?_ <;> intro c8 H
    ·
     exact gt rfl (dT c8) (rg (sv (EV.mv rfl) rfl (sv (EV.ng rfl) rfl (sv (EV.as rfl) rfl (re (pr [0, 3, 4, 5] [] [] rfl rfl rfl rfl (wk [0, 3, 4, 5] [] [] (jh0 _ ⟨_, x4_0, x4_3, x4_4, wrap64 (-(Int.tmod x4_0 10)), by omega, H, rfl⟩))))))))
    ·
     exact gf rfl (dF c8) (gk (wk [0, 3, 4, 5] [] [] (jh0 _ ⟨_, x4_0, x4_3, x4_4, Int.tmod x4_0 10, by omega, H, rfl⟩)))
end Go.Proofs.Ytnllplklggoabaa.K
namespace Go.Proofs.Ytnllplklggoabaa.K
open Go Go.RowKit
set_option linter.unusedVariables false
set_option linter.unusedSimpArgs false
def spec_l1In.f (a0 : Int) (a1 : Int) (a2 : Int) : Option (Bool) := if a0 ≥ a1 then (some (decide (a0 ≤ a2))) else (some false)
set_option maxHeartbeats 4000000 in
set_option maxRecDepth 100000 in
theorem spec_l1In.ok (a0 : Int) (a1 : Int) (a2 : Int) (r0 : Bool) (H : spec_l1In.f a0 a1 a2 = some r0) : Fn Try.prog 88 [.int .i64 a0, .int .i64 a1, .int .i64 a2] [] [] (fun v bx en => v = .bool r0 ∧ bx = [] ∧ en = []) := by
 refine fn_ 15 Try.func88 rfl rfl rfl (fun base T w0 => ?_)
 rw [spec_l1In.f] at H
 refine gs (rg (sv (EV.as rfl) rfl (re (gs (rg (sv (EV.mv rfl) rfl (sv (EV.mv rfl) rfl (sv (EV.geq rfl rfl) rfl (sv (EV.mv rfl) rfl ?_)))))))))
 revert H; refine ifsI ?_ ?_ <;> intro c1 H
 ·
  refine ts 10 rfl (dT c1) (sv (EV.mv rfl) rfl (sv (EV.mv rfl) rfl (sv (EV.leq rfl rfl) rfl (sv (EV.pt rfl rfl rfl) rfl (sv (EV.as rfl) rfl (re (pr [6] [] [] rfl rfl rfl rfl ?_)))))))
  cases H
  exact rt Try.func88 rfl (.tmp rfl .nil) rfl [] [] rfl rfl rfl rfl rfl ⟨rfl, rfl, rfl⟩
 ·
  refine ts 10 rfl (dF c1) (sk rfl (sk rfl (sk rfl (sv (EV.pf rfl rfl rfl) rfl (sv (EV.as rfl) rfl (re (pr [6] [] [] rfl rfl rfl rfl ?_)))))))
  cases H
  exact rt Try.func88 rfl (.tmp rfl .nil) rfl [] [] rfl rfl rfl rfl rfl ⟨rfl, rfl, rfl⟩
end Go.Proofs.Ytnllplklggoabaa.K
namespace Go.Proofs.Ytnllplklggoabaa.K
open Go Go.RowKit
set_option linter.unusedVariables false
set_option linter.unusedSimpArgs false
def spec_IsValidRow.f (a0_0 : Int) (a0_1 : Int) (a0_2 : Int) : Option (Bool) := (spec_l1In.f a0_0 0 9).bind fun t1 => (if t1 = true then ((spec_l1In.f a0_1 0 99).bind fun t3 => (if t3 = true then ((spec_l1In.f a0_2 0 3).bind fun t5 => (some t5)) else (some false))) else (some false))
set_option maxHeartbeats 4000000 in
set_option maxRecDepth 100000 in
theorem spec_IsValidRow.ok (a0_0 : Int) (a0_1 : Int) (a0_2 : Int) (r0 : Bool) (H : spec_IsValidRow.f a0_0 a0_1 a0_2 = some r0) : Fn Try.prog 101 [.agg #[.int .i64 a0_0, .int .i64 a0_1, .int .i64 a0_2]] [] [] (fun v bx en => v = .bool r0 ∧ bx = [] ∧ en = []) := by
 refine fn_ 16 Try.func101 rfl rfl rfl (fun base T w0 => ?_)
 rw [spec_IsValidRow.f] at H
 refine gs (rg (so rfl (op_box (cs := [.int .i64 a0_0, .int .i64 a0_1, .int .i64 a0_2]) rfl rfl rfl fun b1 => (sv (EV.as rfl) rfl (re (gs (rg (sv (EV.fa 0 rfl) rfl (sv (EV.ld 0 none rfl rfl rfl) rfl ?_)))))))))
 revert H; refine bdI ?_; rintro t1 A1 H
 refine so rfl (op_call (spec_l1In.ok a0_0 0 9 _ A1) [] 1 rfl rfl rfl rfl rfl ?_)
 rintro _ _ _ ⟨rfl, rfl, rfl⟩
 refine sv (EV.mv rfl) rfl ?_
 revert H; refine ifsI ?_ ?_ <;> intro c2 H
 ·
  subst c2
  refine ts 6 rfl rfl (sv (EV.fa 1 rfl) rfl (sv (EV.ld 0 none rfl rfl rfl) rfl ?_))
  revert H; refine bdI ?_; rintro t3 A3 H
  refine so rfl (op_call (spec_l1In.ok a0_1 0 99 _ A3) [] 1 rfl rfl rfl rfl rfl ?_)
  rintro _ _ _ ⟨rfl, rfl, rfl⟩
  refine sv (EV.pt rfl rfl rfl) rfl (sv (EV.mv rfl) rfl ?_)
  revert H; refine ifsI ?_ ?_ <;> intro c4 H
  ·
   subst c4
   refine ts 11 rfl rfl (sv (EV.fa 2 rfl) rfl (sv (EV.ld 0 none rfl rfl rfl) rfl ?_))
   revert H; refine bdI ?_; rintro t5 A5 H
   refine so rfl (op_call (spec_l1In.ok a0_2 0 3 _ A5) [] 1 rfl rfl rfl rfl rfl ?_)
   rintro _ _ _ ⟨rfl, rfl, rfl⟩
   refine sv (EV.pt rfl rfl rfl) rfl (sv (EV.as rfl) rfl (re (pr [2] [] [] rfl rfl rfl rfl ?_)))
   cases H
   exact rt Try.func101 rfl (.tmp rfl .nil) rfl [] [] rfl rfl rfl rfl rfl ⟨rfl, rfl, rfl⟩
  ·
   obtain rfl := bF c4
   refine ts 11 rfl rfl (sk rfl (sk rfl (sk rfl (sv (EV.pf rfl rfl rfl) rfl (sv (EV.as rfl) rfl (re (pr [2] [] [] rfl rfl rfl rfl ?_)))))))
   cases H
   exact rt Try.func101 rfl (.tmp rfl .nil) rfl [] [] rfl rfl rfl rfl rfl ⟨rfl, rfl, rfl⟩
 ·
  obtain rfl := bF c2
  refine ts 6 rfl rfl (sk rfl (sk rfl (sk rfl (sv (EV.pf rfl rfl rfl) rfl (sv (EV.mv rfl) rfl (sk rfl (sk rfl (sk rfl (sv (EV.pf rfl rfl rfl) rfl (sv (EV.as rfl) rfl (re (pr [2] [] [] rfl rfl rfl rfl ?_))))))))))))
  cases H
  exact rt Try.func101 rfl (.tmp rfl .nil) rfl [] [] rfl rfl rfl rfl rfl ⟨rfl, rfl, rfl⟩
end Go.Proofs.Ytnllplklggoabaa.K
namespace Go.Proofs.Ytnllplklggoabaa.K
open Go Go.RowKit
set_option linter.unusedVariables false
set_option linter.unusedSimpArgs false
def spec_AreValidRows.l0 : Nat → Int → (List S124) → Option (Bool)
 | 0, _, _ => none
 | k + 1, x2_3, l0 => if x2_3 < (l0.length : Int) then (if 0 ≤ x2_3 then ((spec_IsValidRow.f ((rd_T124 l0 x2_3).f0) ((rd_T124 l0 x2_3).f1) ((rd_T124 l0 x2_3).f2)).bind fun t3 => (if t3 = true then (spec_AreValidRows.l0 k (wrap64 (x2_3 + 1)) l0) else (some false))) else none) else (some (decide ((l0.length : Int) ≤ 24)))
def spec_AreValidRows.f (k : Nat) (l0 : List S124) : Option (Bool) := spec_AreValidRows.l0 k 0 l0
set_option maxHeartbeats 4000000 in
set_option maxRecDepth 100000 in
theorem spec_AreValidRows.ok (k : Nat) (l0 : List S124) (Al0 : Option Addr) (cl0 : Nat) (r0 : Bool) (H : spec_AreValidRows.f k l0 = some r0) : Fn Try.prog 87 [.slice Al0 l0.length cl0] [] [.sl 0 k124 Al0 cl0 l0 0 false] (fun v bx en => v = .bool r0 ∧ bx = [] ∧ en = []) := by
 refine fn_ 19 Try.func87 rfl rfl rfl (fun base T w0 => ?_)
 rw [spec_AreValidRows.f] at H
 refine gs (rg (sv (EV.as rfl) rfl (re (gs (gs (rg (sv (EV.as rfl) rfl (re (gb ?_)))))))))
 refine lo (fun kk S => ∃ (x2_3 : Int), spec_AreValidRows.l0 kk x2_3 l0 = some r0 ∧ S = ⟨[(0, .slice Al0 l0.length cl0), (3, .int .i64 x2_3)], [], [.sl 0 k124 Al0 cl0 l0 0 false]⟩) (fun S hS => ?_) (fun n0 ih0 S hS => ?_) ⟨0, H, rfl⟩ (fun h => wk [0, 3] [] [⟨0, 0, 0, false⟩] h)
 · clear H; obtain ⟨_, H, _⟩ := hS; rw [spec_AreValidRows.l0] at H; cases H
 clear H
 obtain ⟨x2_3, H, rfl⟩ := hS
 rw [spec_AreValidRows.l0] at H
 refine gs (gs (rg (sv (EV.mv rfl) rfl (sv (EV.mv rfl) rfl (sv (EV.ln rfl) rfl (sv (EV.lss rfl rfl) rfl (re ?_)))))))
 revert H; refine ifsI ?_ ?_ <;> intro c1 H
 ·
  refine gt rfl (dT c1) (gk (gs (gb (gs (rg (sv (EV.mv rfl) rfl (sv (EV.mv rfl) rfl ?_)))))))
  revert H; refine ggI ?_; intro g2 H
  refine sv (EV.ix 0 rfl rfl rfl g2 c1 rfl) rfl (sv (EV.le (v := .agg #[.int .i64 ((rd_T124 l0 x2_3).f0), .int .i64 ((rd_T124 l0 x2_3).f1), .int .i64 ((rd_T124 l0 x2_3).f2)]) x2_3 0 (some 3) 0 z124 rfl rfl rfl g2 c1 rfl rfl rfl) rfl ?_)
  revert H; refine bdI ?_; rintro t3 A3 H
  refine so rfl (op_call (spec_IsValidRow.ok ((rd_T124 l0 x2_3).f0) ((rd_T124 l0 x2_3).f1) ((rd_T124 l0 x2_3).f2) _ A3) [] 1 rfl rfl rfl rfl rfl ?_)
  rintro _ _ _ ⟨rfl, rfl, rfl⟩
  refine sv (EV.nt rfl) rfl (re (pr [0, 3, 15] [] [0] rfl rfl rfl rfl ?_))
  revert H; refine ifsI ?_ ?_ <;> intro c4 H
  ·
   subst c4
   exact gf rfl rfl (gk (ge (rg (sv (EV.mv rfl) rfl (sv (EV.add rfl rfl) rfl (sv (EV.as rfl) rfl (re (wk [0, 3] [] [⟨0, 0, 0, false⟩] (ih0 _ (by omega) _ ⟨wrap64 (x2_3 + 1), H, rfl⟩)))))))))
  ·
   obtain rfl := bF c4
   refine gt rfl rfl (gs (rg (sv (EV.as rfl) rfl (re ?_))))
   cases H
   exact rt Try.func87 rfl (.tmp rfl .nil) rfl [] [] rfl rfl rfl rfl rfl ⟨rfl, rfl, rfl⟩
 ·
  refine gf rfl (dF c1) (gx rfl (gs (rg (sv (EV.mv rfl) rfl (sv (EV.ln rfl) rfl (sv (EV.leq rfl rfl) rfl (sv (EV.as rfl) rfl (re (pr [2] [] [] rfl rfl rfl rfl ?_)))))))))
  cases H
  exact rt Try.func87 rfl (.tmp rfl .nil) rfl [] [] rfl rfl rfl rfl rfl ⟨rfl, rfl, rfl⟩
end Go.Proofs.Ytnllplklggoabaa.K
namespace Go.Proofs.Ytnllplklggoabaa.K
open Go Go.RowKit
set_option linter.unusedVariables false
set_option linter.unusedSimpArgs false
def spec_FormatRow.f (k : Nat) (a0_0 : Int) (a0_1 : Int) (a0_2 : Int) : Option (ByteArray) := (spec_IsValidRow.f a0_0 a0_1 a0_2).bind fun t1 => (if t1 = true then ((spec_FormatInt.f k a0_0).bind fun t3 => (if t3.size + (⟨#[46]⟩ : ByteArray).size ≤ 9223372036854775807 then ((spec_FormatInt.f k a0_1).bind fun t5 => (if (t3 ++ (⟨#[46]⟩ : ByteArray)).size + t5.size ≤ 9223372036854775807 then (if ((t3 ++ (⟨#[46]⟩ : ByteArray)) ++ t5).size + (⟨#[46]⟩ : ByteArray).size ≤ 9223372036854775807 then ((spec_FormatInt.f k a0_2).bind fun t8 => (if (((t3 ++ (⟨#[46]⟩ : ByteArray)) ++ t5) ++ (⟨#[46]⟩ : ByteArray)).size + t8.size ≤ 9223372036854775807 then (some ((((t3 ++ (⟨#[46]⟩ : ByteArray)) ++ t5) ++ (⟨#[46]⟩ : ByteArray)) ++ t8)) else none)) else none) else none)) else none)) else (some (⟨#[]⟩ : ByteArray)))
set_option maxHeartbeats 4000000 in
set_option maxRecDepth 100000 in
theorem spec_FormatRow.ok (k : Nat) (a0_0 : Int) (a0_1 : Int) (a0_2 : Int) (r0 : ByteArray) (H : spec_FormatRow.f k a0_0 a0_1 a0_2 = some r0) : Fn Try.prog 89 [.agg #[.int .i64 a0_0, .int .i64 a0_1, .int .i64 a0_2]] [] [] (fun v bx en => v = .string r0 ∧ bx = [] ∧ en = []) := by
 refine fn_ 19 Try.func89 rfl rfl rfl (fun base T w0 => ?_)
 rw [spec_FormatRow.f] at H
 refine gs (rg (so rfl (op_box (cs := [.int .i64 a0_0, .int .i64 a0_1, .int .i64 a0_2]) rfl rfl rfl fun b1 => (sv (EV.as rfl) rfl (re (gs (gs (rg (sv (EV.ld (v := .agg #[.int .i64 a0_0, .int .i64 a0_1, .int .i64 a0_2]) 0 (some 3) rfl rfl rfl) rfl ?_)))))))))
 revert H; refine bdI ?_; rintro t1 A1 H
 refine so rfl (op_call (spec_IsValidRow.ok a0_0 a0_1 a0_2 _ A1) [] 1 rfl rfl rfl rfl rfl ?_)
 rintro _ _ _ ⟨rfl, rfl, rfl⟩
 refine sv (EV.nt rfl) rfl (re ?_)
 revert H; refine ifsI ?_ ?_ <;> intro c2 H
 ·
  subst c2
  refine gf rfl rfl (gk (gs (dr [0] [] [] 14 rfl rfl rfl rfl (xv 0 [0] [] rfl (EV.fa 0 rfl) rfl rfl rfl rfl (xv 1 [0] [] rfl (EV.ld 0 none rfl rfl rfl) rfl rfl rfl rfl (xv 4 [0] [] rfl (EV.fa 1 rfl) rfl rfl rfl rfl (xv 5 [0] [] rfl (EV.ld 0 none rfl rfl rfl) rfl rfl rfl rfl (xv 9 [0] [] rfl (EV.fa 2 rfl) rfl rfl rfl rfl (xv 10 [0] [] rfl (EV.ld 0 none rfl rfl rfl) rfl rfl rfl rfl (one1 2 rfl rfl ?_))))))))))
  revert H; refine bdI ?_; rintro t3 A3 H
  refine op_call (spec_FormatInt.ok k a0_0 _ A3) [] 1 rfl rfl rfl rfl rfl ?_
  rintro _ _ _ ⟨rfl, rfl, rfl⟩
  refine xs [0] [] rfl rfl rfl ?_
  revert H; refine ggI ?_; intro g4 H
  refine xv 3 [0] [] rfl (EV.ads rfl rfl g4) rfl rfl rfl rfl (one1 6 rfl rfl ?_)
  revert H; refine bdI ?_; rintro t5 A5 H
  refine op_call (spec_FormatInt.ok k a0_1 _ A5) [] 1 rfl rfl rfl rfl rfl ?_
  rintro _ _ _ ⟨rfl, rfl, rfl⟩
  refine xs [0] [] rfl rfl rfl ?_
  revert H; refine ggI ?_; intro g6 H
  refine xv 7 [0] [] rfl (EV.ads rfl rfl g6) rfl rfl rfl rfl ?_
  revert H; refine ggI ?_; intro g7 H
  refine xv 8 [0] [] rfl (EV.ads rfl rfl g7) rfl rfl rfl rfl (one1 11 rfl rfl ?_)
  revert H; refine bdI ?_; rintro t8 A8 H
  refine op_call (spec_FormatInt.ok k a0_2 _ A8) [] 1 rfl rfl rfl rfl rfl ?_
  rintro _ _ _ ⟨rfl, rfl, rfl⟩
  refine xs [0] [] rfl rfl rfl ?_
  revert H; refine ggI ?_; intro g9 H
  refine xv 12 [0] [] rfl (EV.ads rfl rfl g9) rfl rfl rfl rfl (xv 13 [0] [] rfl (EV.as rfl) rfl rfl rfl rfl (xd (pr [2] [] [] rfl rfl rfl rfl ?_)))
  cases H
  exact rt Try.func89 rfl (.tmp rfl .nil) rfl [] [] rfl rfl rfl rfl rfl ⟨rfl, rfl, rfl⟩
 ·
  obtain rfl := bF c2
  refine gt rfl rfl (gs (rg (sv (EV.as rfl) rfl (re ?_))))
  cases H
  exact rt Try.func89 rfl (.tmp rfl .nil) rfl [] [] rfl rfl rfl rfl rfl ⟨rfl, rfl, rfl⟩
end Go.Proofs.Ytnllplklggoabaa.K
namespace Go.Proofs.Ytnllplklggoabaa.K
open Go Go.RowKit
set_option linter.unusedVariables false
set_option linter.unusedSimpArgs false
mutual
def spec_FormatRows.j0 : Nat → ByteArray → Int → Bool → (List S124) → Option (ByteArray)
 | 0, _, _, _, _ => none
 | k + 1, x10_3, x10_4, x10_11, l0 => if 0 ≤ x10_4 then (if x10_4 < (l0.length : Int) then ((spec_FormatRow.f k ((rd_T124 l0 x10_4).f0) ((rd_T124 l0 x10_4).f1) ((rd_T124 l0 x10_4).f2)).bind fun t7 => (if x10_3.size + t7.size ≤ 9223372036854775807 then (spec_FormatRows.l0 k (x10_3 ++ t7) (wrap64 (x10_4 + 1)) l0) else none)) else none) else none
def spec_FormatRows.l0 : Nat → ByteArray → Int → (List S124) → Option (ByteArray)
 | 0, _, _, _ => none
 | k + 1, x6_3, x6_4, l0 => if x6_4 < (l0.length : Int) then ((spec_AreValidRows.f k l0).bind fun t2 => (if t2 = true then (if x6_4 > 0 then (if x6_3.size + (⟨#[32]⟩ : ByteArray).size ≤ 9223372036854775807 then (spec_FormatRows.j0 k (x6_3 ++ (⟨#[32]⟩ : ByteArray)) x6_4 true l0) else none) else (spec_FormatRows.j0 k x6_3 x6_4 true l0)) else (some x6_3))) else (some x6_3)
end
def spec_FormatRows.f (k : Nat) (l0 : List S124) : Option (ByteArray) := spec_FormatRows.l0 k (⟨#[]⟩ : ByteArray) 0 l0
set_option maxHeartbeats 4000000 in
set_option maxRecDepth 100000 in
theorem spec_FormatRows.ok (k : Nat) (l0 : List S124) (Al0 : Option Addr) (cl0 : Nat) (r0 : ByteArray) (H : spec_FormatRows.f k l0 = some r0) : Fn Try.prog 52 [.slice Al0 l0.length cl0] [] [.sl 0 k124 Al0 cl0 l0 0 false] (fun v bx en => v = .string r0 ∧ bx = [] ∧ en = []) := by
 refine fn_ 27 Try.func52 rfl rfl rfl (fun base T w0 => ?_)
 rw [spec_FormatRows.f] at H
 refine gs (rg (sv (EV.as rfl) rfl (re (gs (rg (sv (EV.as rfl) rfl (re (gs (gs (rg (sv (EV.as rfl) rfl (re (gb ?_)))))))))))))
 refine lo (fun kk S => ∃ (x6_3 : ByteArray) (x6_4 : Int), spec_FormatRows.l0 kk x6_3 x6_4 l0 = some r0 ∧ S = ⟨[(0, .slice Al0 l0.length cl0), (3, .string x6_3), (4, .int .i64 x6_4)], [], [.sl 0 k124 Al0 cl0 l0 0 false]⟩) (fun S hS => ?_) (fun n0 ih0 S hS => ?_) ⟨(⟨#[]⟩ : ByteArray), 0, H, rfl⟩ (fun h => wk [0, 3, 4] [] [⟨0, 0, 0, false⟩] h)
 · clear H; obtain ⟨_, _, H, _⟩ := hS; rw [spec_FormatRows.l0] at H; cases H
 clear H
 obtain ⟨x6_3, x6_4, H, rfl⟩ := hS
 rw [spec_FormatRows.l0] at H
 refine gs (gs (rg (sv (EV.mv rfl) rfl (sv (EV.mv rfl) rfl (sv (EV.ln rfl) rfl (sv (EV.lss rfl rfl) rfl (sv (EV.mv rfl) rfl ?_)))))))
 revert H; refine ifsI ?_ ?_ <;> intro c1 H
 ·
  refine ts 9 rfl (dT c1) (sv (EV.mv rfl) rfl ?_)
  revert H; refine bdI ?_; rintro t2 A2 H
  refine so rfl (op_call (spec_AreValidRows.ok n0 l0 Al0 cl0 _ A2) [⟨0, 0, 0, false⟩] 1 rfl rfl rfl rfl rfl ?_)
  rintro _ _ _ ⟨rfl, rfl, rfl⟩
  refine sv (EV.pt rfl rfl rfl) rfl (re ?_)
  revert H; refine ifsI ?_ ?_ <;> intro c3 H
  ·
   subst c3
   refine gt rfl rfl (gk (gs (gb ?_)))
   refine jo (fun S => ∃ (m : Nat) (x10_3 : ByteArray) (x10_4 : Int) (x10_11 : Bool), m ≤ n0 ∧ spec_FormatRows.j0 m x10_3 x10_4 x10_11 l0 = some r0 ∧ S = ⟨[(0, .slice Al0 l0.length cl0), (3, .string x10_3), (4, .int .i64 x10_4), (10, .slice Al0 l0.length cl0), (11, .bool x10_11)], [], [.sl 0 k124 Al0 cl0 l0 0 false]⟩) (fun S hS => ?_) (fun jh0 => ?_)
   ·
    clear H
    obtain ⟨m4, x10_3, x10_4, x10_11, lm4, H, rfl⟩ := hS
    rcases m4 with _ | m4
    · rw [spec_FormatRows.j0] at H; cases H
    rw [spec_FormatRows.j0] at H
    refine rg (sv (EV.mv rfl) rfl (sv (EV.mv rfl) rfl (sv (EV.mv rfl) rfl ?_)))
    revert H; refine ggI ?_; intro g5 H
    revert H; refine ggI ?_; intro g6 H
    refine sv (EV.ix 0 rfl rfl rfl g5 g6 rfl) rfl (sv (EV.le (v := .agg #[.int .i64 ((rd_T124 l0 x10_4).f0), .int .i64 ((rd_T124 l0 x10_4).f1), .int .i64 ((rd_T124 l0 x10_4).f2)]) x10_4 0 (some 3) 0 z124 rfl rfl rfl g5 g6 rfl rfl rfl) rfl ?_)
    revert H; refine bdI ?_; rintro t7 A7 H
    refine so rfl (op_call (spec_FormatRow.ok m4 ((rd_T124 l0 x10_4).f0) ((rd_T124 l0 x10_4).f1) ((rd_T124 l0 x10_4).f2) _ A7) [] 1 rfl rfl rfl rfl rfl ?_)
    rintro _ _ _ ⟨rfl, rfl, rfl⟩
    revert H; refine ggI ?_; intro g8 H
    exact sv (EV.ads rfl rfl g8) rfl (sv (EV.as rfl) rfl (re (pr [0, 3, 4, 10, 11] [] [0] rfl rfl rfl rfl (ge (rg (sv (EV.mv rfl) rfl (sv (EV.add rfl rfl) rfl (sv (EV.as rfl) rfl (re (wk [0, 3, 4] [] [⟨0, 0, 0, false⟩] (ih0 _ (by omega) _ ⟨x10_3 ++ t7, wrap64 (x10_4 + 1), H, rfl⟩)))))))))))
   ·
    refine gs (rg (sv (EV.mv rfl) rfl (sv (EV.gtr rfl rfl) rfl (re (pr [0, 3, 4, 10, 11, 16] [] [0] rfl rfl rfl rfl ?_)))))
    revert H; refine ifsI ?_ ?_ <;> intro c9 H
    ·
     refine gt rfl (dT c9) (rg (sv (EV.mv rfl) rfl ?_))
     revert H; refine ggI ?_; intro g10 H
     exact sv (EV.ads rfl rfl g10) rfl (sv (EV.as rfl) rfl (re (wk [0, 3, 4, 10, 11] [] [⟨0, 0, 0, false⟩] (jh0 _ ⟨_, x6_3 ++ (⟨#[32]⟩ : ByteArray), x6_4, true, by omega, H, rfl⟩))))
    ·
     exact gf rfl (dF c9) (gk (wk [0, 3, 4, 10, 11] [] [⟨0, 0, 0, false⟩] (jh0 _ ⟨_, x6_3, x6_4, true, by omega, H, rfl⟩)))
  ·
   obtain rfl := bF c3
   refine gf rfl rfl (gx rfl (gs (rg (sv (EV.mv rfl) rfl (sv (EV.as rfl) rfl (re (pr [2] [] [] rfl rfl rfl rfl ?_)))))))
   cases H
   exact rt Try.func52 rfl (.tmp rfl .nil) rfl [] [] rfl rfl rfl rfl rfl ⟨rfl, rfl, rfl⟩
 ·
  refine ts 9 rfl (dF c1) (sk rfl (sk rfl (sv (EV.pf rfl rfl rfl) rfl (re (pr [0, 3, 4, 12] [] [0] rfl rfl rfl rfl (gf rfl rfl (gx rfl (gs (rg (sv (EV.mv rfl) rfl (sv (EV.as rfl) rfl (re ?_))))))))))))
  cases H
  exact rt Try.func52 rfl (.tmp rfl .nil) rfl [] [] rfl rfl rfl rfl rfl ⟨rfl, rfl, rfl⟩
end Go.Proofs.Ytnllplklggoabaa.K
namespace Go.Proofs.Ytnllplklggoabaa.K
open Go Go.RowKit
set_option linter.unusedVariables false
set_option linter.unusedSimpArgs false
def spec_IsValidAggregator.l0 : Nat → Int → Int → Int → Bool → (List S99) → Option (Bool)
 | 0, _, _, _, _, _ => none
 | k + 1, x2_3, x2_4, x2_1_1, x2_1_2, l0_0 => if x2_4 < (l0_0.length : Int) then (if 0 ≤ x2_4 then ((spec_AreValidRows.f k ((rd_T99 l0_0 x2_4).f0)).bind fun t4 => (if t4 = true then ((spec_l1In.f ((rd_T99 l0_0 x2_4).f1) 0 4).bind fun t6 => (if t6 = true then (spec_IsValidAggregator.l0 k (wrap64 (x2_3 + (((rd_T99 l0_0 x2_4).f0).length : Int))) (wrap64 (x2_4 + 1)) x2_1_1 x2_1_2 l0_0) else (some false))) else (some false))) else none) else (if x2_3 ≤ 24 then (if (l0_0.length : Int) ≤ 40 then ((spec_l1In.f x2_1_1 0 100000).bind fun t11 => (some t11)) else (some false)) else (some false))
def spec_IsValidAggregator.f (k : Nat) (l0_0 : List S99) (a0_1 : Int) (a0_2 : Bool) : Option (Bool) := spec_IsValidAggregator.l0 k 0 0 a0_1 a0_2 l0_0
set_option maxHeartbeats 4000000 in
set_option maxRecDepth 100000 in
theorem spec_IsValidAggregator.ok (k : Nat) (l0_0 : List S99) (Al0_0 : Option Addr) (cl0_0 : Nat) (a0_1 : Int) (a0_2 : Bool) (r0 : Bool) (H : spec_IsValidAggregator.f k l0_0 a0_1 a0_2 = some r0) : Fn Try.prog 60 [.agg #[.slice Al0_0 l0_0.length cl0_0, .int .i64 a0_1, .bool a0_2]] [] [.sl 0 k99 Al0_0 cl0_0 l0_0 0 false] (fun v bx en => v = .bool r0 ∧ bx = [] ∧ en = []) := by
 refine fn_ 52 Try.func60 rfl rfl rfl (fun base T w0 => ?_)
 rw [spec_IsValidAggregator.f] at H
 refine gs (rg (so rfl (op_box (cs := [.slice Al0_0 l0_0.length cl0_0, .int .i64 a0_1, .bool a0_2]) rfl rfl rfl fun b1 => (sv (EV.as rfl) rfl (re (gs (rg (sv (EV.as rfl) rfl (re (gs (gs (rg (sv (EV.as rfl) rfl (re (gb ?_)))))))))))))))
 refine lo (fun kk S => ∃ (x2_3 : Int) (x2_4 : Int) (x2_1_1 : Int) (x2_1_2 : Bool), spec_IsValidAggregator.l0 kk x2_3 x2_4 x2_1_1 x2_1_2 l0_0 = some r0 ∧ S = ⟨[(1, .pointer (some ⟨b1, 0, none⟩)), (3, .int .i64 x2_3), (4, .int .i64 x2_4)], [⟨b1, 48, [.slice Al0_0 l0_0.length cl0_0, .int .i64 x2_1_1, .bool x2_1_2]⟩], [.sl 0 k99 Al0_0 cl0_0 l0_0 0 false]⟩) (fun S hS => ?_) (fun n0 ih0 S hS => ?_) ⟨0, 0, a0_1, a0_2, H, rfl⟩ (fun h => wk [1, 3, 4] [0] [⟨0, 0, 0, false⟩] h)
 · clear H; obtain ⟨_, _, _, _, H, _⟩ := hS; rw [spec_IsValidAggregator.l0] at H; cases H
 clear H
 obtain ⟨x2_3, x2_4, x2_1_1, x2_1_2, H, rfl⟩ := hS
 rw [spec_IsValidAggregator.l0] at H
 refine gs (gs (rg (sv (EV.mv rfl) rfl (sv (EV.fa 0 rfl) rfl (sv (EV.ld 0 none rfl rfl rfl) rfl (sv (EV.ln rfl) rfl (sv (EV.lss rfl rfl) rfl (re ?_))))))))
 revert H; refine ifsI ?_ ?_ <;> intro c1 H
 ·
  refine gt rfl (dT c1) (gk (gs (gb (gs (gs (rg (sv (EV.fa 0 rfl) rfl (sv (EV.ld 0 none rfl rfl rfl) rfl (sv (EV.mv rfl) rfl ?_)))))))))
  revert H; refine ggI ?_; intro g2 H
  refine sv (EV.ix 0 rfl rfl rfl g2 c1 rfl) rfl (sv (EV.fa 0 rfl) rfl (opn (i := x2_4) 0 z99 rfl g2 c1 fun A_3 c_3 => (sv (EV.lc (v := .slice A_3 ((rd_T99 l0_0 x2_4).f0).length c_3) 0 none 1 rfl rfl rfl rfl) rfl ?_)))
  revert H; refine bdI ?_; rintro t4 A4 H
  refine so rfl (op_call (spec_AreValidRows.ok n0 ((rd_T99 l0_0 x2_4).f0) A_3 c_3 _ A4) [⟨2, 0, 0, false⟩] 1 rfl rfl rfl rfl rfl ?_)
  rintro _ _ _ ⟨rfl, rfl, rfl⟩
  refine sv (EV.nt rfl) rfl (sv (EV.mv rfl) rfl ?_)
  revert H; refine ifsI ?_ ?_ <;> intro c5 H
  ·
   subst c5
   refine ts 20 rfl rfl (sv (EV.fa 0 rfl) rfl (sv (EV.ld 0 none rfl rfl rfl) rfl (sv (EV.mv rfl) rfl (sv (EV.ix 0 rfl rfl rfl g2 c1 rfl) rfl (sv (EV.fa 1 rfl) rfl (sv (EV.lf (v := .int .i64 ((rd_T99 l0_0 x2_4).f1)) x2_4 1 none 0 z99 rfl rfl rfl g2 c1 rfl (fun _ _ => rfl)) rfl ?_))))))
   revert H; refine bdI ?_; rintro t6 A6 H
   refine so rfl (op_call (spec_l1In.ok ((rd_T99 l0_0 x2_4).f1) 0 4 _ A6) [] 1 rfl rfl rfl rfl rfl ?_)
   rintro _ _ _ ⟨rfl, rfl, rfl⟩
   refine sv (EV.nt rfl) rfl (sv (EV.pf rfl rfl rfl) rfl (re (pr [1, 3, 4, 21, 22, 23, 24, 25, 26, 27, 28, 29] [0] [0] rfl rfl rfl rfl ?_)))
   revert H; refine ifsI ?_ ?_ <;> intro c7 H
   ·
    subst c7
    exact gf rfl rfl (gk (rg (sv (EV.mv rfl) rfl (sv (EV.fa 0 rfl) rfl (sv (EV.ld 0 none rfl rfl rfl) rfl (sv (EV.mv rfl) rfl (sv (EV.ix 0 rfl rfl rfl g2 c1 rfl) rfl (sv (EV.fa 0 rfl) rfl (opn (i := x2_4) 0 z99 rfl g2 c1 fun A_8 c_8 => (sv (EV.lc (v := .slice A_8 ((rd_T99 l0_0 x2_4).f0).length c_8) 0 none 1 rfl rfl rfl rfl) rfl (sv (EV.ln rfl) rfl (sv (EV.add rfl rfl) rfl (sv (EV.as rfl) rfl (re (pr [1, 3, 4, 21, 22, 23, 24, 25, 26, 27, 28] [0] [0] rfl rfl rfl rfl (ge (rg (sv (EV.mv rfl) rfl (sv (EV.add rfl rfl) rfl (sv (EV.as rfl) rfl (re (wk [1, 3, 4] [0] [⟨0, 0, 0, false⟩] (ih0 _ (by omega) _ ⟨wrap64 (x2_3 + (((rd_T99 l0_0 x2_4).f0).length : Int)), wrap64 (x2_4 + 1), x2_1_1, x2_1_2, H, rfl⟩)))))))))))))))))))))))
   ·
    obtain rfl := bF c7
    refine gt rfl rfl (gs (rg (sv (EV.as rfl) rfl (re (pr [2] [] [] rfl rfl rfl rfl ?_)))))
    cases H
    exact rt Try.func60 rfl (.tmp rfl .nil) rfl [] [] rfl rfl rfl rfl rfl ⟨rfl, rfl, rfl⟩
  ·
   obtain rfl := bF c5
   refine ts 20 rfl rfl (sk rfl (sk rfl (sk rfl (sk rfl (sk rfl (sk rfl (sk rfl (sk rfl (sv (EV.pt rfl rfl rfl) rfl (re (pr [1, 3, 4, 29] [0] [0] rfl rfl rfl rfl (gt rfl rfl (gs (rg (sv (EV.as rfl) rfl (re ?_))))))))))))))))
   cases H
   exact rt Try.func60 rfl (.tmp rfl .nil) rfl [] [] rfl rfl rfl rfl rfl ⟨rfl, rfl, rfl⟩
 ·
  refine gf rfl (dF c1) (gx rfl (gs (rg (sv (EV.mv rfl) rfl (sv (EV.leq rfl rfl) rfl (sv (EV.mv rfl) rfl ?_))))))
  revert H; refine ifsI ?_ ?_ <;> intro c9 H
  ·
   refine ts 41 rfl (dT c9) (sv (EV.fa 0 rfl) rfl (sv (EV.ld 0 none rfl rfl rfl) rfl (sv (EV.ln rfl) rfl (sv (EV.leq rfl rfl) rfl (sv (EV.pt rfl rfl rfl) rfl (sv (EV.mv rfl) rfl ?_))))))
   revert H; refine ifsI ?_ ?_ <;> intro c10 H
   ·
    refine ts 47 rfl (dT c10) (sv (EV.fa 1 rfl) rfl (sv (EV.ld 0 none rfl rfl rfl) rfl ?_))
    revert H; refine bdI ?_; rintro t11 A11 H
    refine so rfl (op_call (spec_l1In.ok x2_1_1 0 100000 _ A11) [] 1 rfl rfl rfl rfl rfl ?_)
    rintro _ _ _ ⟨rfl, rfl, rfl⟩
    refine sv (EV.pt rfl rfl rfl) rfl (sv (EV.as rfl) rfl (re (pr [2] [] [] rfl rfl rfl rfl ?_)))
    cases H
    exact rt Try.func60 rfl (.tmp rfl .nil) rfl [] [] rfl rfl rfl rfl rfl ⟨rfl, rfl, rfl⟩
   ·
    refine ts 47 rfl (dF c10) (sk rfl (sk rfl (sk rfl (sv (EV.pf rfl rfl rfl) rfl (sv (EV.as rfl) rfl (re (pr [2] [] [] rfl rfl rfl rfl ?_)))))))
    cases H
    exact rt Try.func60 rfl (.tmp rfl .nil) rfl [] [] rfl rfl rfl rfl rfl ⟨rfl, rfl, rfl⟩
  ·
   refine ts 41 rfl (dF c9) (sk rfl (sk rfl (sk rfl (sk rfl (sv (EV.pf rfl rfl rfl) rfl (sv (EV.mv rfl) rfl (sk rfl (sk rfl (sk rfl (sv (EV.pf rfl rfl rfl) rfl (sv (EV.as rfl) rfl (re (pr [2] [] [] rfl rfl rfl rfl ?_)))))))))))))
   cases H
   exact rt Try.func60 rfl (.tmp rfl .nil) rfl [] [] rfl rfl rfl rfl rfl ⟨rfl, rfl, rfl⟩
end Go.Proofs.Ytnllplklggoabaa.K
namespace Go.Proofs.Ytnllplklggoabaa.K
open Go Go.RowKit
set_option linter.unusedVariables false
set_option linter.unusedSimpArgs false
mutual
def spec_FormatAggregator.l0 : Nat → ByteArray → Int → Int → Bool → (List S99) → Option (ByteArray)
 | 0, _, _, _, _, _ => none
 | k + 1, x3_3, x3_4, x3_1_1, x3_1_2, l0_0 => if x3_4 < (l0_0.length : Int) then (if x3_3.size + (⟨#[47]⟩ : ByteArray).size ≤ 9223372036854775807 then (if 0 ≤ x3_4 then ((spec_FormatInt.f k ((rd_T99 l0_0 x3_4).f1)).bind fun t10 => (if (x3_3 ++ (⟨#[47]⟩ : ByteArray)).size + t10.size ≤ 9223372036854775807 then (if ((x3_3 ++ (⟨#[47]⟩ : ByteArray)) ++ t10).size + (⟨#[59]⟩ : ByteArray).size ≤ 9223372036854775807 then ((spec_FormatRows.f k ((rd_T99 l0_0 x3_4).f0)).bind fun t13 => (if (((x3_3 ++ (⟨#[47]⟩ : ByteArray)) ++ t10) ++ (⟨#[59]⟩ : ByteArray)).size + t13.size ≤ 9223372036854775807 then (spec_FormatAggregator.l0 k ((((x3_3 ++ (⟨#[47]⟩ : ByteArray)) ++ t10) ++ (⟨#[59]⟩ : ByteArray)) ++ t13) (wrap64 (x3_4 + 1)) x3_1_1 x3_1_2 l0_0) else none)) else none) else none)) else none) else none) else (some x3_3)
def spec_FormatAggregator.j0 : Nat → ByteArray → Int → Bool → (List S99) → Option (ByteArray)
 | 0, _, _, _, _ => none
 | k + 1, x1_3, x1_1_1, x1_1_2, l0_0 => spec_FormatAggregator.l0 k x1_3 0 x1_1_1 x1_1_2 l0_0
end
def spec_FormatAggregator.f (k : Nat) (l0_0 : List S99) (a0_1 : Int) (a0_2 : Bool) : Option (ByteArray) := (spec_IsValidAggregator.f k l0_0 a0_1 a0_2).bind fun t1 => (if t1 = true then ((spec_FormatInt.f k a0_1).bind fun t3 => (if t3.size + (⟨#[47, 48]⟩ : ByteArray).size ≤ 9223372036854775807 then (if a0_2 = true then ((spec_FormatInt.f k a0_1).bind fun t16 => (if t16.size + (⟨#[47, 49]⟩ : ByteArray).size ≤ 9223372036854775807 then (spec_FormatAggregator.j0 k (t16 ++ (⟨#[47, 49]⟩ : ByteArray)) a0_1 true l0_0) else none)) else (spec_FormatAggregator.j0 k (t3 ++ (⟨#[47, 48]⟩ : ByteArray)) a0_1 false l0_0)) else none)) else (some (⟨#[]⟩ : ByteArray)))
set_option maxHeartbeats 4000000 in
set_option maxRecDepth 100000 in
theorem spec_FormatAggregator.ok (k : Nat) (l0_0 : List S99) (Al0_0 : Option Addr) (cl0_0 : Nat) (a0_1 : Int) (a0_2 : Bool) (r0 : ByteArray) (H : spec_FormatAggregator.f k l0_0 a0_1 a0_2 = some r0) : Fn Try.prog 21 [.agg #[.slice Al0_0 l0_0.length cl0_0, .int .i64 a0_1, .bool a0_2]] [] [.sl 0 k99 Al0_0 cl0_0 l0_0 0 false] (fun v bx en => v = .string r0 ∧ bx = [] ∧ en = []) := by
 refine fn_ 45 Try.func21 rfl rfl rfl (fun base T w0 => ?_)
 rw [spec_FormatAggregator.f] at H
 refine gs (rg (so rfl (op_box (cs := [.slice Al0_0 l0_0.length cl0_0, .int .i64 a0_1, .bool a0_2]) rfl rfl rfl fun b1 => (sv (EV.as rfl) rfl (re (gs (gs (rg (sv (EV.ld (v := .agg #[.slice Al0_0 l0_0.length cl0_0, .int .i64 a0_1, .bool a0_2]) 0 (some 3) rfl rfl rfl) rfl ?_)))))))))
 revert H; refine bdI ?_; rintro t1 A1 H
 refine so rfl (op_call (spec_IsValidAggregator.ok k l0_0 Al0_0 cl0_0 a0_1 a0_2 _ A1) [⟨0, 0, 0, false⟩] 1 rfl rfl rfl rfl rfl ?_)
 rintro _ _ _ ⟨rfl, rfl, rfl⟩
 refine sv (EV.nt rfl) rfl (re ?_)
 revert H; refine ifsI ?_ ?_ <;> intro c2 H
 ·
  subst c2
  refine gf rfl rfl (gk (gs (rg (sv (EV.fa 1 rfl) rfl (sv (EV.ld 0 none rfl rfl rfl) rfl ?_)))))
  revert H; refine bdI ?_; rintro t3 A3 H
  refine so rfl (op_call (spec_FormatInt.ok k a0_1 _ A3) [] 1 rfl rfl rfl rfl rfl ?_)
  rintro _ _ _ ⟨rfl, rfl, rfl⟩
  revert H; refine ggI ?_; intro g4 H
  refine sv (EV.ads rfl rfl g4) rfl (sv (EV.as rfl) rfl (re (pr [1, 3] [0] [0] rfl rfl rfl rfl ?_)))
  refine jo (fun S => ∃ (m : Nat) (x1_3 : ByteArray) (x1_1_1 : Int) (x1_1_2 : Bool), spec_FormatAggregator.j0 m x1_3 x1_1_1 x1_1_2 l0_0 = some r0 ∧ S = ⟨[(1, .pointer (some ⟨b1, 0, none⟩)), (3, .string x1_3)], [⟨b1, 48, [.slice Al0_0 l0_0.length cl0_0, .int .i64 x1_1_1, .bool x1_1_2]⟩], [.sl 0 k99 Al0_0 cl0_0 l0_0 0 false]⟩) (fun S hS => ?_) (fun jh0 => ?_)
  ·
   clear H
   obtain ⟨m5, x1_3, x1_1_1, x1_1_2, H, rfl⟩ := hS
   rcases m5 with _ | m5
   · rw [spec_FormatAggregator.j0] at H; cases H
   rw [spec_FormatAggregator.j0] at H
   refine gs (gs (rg (sv (EV.as rfl) rfl (re (gb ?_)))))
   refine lo (fun kk S => ∃ (x3_3 : ByteArray) (x3_4 : Int) (x3_1_1 : Int) (x3_1_2 : Bool), kk ≤ m5 ∧ spec_FormatAggregator.l0 kk x3_3 x3_4 x3_1_1 x3_1_2 l0_0 = some r0 ∧ S = ⟨[(1, .pointer (some ⟨b1, 0, none⟩)), (3, .string x3_3), (4, .int .i64 x3_4)], [⟨b1, 48, [.slice Al0_0 l0_0.length cl0_0, .int .i64 x3_1_1, .bool x3_1_2]⟩], [.sl 0 k99 Al0_0 cl0_0 l0_0 0 false]⟩) (fun S hS => ?_) (fun n0 ih0 S hS => ?_) ⟨x1_3, 0, x1_1_1, x1_1_2, by omega, H, rfl⟩ (fun h => wk [1, 3, 4] [0] [⟨0, 0, 0, false⟩] h)
   · clear H; obtain ⟨_, _, _, _, _, H, _⟩ := hS; rw [spec_FormatAggregator.l0] at H; cases H
   clear H
   obtain ⟨x3_3, x3_4, x3_1_1, x3_1_2, lk0, H, rfl⟩ := hS
   rw [spec_FormatAggregator.l0] at H
   refine gs (gs (rg (sv (EV.mv rfl) rfl (sv (EV.fa 0 rfl) rfl (sv (EV.ld 0 none rfl rfl rfl) rfl (sv (EV.ln rfl) rfl (sv (EV.lss rfl rfl) rfl (re ?_))))))))
   revert H; refine ifsI ?_ ?_ <;> intro c6 H
   ·
    refine gt rfl (dT c6) (gk (gs (gb ?_)))
    revert H; refine ggI ?_; intro g7 H
    revert H; refine ggI ?_; intro g8 H
    refine opn (i := x3_4) 0 z99 rfl g8 c6 fun A_9 c_9 => (dr [0] [0, 1, 2] [] 20 rfl rfl rfl rfl (xv 0 [0] [0, 1, 2] rfl (EV.mv rfl) rfl rfl rfl rfl (xv 1 [0] [0, 1, 2] rfl (EV.ads rfl rfl g7) rfl rfl rfl rfl (xv 2 [0] [0, 1, 2] rfl (EV.fa 0 rfl) rfl rfl rfl rfl (xv 3 [0] [0, 1, 2] rfl (EV.ld 0 none rfl rfl rfl) rfl rfl rfl rfl (xv 4 [0] [0, 1, 2] rfl (EV.mv rfl) rfl rfl rfl rfl (xv 5 [0] [0, 1, 2] rfl (EV.ix 0 rfl rfl rfl g8 c6 rfl) rfl rfl rfl rfl (xv 6 [0] [0, 1, 2] rfl (EV.fa 1 rfl) rfl rfl rfl rfl (xv 7 [0] [0, 1, 2] rfl (EV.lf (v := .int .i64 ((rd_T99 l0_0 x3_4).f1)) x3_4 1 none 0 z99 rfl rfl rfl g8 c6 rfl (fun _ _ => rfl)) rfl rfl rfl rfl (xv 11 [0] [0, 1, 2] rfl (EV.fa 0 rfl) rfl rfl rfl rfl (xv 12 [0] [0, 1, 2] rfl (EV.ld 0 none rfl rfl rfl) rfl rfl rfl rfl (xv 13 [0] [0, 1, 2] rfl (EV.mv rfl) rfl rfl rfl rfl (xv 14 [0] [0, 1, 2] rfl (EV.ix 0 rfl rfl rfl g8 c6 rfl) rfl rfl rfl rfl (xv 15 [0] [0, 1, 2] rfl (EV.fa 0 rfl) rfl rfl rfl rfl (xv 16 [0] [0, 1, 2] rfl (EV.lc (v := .slice A_9 ((rd_T99 l0_0 x3_4).f0).length c_9) 0 none 1 rfl rfl rfl rfl) rfl rfl rfl rfl (one1 8 rfl rfl ?_))))))))))))))))
    revert H; refine bdI ?_; rintro t10 A10 H
    refine op_call (spec_FormatInt.ok n0 ((rd_T99 l0_0 x3_4).f1) _ A10) [] 1 rfl rfl rfl rfl rfl ?_
    rintro _ _ _ ⟨rfl, rfl, rfl⟩
    refine xs [0] [0, 1, 2] rfl rfl rfl ?_
    revert H; refine ggI ?_; intro g11 H
    refine xv 9 [0] [0, 1, 2] rfl (EV.ads rfl rfl g11) rfl rfl rfl rfl ?_
    revert H; refine ggI ?_; intro g12 H
    refine xv 10 [0] [0, 1, 2] rfl (EV.ads rfl rfl g12) rfl rfl rfl rfl (one1 17 rfl rfl ?_)
    revert H; refine bdI ?_; rintro t13 A13 H
    refine op_call (spec_FormatRows.ok n0 ((rd_T99 l0_0 x3_4).f0) A_9 c_9 _ A13) [⟨2, 0, 0, false⟩] 1 rfl rfl rfl rfl rfl ?_
    rintro _ _ _ ⟨rfl, rfl, rfl⟩
    refine xs [0] [0, 1, 2] rfl rfl rfl ?_
    revert H; refine ggI ?_; intro g14 H
    exact xv 18 [0] [0, 1, 2] rfl (EV.ads rfl rfl g14) rfl rfl rfl rfl (xv 19 [0] [0, 1, 2] rfl (EV.as rfl) rfl rfl rfl rfl (xd (pr [1, 3, 4] [0] [0] rfl rfl rfl rfl (ge (rg (sv (EV.mv rfl) rfl (sv (EV.add rfl rfl) rfl (sv (EV.as rfl) rfl (re (wk [1, 3, 4] [0] [⟨0, 0, 0, false⟩] (ih0 _ (by omega) _ ⟨(((x3_3 ++ (⟨#[47]⟩ : ByteArray)) ++ t10) ++ (⟨#[59]⟩ : ByteArray)) ++ t13, wrap64 (x3_4 + 1), x3_1_1, x3_1_2, by omega, H, rfl⟩)))))))))))
   ·
    refine gf rfl (dF c6) (gx rfl (gs (rg (sv (EV.mv rfl) rfl (sv (EV.as rfl) rfl (re (pr [2] [] [] rfl rfl rfl rfl ?_)))))))
    cases H
    exact rt Try.func21 rfl (.tmp rfl .nil) rfl [] [] rfl rfl rfl rfl rfl ⟨rfl, rfl, rfl⟩
  ·
   refine gs (rg (sv (EV.fa 2 rfl) rfl (sv (EV.ld 0 none rfl rfl rfl) rfl (re ?_))))
   revert H; refine ifsI ?_ ?_ <;> intro c15 H
   ·
    subst c15
    refine gt rfl rfl (rg (sv (EV.fa 1 rfl) rfl (sv (EV.ld 0 none rfl rfl rfl) rfl ?_)))
    revert H; refine bdI ?_; rintro t16 A16 H
    refine so rfl (op_call (spec_FormatInt.ok k a0_1 _ A16) [] 1 rfl rfl rfl rfl rfl ?_)
    rintro _ _ _ ⟨rfl, rfl, rfl⟩
    revert H; refine ggI ?_; intro g17 H
    exact sv (EV.ads rfl rfl g17) rfl (sv (EV.as rfl) rfl (re (pr [1, 3] [0] [0] rfl rfl rfl rfl (wk [1, 3] [0] [⟨0, 0, 0, false⟩] (jh0 _ ⟨_, t16 ++ (⟨#[47, 49]⟩ : ByteArray), a0_1, true, H, rfl⟩)))))
   ·
    obtain rfl := bF c15
    exact gf rfl rfl (gk (wk [1, 3] [0] [⟨0, 0, 0, false⟩] (jh0 _ ⟨_, t3 ++ (⟨#[47, 48]⟩ : ByteArray), a0_1, false, H, rfl⟩)))
 ·
  obtain rfl := bF c2
  refine gt rfl rfl (gs (rg (sv (EV.as rfl) rfl (re ?_))))
  cases H
  exact rt Try.func21 rfl (.tmp rfl .nil) rfl [] [] rfl rfl rfl rfl rfl ⟨rfl, rfl, rfl⟩
end Go.Proofs.Ytnllplklggoabaa.K
namespace Go.Proofs.Ytnllplklggoabaa.K
open Go Go.RowKit
set_option linter.unusedVariables false
set_option linter.unusedSimpArgs false
def spec_l2Cut.l0 : Nat → ByteArray → Int → (List ByteArray) → Int → Int → Option ((List ByteArray))
 | 0, _, _, _, _, _ => none
 | k + 1, x2_0, x2_1, x2_5, x2_6, x2_7 => if x2_7 < (x2_0.size : Int) then (if 0 ≤ x2_7 then (if (bt x2_0 x2_7) = x2_1 then (if 0 ≤ x2_6 then (if x2_6 ≤ x2_7 then (if x2_7 ≤ (x2_0.size : Int) then (if x2_5.length < 8796093022208 then (spec_l2Cut.l0 k x2_0 x2_1 (x2_5 ++ ([x2_0.extract x2_6.toNat x2_7.toNat] : List ByteArray)) (wrap64 (x2_7 + 1)) (wrap64 (x2_7 + 1))) else none) else none) else none) else none) else (spec_l2Cut.l0 k x2_0 x2_1 x2_5 x2_6 (wrap64 (x2_7 + 1)))) else none) else (if 0 ≤ x2_6 then (if x2_6 ≤ (x2_0.size : Int) then (if x2_5.length < 8796093022208 then (some (x2_5 ++ ([x2_0.extract x2_6.toNat x2_0.size] : List ByteArray))) else none) else none) else none)
def spec_l2Cut.f (k : Nat) (a0 : ByteArray) (a1 : Int) : Option ((List ByteArray)) := spec_l2Cut.l0 k a0 a1 [] 0 0
set_option maxHeartbeats 4000000 in
set_option maxRecDepth 100000 in
theorem spec_l2Cut.ok (k : Nat) (a0 : ByteArray) (a1 : Int) (r0 : List ByteArray) (H : spec_l2Cut.f k a0 a1 = some r0) : Fn Try.prog 69 [.string a0, .int .u8 a1] [] [] (fun v bx en => ∃ A0 c0, v = .slice A0 r0.length c0 ∧ bx = [] ∧ en = [.sl 2 .str A0 c0 r0 1 true]) := by
 refine fn_ 35 Try.func69 rfl rfl rfl (fun base T w0 => ?_)
 rw [spec_l2Cut.f] at H
 refine gs (rg (sv (EV.as rfl) rfl (re (gs (rg (so rfl (op_lit (s := 1) (by_ := 16) .str ([] : List ByteArray) [] [] 1 [] rfl rfl rfl rfl rfl rfl rfl rfl rfl rfl rfl rfl rfl dq rfl fun A8_1 c8_1 => (sv (EV.as rfl) rfl (re (gs (rg (sv (EV.as rfl) rfl (re (gs (gs (rg (sv (EV.as rfl) rfl (re (gb ?_)))))))))))))))))))
 refine lo (fun kk S => ∃ (x2_0 : ByteArray) (x2_1 : Int) (x2_5 : List ByteArray) (Ax2_5 : Option Addr) (cx2_5 : Nat) (x2_6 : Int) (x2_7 : Int), spec_l2Cut.l0 kk x2_0 x2_1 x2_5 x2_6 x2_7 = some r0 ∧ S = ⟨[(0, .string x2_0), (1, .int .u8 x2_1), (5, .slice Ax2_5 x2_5.length cx2_5), (6, .int .i64 x2_6), (7, .int .i64 x2_7)], [], [.sl 2 .str Ax2_5 cx2_5 x2_5 1 true]⟩) (fun S hS => ?_) (fun n0 ih0 S hS => ?_) ⟨a0, a1, [], A8_1, c8_1, 0, 0, H, rfl⟩ (fun h => wk [0, 1, 5, 6, 7] [] [⟨0, 2, 1, true⟩] h)
 · clear H; obtain ⟨_, _, _, _, _, _, _, H, _⟩ := hS; rw [spec_l2Cut.l0] at H; cases H
 clear H
 obtain ⟨x2_0, x2_1, x2_5, Ax2_5, cx2_5, x2_6, x2_7, H, rfl⟩ := hS
 rw [spec_l2Cut.l0] at H
 refine gs (gs (rg (sv (EV.mv rfl) rfl (sv (EV.mv rfl) rfl (sv (EV.lns rfl) rfl (sv (EV.lss rfl rfl) rfl (re ?_)))))))
 revert H; refine ifsI ?_ ?_ <;> intro c2 H
 ·
  refine gt rfl (dT c2) (gk (gs (gb (gs (rg (sv (EV.mv rfl) rfl (sv (EV.mv rfl) rfl ?_)))))))
  revert H; refine ggI ?_; intro g3 H
  refine sv (EV.is rfl rfl g3 c2) rfl (sv (EV.mv rfl) rfl (sv (EV.eql rfl rfl) rfl (re (pr [0, 1, 5, 6, 7, 19] [] [0] rfl rfl rfl rfl ?_))))
  revert H; refine ifsI ?_ ?_ <;> intro c4 H
  ·
   refine gt rfl (dT c4) (gs (rg (sv (EV.mv rfl) rfl (sv (EV.mv rfl) rfl (sv (EV.mv rfl) rfl (sv (EV.mv rfl) rfl ?_))))))
   revert H; refine ggI ?_; intro g5 H
   revert H; refine ggI ?_; intro g6 H
   revert H; refine ggI ?_; intro g7 H
   refine sv (EV.ssb rfl rfl rfl g5 g6 g7) rfl (so rfl (op_lit (s := 1) (by_ := 16) .str ([x2_0.extract x2_6.toNat x2_7.toNat] : List ByteArray) [[]] [] 2 [.tmp 24] rfl rfl rfl rfl rfl rfl rfl rfl rfl rfl rfl rfl rfl dq rfl fun A25_8 c25_8 => ?_))
   revert H; refine ggI ?_; intro g9 H
   exact so rfl (op_app (k := .str) (s := 1) (by_ := 16) 0 1 rfl rfl rfl rfl (ap1 g9 dq) (ap1n g9 dq) (.inl rfl) true (fun _ => .inl rfl) rfl rfl fun A26_10 c26_10 => (nmE (en := [.sl 2 .str A25_8 c25_8 ([x2_0.extract x2_6.toNat x2_7.toNat] : List ByteArray) 2 true, .sl 2 .str A26_10 c26_10 (x2_5 ++ ([x2_0.extract x2_6.toNat x2_7.toNat] : List ByteArray)) 1 true]) (by kernel_rfl) (sv (EV.as rfl) rfl (re (pr [0, 1, 5, 7] [] [1] rfl rfl rfl rfl (rg (sv (EV.mv rfl) rfl (sv (EV.add rfl rfl) rfl (sv (EV.as rfl) rfl (re (ge (rg (sv (EV.mv rfl) rfl (sv (EV.add rfl rfl) rfl (sv (EV.as rfl) rfl (re (wk [0, 1, 5, 6, 7] [] [⟨0, 2, 1, true⟩] (ih0 _ (by omega) _ ⟨x2_0, x2_1, x2_5 ++ ([x2_0.extract x2_6.toNat x2_7.toNat] : List ByteArray), A26_10, c26_10, wrap64 (x2_7 + 1), wrap64 (x2_7 + 1), H, rfl⟩))))))))))))))))))
  ·
   exact gf rfl (dF c4) (gk (ge (rg (sv (EV.mv rfl) rfl (sv (EV.add rfl rfl) rfl (sv (EV.as rfl) rfl (re (wk [0, 1, 5, 6, 7] [] [⟨0, 2, 1, true⟩] (ih0 _ (by omega) _ ⟨x2_0, x2_1, x2_5, Ax2_5, cx2_5, x2_6, wrap64 (x2_7 + 1), H, rfl⟩)))))))))
 ·
  refine gf rfl (dF c2) (gx rfl (gs (rg (sv (EV.mv rfl) rfl (sv (EV.mv rfl) rfl (sv (EV.mv rfl) rfl ?_))))))
  revert H; refine ggI ?_; intro g11 H
  revert H; refine ggI ?_; intro g12 H
  refine sv (EV.ssl rfl rfl g11 g12) rfl (so rfl (op_lit (s := 1) (by_ := 16) .str ([x2_0.extract x2_6.toNat x2_0.size] : List ByteArray) [[]] [] 2 [.tmp 32] rfl rfl rfl rfl rfl rfl rfl rfl rfl rfl rfl rfl rfl dq rfl fun A33_13 c33_13 => ?_))
  revert H; refine ggI ?_; intro g14 H
  refine so rfl (op_app (k := .str) (s := 1) (by_ := 16) 0 1 rfl rfl rfl rfl (ap1 g14 dq) (ap1n g14 dq) (.inl rfl) true (fun _ => .inl rfl) rfl rfl fun A34_15 c34_15 => (nmE (en := [.sl 2 .str A33_13 c33_13 ([x2_0.extract x2_6.toNat x2_0.size] : List ByteArray) 2 true, .sl 2 .str A34_15 c34_15 (x2_5 ++ ([x2_0.extract x2_6.toNat x2_0.size] : List ByteArray)) 1 true]) (by kernel_rfl) (sv (EV.as rfl) rfl (re (pr [4] [] [1] rfl rfl rfl rfl ?_)))))
  cases H
  exact rt Try.func69 rfl (.tmp rfl .nil) rfl [] [⟨0, 2, 1, true⟩] rfl rfl rfl rfl rfl ⟨_, _, rfl, rfl, rfl⟩
end Go.Proofs.Ytnllplklggoabaa.K
namespace Go.Proofs.Ytnllplklggoabaa.K
open Go Go.RowKit
set_option linter.unusedVariables false
set_option linter.unusedSimpArgs false
mutual
def spec_ParseInt.j1 : Nat → ByteArray → Int → Int → Option (Int × Bool)
 | 0, _, _, _ => none
 | k + 1, x3_0, x3_4, x3_5 => if x3_5 > 9 then (some (0, false)) else (if (x3_0.size : Int) > 10 then (some (0, false)) else ((spec_FormatInt.f k x3_4).bind fun t5 => (if t5.toList = x3_0.toList then (some (x3_4, true)) else (some (0, false)))))
def spec_ParseInt.j0 : Nat → ByteArray → Int → Int → Option (Int × Bool)
 | 0, _, _, _ => none
 | k + 1, x2_0, x2_4, x2_5 => if (x2_0.size : Int) > 0 then (if 0 < (x2_0.size : Int) then (if (bt x2_0 0) = 45 then (spec_ParseInt.j1 k x2_0 (wrap64 (-x2_4)) x2_5) else (spec_ParseInt.j1 k x2_0 x2_4 x2_5)) else none) else (spec_ParseInt.j1 k x2_0 x2_4 x2_5)
def spec_ParseInt.l0 : Nat → ByteArray → Int → Int → Int → Option (Int × Bool)
 | 0, _, _, _, _ => none
 | k + 1, x4_0, x4_4, x4_5, x4_6 => if x4_6 < (x4_0.size : Int) then (if x4_6 < 11 then (if 0 ≤ x4_6 then (if (bt x4_0 x4_6) ≥ 48 then (if (bt x4_0 x4_6) ≤ 57 then (spec_ParseInt.l0 k x4_0 (wrap64 ((wrap64 (x4_4 * 10)) + (IntKind.i64.wrap (IntKind.u8.wrap ((bt x4_0 x4_6) - 48))))) (wrap64 (x4_5 + 1)) (wrap64 (x4_6 + 1))) else (spec_ParseInt.l0 k x4_0 x4_4 x4_5 (wrap64 (x4_6 + 1)))) else (spec_ParseInt.l0 k x4_0 x4_4 x4_5 (wrap64 (x4_6 + 1)))) else none) else (spec_ParseInt.j0 k x4_0 x4_4 x4_5)) else (spec_ParseInt.j0 k x4_0 x4_4 x4_5)
end
def spec_ParseInt.f (k : Nat) (a0 : ByteArray) : Option (Int × Bool) := spec_ParseInt.l0 k a0 0 0 0
set_option maxHeartbeats 4000000 in
set_option maxRecDepth 100000 in
theorem spec_ParseInt.ok (k : Nat) (a0 : ByteArray) (r0 : Int) (r1 : Bool) (H : spec_ParseInt.f k a0 = some (r0, r1)) : Fn Try.prog 70 [.string a0] [] [] (fun v bx en => v = .tuple #[.int .i64 r0, .bool r1] ∧ bx = [] ∧ en = []) := by
 refine fn_ 61 Try.func70 rfl rfl rfl (fun base T w0 => ?_)
 rw [spec_ParseInt.f] at H
 refine gs (rg (sv (EV.as rfl) rfl (sv (EV.as rfl) rfl (re (gs (rg (sv (EV.as rfl) rfl (re (gs (rg (sv (EV.as rfl) rfl (re ?_))))))))))))
 refine jo (fun S => ∃ (m : Nat) (x2_0 : ByteArray) (x2_4 : Int) (x2_5 : Int), spec_ParseInt.j0 m x2_0 x2_4 x2_5 = some (r0, r1) ∧ S = ⟨[(0, .string x2_0), (4, .int .i64 x2_4), (5, .int .i64 x2_5)], [], []⟩) (fun S hS => ?_) (fun jh0 => ?_)
 ·
  clear H
  obtain ⟨m1, x2_0, x2_4, x2_5, H, rfl⟩ := hS
  rcases m1 with _ | m1
  · rw [spec_ParseInt.j0] at H; cases H
  rw [spec_ParseInt.j0] at H
  refine jo (fun S => ∃ (m : Nat) (x3_0 : ByteArray) (x3_4 : Int) (x3_5 : Int), m ≤ m1 ∧ spec_ParseInt.j1 m x3_0 x3_4 x3_5 = some (r0, r1) ∧ S = ⟨[(0, .string x3_0), (4, .int .i64 x3_4), (5, .int .i64 x3_5)], [], []⟩) (fun S hS => ?_) (fun jh1 => ?_)
  ·
   clear H
   obtain ⟨m2, x3_0, x3_4, x3_5, lm2, H, rfl⟩ := hS
   rcases m2 with _ | m2
   · rw [spec_ParseInt.j1] at H; cases H
   rw [spec_ParseInt.j1] at H
   refine gs (gs (rg (sv (EV.mv rfl) rfl (sv (EV.gtr rfl rfl) rfl (sv (EV.mv rfl) rfl ?_)))))
   revert H; refine ifsI ?_ ?_ <;> intro c3 H
   ·
    refine ts 49 rfl (dT c3) (sk rfl (sk rfl (sk rfl (sv (EV.pt rfl rfl rfl) rfl (sv (EV.mv rfl) rfl (sk rfl (sk rfl (sk rfl (sk rfl (sv (EV.pt rfl rfl rfl) rfl (re (pr [4, 59] [] [] rfl rfl rfl rfl (gt rfl rfl (gs (rg (sv (EV.as rfl) rfl (sv (EV.as rfl) rfl (re ?_))))))))))))))))))
    cases H
    exact rt Try.func70 rfl (.tmp rfl (.tmp rfl .nil)) rfl [] [] rfl rfl rfl rfl rfl ⟨rfl, rfl, rfl⟩
   ·
    refine ts 49 rfl (dF c3) (sv (EV.mv rfl) rfl (sv (EV.lns rfl) rfl (sv (EV.gtr rfl rfl) rfl (sv (EV.pf rfl rfl rfl) rfl (sv (EV.mv rfl) rfl ?_)))))
    revert H; refine ifsI ?_ ?_ <;> intro c4 H
    ·
     refine ts 54 rfl (dT c4) (sk rfl (sk rfl (sk rfl (sk rfl (sv (EV.pt rfl rfl rfl) rfl (re (pr [4, 59] [] [] rfl rfl rfl rfl (gt rfl rfl (gs (rg (sv (EV.as rfl) rfl (sv (EV.as rfl) rfl (re ?_)))))))))))))
     cases H
     exact rt Try.func70 rfl (.tmp rfl (.tmp rfl .nil)) rfl [] [] rfl rfl rfl rfl rfl ⟨rfl, rfl, rfl⟩
    ·
     refine ts 54 rfl (dF c4) (sv (EV.mv rfl) rfl ?_)
     revert H; refine bdI ?_; rintro t5 A5 H
     refine so rfl (op_call (spec_FormatInt.ok m2 x3_4 _ A5) [] 1 rfl rfl rfl rfl rfl ?_)
     rintro _ _ _ ⟨rfl, rfl, rfl⟩
     refine sv (EV.mv rfl) rfl (sv (EV.nes rfl rfl) rfl (sv (EV.pf rfl rfl rfl) rfl (re (pr [4, 59] [] [] rfl rfl rfl rfl ?_))))
     revert H; refine ifsI ?_ ?_ <;> intro c6 H
     ·
      refine gf rfl (nF c6) (gk (gs (rg (sv (EV.mv rfl) rfl (sv (EV.as rfl) rfl (sv (EV.as rfl) rfl (re ?_)))))))
      cases H
      exact rt Try.func70 rfl (.tmp rfl (.tmp rfl .nil)) rfl [] [] rfl rfl rfl rfl rfl ⟨rfl, rfl, rfl⟩
     ·
      refine gt rfl (nT c6) (gs (rg (sv (EV.as rfl) rfl (sv (EV.as rfl) rfl (re ?_)))))
      cases H
      exact rt Try.func70 rfl (.tmp rfl (.tmp rfl .nil)) rfl [] [] rfl rfl rfl rfl rfl ⟨rfl, rfl, rfl⟩
  ·
   refine gs (rg (sv (EV.mv rfl) rfl (sv (EV.lns rfl) rfl (sv (EV.gtr rfl rfl) rfl (sv (EV.mv rfl) rfl ?_)))))
   revert H; refine ifsI ?_ ?_ <;> intro c7 H
   ·
    refine ts 40 rfl (dT c7) (sv (EV.mv rfl) rfl ?_)
    revert H; refine ggI ?_; intro g8 H
    refine sv (EV.is rfl rfl dq g8) rfl (sv (EV.eql rfl rfl) rfl (sv (EV.pt rfl rfl rfl) rfl (re (pr [0, 4, 5, 44] [] [] rfl rfl rfl rfl ?_))))
    revert H; refine ifsI ?_ ?_ <;> intro c9 H
    ·
     exact gt rfl (dT c9) (rg (sv (EV.mv rfl) rfl (sv (EV.ng rfl) rfl (sv (EV.as rfl) rfl (re (wk [0, 4, 5] [] [] (jh1 _ ⟨_, x2_0, wrap64 (-x2_4), x2_5, by omega, H, rfl⟩)))))))
    ·
     exact gf rfl (dF c9) (gk (wk [0, 4, 5] [] [] (jh1 _ ⟨_, x2_0, x2_4, x2_5, by omega, H, rfl⟩)))
   ·
    exact ts 40 rfl (dF c7) (sk rfl (sk rfl (sk rfl (sv (EV.pf rfl rfl rfl) rfl (re (pr [0, 4, 5, 44] [] [] rfl rfl rfl rfl (gf rfl rfl (gk (wk [0, 4, 5] [] [] (jh1 _ ⟨_, x2_0, x2_4, x2_5, by omega, H, rfl⟩))))))))))
 ·
  refine gs (rg (sv (EV.as rfl) rfl (re (gb ?_))))
  refine lo (fun kk S => ∃ (x4_0 : ByteArray) (x4_4 : Int) (x4_5 : Int) (x4_6 : Int), spec_ParseInt.l0 kk x4_0 x4_4 x4_5 x4_6 = some (r0, r1) ∧ S = ⟨[(0, .string x4_0), (4, .int .i64 x4_4), (5, .int .i64 x4_5), (6, .int .i64 x4_6)], [], []⟩) (fun S hS => ?_) (fun n0 ih0 S hS => ?_) ⟨a0, 0, 0, 0, H, rfl⟩ (fun h => wk [0, 4, 5, 6] [] [] h)
  · clear H; obtain ⟨_, _, _, _, H, _⟩ := hS; rw [spec_ParseInt.l0] at H; cases H
  clear H
  obtain ⟨x4_0, x4_4, x4_5, x4_6, H, rfl⟩ := hS
  rw [spec_ParseInt.l0] at H
  refine gs (gs (rg (sv (EV.mv rfl) rfl (sv (EV.mv rfl) rfl (sv (EV.lns rfl) rfl (sv (EV.lss rfl rfl) rfl (sv (EV.mv rfl) rfl ?_)))))))
  revert H; refine ifsI ?_ ?_ <;> intro c10 H
  ·
   refine ts 11 rfl (dT c10) (sv (EV.mv rfl) rfl (sv (EV.lss rfl rfl) rfl (sv (EV.pt rfl rfl rfl) rfl (re ?_))))
   revert H; refine ifsI ?_ ?_ <;> intro c11 H
   ·
    refine gt rfl (dT c11) (gk (gs (gb (gs (rg (sv (EV.mv rfl) rfl (sv (EV.mv rfl) rfl ?_)))))))
    revert H; refine ggI ?_; intro g12 H
    refine sv (EV.is rfl rfl g12 c10) rfl (sv (EV.geq rfl rfl) rfl (sv (EV.mv rfl) rfl ?_))
    revert H; refine ifsI ?_ ?_ <;> intro c13 H
    ·
     refine ts 21 rfl (dT c13) (sv (EV.mv rfl) rfl (sv (EV.mv rfl) rfl (sv (EV.is rfl rfl g12 c10) rfl (sv (EV.leq rfl rfl) rfl (sv (EV.pt rfl rfl rfl) rfl (re (pr [0, 4, 5, 6, 12, 13, 22, 23, 24, 25, 26] [] [] rfl rfl rfl rfl ?_)))))))
     revert H; refine ifsI ?_ ?_ <;> intro c14 H
     ·
      exact gt rfl (dT c14) (gs (rg (sv (EV.mv rfl) rfl (sv (EV.mul rfl rfl) rfl (sv (EV.mv rfl) rfl (sv (EV.mv rfl) rfl (sv (EV.is rfl rfl g12 c10) rfl (sv (EV.subk rfl rfl) rfl (sv (EV.cv (k' := .i64) rfl) rfl (sv (EV.add rfl rfl) rfl (sv (EV.as rfl) rfl (re (pr [0, 4, 5, 6, 12, 13, 22, 23, 24, 25] [] [] rfl rfl rfl rfl (rg (sv (EV.mv rfl) rfl (sv (EV.add rfl rfl) rfl (sv (EV.as rfl) rfl (re (ge (rg (sv (EV.mv rfl) rfl (sv (EV.add rfl rfl) rfl (sv (EV.as rfl) rfl (re (wk [0, 4, 5, 6] [] [] (ih0 _ (by omega) _ ⟨x4_0, wrap64 ((wrap64 (x4_4 * 10)) + (IntKind.i64.wrap (IntKind.u8.wrap ((bt x4_0 x4_6) - 48)))), wrap64 (x4_5 + 1), wrap64 (x4_6 + 1), H, rfl⟩))))))))))))))))))))))))))
     ·
      exact gf rfl (dF c14) (gk (ge (rg (sv (EV.mv rfl) rfl (sv (EV.add rfl rfl) rfl (sv (EV.as rfl) rfl (re (wk [0, 4, 5, 6] [] [] (ih0 _ (by omega) _ ⟨x4_0, x4_4, x4_5, wrap64 (x4_6 + 1), H, rfl⟩)))))))))
    ·
     exact ts 21 rfl (dF c13) (sk rfl (sk rfl (sk rfl (sk rfl (sv (EV.pf rfl rfl rfl) rfl (re (pr [0, 4, 5, 6, 12, 13, 26] [] [] rfl rfl rfl rfl (gf rfl rfl (gk (ge (rg (sv (EV.mv rfl) rfl (sv (EV.add rfl rfl) rfl (sv (EV.as rfl) rfl (re (wk [0, 4, 5, 6] [] [] (ih0 _ (by omega) _ ⟨x4_0, x4_4, x4_5, wrap64 (x4_6 + 1), H, rfl⟩)))))))))))))))))
   ·
    exact gf rfl (dF c11) (gx rfl (wk [0, 4, 5] [] [] (jh0 _ ⟨_, x4_0, x4_4, x4_5, H, rfl⟩)))
  ·
   exact ts 11 rfl (dF c10) (sk rfl (sk rfl (sv (EV.pf rfl rfl rfl) rfl (re (pr [0, 4, 5, 6, 14] [] [] rfl rfl rfl rfl (gf rfl rfl (gx rfl (wk [0, 4, 5] [] [] (jh0 _ ⟨_, x4_0, x4_4, x4_5, H, rfl⟩)))))))))
end Go.Proofs.Ytnllplklggoabaa.K
namespace Go.Proofs.Ytnllplklggoabaa.K
open Go Go.RowKit
set_option linter.unusedVariables false
set_option linter.unusedSimpArgs false
def spec_ParseRow.f (k : Nat) (a0 : ByteArray) : Option (Int × Int × Int × Bool) := (spec_l2Cut.f k a0 46).bind fun t1 => (if (t1.length : Int) = 3 then (if 0 < (t1.length : Int) then ((spec_ParseInt.f k (rdOf ByteArray.empty t1 0)).bind fun bt4 => (if 1 < (t1.length : Int) then ((spec_ParseInt.f k (rdOf ByteArray.empty t1 1)).bind fun bt6 => (if 2 < (t1.length : Int) then ((spec_ParseInt.f k (rdOf ByteArray.empty t1 2)).bind fun bt8 => ((spec_FormatRow.f k bt4.1 bt6.1 bt8.1).bind fun t9 => (if t9.toList = a0.toList then (some (bt4.1, bt6.1, bt8.1, true)) else (some (0, 0, 0, false))))) else none)) else none)) else none) else (some (0, 0, 0, false)))
set_option maxHeartbeats 4000000 in
set_option maxRecDepth 100000 in
theorem spec_ParseRow.ok (k : Nat) (a0 : ByteArray) (r0 : Int) (r1 : Int) (r2 : Int) (r3 : Bool) (H : spec_ParseRow.f k a0 = some (r0, r1, r2, r3)) : Fn Try.prog 99 [.string a0] [] [] (fun v bx en => v = .tuple #[.agg #[.int .i64 r0, .int .i64 r1, .int .i64 r2], .bool r3] ∧ bx = [] ∧ en = []) := by
 refine fn_ 43 Try.func99 rfl rfl rfl (fun base T w0 => ?_)
 rw [spec_ParseRow.f] at H
 refine gs (rg (so rfl (op_alloc (cs := [.int .i64 0, .int .i64 0, .int .i64 0]) (by kernel_rfl) rfl fun b2 => (sv (EV.as rfl) rfl (re (gs (rg (sv (EV.mv rfl) rfl ?_))))))))
 revert H; refine bdI ?_; rintro t1 A1 H
 refine so rfl (op_call (spec_l2Cut.ok k a0 46 _ A1) [] 1 rfl rfl rfl rfl rfl ?_)
 rintro _ _ _ ⟨At1, ct1, rfl, rfl, rfl⟩
 refine sv (EV.as rfl) rfl (re (gs (gs (rg (sv (EV.mv rfl) rfl (sv (EV.ln rfl) rfl (sv (EV.neq rfl rfl) rfl (re ?_))))))))
 revert H; refine ifsI ?_ ?_ <;> intro c2 H
 ·
  refine gf rfl (nF c2) (gk (gs (rg (sv (EV.bd (v := .agg #[.int .i64 0, .int .i64 0, .int .i64 0]) rfl (by kernel_rfl)) rfl (so rfl (op_alloc (cs := [.int .i64 0, .int .i64 0, .int .i64 0]) (by kernel_rfl) rfl fun b5 => (so rfl (op_st (cs' := [.int .i64 0, .int .i64 0, .int .i64 0]) 1 rfl rfl rfl rfl rfl rfl (re (pr [0, 2, 4, 5] [0, 1] [0] rfl rfl rfl rfl (gs (rg (sv (EV.mv rfl) rfl ?_)))))))))))))
  revert H; refine ggI ?_; intro g3 H
  refine sv (EV.ix 0 rfl rfl rfl dq g3 rfl) rfl (sv (EV.le (v := .string (rdOf ByteArray.empty t1 0)) 0 0 none 0 ByteArray.empty rfl rfl rfl dq g3 rfl rfl rfl) rfl ?_)
  revert H; refine bdI ?_; rintro ⟨t4_0, t4_1⟩ A4 H
  refine so rfl (op_call (spec_ParseInt.ok k (rdOf ByteArray.empty t1 0) _ _ A4) [] 3 rfl rfl rfl rfl rfl ?_)
  rintro _ _ _ ⟨rfl, rfl, rfl⟩
  refine sv (EV.mv rfl) rfl (sv (EV.ex rfl rfl) rfl (sv (EV.ex rfl rfl) rfl (sv (EV.fa 0 rfl) rfl (so rfl (op_st (cs' := [.int .i64 t4_0, .int .i64 0, .int .i64 0]) 1 rfl rfl rfl rfl rfl rfl (re (pr [0, 2, 4, 5] [0, 1] [0] rfl rfl rfl rfl (gs (rg (sv (EV.mv rfl) rfl ?_))))))))))
  revert H; refine ggI ?_; intro g5 H
  refine sv (EV.ix 0 rfl rfl rfl dq g5 rfl) rfl (sv (EV.le (v := .string (rdOf ByteArray.empty t1 1)) 1 0 none 0 ByteArray.empty rfl rfl rfl dq g5 rfl rfl rfl) rfl ?_)
  revert H; refine bdI ?_; rintro ⟨t6_0, t6_1⟩ A6 H
  refine so rfl (op_call (spec_ParseInt.ok k (rdOf ByteArray.empty t1 1) _ _ A6) [] 3 rfl rfl rfl rfl rfl ?_)
  rintro _ _ _ ⟨rfl, rfl, rfl⟩
  refine sv (EV.mv rfl) rfl (sv (EV.ex rfl rfl) rfl (sv (EV.ex rfl rfl) rfl (sv (EV.fa 1 rfl) rfl (so rfl (op_st (cs' := [.int .i64 t4_0, .int .i64 t6_0, .int .i64 0]) 1 rfl rfl rfl rfl rfl rfl (re (pr [0, 2, 4, 5] [0, 1] [0] rfl rfl rfl rfl (gs (rg (sv (EV.mv rfl) rfl ?_))))))))))
  revert H; refine ggI ?_; intro g7 H
  refine sv (EV.ix 0 rfl rfl rfl dq g7 rfl) rfl (sv (EV.le (v := .string (rdOf ByteArray.empty t1 2)) 2 0 none 0 ByteArray.empty rfl rfl rfl dq g7 rfl rfl rfl) rfl ?_)
  revert H; refine bdI ?_; rintro ⟨t8_0, t8_1⟩ A8 H
  refine so rfl (op_call (spec_ParseInt.ok k (rdOf ByteArray.empty t1 2) _ _ A8) [] 3 rfl rfl rfl rfl rfl ?_)
  rintro _ _ _ ⟨rfl, rfl, rfl⟩
  refine sv (EV.mv rfl) rfl (sv (EV.ex rfl rfl) rfl (sv (EV.ex rfl rfl) rfl (sv (EV.fa 2 rfl) rfl (so rfl (op_st (cs' := [.int .i64 t4_0, .int .i64 t6_0, .int .i64 t8_0]) 1 rfl rfl rfl rfl rfl rfl (re (pr [0, 2, 5] [0, 1] [] rfl rfl rfl rfl (gs (gs (rg (sv (EV.ld (v := .agg #[.int .i64 t4_0, .int .i64 t6_0, .int .i64 t8_0]) 1 (some 3) rfl rfl rfl) rfl ?_)))))))))))
  revert H; refine bdI ?_; rintro t9 A9 H
  refine so rfl (op_call (spec_FormatRow.ok k t4_0 t6_0 t8_0 _ A9) [] 1 rfl rfl rfl rfl rfl ?_)
  rintro _ _ _ ⟨rfl, rfl, rfl⟩
  refine sv (EV.mv rfl) rfl (sv (EV.nes rfl rfl) rfl (re ?_))
  revert H; refine ifsI ?_ ?_ <;> intro c10 H
  ·
   refine gf rfl (nF c10) (gk (gs (rg (sv (EV.ld (v := .agg #[.int .i64 t4_0, .int .i64 t6_0, .int .i64 t8_0]) 1 (some 3) rfl rfl rfl) rfl (so rfl (op_st (cs' := [.int .i64 t4_0, .int .i64 t6_0, .int .i64 t8_0]) 0 rfl rfl rfl rfl rfl rfl (sv (EV.as rfl) rfl (re (pr [2, 3] [0] [] rfl rfl rfl rfl ?_)))))))))
   cases H
   exact rt Try.func99 rfl (.cell 0 (some 3) rfl rfl rfl (.tmp rfl .nil)) rfl [] [] rfl rfl rfl rfl rfl ⟨rfl, rfl, rfl⟩
  ·
   refine gt rfl (nT c10) (gs (rg (sv (EV.bd (v := .agg #[.int .i64 0, .int .i64 0, .int .i64 0]) rfl (by kernel_rfl)) rfl (so rfl (op_st (cs' := [.int .i64 0, .int .i64 0, .int .i64 0]) 0 rfl rfl rfl rfl rfl rfl (sv (EV.as rfl) rfl (re (pr [2, 3] [0] [] rfl rfl rfl rfl ?_))))))))
   cases H
   exact rt Try.func99 rfl (.cell 0 (some 3) rfl rfl rfl (.tmp rfl .nil)) rfl [] [] rfl rfl rfl rfl rfl ⟨rfl, rfl, rfl⟩
 ·
  refine gt rfl (nT c2) (gs (rg (sv (EV.bd (v := .agg #[.int .i64 0, .int .i64 0, .int .i64 0]) rfl (by kernel_rfl)) rfl (so rfl (op_st (cs' := [.int .i64 0, .int .i64 0, .int .i64 0]) 0 rfl rfl rfl rfl rfl rfl (sv (EV.as rfl) rfl (re (pr [2, 3] [0] [] rfl rfl rfl rfl ?_))))))))
  cases H
  exact rt Try.func99 rfl (.cell 0 (some 3) rfl rfl rfl (.tmp rfl .nil)) rfl [] [] rfl rfl rfl rfl rfl ⟨rfl, rfl, rfl⟩
end Go.Proofs.Ytnllplklggoabaa.K
namespace Go.Proofs.Ytnllplklggoabaa.K
open Go Go.RowKit
set_option linter.unusedVariables false
set_option linter.unusedSimpArgs false
mutual
def spec_ParseRows.j0 : Nat → (List S124) → Option ((List S124) × Bool)
 | 0, _ => none
 | k + 1, x2_4 => (spec_AreValidRows.f k x2_4).bind fun t4 => (if t4 = true then (some (x2_4, true)) else (some ([], false)))
def spec_ParseRows.l0 : Nat → ByteArray → (List S124) → (List ByteArray) → Int → Option ((List S124) × Bool)
 | 0, _, _, _, _ => none
 | k + 1, x3_0, x3_4, x3_5, x3_6 => if x3_6 < (x3_5.length : Int) then (if x3_0.toList = (⟨#[]⟩ : ByteArray).toList then (spec_ParseRows.j0 k x3_4) else (if 0 ≤ x3_6 then ((spec_ParseRow.f k (rdOf ByteArray.empty x3_5 x3_6)).bind fun bt10 => (if bt10.2.2.2 = true then (if x3_4.length < 5864062014805 then (spec_ParseRows.l0 k x3_0 (x3_4 ++ ([(⟨bt10.1, bt10.2.1, bt10.2.2.1⟩ : S124)] : List S124)) x3_5 (wrap64 (x3_6 + 1))) else none) else (some ([], false)))) else none)) else (spec_ParseRows.j0 k x3_4)
end
def spec_ParseRows.f (k : Nat) (a0 : ByteArray) : Option ((List S124) × Bool) := (spec_l2Cut.f k a0 32).bind fun t2 => (spec_ParseRows.l0 k a0 [] t2 0)
set_option maxHeartbeats 4000000 in
set_option maxRecDepth 100000 in
theorem spec_ParseRows.ok (k : Nat) (a0 : ByteArray) (r0 : List S124) (r1 : Bool) (H : spec_ParseRows.f k a0 = some (r0, r1)) : Fn Try.prog 71 [.string a0] [] [] (fun v bx en => ∃ A0 c0, v = .tuple #[.slice A0 r0.length c0, .bool r1] ∧ bx = [] ∧ en = [.sl 2 k124 A0 c0 r0 1 true]) := by
 refine fn_ 42 Try.func71 rfl rfl rfl (fun base T w0 => ?_)
 rw [spec_ParseRows.f] at H
 refine gs (rg (sv (EV.as rfl) rfl (sv (EV.as rfl) rfl (re (gs (rg (so rfl (op_lit (s := 3) (by_ := 24) k124 ([] : List S124) [] [] 1 [] rfl rfl rfl rfl rfl rfl rfl rfl rfl rfl rfl rfl rfl dq rfl fun A9_1 c9_1 => (sv (EV.as rfl) rfl (re (gs (rg (sv (EV.mv rfl) rfl ?_)))))))))))))
 revert H; refine bdI ?_; rintro t2 A2 H
 refine so rfl (op_call (spec_l2Cut.ok k a0 32 _ A2) [] 2 rfl rfl rfl rfl rfl ?_)
 rintro _ _ _ ⟨At2, ct2, rfl, rfl, rfl⟩
 refine sv (EV.as rfl) rfl (re ?_)
 refine jo (fun S => ∃ (m : Nat) (x2_4 : List S124) (Ax2_4 : Option Addr) (cx2_4 : Nat), spec_ParseRows.j0 m x2_4 = some (r0, r1) ∧ S = ⟨[(4, .slice Ax2_4 x2_4.length cx2_4)], [], [.sl 2 k124 Ax2_4 cx2_4 x2_4 1 true]⟩) (fun S hS => ?_) (fun jh0 => ?_)
 ·
  clear H
  obtain ⟨m3, x2_4, Ax2_4, cx2_4, H, rfl⟩ := hS
  rcases m3 with _ | m3
  · rw [spec_ParseRows.j0] at H; cases H
  rw [spec_ParseRows.j0] at H
  refine gs (gs (rg (sv (EV.mv rfl) rfl ?_)))
  revert H; refine bdI ?_; rintro t4 A4 H
  refine so rfl (op_call (spec_AreValidRows.ok m3 x2_4 Ax2_4 cx2_4 _ A4) [⟨0, 0, 0, false⟩] 2 rfl rfl rfl rfl rfl ?_)
  rintro _ _ _ ⟨rfl, rfl, rfl⟩
  refine sv (EV.nt rfl) rfl (re ?_)
  revert H; refine ifsI ?_ ?_ <;> intro c5 H
  ·
   subst c5
   refine gf rfl rfl (gk (gs (rg (sv (EV.mv rfl) rfl (sv (EV.as rfl) rfl (sv (EV.as rfl) rfl (re ?_)))))))
   cases H
   exact rt Try.func71 rfl (.tmp rfl (.tmp rfl .nil)) rfl [] [⟨0, 2, 1, true⟩] rfl rfl rfl rfl rfl ⟨_, _, rfl, rfl, rfl⟩
  ·
   obtain rfl := bF c5
   refine gt rfl rfl (gs (rg (so rfl (op_lit (s := 3) (by_ := 24) k124 ([] : List S124) [] [] 2 [] rfl rfl rfl rfl rfl rfl rfl rfl rfl rfl rfl rfl rfl dq rfl fun A40_6 c40_6 => (sv (EV.as rfl) rfl (sv (EV.as rfl) rfl (re ?_)))))))
   cases H
   exact rt Try.func71 rfl (.tmp rfl (.tmp rfl .nil)) rfl [] [⟨1, 2, 1, true⟩] rfl rfl rfl rfl rfl ⟨_, _, rfl, rfl, rfl⟩
 ·
  refine gs (rg (sv (EV.as rfl) rfl (re (gb ?_))))
  refine lo (fun kk S => ∃ (x3_0 : ByteArray) (x3_4 : List S124) (Ax3_4 : Option Addr) (cx3_4 : Nat) (x3_5 : List ByteArray) (Ax3_5 : Option Addr) (cx3_5 : Nat) (x3_6 : Int), spec_ParseRows.l0 kk x3_0 x3_4 x3_5 x3_6 = some (r0, r1) ∧ S = ⟨[(0, .string x3_0), (4, .slice Ax3_4 x3_4.length cx3_4), (5, .slice Ax3_5 x3_5.length cx3_5), (6, .int .i64 x3_6)], [], [.sl 2 k124 Ax3_4 cx3_4 x3_4 1 true, .sl 2 .str Ax3_5 cx3_5 x3_5 2 true]⟩) (fun S hS => ?_) (fun n0 ih0 S hS => ?_) ⟨a0, [], A9_1, c9_1, t2, At2, ct2, 0, H, rfl⟩ (fun h => wk [0, 4, 5, 6] [] [⟨0, 2, 1, true⟩, ⟨1, 2, 2, true⟩] h)
  · clear H; obtain ⟨_, _, _, _, _, _, _, _, H, _⟩ := hS; rw [spec_ParseRows.l0] at H; cases H
  clear H
  obtain ⟨x3_0, x3_4, Ax3_4, cx3_4, x3_5, Ax3_5, cx3_5, x3_6, H, rfl⟩ := hS
  rw [spec_ParseRows.l0] at H
  refine gs (gs (rg (sv (EV.mv rfl) rfl (sv (EV.mv rfl) rfl (sv (EV.ln rfl) rfl (sv (EV.lss rfl rfl) rfl (sv (EV.mv rfl) rfl ?_)))))))
  revert H; refine ifsI ?_ ?_ <;> intro c7 H
  ·
   refine ts 16 rfl (dT c7) (sv (EV.mv rfl) rfl (sv (EV.nes rfl rfl) rfl (sv (EV.pt rfl rfl rfl) rfl (re ?_))))
   revert H; refine ifsI ?_ ?_ <;> intro c8 H
   ·
    exact gf rfl (nF c8) (gx rfl (wk [4] [] [⟨0, 2, 1, true⟩] (jh0 _ ⟨_, x3_4, Ax3_4, cx3_4, H, rfl⟩)))
   ·
    refine gt rfl (nT c8) (gk (gs (gb (gs (rg (sv (EV.mv rfl) rfl (sv (EV.mv rfl) rfl ?_)))))))
    revert H; refine ggI ?_; intro g9 H
    refine sv (EV.ix 1 rfl rfl rfl g9 c7 rfl) rfl (sv (EV.le (v := .string (rdOf ByteArray.empty x3_5 x3_6)) x3_6 0 none 1 ByteArray.empty rfl rfl rfl g9 c7 rfl rfl rfl) rfl ?_)
    revert H; refine bdI ?_; rintro ⟨t10_0, t10_1, t10_2, t10_3⟩ A10 H
    refine so rfl (op_call (spec_ParseRow.ok n0 (rdOf ByteArray.empty x3_5 x3_6) _ _ _ _ A10) [] 3 rfl rfl rfl rfl rfl ?_)
    rintro _ _ _ ⟨rfl, rfl, rfl⟩
    refine sv (EV.mv rfl) rfl (sv (EV.ex rfl rfl) rfl (sv (EV.ex rfl rfl) rfl (so rfl (op_alloc (cs := [.int .i64 0, .int .i64 0, .int .i64 0]) (by kernel_rfl) rfl fun b7 => (so rfl (op_st (cs' := [.int .i64 t10_0, .int .i64 t10_1, .int .i64 t10_2]) 0 rfl rfl rfl rfl rfl rfl (sv (EV.as rfl) rfl (re (pr [0, 4, 5, 6, 7, 8, 17, 18] [0] [0, 1] rfl rfl rfl rfl (gs (gs (rg (sv (EV.mv rfl) rfl (sv (EV.nt rfl) rfl (re ?_)))))))))))))))
    revert H; refine ifsI ?_ ?_ <;> intro c11 H
    ·
     subst c11
     refine gf rfl rfl (gk (rg (sv (EV.mv rfl) rfl (sv (EV.ld (v := .agg #[.int .i64 t10_0, .int .i64 t10_1, .int .i64 t10_2]) 0 (some 3) rfl rfl rfl) rfl (so rfl (op_lit (s := 3) (by_ := 24) k124 ([(⟨t10_0, t10_1, t10_2⟩ : S124)] : List S124) [[]] [] 3 [.tmp 34] rfl rfl rfl rfl rfl rfl rfl rfl rfl rfl rfl rfl rfl dq rfl fun A35_12 c35_12 => ?_))))))
     revert H; refine ggI ?_; intro g13 H
     exact so rfl (op_app (k := k124) (s := 3) (by_ := 24) 0 2 rfl rfl rfl rfl (ap1 g13 dq) (ap1n g13 dq) (.inl rfl) true (fun _ => .inl rfl) rfl rfl fun A36_14 c36_14 => (nmE (en := [.sl 2 .str Ax3_5 cx3_5 x3_5 2 true, .sl 2 k124 A35_12 c35_12 ([(⟨t10_0, t10_1, t10_2⟩ : S124)] : List S124) 3 true, .sl 2 k124 A36_14 c36_14 (x3_4 ++ ([(⟨t10_0, t10_1, t10_2⟩ : S124)] : List S124)) 1 true]) (by kernel_rfl) (sv (EV.as rfl) rfl (re (pr [0, 4, 5, 6, 17, 18] [] [0, 2] rfl rfl rfl rfl (ge (rg (sv (EV.mv rfl) rfl (sv (EV.add rfl rfl) rfl (sv (EV.as rfl) rfl (re (wk [0, 4, 5, 6] [] [⟨1, 2, 1, true⟩, ⟨0, 2, 2, true⟩] (ih0 _ (by omega) _ ⟨x3_0, x3_4 ++ ([(⟨t10_0, t10_1, t10_2⟩ : S124)] : List S124), A36_14, c36_14, x3_5, Ax3_5, cx3_5, wrap64 (x3_6 + 1), H, rfl⟩)))))))))))))
    ·
     obtain rfl := bF c11
     refine gt rfl rfl (gs (rg (so rfl (op_lit (s := 3) (by_ := 24) k124 ([] : List S124) [] [] 3 [] rfl rfl rfl rfl rfl rfl rfl rfl rfl rfl rfl rfl rfl dq rfl fun A32_15 c32_15 => (sv (EV.as rfl) rfl (sv (EV.as rfl) rfl (re (pr [2, 3] [] [2] rfl rfl rfl rfl ?_))))))))
     cases H
     exact rt Try.func71 rfl (.tmp rfl (.tmp rfl .nil)) rfl [] [⟨0, 2, 1, true⟩] rfl rfl rfl rfl rfl ⟨_, _, rfl, rfl, rfl⟩
  ·
   exact ts 16 rfl (dF c7) (sk rfl (sk rfl (sv (EV.pf rfl rfl rfl) rfl (re (pr [0, 4, 5, 6, 19] [] [0, 1] rfl rfl rfl rfl (gf rfl rfl (gx rfl (wk [4] [] [⟨0, 2, 1, true⟩] (jh0 _ ⟨_, x3_4, Ax3_4, cx3_4, H, rfl⟩)))))))))
end Go.Proofs.Ytnllplklggoabaa.K
namespace Go.Proofs.Ytnllplklggoabaa.K
open Go Go.RowKit
set_option linter.unusedVariables false
set_option linter.unusedSimpArgs false
def spec_ParseAggregator.l0 : Nat → ByteArray → (List ByteArray) → Int → (List S99) → Int → Bool → (List S99) → Int → Bool → Option ((List S99) × Int × Bool × Bool)
 | 0, _, _, _, _, _, _, _, _, _ => none
 | k + 1, x2_0, x2_4, x2_6, x2_2_0, x2_2_1, x2_2_2, x2_5_0, x2_5_1, x2_5_2 => if x2_6 < (x2_4.length : Int) then (if 0 ≤ x2_6 then ((spec_l2Cut.f k (rdOf ByteArray.empty x2_4 x2_6) 59).bind fun t8 => (if (t8.length : Int) = 2 then (if 0 < (t8.length : Int) then ((spec_ParseInt.f k (rdOf ByteArray.empty t8 0)).bind fun bt11 => (if 1 < (t8.length : Int) then ((spec_ParseRows.f k (rdOf ByteArray.empty t8 1)).bind fun bt13 => (if x2_5_0.length < 4398046511104 then (spec_ParseAggregator.l0 k x2_0 x2_4 (wrap64 (x2_6 + 1)) x2_2_0 x2_2_1 x2_2_2 (x2_5_0 ++ ([(⟨bt13.1, bt11.1⟩ : S99)] : List S99)) x2_5_1 x2_5_2) else none)) else none)) else none) else (some ([], 0, false, false)))) else none) else ((spec_FormatAggregator.f k x2_5_0 x2_5_1 x2_5_2).bind fun t17 => (if t17.toList = x2_0.toList then (some (x2_5_0, x2_5_1, x2_5_2, true)) else (some ([], 0, false, false))))
def spec_ParseAggregator.f (k : Nat) (a0 : ByteArray) : Option ((List S99) × Int × Bool × Bool) := (spec_l2Cut.f k a0 47).bind fun t1 => (if (t1.length : Int) < 2 then (some ([], 0, false, false)) else (if 1 < (t1.length : Int) then (if 0 < (t1.length : Int) then ((spec_ParseInt.f k (rdOf ByteArray.empty t1 0)).bind fun bt5 => (spec_ParseAggregator.l0 k a0 t1 2 [] 0 false [] bt5.1 (decide ((rdOf ByteArray.empty t1 1).toList = (⟨#[49]⟩ : ByteArray).toList)))) else none) else none))
set_option maxHeartbeats 4000000 in
set_option maxRecDepth 100000 in
theorem spec_ParseAggregator.ok (k : Nat) (a0 : ByteArray) (r0 : List S99) (r1 : Int) (r2 : Bool) (r3 : Bool) (H : spec_ParseAggregator.f k a0 = some (r0, r1, r2, r3)) : Fn Try.prog 30 [.string a0] [] [] (fun v bx en => ∃ A0 c0, v = .tuple #[.agg #[.slice A0 r0.length c0, .int .i64 r1, .bool r2], .bool r3] ∧ bx = [] ∧ en = [.sl 2 k99 A0 c0 r0 1 true]) := by
 refine fn_ 72 Try.func30 rfl rfl rfl (fun base T w0 => ?_)
 rw [spec_ParseAggregator.f] at H
 refine gs (rg (so rfl (op_alloc (cs := [.slice none 0 0, .int .i64 0, .bool false]) (by kernel_rfl) rfl fun b2 => (sv (EV.as rfl) rfl (re (gs (rg (sv (EV.mv rfl) rfl ?_))))))))
 revert H; refine bdI ?_; rintro t1 A1 H
 refine so rfl (op_call (spec_l2Cut.ok k a0 47 _ A1) [] 1 rfl rfl rfl rfl rfl ?_)
 rintro _ _ _ ⟨At1, ct1, rfl, rfl, rfl⟩
 refine sv (EV.as rfl) rfl (re (gs (gs (rg (sv (EV.mv rfl) rfl (sv (EV.ln rfl) rfl (sv (EV.lss rfl rfl) rfl (re ?_))))))))
 revert H; refine ifsI ?_ ?_ <;> intro c2 H
 ·
  refine gt rfl (dT c2) (gs (rg (sv (EV.bd (v := .agg #[.slice none 0 0, .int .i64 0, .bool false]) rfl (by kernel_rfl)) rfl (so rfl (op_st (cs' := [.slice none 0 0, .int .i64 0, .bool false]) 0 rfl rfl rfl rfl rfl rfl (sv (EV.as rfl) rfl (re (pr [2, 3] [0] [] rfl rfl rfl rfl (nil_ k99 1 dq ?_)))))))))
  cases H
  exact rt Try.func30 rfl (.cell 0 (some 3) rfl rfl rfl (.tmp rfl .nil)) rfl [] [⟨0, 2, 1, true⟩] rfl rfl rfl rfl rfl ⟨_, _, rfl, rfl, rfl⟩
 ·
  refine gf rfl (dF c2) (gk (gs (rg (sv (EV.mv rfl) rfl ?_))))
  revert H; refine ggI ?_; intro g3 H
  refine sv (EV.ix 0 rfl rfl rfl dq g3 rfl) rfl (sv (EV.le (v := .string (rdOf ByteArray.empty t1 1)) 1 0 none 0 ByteArray.empty rfl rfl rfl dq g3 rfl rfl rfl) rfl (sv (EV.eqs rfl rfl) rfl (sv (EV.bd (v := .agg #[.slice none 0 0, .int .i64 0, .bool (decide ((rdOf ByteArray.empty t1 1).toList = (⟨#[49]⟩ : ByteArray).toList))]) rfl (by kernel_rfl)) rfl (so rfl (op_alloc (cs := [.slice none 0 0, .int .i64 0, .bool false]) (by kernel_rfl) rfl fun b5 => (so rfl (op_st (cs' := [.slice none 0 0, .int .i64 0, .bool (decide ((rdOf ByteArray.empty t1 1).toList = (⟨#[49]⟩ : ByteArray).toList))]) 1 rfl rfl rfl rfl rfl rfl (re (pr [0, 2, 4, 5] [0, 1] [0] rfl rfl rfl rfl (gs (rg (sv (EV.mv rfl) rfl ?_))))))))))))
  revert H; refine ggI ?_; intro g4 H
  refine sv (EV.ix 0 rfl rfl rfl dq g4 rfl) rfl (sv (EV.le (v := .string (rdOf ByteArray.empty t1 0)) 0 0 none 0 ByteArray.empty rfl rfl rfl dq g4 rfl rfl rfl) rfl ?_)
  revert H; refine bdI ?_; rintro ⟨t5_0, t5_1⟩ A5 H
  refine so rfl (op_call (spec_ParseInt.ok k (rdOf ByteArray.empty t1 0) _ _ A5) [] 3 rfl rfl rfl rfl rfl ?_)
  rintro _ _ _ ⟨rfl, rfl, rfl⟩
  refine sv (EV.mv rfl) rfl (sv (EV.ex rfl rfl) rfl (sv (EV.ex rfl rfl) rfl (sv (EV.fa 1 rfl) rfl (so rfl (op_st (cs' := [.slice none 0 0, .int .i64 t5_0, .bool (decide ((rdOf ByteArray.empty t1 1).toList = (⟨#[49]⟩ : ByteArray).toList))]) 1 rfl rfl rfl rfl rfl rfl (re (pr [0, 2, 4, 5] [0, 1] [0] rfl rfl rfl rfl (gs (gs (rg (sv (EV.as rfl) rfl (re (gb (nil_ k99 3 dq (nil_ k99 4 dq ?_)))))))))))))))
  refine lo (fun kk S => ∃ (x2_0 : ByteArray) (x2_4 : List ByteArray) (Ax2_4 : Option Addr) (cx2_4 : Nat) (x2_6 : Int) (x2_2_0 : List S99) (Ax2_2_0 : Option Addr) (cx2_2_0 : Nat) (x2_2_1 : Int) (x2_2_2 : Bool) (x2_5_0 : List S99) (Ax2_5_0 : Option Addr) (cx2_5_0 : Nat) (x2_5_1 : Int) (x2_5_2 : Bool), spec_ParseAggregator.l0 kk x2_0 x2_4 x2_6 x2_2_0 x2_2_1 x2_2_2 x2_5_0 x2_5_1 x2_5_2 = some (r0, r1, r2, r3) ∧ S = ⟨[(0, .string x2_0), (2, .pointer (some ⟨b2, 0, none⟩)), (4, .slice Ax2_4 x2_4.length cx2_4), (5, .pointer (some ⟨b5, 0, none⟩)), (6, .int .i64 x2_6)], [⟨b2, 48, [.slice Ax2_2_0 x2_2_0.length cx2_2_0, .int .i64 x2_2_1, .bool x2_2_2]⟩, ⟨b5, 48, [.slice Ax2_5_0 x2_5_0.length cx2_5_0, .int .i64 x2_5_1, .bool x2_5_2]⟩], [.sl 2 .str Ax2_4 cx2_4 x2_4 1 true, .sl 2 k99 Ax2_2_0 cx2_2_0 x2_2_0 2 true, .sl 2 k99 Ax2_5_0 cx2_5_0 x2_5_0 3 true]⟩) (fun S hS => ?_) (fun n0 ih0 S hS => ?_) ⟨a0, t1, At1, ct1, 2, [], none, 0, 0, false, [], none, 0, t5_0, decide ((rdOf ByteArray.empty t1 1).toList = (⟨#[49]⟩ : ByteArray).toList), H, rfl⟩ (fun h => wk [0, 2, 4, 5, 6] [0, 1] [⟨0, 2, 1, true⟩, ⟨1, 2, 2, true⟩, ⟨2, 2, 3, true⟩] h)
  · clear H; obtain ⟨_, _, _, _, _, _, _, _, _, _, _, _, _, _, _, H, _⟩ := hS; rw [spec_ParseAggregator.l0] at H; cases H
  clear H
  obtain ⟨x2_0, x2_4, Ax2_4, cx2_4, x2_6, x2_2_0, Ax2_2_0, cx2_2_0, x2_2_1, x2_2_2, x2_5_0, Ax2_5_0, cx2_5_0, x2_5_1, x2_5_2, H, rfl⟩ := hS
  rw [spec_ParseAggregator.l0] at H
  refine gs (gs (rg (sv (EV.mv rfl) rfl (sv (EV.mv rfl) rfl (sv (EV.ln rfl) rfl (sv (EV.lss rfl rfl) rfl (re ?_)))))))
  revert H; refine ifsI ?_ ?_ <;> intro c6 H
  ·
   refine gt rfl (dT c6) (gk (gs (gb (gs (rg (sv (EV.mv rfl) rfl (sv (EV.mv rfl) rfl ?_)))))))
   revert H; refine ggI ?_; intro g7 H
   refine sv (EV.ix 0 rfl rfl rfl g7 c6 rfl) rfl (sv (EV.le (v := .string (rdOf ByteArray.empty x2_4 x2_6)) x2_6 0 none 0 ByteArray.empty rfl rfl rfl g7 c6 rfl rfl rfl) rfl ?_)
   revert H; refine bdI ?_; rintro t8 A8 H
   refine so rfl (op_call (spec_l2Cut.ok n0 (rdOf ByteArray.empty x2_4 x2_6) 59 _ A8) [] 4 rfl rfl rfl rfl rfl ?_)
   rintro _ _ _ ⟨At8, ct8, rfl, rfl, rfl⟩
   refine sv (EV.as rfl) rfl (re (pr [0, 2, 4, 5, 6, 7] [0, 1] [0, 1, 2, 3] rfl rfl rfl rfl (gs (gs (rg (sv (EV.mv rfl) rfl (sv (EV.ln rfl) rfl (sv (EV.neq rfl rfl) rfl (re ?_)))))))))
   revert H; refine ifsI ?_ ?_ <;> intro c9 H
   ·
    refine gf rfl (nF c9) (gk (gs (rg (sv (EV.bd (v := .agg #[.slice none 0 0, .int .i64 0]) rfl (by kernel_rfl)) rfl (so rfl (op_alloc (cs := [.slice none 0 0, .int .i64 0]) (by kernel_rfl) rfl fun b8 => (so rfl (op_st (cs' := [.slice none 0 0, .int .i64 0]) 2 rfl rfl rfl rfl rfl rfl (re (gs (rg (sv (EV.mv rfl) rfl ?_))))))))))))
    revert H; refine ggI ?_; intro g10 H
    refine sv (EV.ix 3 rfl rfl rfl dq g10 rfl) rfl (sv (EV.le (v := .string (rdOf ByteArray.empty t8 0)) 0 0 none 3 ByteArray.empty rfl rfl rfl dq g10 rfl rfl rfl) rfl ?_)
    revert H; refine bdI ?_; rintro ⟨t11_0, t11_1⟩ A11 H
    refine so rfl (op_call (spec_ParseInt.ok n0 (rdOf ByteArray.empty t8 0) _ _ A11) [] 6 rfl rfl rfl rfl rfl ?_)
    rintro _ _ _ ⟨rfl, rfl, rfl⟩
    refine sv (EV.mv rfl) rfl (sv (EV.ex rfl rfl) rfl (sv (EV.ex rfl rfl) rfl (sv (EV.fa 1 rfl) rfl (so rfl (op_st (cs' := [.slice none 0 0, .int .i64 t11_0]) 2 rfl rfl rfl rfl rfl rfl (re (pr [0, 2, 4, 5, 6, 7, 8] [0, 1, 2] [0, 1, 2, 3] rfl rfl rfl rfl (gs (rg (sv (EV.mv rfl) rfl ?_))))))))))
    revert H; refine ggI ?_; intro g12 H
    refine sv (EV.ix 3 rfl rfl rfl dq g12 rfl) rfl (sv (EV.le (v := .string (rdOf ByteArray.empty t8 1)) 1 0 none 3 ByteArray.empty rfl rfl rfl dq g12 rfl rfl rfl) rfl ?_)
    revert H; refine bdI ?_; rintro ⟨t13_0, t13_1⟩ A13 H
    refine so rfl (op_call (spec_ParseRows.ok n0 (rdOf ByteArray.empty t8 1) _ _ A13) [] 6 rfl rfl rfl rfl rfl ?_)
    rintro _ _ _ ⟨At13_0, ct13_0, rfl, rfl, rfl⟩
    refine sv (EV.mv rfl) rfl (sv (EV.ex rfl rfl) rfl (sv (EV.ex rfl rfl) rfl (sv (EV.fa 0 rfl) rfl (so rfl (op_st (cs' := [.slice At13_0 t13_0.length ct13_0, .int .i64 t11_0]) 2 rfl rfl rfl rfl rfl rfl (re (pr [0, 2, 4, 5, 6, 8] [0, 1, 2] [0, 1, 2, 4] rfl rfl rfl rfl (rg (sv (EV.fa 0 rfl) rfl (sv (EV.ld 1 none rfl rfl rfl) rfl (sv (EV.ld (v := .agg #[.slice At13_0 t13_0.length ct13_0, .int .i64 t11_0]) 2 (some 2) rfl rfl rfl) rfl (so rfl (op_lit (s := 2) (by_ := 32) k99 ([(⟨t13_0, t11_0⟩ : S99)] : List S99) [[(At13_0, ct13_0)]] [3] 8 [.tmp 62] rfl rfl rfl rfl rfl rfl rfl rfl rfl rfl rfl rfl rfl dq rfl fun A63_14 c63_14 => (nmE (en := [.sl 2 .str Ax2_4 cx2_4 x2_4 1 true, .sl 2 k99 Ax2_2_0 cx2_2_0 x2_2_0 2 true, .sl 2 k99 Ax2_5_0 cx2_5_0 x2_5_0 3 true, .sl 2 k124 At13_0 ct13_0 t13_0 8 true, .sl 2 k99 A63_14 c63_14 ([(⟨t13_0, t11_0⟩ : S99)] : List S99) 8 true]) (by kernel_rfl) ?_))))))))))))))
    revert H; refine ggI ?_; intro g15 H
    exact so rfl (op_app (k := k99) (s := 2) (by_ := 32) 2 4 rfl rfl rfl rfl (ap1 g15 dq) (ap1n g15 dq) (.inr ⟨dq, dq, rfl, dq⟩) true (fun _ => .inr ⟨rfl, rfl, dq⟩) rfl rfl fun A64_16 c64_16 => (nmE (en := [.sl 2 .str Ax2_4 cx2_4 x2_4 1 true, .sl 2 k99 Ax2_2_0 cx2_2_0 x2_2_0 2 true, .sl 2 k124 At13_0 ct13_0 t13_0 3 true, .sl 2 k99 A63_14 c63_14 ([(⟨t13_0, t11_0⟩ : S99)] : List S99) 3 true, .sl 2 k99 A64_16 c64_16 (x2_5_0 ++ ([(⟨t13_0, t11_0⟩ : S99)] : List S99)) 3 true]) (by kernel_rfl) (sv (EV.fa 0 rfl) rfl (so rfl (op_st (cs' := [.slice A64_16 (x2_5_0 ++ ([(⟨t13_0, t11_0⟩ : S99)] : List S99)).length c64_16, .int .i64 x2_5_1, .bool x2_5_2]) 1 rfl rfl rfl rfl rfl rfl (re (pr [0, 2, 4, 5, 6] [0, 1] [0, 1, 4] rfl rfl rfl rfl (ge (rg (sv (EV.mv rfl) rfl (sv (EV.add rfl rfl) rfl (sv (EV.as rfl) rfl (re (wk [0, 2, 4, 5, 6] [0, 1] [⟨0, 2, 1, true⟩, ⟨1, 2, 2, true⟩, ⟨2, 2, 3, true⟩] (ih0 _ (by omega) _ ⟨x2_0, x2_4, Ax2_4, cx2_4, wrap64 (x2_6 + 1), x2_2_0, Ax2_2_0, cx2_2_0, x2_2_1, x2_2_2, x2_5_0 ++ ([(⟨t13_0, t11_0⟩ : S99)] : List S99), A64_16, c64_16, x2_5_1, x2_5_2, H, rfl⟩)))))))))))))))
   ·
    refine gt rfl (nT c9) (gs (rg (sv (EV.bd (v := .agg #[.slice none 0 0, .int .i64 0, .bool false]) rfl (by kernel_rfl)) rfl (so rfl (op_st (cs' := [.slice none 0 0, .int .i64 0, .bool false]) 0 rfl rfl rfl rfl rfl rfl (sv (EV.as rfl) rfl (re (pr [2, 3] [0] [] rfl rfl rfl rfl (nil_ k99 1 dq ?_)))))))))
    cases H
    exact rt Try.func30 rfl (.cell 0 (some 3) rfl rfl rfl (.tmp rfl .nil)) rfl [] [⟨0, 2, 1, true⟩] rfl rfl rfl rfl rfl ⟨_, _, rfl, rfl, rfl⟩
  ·
   refine gf rfl (dF c6) (gx rfl (gs (gs (rg (sv (EV.ld (v := .agg #[.slice Ax2_5_0 x2_5_0.length cx2_5_0, .int .i64 x2_5_1, .bool x2_5_2]) 1 (some 3) rfl rfl rfl) rfl ?_)))))
   revert H; refine bdI ?_; rintro t17 A17 H
   refine so rfl (op_call (spec_FormatAggregator.ok n0 x2_5_0 Ax2_5_0 cx2_5_0 x2_5_1 x2_5_2 _ A17) [⟨2, 0, 0, false⟩] 4 rfl rfl rfl rfl rfl ?_)
   rintro _ _ _ ⟨rfl, rfl, rfl⟩
   refine sv (EV.mv rfl) rfl (sv (EV.nes rfl rfl) rfl (re (pr [2, 5, 69] [0, 1] [1, 2] rfl rfl rfl rfl ?_)))
   revert H; refine ifsI ?_ ?_ <;> intro c18 H
   ·
    refine gf rfl (nF c18) (gk (gs (rg (sv (EV.ld (v := .agg #[.slice Ax2_5_0 x2_5_0.length cx2_5_0, .int .i64 x2_5_1, .bool x2_5_2]) 1 (some 3) rfl rfl rfl) rfl (so rfl (op_st (cs' := [.slice Ax2_5_0 x2_5_0.length cx2_5_0, .int .i64 x2_5_1, .bool x2_5_2]) 0 rfl rfl rfl rfl rfl rfl (sv (EV.as rfl) rfl (re ?_))))))))
    cases H
    exact rt Try.func30 rfl (.cell 0 (some 3) rfl rfl rfl (.tmp rfl .nil)) rfl [] [⟨1, 2, 1, true⟩] rfl rfl rfl rfl rfl ⟨_, _, rfl, rfl, rfl⟩
   ·
    refine gt rfl (nT c18) (gs (rg (sv (EV.bd (v := .agg #[.slice none 0 0, .int .i64 0, .bool false]) rfl (by kernel_rfl)) rfl (so rfl (op_st (cs' := [.slice none 0 0, .int .i64 0, .bool false]) 0 rfl rfl rfl rfl rfl rfl (sv (EV.as rfl) rfl (re (nil_ k99 4 dq ?_))))))))
    cases H
    exact rt Try.func30 rfl (.cell 0 (some 3) rfl rfl rfl (.tmp rfl .nil)) rfl [] [⟨2, 2, 1, true⟩] rfl rfl rfl rfl rfl ⟨_, _, rfl, rfl, rfl⟩
end Go.Proofs.Ytnllplklggoabaa.K
namespace Go.Proofs.Ytnllplklggoabaa.K
open Go Go.RowKit
set_option linter.unusedVariables false
set_option linter.unusedSimpArgs false
def impl_within.f (a0 : Int) (a1 : Int) (a2 : Int) : Option (Bool) := if a0 ≥ a1 then (some (decide (a0 ≤ a2))) else (some false)
set_option maxHeartbeats 4000000 in
set_option maxRecDepth 100000 in
theorem impl_within.ok (a0 : Int) (a1 : Int) (a2 : Int) (r0 : Bool) (H : impl_within.f a0 a1 a2 = some r0) : Fn Try.prog 93 [.int .i64 a0, .int .i64 a1, .int .i64 a2] [] [] (fun v bx en => v = .bool r0 ∧ bx = [] ∧ en = []) := by
 refine fn_ 15 Try.func93 rfl rfl rfl (fun base T w0 => ?_)
 rw [impl_within.f] at H
 refine gs (rg (sv (EV.as rfl) rfl (re (gs (rg (sv (EV.mv rfl) rfl (sv (EV.mv rfl) rfl (sv (EV.geq rfl rfl) rfl (sv (EV.mv rfl) rfl ?_)))))))))
 revert H; refine ifsI ?_ ?_ <;> intro c1 H
 ·
  refine ts 10 rfl (dT c1) (sv (EV.mv rfl) rfl (sv (EV.mv rfl) rfl (sv (EV.leq rfl rfl) rfl (sv (EV.pt rfl rfl rfl) rfl (sv (EV.as rfl) rfl (re (pr [6] [] [] rfl rfl rfl rfl ?_)))))))
  cases H
  exact rt Try.func93 rfl (.tmp rfl .nil) rfl [] [] rfl rfl rfl rfl rfl ⟨rfl, rfl, rfl⟩
 ·
  refine ts 10 rfl (dF c1) (sk rfl (sk rfl (sk rfl (sv (EV.pf rfl rfl rfl) rfl (sv (EV.as rfl) rfl (re (pr [6] [] [] rfl rfl rfl rfl ?_)))))))
  cases H
  exact rt Try.func93 rfl (.tmp rfl .nil) rfl [] [] rfl rfl rfl rfl rfl ⟨rfl, rfl, rfl⟩
end Go.Proofs.Ytnllplklggoabaa.K
namespace Go.Proofs.Ytnllplklggoabaa.K
open Go Go.RowKit
set_option linter.unusedVariables false
set_option linter.unusedSimpArgs false
def impl_IsValidRow.f (a0_0 : Int) (a0_1 : Int) (a0_2 : Int) : Option (Bool) := (impl_within.f a0_0 0 9).bind fun t1 => (if t1 = true then ((impl_within.f a0_1 0 99).bind fun t3 => (if t3 = true then ((impl_within.f a0_2 0 3).bind fun t5 => (some t5)) else (some false))) else (some false))
set_option maxHeartbeats 4000000 in
set_option maxRecDepth 100000 in
theorem impl_IsValidRow.ok (a0_0 : Int) (a0_1 : Int) (a0_2 : Int) (r0 : Bool) (H : impl_IsValidRow.f a0_0 a0_1 a0_2 = some r0) : Fn Try.prog 104 [.agg #[.int .i64 a0_0, .int .i64 a0_1, .int .i64 a0_2]] [] [] (fun v bx en => v = .bool r0 ∧ bx = [] ∧ en = []) := by
 refine fn_ 16 Try.func104 rfl rfl rfl (fun base T w0 => ?_)
 rw [impl_IsValidRow.f] at H
 refine gs (rg (so rfl (op_box (cs := [.int .i64 a0_0, .int .i64 a0_1, .int .i64 a0_2]) rfl rfl rfl fun b1 => (sv (EV.as rfl) rfl (re (gs (rg (sv (EV.fa 0 rfl) rfl (sv (EV.ld 0 none rfl rfl rfl) rfl ?_)))))))))
 revert H; refine bdI ?_; rintro t1 A1 H
 refine so rfl (op_call (impl_within.ok a0_0 0 9 _ A1) [] 1 rfl rfl rfl rfl rfl ?_)
 rintro _ _ _ ⟨rfl, rfl, rfl⟩
 refine sv (EV.mv rfl) rfl ?_
 revert H; refine ifsI ?_ ?_ <;> intro c2 H
 ·
  subst c2
  refine ts 6 rfl rfl (sv (EV.fa 1 rfl) rfl (sv (EV.ld 0 none rfl rfl rfl) rfl ?_))
  revert H; refine bdI ?_; rintro t3 A3 H
  refine so rfl (op_call (impl_within.ok a0_1 0 99 _ A3) [] 1 rfl rfl rfl rfl rfl ?_)
  rintro _ _ _ ⟨rfl, rfl, rfl⟩
  refine sv (EV.pt rfl rfl rfl) rfl (sv (EV.mv rfl) rfl ?_)
  revert H; refine ifsI ?_ ?_ <;> intro c4 H
  ·
   subst c4
   refine ts 11 rfl rfl (sv (EV.fa 2 rfl) rfl (sv (EV.ld 0 none rfl rfl rfl) rfl ?_))
   revert H; refine bdI ?_; rintro t5 A5 H
   refine so rfl (op_call (impl_within.ok a0_2 0 3 _ A5) [] 1 rfl rfl rfl rfl rfl ?_)
   rintro _ _ _ ⟨rfl, rfl, rfl⟩
   refine sv (EV.pt rfl rfl rfl) rfl (sv (EV.as rfl) rfl (re (pr [2] [] [] rfl rfl rfl rfl ?_)))
   cases H
   exact rt Try.func104 rfl (.tmp rfl .nil) rfl [] [] rfl rfl rfl rfl rfl ⟨rfl, rfl, rfl⟩
  ·
   obtain rfl := bF c4
   refine ts 11 rfl rfl (sk rfl (sk rfl (sk rfl (sv (EV.pf rfl rfl rfl) rfl (sv (EV.as rfl) rfl (re (pr [2] [] [] rfl rfl rfl rfl ?_)))))))
   cases H
   exact rt Try.func104 rfl (.tmp rfl .nil) rfl [] [] rfl rfl rfl rfl rfl ⟨rfl, rfl, rfl⟩
 ·
  obtain rfl := bF c2
  refine ts 6 rfl rfl (sk rfl (sk rfl (sk rfl (sv (EV.pf rfl rfl rfl) rfl (sv (EV.mv rfl) rfl (sk rfl (sk rfl (sk rfl (sv (EV.pf rfl rfl rfl) rfl (sv (EV.as rfl) rfl (re (pr [2] [] [] rfl rfl rfl rfl ?_))))))))))))
  cases H
  exact rt Try.func104 rfl (.tmp rfl .nil) rfl [] [] rfl rfl rfl rfl rfl ⟨rfl, rfl, rfl⟩
end Go.Proofs.Ytnllplklggoabaa.K
namespace Go.Proofs.Ytnllplklggoabaa.K
open Go Go.RowKit
set_option linter.unusedVariables false
set_option linter.unusedSimpArgs false
def impl_allValid.l0 : Nat → Int → Int → (List S124) → Option (Bool)
 | 0, _, _, _ => none
 | k + 1, x2_6, x2_7, l0 => if x2_7 < x2_6 then (if 0 ≤ x2_7 then (if x2_7 < (l0.length : Int) then ((impl_IsValidRow.f ((rd_T124 l0 x2_7).f0) ((rd_T124 l0 x2_7).f1) ((rd_T124 l0 x2_7).f2)).bind fun t4 => (if t4 = true then (impl_allValid.l0 k x2_6 (wrap64 (x2_7 + 1)) l0) else (some false))) else none) else none) else (some true)
def impl_allValid.f (k : Nat) (l0 : List S124) : Option (Bool) := impl_allValid.l0 k (l0.length : Int) 0 l0
set_option maxHeartbeats 4000000 in
set_option maxRecDepth 100000 in
theorem impl_allValid.ok (k : Nat) (l0 : List S124) (Al0 : Option Addr) (cl0 : Nat) (r0 : Bool) (H : impl_allValid.f k l0 = some r0) : Fn Try.prog 102 [.slice Al0 l0.length cl0] [] [.sl 0 k124 Al0 cl0 l0 0 false] (fun v bx en => v = .bool r0 ∧ bx = [] ∧ en = []) := by
 refine fn_ 15 Try.func102 rfl rfl rfl (fun base T w0 => ?_)
 rw [impl_allValid.f] at H
 refine gs (rg (sv (EV.as rfl) rfl (re (gs (gs (rg (sv (EV.mv rfl) rfl (sv (EV.ln rfl) rfl (sv (EV.mv rfl) rfl (re (gb ?_)))))))))))
 refine lo (fun kk S => ∃ (x2_6 : Int) (x2_7 : Int), impl_allValid.l0 kk x2_6 x2_7 l0 = some r0 ∧ S = ⟨[(5, .slice Al0 l0.length cl0), (6, .int .i64 x2_6), (7, .int .i64 x2_7)], [], [.sl 0 k124 Al0 cl0 l0 0 false]⟩) (fun S hS => ?_) (fun n0 ih0 S hS => ?_) ⟨(l0.length : Int), 0, H, rfl⟩ (fun h => wk [5, 6, 7] [] [⟨0, 0, 0, false⟩] h)
 · clear H; obtain ⟨_, _, H, _⟩ := hS; rw [impl_allValid.l0] at H; cases H
 clear H
 obtain ⟨x2_6, x2_7, H, rfl⟩ := hS
 rw [impl_allValid.l0] at H
 refine gs (rg (sv (EV.lss rfl rfl) rfl (re (gs ?_))))
 revert H; refine ifsI ?_ ?_ <;> intro c1 H
 ·
  refine gt rfl (dT c1) (gk (gs (gb (gs (rg ?_)))))
  revert H; refine ggI ?_; intro g2 H
  revert H; refine ggI ?_; intro g3 H
  refine sv (EV.ix 0 rfl rfl rfl g2 g3 rfl) rfl (sv (EV.le (v := .agg #[.int .i64 ((rd_T124 l0 x2_7).f0), .int .i64 ((rd_T124 l0 x2_7).f1), .int .i64 ((rd_T124 l0 x2_7).f2)]) x2_7 0 (some 3) 0 z124 rfl rfl rfl g2 g3 rfl rfl rfl) rfl (so rfl (op_alloc (cs := [.int .i64 0, .int .i64 0, .int .i64 0]) (by kernel_rfl) rfl fun b4 => (so rfl (op_st (cs' := [.int .i64 ((rd_T124 l0 x2_7).f0), .int .i64 ((rd_T124 l0 x2_7).f1), .int .i64 ((rd_T124 l0 x2_7).f2)]) 0 rfl rfl rfl rfl rfl rfl (re (gs (rg (sv (EV.ld (v := .agg #[.int .i64 ((rd_T124 l0 x2_7).f0), .int .i64 ((rd_T124 l0 x2_7).f1), .int .i64 ((rd_T124 l0 x2_7).f2)]) 0 (some 3) rfl rfl rfl) rfl ?_)))))))))
  revert H; refine bdI ?_; rintro t4 A4 H
  refine so rfl (op_call (impl_IsValidRow.ok ((rd_T124 l0 x2_7).f0) ((rd_T124 l0 x2_7).f1) ((rd_T124 l0 x2_7).f2) _ A4) [] 1 rfl rfl rfl rfl rfl ?_)
  rintro _ _ _ ⟨rfl, rfl, rfl⟩
  refine sv (EV.nt rfl) rfl (re (pr [5, 6, 7, 13] [] [0] rfl rfl rfl rfl ?_))
  revert H; refine ifsI ?_ ?_ <;> intro c5 H
  ·
   subst c5
   exact gf rfl rfl (gk (ge (rg (sv (EV.add rfl rfl) rfl (sv (EV.mv rfl) rfl (re (wk [5, 6, 7] [] [⟨0, 0, 0, false⟩] (ih0 _ (by omega) _ ⟨x2_6, wrap64 (x2_7 + 1), H, rfl⟩))))))))
  ·
   obtain rfl := bF c5
   refine gt rfl rfl (gs (rg (sv (EV.as rfl) rfl (re ?_))))
   cases H
   exact rt Try.func102 rfl (.tmp rfl .nil) rfl [] [] rfl rfl rfl rfl rfl ⟨rfl, rfl, rfl⟩
 ·
  refine gf rfl (dF c1) (gx rfl (gs (rg (sv (EV.as rfl) rfl (re ?_)))))
  cases H
  exact rt Try.func102 rfl (.tmp rfl .nil) rfl [] [] rfl rfl rfl rfl rfl ⟨rfl, rfl, rfl⟩
end Go.Proofs.Ytnllplklggoabaa.K
namespace Go.Proofs.Ytnllplklggoabaa.K
open Go Go.RowKit
set_option linter.unusedVariables false
set_option linter.unusedSimpArgs false
def impl_AreValidRows.f (k : Nat) (l0 : List S124) : Option (Bool) := if (l0.length : Int) ≤ 24 then ((impl_allValid.f k l0).bind fun t2 => (some t2)) else (some false)
set_option maxHeartbeats 4000000 in
set_option maxRecDepth 100000 in
theorem impl_AreValidRows.ok (k : Nat) (l0 : List S124) (Al0 : Option Addr) (cl0 : Nat) (r0 : Bool) (H : impl_AreValidRows.f k l0 = some r0) : Fn Try.prog 92 [.slice Al0 l0.length cl0] [] [.sl 0 k124 Al0 cl0 l0 0 false] (fun v bx en => v = .bool r0 ∧ bx = [] ∧ en = []) := by
 refine fn_ 10 Try.func92 rfl rfl rfl (fun base T w0 => ?_)
 rw [impl_AreValidRows.f] at H
 refine gs (rg (sv (EV.as rfl) rfl (re (gs (rg (sv (EV.mv rfl) rfl (sv (EV.ln rfl) rfl (sv (EV.leq rfl rfl) rfl (sv (EV.mv rfl) rfl ?_)))))))))
 revert H; refine ifsI ?_ ?_ <;> intro c1 H
 ·
  refine ts 6 rfl (dT c1) (sv (EV.mv rfl) rfl ?_)
  revert H; refine bdI ?_; rintro t2 A2 H
  refine so rfl (op_call (impl_allValid.ok k l0 Al0 cl0 _ A2) [⟨0, 0, 0, false⟩] 1 rfl rfl rfl rfl rfl ?_)
  rintro _ _ _ ⟨rfl, rfl, rfl⟩
  refine sv (EV.pt rfl rfl rfl) rfl (sv (EV.as rfl) rfl (re (pr [2] [] [] rfl rfl rfl rfl ?_)))
  cases H
  exact rt Try.func92 rfl (.tmp rfl .nil) rfl [] [] rfl rfl rfl rfl rfl ⟨rfl, rfl, rfl⟩
 ·
  refine ts 6 rfl (dF c1) (sk rfl (sk rfl (sv (EV.pf rfl rfl rfl) rfl (sv (EV.as rfl) rfl (re (pr [2] [] [] rfl rfl rfl rfl ?_))))))
  cases H
  exact rt Try.func92 rfl (.tmp rfl .nil) rfl [] [] rfl rfl rfl rfl rfl ⟨rfl, rfl, rfl⟩
end Go.Proofs.Ytnllplklggoabaa.K
namespace Go.Proofs.Ytnllplklggoabaa.K
open Go Go.RowKit
set_option linter.unusedVariables false
set_option linter.unusedSimpArgs false
def impl_IsValidAggregator.l0 : Nat → Int → Int → Int → Int → Bool → (List S99) → Option (Bool)
 | 0, _, _, _, _, _, _ => none
 | k + 1, x2_3, x2_8, x2_9, x2_1_1, x2_1_2, l0_0 => if x2_9 < x2_8 then (if 0 ≤ x2_9 then (if x2_9 < (l0_0.length : Int) then ((impl_AreValidRows.f k ((rd_T99 l0_0 x2_9).f0)).bind fun t5 => (if t5 = true then ((impl_within.f ((rd_T99 l0_0 x2_9).f1) 0 4).bind fun t7 => (if t7 = true then (impl_IsValidAggregator.l0 k (wrap64 (x2_3 + (((rd_T99 l0_0 x2_9).f0).length : Int))) x2_8 (wrap64 (x2_9 + 1)) x2_1_1 x2_1_2 l0_0) else (some false))) else (some false))) else none) else none) else (if (l0_0.length : Int) ≤ 40 then (if x2_3 ≤ 24 then ((impl_within.f x2_1_1 0 100000).bind fun t11 => (some t11)) else (some false)) else (some false))
def impl_IsValidAggregator.f (k : Nat) (l0_0 : List S99) (a0_1 : Int) (a0_2 : Bool) : Option (Bool) := impl_IsValidAggregator.l0 k 0 (l0_0.length : Int) 0 a0_1 a0_2 l0_0
set_option maxHeartbeats 4000000 in
set_option maxRecDepth 100000 in
theorem impl_IsValidAggregator.ok (k : Nat) (l0_0 : List S99) (Al0_0 : Option Addr) (cl0_0 : Nat) (a0_1 : Int) (a0_2 : Bool) (r0 : Bool) (H : impl_IsValidAggregator.f k l0_0 a0_1 a0_2 = some r0) : Fn Try.prog 62 [.agg #[.slice Al0_0 l0_0.length cl0_0, .int .i64 a0_1, .bool a0_2]] [] [.sl 0 k99 Al0_0 cl0_0 l0_0 0 false] (fun v bx en => v = .bool r0 ∧ bx = [] ∧ en = []) := by
 refine fn_ 42 Try.func62 rfl rfl rfl (fun base T w0 => ?_)
 rw [impl_IsValidAggregator.f] at H
 refine gs (rg (so rfl (op_box (cs := [.slice Al0_0 l0_0.length cl0_0, .int .i64 a0_1, .bool a0_2]) rfl rfl rfl fun b1 => (sv (EV.as rfl) rfl (re (gs (rg (sv (EV.as rfl) rfl (re (gs (gs (rg (sv (EV.fa 0 rfl) rfl (sv (EV.ld 0 none rfl rfl rfl) rfl (sv (EV.ln rfl) rfl (sv (EV.mv rfl) rfl (re (gb ?_))))))))))))))))))
 refine lo (fun kk S => ∃ (x2_3 : Int) (x2_8 : Int) (x2_9 : Int) (x2_1_1 : Int) (x2_1_2 : Bool), impl_IsValidAggregator.l0 kk x2_3 x2_8 x2_9 x2_1_1 x2_1_2 l0_0 = some r0 ∧ S = ⟨[(1, .pointer (some ⟨b1, 0, none⟩)), (3, .int .i64 x2_3), (7, .slice Al0_0 l0_0.length cl0_0), (8, .int .i64 x2_8), (9, .int .i64 x2_9)], [⟨b1, 48, [.slice Al0_0 l0_0.length cl0_0, .int .i64 x2_1_1, .bool x2_1_2]⟩], [.sl 0 k99 Al0_0 cl0_0 l0_0 0 false]⟩) (fun S hS => ?_) (fun n0 ih0 S hS => ?_) ⟨0, (l0_0.length : Int), 0, a0_1, a0_2, H, rfl⟩ (fun h => wk [1, 3, 7, 8, 9] [0] [⟨0, 0, 0, false⟩] h)
 · clear H; obtain ⟨_, _, _, _, _, H, _⟩ := hS; rw [impl_IsValidAggregator.l0] at H; cases H
 clear H
 obtain ⟨x2_3, x2_8, x2_9, x2_1_1, x2_1_2, H, rfl⟩ := hS
 rw [impl_IsValidAggregator.l0] at H
 refine gs (rg (sv (EV.lss rfl rfl) rfl (re (gs ?_))))
 revert H; refine ifsI ?_ ?_ <;> intro c1 H
 ·
  refine gt rfl (dT c1) (gk (gs (gb (gs (rg ?_)))))
  revert H; refine ggI ?_; intro g2 H
  revert H; refine ggI ?_; intro g3 H
  refine sv (EV.ix 0 rfl rfl rfl g2 g3 rfl) rfl (opn (i := x2_9) 0 z99 rfl g2 g3 fun A_4 c_4 => (sv (EV.lc (v := .agg #[.slice A_4 ((rd_T99 l0_0 x2_9).f0).length c_4, .int .i64 ((rd_T99 l0_0 x2_9).f1)]) 0 (some 2) 1 rfl rfl rfl rfl) rfl (so rfl (op_alloc (cs := [.slice none 0 0, .int .i64 0]) (by kernel_rfl) rfl fun b5 => (so rfl (op_st (cs' := [.slice A_4 ((rd_T99 l0_0 x2_9).f0).length c_4, .int .i64 ((rd_T99 l0_0 x2_9).f1)]) 1 rfl rfl rfl rfl rfl rfl (re (gs (gs (rg (sv (EV.fa 0 rfl) rfl (sv (EV.ld 1 none rfl rfl rfl) rfl ?_))))))))))))
  revert H; refine bdI ?_; rintro t5 A5 H
  refine so rfl (op_call (impl_AreValidRows.ok n0 ((rd_T99 l0_0 x2_9).f0) A_4 c_4 _ A5) [⟨2, 0, 0, false⟩] 1 rfl rfl rfl rfl rfl ?_)
  rintro _ _ _ ⟨rfl, rfl, rfl⟩
  refine sv (EV.nt rfl) rfl (sv (EV.mv rfl) rfl ?_)
  revert H; refine ifsI ?_ ?_ <;> intro c6 H
  ·
   subst c6
   refine ts 17 rfl rfl (sv (EV.fa 1 rfl) rfl (sv (EV.ld 1 none rfl rfl rfl) rfl ?_))
   revert H; refine bdI ?_; rintro t7 A7 H
   refine so rfl (op_call (impl_within.ok ((rd_T99 l0_0 x2_9).f1) 0 4 _ A7) [] 1 rfl rfl rfl rfl rfl ?_)
   rintro _ _ _ ⟨rfl, rfl, rfl⟩
   refine sv (EV.nt rfl) rfl (sv (EV.pf rfl rfl rfl) rfl (re (pr [1, 3, 5, 7, 8, 9, 18, 19, 20, 21, 22] [0, 1] [0, 1, 2] rfl rfl rfl rfl ?_)))
   revert H; refine ifsI ?_ ?_ <;> intro c8 H
   ·
    subst c8
    exact gf rfl rfl (gk (rg (sv (EV.mv rfl) rfl (sv (EV.fa 0 rfl) rfl (sv (EV.ld 1 none rfl rfl rfl) rfl (sv (EV.ln rfl) rfl (sv (EV.add rfl rfl) rfl (sv (EV.as rfl) rfl (re (pr [1, 3, 7, 8, 9, 18, 19, 20, 21] [0, 1] [0, 1, 2] rfl rfl rfl rfl (ge (rg (sv (EV.add rfl rfl) rfl (sv (EV.mv rfl) rfl (re (wk [1, 3, 7, 8, 9] [0] [⟨0, 0, 0, false⟩] (ih0 _ (by omega) _ ⟨wrap64 (x2_3 + (((rd_T99 l0_0 x2_9).f0).length : Int)), x2_8, wrap64 (x2_9 + 1), x2_1_1, x2_1_2, H, rfl⟩)))))))))))))))))
   ·
    obtain rfl := bF c8
    refine gt rfl rfl (gs (rg (sv (EV.as rfl) rfl (re (pr [2] [] [] rfl rfl rfl rfl ?_)))))
    cases H
    exact rt Try.func62 rfl (.tmp rfl .nil) rfl [] [] rfl rfl rfl rfl rfl ⟨rfl, rfl, rfl⟩
  ·
   obtain rfl := bF c6
   refine ts 17 rfl rfl (sk rfl (sk rfl (sk rfl (sk rfl (sv (EV.pt rfl rfl rfl) rfl (re (pr [1, 3, 5, 7, 8, 9, 22] [0, 1] [0, 1, 2] rfl rfl rfl rfl (gt rfl rfl (gs (rg (sv (EV.as rfl) rfl (re (pr [2] [] [] rfl rfl rfl rfl ?_)))))))))))))
   cases H
   exact rt Try.func62 rfl (.tmp rfl .nil) rfl [] [] rfl rfl rfl rfl rfl ⟨rfl, rfl, rfl⟩
 ·
  refine gf rfl (dF c1) (gx rfl (gs (rg (sv (EV.fa 0 rfl) rfl (sv (EV.ld 0 none rfl rfl rfl) rfl (sv (EV.ln rfl) rfl (sv (EV.leq rfl rfl) rfl (sv (EV.mv rfl) rfl ?_))))))))
  revert H; refine ifsI ?_ ?_ <;> intro c9 H
  ·
   refine ts 33 rfl (dT c9) (sv (EV.mv rfl) rfl (sv (EV.leq rfl rfl) rfl (sv (EV.pt rfl rfl rfl) rfl (sv (EV.mv rfl) rfl ?_))))
   revert H; refine ifsI ?_ ?_ <;> intro c10 H
   ·
    refine ts 37 rfl (dT c10) (sv (EV.fa 1 rfl) rfl (sv (EV.ld 0 none rfl rfl rfl) rfl ?_))
    revert H; refine bdI ?_; rintro t11 A11 H
    refine so rfl (op_call (impl_within.ok x2_1_1 0 100000 _ A11) [] 1 rfl rfl rfl rfl rfl ?_)
    rintro _ _ _ ⟨rfl, rfl, rfl⟩
    refine sv (EV.pt rfl rfl rfl) rfl (sv (EV.as rfl) rfl (re (pr [2] [] [] rfl rfl rfl rfl ?_)))
    cases H
    exact rt Try.func62 rfl (.tmp rfl .nil) rfl [] [] rfl rfl rfl rfl rfl ⟨rfl, rfl, rfl⟩
   ·
    refine ts 37 rfl (dF c10) (sk rfl (sk rfl (sk rfl (sv (EV.pf rfl rfl rfl) rfl (sv (EV.as rfl) rfl (re (pr [2] [] [] rfl rfl rfl rfl ?_)))))))
    cases H
    exact rt Try.func62 rfl (.tmp rfl .nil) rfl [] [] rfl rfl rfl rfl rfl ⟨rfl, rfl, rfl⟩
  ·
   refine ts 33 rfl (dF c9) (sk rfl (sk rfl (sv (EV.pf rfl rfl rfl) rfl (sv (EV.mv rfl) rfl (sk rfl (sk rfl (sk rfl (sv (EV.pf rfl rfl rfl) rfl (sv (EV.as rfl) rfl (re (pr [2] [] [] rfl rfl rfl rfl ?_)))))))))))
   cases H
   exact rt Try.func62 rfl (.tmp rfl .nil) rfl [] [] rfl rfl rfl rfl rfl ⟨rfl, rfl, rfl⟩
end Go.Proofs.Ytnllplklggoabaa.K
namespace Go.Proofs.Ytnllplklggoabaa.K
open Go Go.RowKit
set_option linter.unusedVariables false
set_option linter.unusedSimpArgs false
def impl_cut.l0 : Nat → ByteArray → Int → (List ByteArray) → Int → Int → Int → Option ((List ByteArray))
 | 0, _, _, _, _, _, _ => none
 | k + 1, x2_0, x2_1, x2_5, x2_6, x2_10, x2_11 => if x2_11 < x2_10 then (if 0 ≤ x2_11 then (if x2_11 < (x2_0.size : Int) then (if (bt x2_0 x2_11) = x2_1 then (if 0 ≤ x2_6 then (if x2_6 ≤ x2_11 then (if x2_11 ≤ (x2_0.size : Int) then (if x2_5.length < 8796093022208 then (impl_cut.l0 k x2_0 x2_1 (x2_5 ++ ([x2_0.extract x2_6.toNat x2_11.toNat] : List ByteArray)) (wrap64 (x2_11 + 1)) x2_10 (wrap64 (x2_11 + 1))) else none) else none) else none) else none) else (impl_cut.l0 k x2_0 x2_1 x2_5 x2_6 x2_10 (wrap64 (x2_11 + 1)))) else none) else none) else (if 0 ≤ x2_6 then (if x2_6 ≤ (x2_0.size : Int) then (if x2_5.length < 8796093022208 then (some (x2_5 ++ ([x2_0.extract x2_6.toNat x2_0.size] : List ByteArray))) else none) else none) else none)
def impl_cut.f (k : Nat) (a0 : ByteArray) (a1 : Int) : Option ((List ByteArray)) := impl_cut.l0 k a0 a1 [] 0 (a0.size : Int) 0
set_option maxHeartbeats 4000000 in
set_option maxRecDepth 100000 in
theorem impl_cut.ok (k : Nat) (a0 : ByteArray) (a1 : Int) (r0 : List ByteArray) (H : impl_cut.f k a0 a1 = some r0) : Fn Try.prog 72 [.string a0, .int .u8 a1] [] [] (fun v bx en => ∃ A0 c0, v = .slice A0 r0.length c0 ∧ bx = [] ∧ en = [.sl 2 .str A0 c0 r0 1 true]) := by
 refine fn_ 35 Try.func72 rfl rfl rfl (fun base T w0 => ?_)
 rw [impl_cut.f] at H
 refine gs (rg (sv (EV.as rfl) rfl (re (gs (rg (so rfl (op_lit (s := 1) (by_ := 16) .str ([] : List ByteArray) [] [] 1 [] rfl rfl rfl rfl rfl rfl rfl rfl rfl rfl rfl rfl rfl dq rfl fun A8_1 c8_1 => (sv (EV.as rfl) rfl (sv (EV.as rfl) rfl (re (gs (gs (rg (sv (EV.mv rfl) rfl (sv (EV.lns rfl) rfl (sv (EV.mv rfl) rfl (re (gb ?_))))))))))))))))))
 refine lo (fun kk S => ∃ (x2_0 : ByteArray) (x2_1 : Int) (x2_5 : List ByteArray) (Ax2_5 : Option Addr) (cx2_5 : Nat) (x2_6 : Int) (x2_10 : Int) (x2_11 : Int), impl_cut.l0 kk x2_0 x2_1 x2_5 x2_6 x2_10 x2_11 = some r0 ∧ S = ⟨[(0, .string x2_0), (1, .int .u8 x2_1), (5, .slice Ax2_5 x2_5.length cx2_5), (6, .int .i64 x2_6), (10, .int .i64 x2_10), (11, .int .i64 x2_11)], [], [.sl 2 .str Ax2_5 cx2_5 x2_5 1 true]⟩) (fun S hS => ?_) (fun n0 ih0 S hS => ?_) ⟨a0, a1, [], A8_1, c8_1, 0, (a0.size : Int), 0, H, rfl⟩ (fun h => wk [0, 1, 5, 6, 10, 11] [] [⟨0, 2, 1, true⟩] h)
 · clear H; obtain ⟨_, _, _, _, _, _, _, _, H, _⟩ := hS; rw [impl_cut.l0] at H; cases H
 clear H
 obtain ⟨x2_0, x2_1, x2_5, Ax2_5, cx2_5, x2_6, x2_10, x2_11, H, rfl⟩ := hS
 rw [impl_cut.l0] at H
 refine gs (rg (sv (EV.lss rfl rfl) rfl (re (gs ?_))))
 revert H; refine ifsI ?_ ?_ <;> intro c2 H
 ·
  refine gt rfl (dT c2) (gk (gs (gb (gs (rg (sv (EV.mv rfl) rfl (sv (EV.as rfl) rfl (re (gs (rg (sv (EV.mv rfl) rfl (sv (EV.mv rfl) rfl ?_))))))))))))
  revert H; refine ggI ?_; intro g3 H
  revert H; refine ggI ?_; intro g4 H
  refine sv (EV.is rfl rfl g3 g4) rfl (sv (EV.mv rfl) rfl (sv (EV.eql rfl rfl) rfl (re (pr [0, 1, 5, 6, 7, 10, 11, 18] [] [0] rfl rfl rfl rfl ?_))))
  revert H; refine ifsI ?_ ?_ <;> intro c5 H
  ·
   refine gt rfl (dT c5) (gs (rg (sv (EV.mv rfl) rfl (sv (EV.mv rfl) rfl (sv (EV.mv rfl) rfl (sv (EV.mv rfl) rfl ?_))))))
   revert H; refine ggI ?_; intro g6 H
   revert H; refine ggI ?_; intro g7 H
   revert H; refine ggI ?_; intro g8 H
   refine sv (EV.ssb rfl rfl rfl g6 g7 g8) rfl (so rfl (op_lit (s := 1) (by_ := 16) .str ([x2_0.extract x2_6.toNat x2_11.toNat] : List ByteArray) [[]] [] 2 [.tmp 23] rfl rfl rfl rfl rfl rfl rfl rfl rfl rfl rfl rfl rfl dq rfl fun A24_9 c24_9 => ?_))
   revert H; refine ggI ?_; intro g10 H
   exact so rfl (op_app (k := .str) (s := 1) (by_ := 16) 0 1 rfl rfl rfl rfl (ap1 g10 dq) (ap1n g10 dq) (.inl rfl) true (fun _ => .inl rfl) rfl rfl fun A25_11 c25_11 => (nmE (en := [.sl 2 .str A24_9 c24_9 ([x2_0.extract x2_6.toNat x2_11.toNat] : List ByteArray) 2 true, .sl 2 .str A25_11 c25_11 (x2_5 ++ ([x2_0.extract x2_6.toNat x2_11.toNat] : List ByteArray)) 1 true]) (by kernel_rfl) (sv (EV.as rfl) rfl (re (pr [0, 1, 5, 7, 10, 11] [] [1] rfl rfl rfl rfl (rg (sv (EV.mv rfl) rfl (sv (EV.add rfl rfl) rfl (sv (EV.as rfl) rfl (re (ge (rg (sv (EV.add rfl rfl) rfl (sv (EV.mv rfl) rfl (re (wk [0, 1, 5, 6, 10, 11] [] [⟨0, 2, 1, true⟩] (ih0 _ (by omega) _ ⟨x2_0, x2_1, x2_5 ++ ([x2_0.extract x2_6.toNat x2_11.toNat] : List ByteArray), A25_11, c25_11, wrap64 (x2_11 + 1), x2_10, wrap64 (x2_11 + 1), H, rfl⟩)))))))))))))))))
  ·
   exact gf rfl (dF c5) (gk (ge (rg (sv (EV.add rfl rfl) rfl (sv (EV.mv rfl) rfl (re (wk [0, 1, 5, 6, 10, 11] [] [⟨0, 2, 1, true⟩] (ih0 _ (by omega) _ ⟨x2_0, x2_1, x2_5, Ax2_5, cx2_5, x2_6, x2_10, wrap64 (x2_11 + 1), H, rfl⟩))))))))
 ·
  refine gf rfl (dF c2) (gx rfl (gs (rg (sv (EV.mv rfl) rfl (sv (EV.mv rfl) rfl (sv (EV.mv rfl) rfl ?_))))))
  revert H; refine ggI ?_; intro g12 H
  revert H; refine ggI ?_; intro g13 H
  refine sv (EV.ssl rfl rfl g12 g13) rfl (so rfl (op_lit (s := 1) (by_ := 16) .str ([x2_0.extract x2_6.toNat x2_0.size] : List ByteArray) [[]] [] 2 [.tmp 32] rfl rfl rfl rfl rfl rfl rfl rfl rfl rfl rfl rfl rfl dq rfl fun A33_14 c33_14 => ?_))
  revert H; refine ggI ?_; intro g15 H
  refine so rfl (op_app (k := .str) (s := 1) (by_ := 16) 0 1 rfl rfl rfl rfl (ap1 g15 dq) (ap1n g15 dq) (.inl rfl) true (fun _ => .inl rfl) rfl rfl fun A34_16 c34_16 => (nmE (en := [.sl 2 .str A33_14 c33_14 ([x2_0.extract x2_6.toNat x2_0.size] : List ByteArray) 2 true, .sl 2 .str A34_16 c34_16 (x2_5 ++ ([x2_0.extract x2_6.toNat x2_0.size] : List ByteArray)) 1 true]) (by kernel_rfl) (sv (EV.as rfl) rfl (re (pr [4] [] [1] rfl rfl rfl rfl ?_)))))
  cases H
  exact rt Try.func72 rfl (.tmp rfl .nil) rfl [] [⟨0, 2, 1, true⟩] rfl rfl rfl rfl rfl ⟨_, _, rfl, rfl, rfl⟩
end Go.Proofs.Ytnllplklggoabaa.K
namespace Go.Proofs.Ytnllplklggoabaa.K
open Go Go.RowKit
set_option linter.unusedVariables false
set_option linter.unusedSimpArgs false
def impl_decimal.f : Nat → Int → Option (ByteArray)
 | 0, _ => none
 | k + 1, a0 => if a0 < 10 then (some (strOfNums ([IntKind.u8.wrap (IntKind.u64.wrap (48 + a0))] : List Int))) else ((impl_decimal.f k (IntKind.u64.wrap (Int.tdiv a0 10))).bind fun t3 => (if t3.size + (strOfNums ([IntKind.u8.wrap (IntKind.u64.wrap (48 + (Int.tmod a0 10)))] : List Int)).size ≤ 9223372036854775807 then (some (t3 ++ (strOfNums ([IntKind.u8.wrap (IntKind.u64.wrap (48 + (Int.tmod a0 10)))] : List Int)))) else none))
set_option maxHeartbeats 4000000 in
set_option maxRecDepth 100000 in
theorem impl_decimal.ok : ∀ (k : Nat) (a0 : Int) (r0 : ByteArray) (h : impl_decimal.f k a0 = some r0), Fn Try.prog 84 [.int .u64 a0] [] [] (fun v bx en => v = .string r0 ∧ bx = [] ∧ en = []) := by
 intro k
 induction k with
 | zero => intro a0 r0 h; rw [impl_decimal.f] at h; cases h
 | succ k ih =>
 intro a0 r0 H
 refine fn_ 20 Try.func84 rfl rfl rfl (fun base T w0 => ?_)
 rw [impl_decimal.f] at H
 refine gs (rg (sv (EV.as rfl) rfl (re (gs (gs (rg (sv (EV.mv rfl) rfl (sv (EV.lss rfl rfl) rfl (re ?_)))))))))
 revert H; refine ifsI ?_ ?_ <;> intro c1 H
 ·
  refine gt rfl (dT c1) (gs (rg (sv (EV.mv rfl) rfl (sv (EV.addk rfl rfl) rfl (sv (EV.cv (k' := .u8) rfl) rfl (so rfl (op_lit (s := 1) (by_ := 1) (.int .u8) ([IntKind.u8.wrap (IntKind.u64.wrap (48 + a0))] : List Int) [[]] [] 1 [.tmp 7] rfl rfl rfl rfl rfl rfl rfl rfl rfl rfl rfl rfl rfl dq rfl fun A8_2 c8_2 => (sv (EV.bs 0 rfl rfl) rfl (sv (EV.as rfl) rfl (re (pr [2] [] [] rfl rfl rfl rfl ?_)))))))))))
  cases H
  exact rt Try.func84 rfl (.tmp rfl .nil) rfl [] [] rfl rfl rfl rfl rfl ⟨rfl, rfl, rfl⟩
 ·
  refine gf rfl (dF c1) (gk (gs (dr [] [] [] 11 rfl rfl rfl rfl (xv 0 [] [] rfl (EV.mv rfl) rfl rfl rfl rfl (xv 1 [] [] rfl (EV.quok rfl rfl dq) rfl rfl rfl rfl (xv 3 [] [] rfl (EV.mv rfl) rfl rfl rfl rfl (xv 4 [] [] rfl (EV.rem rfl rfl dq) rfl rfl rfl rfl (xv 5 [] [] rfl (EV.addk rfl rfl) rfl rfl rfl rfl (xv 6 [] [] rfl (EV.cv (k' := .u8) rfl) rfl rfl rfl rfl ?_)))))))))
  refine one2 2 7 rfl rfl rfl rfl ?_ ?_
  ·
   revert H; refine bdI ?_; rintro t3 A3 H
   refine op_call (ih (IntKind.u64.wrap (Int.tdiv a0 10)) _ A3) [] 1 rfl rfl rfl rfl rfl ?_
   rintro _ _ _ ⟨rfl, rfl, rfl⟩
   refine xs [] [] rfl rfl rfl (one1 7 rfl rfl (op_lit (s := 1) (by_ := 1) (.int .u8) ([IntKind.u8.wrap (IntKind.u64.wrap (48 + (Int.tmod a0 10)))] : List Int) [[]] [] 1 [.tmp 16] rfl rfl rfl rfl rfl rfl rfl rfl rfl rfl rfl rfl rfl dq rfl fun A17_4 c17_4 => (xs [] [] rfl rfl rfl (one1 8 rfl rfl (ov (EV.bs 0 rfl rfl) rfl (xs [] [] rfl rfl rfl ?_))))))
   revert H; refine ggI ?_; intro g5 H
   refine xv 9 [] [] rfl (EV.ads rfl rfl g5) rfl rfl rfl rfl (xv 10 [] [] rfl (EV.as rfl) rfl rfl rfl rfl (xd (pr [2] [] [] rfl rfl rfl rfl ?_)))
   cases H
   exact rt Try.func84 rfl (.tmp rfl .nil) rfl [] [] rfl rfl rfl rfl rfl ⟨rfl, rfl, rfl⟩
  ·
   refine op_lit (s := 1) (by_ := 1) (.int .u8) ([IntKind.u8.wrap (IntKind.u64.wrap (48 + (Int.tmod a0 10)))] : List Int) [[]] [] 1 [.tmp 16] rfl rfl rfl rfl rfl rfl rfl rfl rfl rfl rfl rfl rfl dq rfl fun A17_6 c17_6 => (xs [] [] rfl rfl rfl ?_)
   refine one2 2 8 rfl rfl rfl rfl ?_ ?_
   ·
    revert H; refine bdI ?_; rintro t7 A7 H
    refine op_call (ih (IntKind.u64.wrap (Int.tdiv a0 10)) _ A7) [] 2 rfl rfl rfl rfl rfl ?_
    rintro _ _ _ ⟨rfl, rfl, rfl⟩
    refine xs [] [] rfl rfl rfl (one1 8 rfl rfl (ov (EV.bs 0 rfl rfl) rfl (xs [] [] rfl rfl rfl ?_)))
    revert H; refine ggI ?_; intro g8 H
    refine xv 9 [] [] rfl (EV.ads rfl rfl g8) rfl rfl rfl rfl (xv 10 [] [] rfl (EV.as rfl) rfl rfl rfl rfl (xd (pr [2] [] [] rfl rfl rfl rfl ?_)))
    cases H
    exact rt Try.func84 rfl (.tmp rfl .nil) rfl [] [] rfl rfl rfl rfl rfl ⟨rfl, rfl, rfl⟩
   ·
    refine ov (EV.bs 0 rfl rfl) rfl (xs [] [] rfl rfl rfl (one1 2 rfl rfl ?_))
    revert H; refine bdI ?_; rintro t9 A9 H
    refine op_call (ih (IntKind.u64.wrap (Int.tdiv a0 10)) _ A9) [] 2 rfl rfl rfl rfl rfl ?_
    rintro _ _ _ ⟨rfl, rfl, rfl⟩
    refine xs [] [] rfl rfl rfl ?_
    revert H; refine ggI ?_; intro g10 H
    refine xv 9 [] [] rfl (EV.ads rfl rfl g10) rfl rfl rfl rfl (xv 10 [] [] rfl (EV.as rfl) rfl rfl rfl rfl (xd (pr [2] [] [] rfl rfl rfl rfl ?_)))
    cases H
    exact rt Try.func84 rfl (.tmp rfl .nil) rfl [] [] rfl rfl rfl rfl rfl ⟨rfl, rfl, rfl⟩
end Go.Proofs.Ytnllplklggoabaa.K
namespace Go.Proofs.Ytnllplklggoabaa.K
open Go Go.RowKit
set_option linter.unusedVariables false
set_option linter.unusedSimpArgs false
def impl_FormatInt.f (k : Nat) (a0 : Int) : Option (ByteArray) := if a0 < 0 then ((impl_decimal.f k (IntKind.u64.wrap (-(IntKind.u64.wrap a0)))).bind fun t2 => (if (⟨#[45]⟩ : ByteArray).size + t2.size ≤ 9223372036854775807 then (some ((⟨#[45]⟩ : ByteArray) ++ t2)) else none)) else ((impl_decimal.f k (IntKind.u64.wrap a0)).bind fun t4 => (some t4))
set_option maxHeartbeats 4000000 in
set_option maxRecDepth 100000 in
theorem impl_FormatInt.ok (k : Nat) (a0 : Int) (r0 : ByteArray) (H : impl_FormatInt.f k a0 = some r0) : Fn Try.prog 45 [.int .i64 a0] [] [] (fun v bx en => v = .string r0 ∧ bx = [] ∧ en = []) := by
 refine fn_ 13 Try.func45 rfl rfl rfl (fun base T w0 => ?_)
 rw [impl_FormatInt.f] at H
 refine gs (rg (sv (EV.as rfl) rfl (re (gs (gs (rg (sv (EV.mv rfl) rfl (sv (EV.lss rfl rfl) rfl (re ?_)))))))))
 revert H; refine ifsI ?_ ?_ <;> intro c1 H
 ·
  refine gt rfl (dT c1) (gs (rg (sv (EV.mv rfl) rfl (sv (EV.cv (k' := .u64) rfl) rfl (sv (EV.ngk rfl) rfl ?_)))))
  revert H; refine bdI ?_; rintro t2 A2 H
  refine so rfl (op_call (impl_decimal.ok k (IntKind.u64.wrap (-(IntKind.u64.wrap a0))) _ A2) [] 1 rfl rfl rfl rfl rfl ?_)
  rintro _ _ _ ⟨rfl, rfl, rfl⟩
  revert H; refine ggI ?_; intro g3 H
  refine sv (EV.ads rfl rfl g3) rfl (sv (EV.as rfl) rfl (re (pr [2] [] [] rfl rfl rfl rfl ?_)))
  cases H
  exact rt Try.func45 rfl (.tmp rfl .nil) rfl [] [] rfl rfl rfl rfl rfl ⟨rfl, rfl, rfl⟩
 ·
  refine gf rfl (dF c1) (gk (gs (rg (sv (EV.mv rfl) rfl (sv (EV.cv (k' := .u64) rfl) rfl ?_)))))
  revert H; refine bdI ?_; rintro t4 A4 H
  refine so rfl (op_call (impl_decimal.ok k (IntKind.u64.wrap a0) _ A4) [] 1 rfl rfl rfl rfl rfl ?_)
  rintro _ _ _ ⟨rfl, rfl, rfl⟩
  refine sv (EV.as rfl) rfl (re (pr [2] [] [] rfl rfl rfl rfl ?_))
  cases H
  exact rt Try.func45 rfl (.tmp rfl .nil) rfl [] [] rfl rfl rfl rfl rfl ⟨rfl, rfl, rfl⟩
end Go.Proofs.Ytnllplklggoabaa.K
namespace Go.Proofs.Ytnllplklggoabaa.K
open Go Go.RowKit
set_option linter.unusedVariables false
set_option linter.unusedSimpArgs false
mutual
def impl_ParseInt.j1 : Nat → ByteArray → Int → Option (Int × Bool)
 | 0, _, _ => none
 | k + 1, x5_0, x5_5 => (impl_FormatInt.f k x5_5).bind fun t10 => (if t10.toList = x5_0.toList then (some (x5_5, true)) else (some (0, false)))
def impl_ParseInt.l0 : Nat → ByteArray → ByteArray → Int → Int → Int → Option (Int × Bool)
 | 0, _, _, _, _, _ => none
 | k + 1, x3_0, x3_4, x3_5, x3_27, x3_28 => if x3_28 < x3_27 then (if 0 ≤ x3_28 then (if x3_28 < (x3_4.size : Int) then (if (bt x3_4 x3_28) < 48 then (some (0, false)) else (if (bt x3_4 x3_28) > 57 then (some (0, false)) else (impl_ParseInt.l0 k x3_0 x3_4 (wrap64 ((wrap64 (10 * x3_5)) + (IntKind.i64.wrap (IntKind.u8.wrap ((bt x3_4 x3_28) - 48))))) x3_27 (wrap64 (x3_28 + 1))))) else none) else none) else (if (x3_4.size : Int) < (x3_0.size : Int) then (impl_ParseInt.j1 k x3_0 (wrap64 (-x3_5))) else (impl_ParseInt.j1 k x3_0 x3_5))
def impl_ParseInt.j0 : Nat → ByteArray → ByteArray → Option (Int × Bool)
 | 0, _, _ => none
 | k + 1, x1_0, x1_4 => if (x1_4.size : Int) < 1 then (some (0, false)) else (if (x1_4.size : Int) > 9 then (some (0, false)) else (impl_ParseInt.l0 k x1_0 x1_4 0 (x1_4.size : Int) 0))
end
def impl_ParseInt.f (k : Nat) (a0 : ByteArray) : Option (Int × Bool) := if (a0.size : Int) > 0 then (if 0 < (a0.size : Int) then (if (bt a0 0) = 45 then (if 1 ≤ (a0.size : Int) then (impl_ParseInt.j0 k a0 (a0.extract (1 : Int).toNat a0.size)) else none) else (impl_ParseInt.j0 k a0 a0)) else none) else (impl_ParseInt.j0 k a0 a0)
set_option maxHeartbeats 4000000 in
set_option maxRecDepth 100000 in
theorem impl_ParseInt.ok (k : Nat) (a0 : ByteArray) (r0 : Int) (r1 : Bool) (H : impl_ParseInt.f k a0 = some (r0, r1)) : Fn Try.prog 73 [.string a0] [] [] (fun v bx en => v = .tuple #[.int .i64 r0, .bool r1] ∧ bx = [] ∧ en = []) := by
 refine fn_ 62 Try.func73 rfl rfl rfl (fun base T w0 => ?_)
 rw [impl_ParseInt.f] at H
 refine gs (rg (sv (EV.as rfl) rfl (sv (EV.as rfl) rfl (re (gs (rg (sv (EV.mv rfl) rfl (sv (EV.as rfl) rfl (re ?_)))))))))
 refine jo (fun S => ∃ (m : Nat) (x1_0 : ByteArray) (x1_4 : ByteArray), impl_ParseInt.j0 m x1_0 x1_4 = some (r0, r1) ∧ S = ⟨[(0, .string x1_0), (4, .string x1_4)], [], []⟩) (fun S hS => ?_) (fun jh0 => ?_)
 ·
  clear H
  obtain ⟨m1, x1_0, x1_4, H, rfl⟩ := hS
  rcases m1 with _ | m1
  · rw [impl_ParseInt.j0] at H; cases H
  rw [impl_ParseInt.j0] at H
  refine gs (gs (rg (sv (EV.mv rfl) rfl (sv (EV.lns rfl) rfl (sv (EV.lss rfl rfl) rfl (sv (EV.mv rfl) rfl ?_))))))
  revert H; refine ifsI ?_ ?_ <;> intro c2 H
  ·
   refine ts 21 rfl (dT c2) (sk rfl (sk rfl (sk rfl (sv (EV.pt rfl rfl rfl) rfl (re (pr [0, 4, 25] [] [] rfl rfl rfl rfl (gt rfl rfl (gs (rg (sv (EV.as rfl) rfl (sv (EV.as rfl) rfl (re ?_))))))))))))
   cases H
   exact rt Try.func73 rfl (.tmp rfl (.tmp rfl .nil)) rfl [] [] rfl rfl rfl rfl rfl ⟨rfl, rfl, rfl⟩
  ·
   refine ts 21 rfl (dF c2) (sv (EV.mv rfl) rfl (sv (EV.lns rfl) rfl (sv (EV.gtr rfl rfl) rfl (sv (EV.pf rfl rfl rfl) rfl (re (pr [0, 4, 25] [] [] rfl rfl rfl rfl ?_))))))
   revert H; refine ifsI ?_ ?_ <;> intro c3 H
   ·
    refine gt rfl (dT c3) (gs (rg (sv (EV.as rfl) rfl (sv (EV.as rfl) rfl (re ?_)))))
    cases H
    exact rt Try.func73 rfl (.tmp rfl (.tmp rfl .nil)) rfl [] [] rfl rfl rfl rfl rfl ⟨rfl, rfl, rfl⟩
   ·
    refine gf rfl (dF c3) (gk (gs (rg (sv (EV.as rfl) rfl (re (gs (gs (rg (sv (EV.mv rfl) rfl (sv (EV.lns rfl) rfl (sv (EV.mv rfl) rfl (re (gb ?_)))))))))))))
    refine lo (fun kk S => ∃ (x3_0 : ByteArray) (x3_4 : ByteArray) (x3_5 : Int) (x3_27 : Int) (x3_28 : Int), kk ≤ m1 ∧ impl_ParseInt.l0 kk x3_0 x3_4 x3_5 x3_27 x3_28 = some (r0, r1) ∧ S = ⟨[(0, .string x3_0), (4, .string x3_4), (5, .int .i64 x3_5), (27, .int .i64 x3_27), (28, .int .i64 x3_28)], [], []⟩) (fun S hS => ?_) (fun n0 ih0 S hS => ?_) ⟨x1_0, x1_4, 0, (x1_4.size : Int), 0, by omega, H, rfl⟩ (fun h => wk [0, 4, 5, 27, 28] [] [] h)
    · clear H; obtain ⟨_, _, _, _, _, _, H, _⟩ := hS; rw [impl_ParseInt.l0] at H; cases H
    clear H
    obtain ⟨x3_0, x3_4, x3_5, x3_27, x3_28, lk0, H, rfl⟩ := hS
    rw [impl_ParseInt.l0] at H
    refine gs (rg (sv (EV.lss rfl rfl) rfl (re (gs ?_))))
    revert H; refine ifsI ?_ ?_ <;> intro c4 H
    ·
     refine gt rfl (dT c4) (gk (gs (gb (gs (rg (sv (EV.mv rfl) rfl (sv (EV.as rfl) rfl (re (gs (gs (rg (sv (EV.mv rfl) rfl (sv (EV.mv rfl) rfl ?_)))))))))))))
     revert H; refine ggI ?_; intro g5 H
     revert H; refine ggI ?_; intro g6 H
     refine sv (EV.is rfl rfl g5 g6) rfl (sv (EV.lss rfl rfl) rfl (sv (EV.mv rfl) rfl ?_))
     revert H; refine ifsI ?_ ?_ <;> intro c7 H
     ·
      refine ts 35 rfl (dT c7) (sk rfl (sk rfl (sk rfl (sk rfl (sv (EV.pt rfl rfl rfl) rfl (re (pr [0, 4, 5, 6, 27, 28, 40] [] [] rfl rfl rfl rfl (gt rfl rfl (gs (rg (sv (EV.as rfl) rfl (sv (EV.as rfl) rfl (re (pr [2, 3] [] [] rfl rfl rfl rfl ?_))))))))))))))
      cases H
      exact rt Try.func73 rfl (.tmp rfl (.tmp rfl .nil)) rfl [] [] rfl rfl rfl rfl rfl ⟨rfl, rfl, rfl⟩
     ·
      refine ts 35 rfl (dF c7) (sv (EV.mv rfl) rfl (sv (EV.mv rfl) rfl (sv (EV.is rfl rfl g5 g6) rfl (sv (EV.gtr rfl rfl) rfl (sv (EV.pf rfl rfl rfl) rfl (re (pr [0, 4, 5, 6, 27, 28, 36, 37, 38, 39, 40] [] [] rfl rfl rfl rfl ?_)))))))
      revert H; refine ifsI ?_ ?_ <;> intro c8 H
      ·
       refine gt rfl (dT c8) (gs (rg (sv (EV.as rfl) rfl (sv (EV.as rfl) rfl (re (pr [2, 3] [] [] rfl rfl rfl rfl ?_))))))
       cases H
       exact rt Try.func73 rfl (.tmp rfl (.tmp rfl .nil)) rfl [] [] rfl rfl rfl rfl rfl ⟨rfl, rfl, rfl⟩
      ·
       exact gf rfl (dF c8) (gk (rg (sv (EV.mv rfl) rfl (sv (EV.mul rfl rfl) rfl (sv (EV.mv rfl) rfl (sv (EV.mv rfl) rfl (sv (EV.is rfl rfl g5 g6) rfl (sv (EV.subk rfl rfl) rfl (sv (EV.cv (k' := .i64) rfl) rfl (sv (EV.add rfl rfl) rfl (sv (EV.as rfl) rfl (re (pr [0, 4, 5, 27, 28, 36, 37, 38, 39] [] [] rfl rfl rfl rfl (ge (rg (sv (EV.add rfl rfl) rfl (sv (EV.mv rfl) rfl (re (wk [0, 4, 5, 27, 28] [] [] (ih0 _ (by omega) _ ⟨x3_0, x3_4, wrap64 ((wrap64 (10 * x3_5)) + (IntKind.i64.wrap (IntKind.u8.wrap ((bt x3_4 x3_28) - 48)))), x3_27, wrap64 (x3_28 + 1), by omega, H, rfl⟩))))))))))))))))))))
    ·
     refine gf rfl (dF c4) (gx rfl ?_)
     refine jo (fun S => ∃ (m : Nat) (x5_0 : ByteArray) (x5_5 : Int), m ≤ n0 ∧ impl_ParseInt.j1 m x5_0 x5_5 = some (r0, r1) ∧ S = ⟨[(0, .string x5_0), (5, .int .i64 x5_5)], [], []⟩) (fun S hS => ?_) (fun jh1 => ?_)
     ·
      clear H
      obtain ⟨m9, x5_0, x5_5, lm9, H, rfl⟩ := hS
      rcases m9 with _ | m9
      · rw [impl_ParseInt.j1] at H; cases H
      rw [impl_ParseInt.j1] at H
      refine gs (gs (rg (sv (EV.mv rfl) rfl ?_)))
      revert H; refine bdI ?_; rintro t10 A10 H
      refine so rfl (op_call (impl_FormatInt.ok m9 x5_5 _ A10) [] 1 rfl rfl rfl rfl rfl ?_)
      rintro _ _ _ ⟨rfl, rfl, rfl⟩
      refine sv (EV.mv rfl) rfl (sv (EV.nes rfl rfl) rfl (re ?_))
      revert H; refine ifsI ?_ ?_ <;> intro c11 H
      ·
       refine gf rfl (nF c11) (gk (gs (rg (sv (EV.mv rfl) rfl (sv (EV.as rfl) rfl (sv (EV.as rfl) rfl (re (pr [2, 3] [] [] rfl rfl rfl rfl ?_))))))))
       cases H
       exact rt Try.func73 rfl (.tmp rfl (.tmp rfl .nil)) rfl [] [] rfl rfl rfl rfl rfl ⟨rfl, rfl, rfl⟩
      ·
       refine gt rfl (nT c11) (gs (rg (sv (EV.as rfl) rfl (sv (EV.as rfl) rfl (re (pr [2, 3] [] [] rfl rfl rfl rfl ?_))))))
       cases H
       exact rt Try.func73 rfl (.tmp rfl (.tmp rfl .nil)) rfl [] [] rfl rfl rfl rfl rfl ⟨rfl, rfl, rfl⟩
     ·
      refine gs (rg (sv (EV.mv rfl) rfl (sv (EV.lns rfl) rfl (sv (EV.mv rfl) rfl (sv (EV.lns rfl) rfl (sv (EV.lss rfl rfl) rfl (re (pr [0, 5, 54] [] [] rfl rfl rfl rfl ?_))))))))
      revert H; refine ifsI ?_ ?_ <;> intro c12 H
      ·
       exact gt rfl (dT c12) (rg (sv (EV.mv rfl) rfl (sv (EV.ng rfl) rfl (sv (EV.as rfl) rfl (re (wk [0, 5] [] [] (jh1 _ ⟨_, x3_0, wrap64 (-x3_5), by omega, H, rfl⟩)))))))
      ·
       exact gf rfl (dF c12) (gk (wk [0, 5] [] [] (jh1 _ ⟨_, x3_0, x3_5, by omega, H, rfl⟩)))
 ·
  refine gs (rg (sv (EV.mv rfl) rfl (sv (EV.lns rfl) rfl (sv (EV.gtr rfl rfl) rfl (sv (EV.mv rfl) rfl ?_)))))
  revert H; refine ifsI ?_ ?_ <;> intro c13 H
  ·
   refine ts 11 rfl (dT c13) (sv (EV.mv rfl) rfl ?_)
   revert H; refine ggI ?_; intro g14 H
   refine sv (EV.is rfl rfl dq g14) rfl (sv (EV.eql rfl rfl) rfl (sv (EV.pt rfl rfl rfl) rfl (re (pr [0, 4, 15] [] [] rfl rfl rfl rfl ?_))))
   revert H; refine ifsI ?_ ?_ <;> intro c15 H
   ·
    refine gt rfl (dT c15) (rg (sv (EV.mv rfl) rfl ?_))
    revert H; refine ggI ?_; intro g16 H
    exact sv (EV.ssl rfl rfl dq g16) rfl (sv (EV.as rfl) rfl (re (wk [0, 4] [] [] (jh0 _ ⟨_, a0, a0.extract (1 : Int).toNat a0.size, H, rfl⟩))))
   ·
    exact gf rfl (dF c15) (gk (wk [0, 4] [] [] (jh0 _ ⟨_, a0, a0, H, rfl⟩)))
  ·
   exact ts 11 rfl (dF c13) (sk rfl (sk rfl (sk rfl (sv (EV.pf rfl rfl rfl) rfl (re (pr [0, 4, 15] [] [] rfl rfl rfl rfl (gf rfl rfl (gk (wk [0, 4] [] [] (jh0 _ ⟨_, a0, a0, H, rfl⟩))))))))))
end Go.Proofs.Ytnllplklggoabaa.K
namespace Go.Proofs.Ytnllplklggoabaa.K
open Go Go.RowKit
set_option linter.unusedVariables false
set_option linter.unusedSimpArgs false
def impl_ParseRow.f (k : Nat) (a0 : ByteArray) : Option (Int × Int × Int × Bool) := (impl_cut.f k a0 46).bind fun t1 => (if (t1.length : Int) = 3 then (if 0 < (t1.length : Int) then ((impl_ParseInt.f k (rdOf ByteArray.empty t1 0)).bind fun bt4 => (if 1 < (t1.length : Int) then ((impl_ParseInt.f k (rdOf ByteArray.empty t1 1)).bind fun bt6 => (if 2 < (t1.length : Int) then ((impl_ParseInt.f k (rdOf ByteArray.empty t1 2)).bind fun bt8 => (if bt4.2 = true then (if bt6.2 = true then (if bt8.2 = true then ((impl_IsValidRow.f bt4.1 bt6.1 bt8.1).bind fun t12 => (if t12 = true then (some (bt4.1, bt6.1, bt8.1, true)) else (some (0, 0, 0, false)))) else (some (0, 0, 0, false))) else (some (0, 0, 0, false))) else (some (0, 0, 0, false)))) else none)) else none)) else none) else (some (0, 0, 0, false)))
set_option maxHeartbeats 4000000 in
set_option maxRecDepth 100000 in
theorem impl_ParseRow.ok (k : Nat) (a0 : ByteArray) (r0 : Int) (r1 : Int) (r2 : Int) (r3 : Bool) (H : impl_ParseRow.f k a0 = some (r0, r1, r2, r3)) : Fn Try.prog 100 [.string a0] [] [] (fun v bx en => v = .tuple #[.agg #[.int .i64 r0, .int .i64 r1, .int .i64 r2], .bool r3] ∧ bx = [] ∧ en = []) := by
 refine fn_ 60 Try.func100 rfl rfl rfl (fun base T w0 => ?_)
 rw [impl_ParseRow.f] at H
 refine gs (rg (so rfl (op_alloc (cs := [.int .i64 0, .int .i64 0, .int .i64 0]) (by kernel_rfl) rfl fun b2 => (sv (EV.as rfl) rfl (re (gs (rg (sv (EV.mv rfl) rfl ?_))))))))
 revert H; refine bdI ?_; rintro t1 A1 H
 refine so rfl (op_call (impl_cut.ok k a0 46 _ A1) [] 1 rfl rfl rfl rfl rfl ?_)
 rintro _ _ _ ⟨At1, ct1, rfl, rfl, rfl⟩
 refine sv (EV.as rfl) rfl (re (gs (gs (rg (sv (EV.mv rfl) rfl (sv (EV.ln rfl) rfl (sv (EV.neq rfl rfl) rfl (re (pr [2, 4, 16] [0] [0] rfl rfl rfl rfl ?_)))))))))
 revert H; refine ifsI ?_ ?_ <;> intro c2 H
 ·
  refine gf rfl (nF c2) (gk (gs (rg (sv (EV.mv rfl) rfl ?_))))
  revert H; refine ggI ?_; intro g3 H
  refine sv (EV.ix 0 rfl rfl rfl dq g3 rfl) rfl (sv (EV.le (v := .string (rdOf ByteArray.empty t1 0)) 0 0 none 0 ByteArray.empty rfl rfl rfl dq g3 rfl rfl rfl) rfl ?_)
  revert H; refine bdI ?_; rintro ⟨t4_0, t4_1⟩ A4 H
  refine so rfl (op_call (impl_ParseInt.ok k (rdOf ByteArray.empty t1 0) _ _ A4) [] 3 rfl rfl rfl rfl rfl ?_)
  rintro _ _ _ ⟨rfl, rfl, rfl⟩
  refine sv (EV.mv rfl) rfl (sv (EV.ex rfl rfl) rfl (sv (EV.ex rfl rfl) rfl (sv (EV.as rfl) rfl (sv (EV.as rfl) rfl (re (pr [2, 4, 5, 6] [0] [0] rfl rfl rfl rfl (gs (rg (sv (EV.mv rfl) rfl ?_)))))))))
  revert H; refine ggI ?_; intro g5 H
  refine sv (EV.ix 0 rfl rfl rfl dq g5 rfl) rfl (sv (EV.le (v := .string (rdOf ByteArray.empty t1 1)) 1 0 none 0 ByteArray.empty rfl rfl rfl dq g5 rfl rfl rfl) rfl ?_)
  revert H; refine bdI ?_; rintro ⟨t6_0, t6_1⟩ A6 H
  refine so rfl (op_call (impl_ParseInt.ok k (rdOf ByteArray.empty t1 1) _ _ A6) [] 3 rfl rfl rfl rfl rfl ?_)
  rintro _ _ _ ⟨rfl, rfl, rfl⟩
  refine sv (EV.mv rfl) rfl (sv (EV.ex rfl rfl) rfl (sv (EV.ex rfl rfl) rfl (sv (EV.as rfl) rfl (sv (EV.as rfl) rfl (re (pr [2, 4, 5, 6, 7, 8] [0] [0] rfl rfl rfl rfl (gs (rg (sv (EV.mv rfl) rfl ?_)))))))))
  revert H; refine ggI ?_; intro g7 H
  refine sv (EV.ix 0 rfl rfl rfl dq g7 rfl) rfl (sv (EV.le (v := .string (rdOf ByteArray.empty t1 2)) 2 0 none 0 ByteArray.empty rfl rfl rfl dq g7 rfl rfl rfl) rfl ?_)
  revert H; refine bdI ?_; rintro ⟨t8_0, t8_1⟩ A8 H
  refine so rfl (op_call (impl_ParseInt.ok k (rdOf ByteArray.empty t1 2) _ _ A8) [] 3 rfl rfl rfl rfl rfl ?_)
  rintro _ _ _ ⟨rfl, rfl, rfl⟩
  refine sv (EV.mv rfl) rfl (sv (EV.ex rfl rfl) rfl (sv (EV.ex rfl rfl) rfl (sv (EV.as rfl) rfl (sv (EV.as rfl) rfl (re (pr [2, 5, 6, 7, 8, 9, 10] [0] [] rfl rfl rfl rfl (gs (rg (sv (EV.mv rfl) rfl (sv (EV.mv rfl) rfl (sv (EV.mv rfl) rfl (sv (EV.bd (v := .agg #[.int .i64 t4_0, .int .i64 t6_0, .int .i64 t8_0]) rfl (by kernel_rfl)) rfl (so rfl (op_alloc (cs := [.int .i64 0, .int .i64 0, .int .i64 0]) (by kernel_rfl) rfl fun b11 => (so rfl (op_st (cs' := [.int .i64 t4_0, .int .i64 t6_0, .int .i64 t8_0]) 1 rfl rfl rfl rfl rfl rfl (re (pr [2, 6, 8, 10, 11] [0, 1] [] rfl rfl rfl rfl (gs (gs (rg (sv (EV.mv rfl) rfl (sv (EV.nt rfl) rfl (sv (EV.mv rfl) rfl ?_))))))))))))))))))))))))
  revert H; refine ifsI ?_ ?_ <;> intro c9 H
  ·
   subst c9
   refine ts 45 rfl rfl (sv (EV.mv rfl) rfl (sv (EV.nt rfl) rfl (sv (EV.pf rfl rfl rfl) rfl (sv (EV.mv rfl) rfl ?_))))
   revert H; refine ifsI ?_ ?_ <;> intro c10 H
   ·
    subst c10
    refine ts 49 rfl rfl (sv (EV.mv rfl) rfl (sv (EV.nt rfl) rfl (sv (EV.pf rfl rfl rfl) rfl (sv (EV.mv rfl) rfl ?_))))
    revert H; refine ifsI ?_ ?_ <;> intro c11 H
    ·
     subst c11
     refine ts 53 rfl rfl (sv (EV.ld (v := .agg #[.int .i64 t4_0, .int .i64 t6_0, .int .i64 t8_0]) 1 (some 3) rfl rfl rfl) rfl ?_)
     revert H; refine bdI ?_; rintro t12 A12 H
     refine so rfl (op_call (impl_IsValidRow.ok t4_0 t6_0 t8_0 _ A12) [] 1 rfl rfl rfl rfl rfl ?_)
     rintro _ _ _ ⟨rfl, rfl, rfl⟩
     refine sv (EV.nt rfl) rfl (sv (EV.pf rfl rfl rfl) rfl (re (pr [2, 11, 57] [0, 1] [] rfl rfl rfl rfl ?_)))
     revert H; refine ifsI ?_ ?_ <;> intro c13 H
     ·
      subst c13
      refine gf rfl rfl (gk (gs (rg (sv (EV.ld (v := .agg #[.int .i64 t4_0, .int .i64 t6_0, .int .i64 t8_0]) 1 (some 3) rfl rfl rfl) rfl (so rfl (op_st (cs' := [.int .i64 t4_0, .int .i64 t6_0, .int .i64 t8_0]) 0 rfl rfl rfl rfl rfl rfl (sv (EV.as rfl) rfl (re ?_))))))))
      cases H
      exact rt Try.func100 rfl (.cell 0 (some 3) rfl rfl rfl (.tmp rfl .nil)) rfl [] [] rfl rfl rfl rfl rfl ⟨rfl, rfl, rfl⟩
     ·
      obtain rfl := bF c13
      refine gt rfl rfl (gs (rg (sv (EV.bd (v := .agg #[.int .i64 0, .int .i64 0, .int .i64 0]) rfl (by kernel_rfl)) rfl (so rfl (op_st (cs' := [.int .i64 0, .int .i64 0, .int .i64 0]) 0 rfl rfl rfl rfl rfl rfl (sv (EV.as rfl) rfl (re ?_)))))))
      cases H
      exact rt Try.func100 rfl (.cell 0 (some 3) rfl rfl rfl (.tmp rfl .nil)) rfl [] [] rfl rfl rfl rfl rfl ⟨rfl, rfl, rfl⟩
    ·
     obtain rfl := bF c11
     refine ts 53 rfl rfl (sk rfl (sk rfl (sk rfl (sv (EV.pt rfl rfl rfl) rfl (re (pr [2, 11, 57] [0, 1] [] rfl rfl rfl rfl (gt rfl rfl (gs (rg (sv (EV.bd (v := .agg #[.int .i64 0, .int .i64 0, .int .i64 0]) rfl (by kernel_rfl)) rfl (so rfl (op_st (cs' := [.int .i64 0, .int .i64 0, .int .i64 0]) 0 rfl rfl rfl rfl rfl rfl (sv (EV.as rfl) rfl (re ?_))))))))))))))
     cases H
     exact rt Try.func100 rfl (.cell 0 (some 3) rfl rfl rfl (.tmp rfl .nil)) rfl [] [] rfl rfl rfl rfl rfl ⟨rfl, rfl, rfl⟩
   ·
    obtain rfl := bF c10
    refine ts 49 rfl rfl (sk rfl (sk rfl (sv (EV.pt rfl rfl rfl) rfl (sv (EV.mv rfl) rfl (sk rfl (sk rfl (sk rfl (sv (EV.pt rfl rfl rfl) rfl (re (pr [2, 11, 57] [0, 1] [] rfl rfl rfl rfl (gt rfl rfl (gs (rg (sv (EV.bd (v := .agg #[.int .i64 0, .int .i64 0, .int .i64 0]) rfl (by kernel_rfl)) rfl (so rfl (op_st (cs' := [.int .i64 0, .int .i64 0, .int .i64 0]) 0 rfl rfl rfl rfl rfl rfl (sv (EV.as rfl) rfl (re ?_))))))))))))))))))
    cases H
    exact rt Try.func100 rfl (.cell 0 (some 3) rfl rfl rfl (.tmp rfl .nil)) rfl [] [] rfl rfl rfl rfl rfl ⟨rfl, rfl, rfl⟩
  ·
   obtain rfl := bF c9
   refine ts 45 rfl rfl (sk rfl (sk rfl (sv (EV.pt rfl rfl rfl) rfl (sv (EV.mv rfl) rfl (sk rfl (sk rfl (sv (EV.pt rfl rfl rfl) rfl (sv (EV.mv rfl) rfl (sk rfl (sk rfl (sk rfl (sv (EV.pt rfl rfl rfl) rfl (re (pr [2, 11, 57] [0, 1] [] rfl rfl rfl rfl (gt rfl rfl (gs (rg (sv (EV.bd (v := .agg #[.int .i64 0, .int .i64 0, .int .i64 0]) rfl (by kernel_rfl)) rfl (so rfl (op_st (cs' := [.int .i64 0, .int .i64 0, .int .i64 0]) 0 rfl rfl rfl rfl rfl rfl (sv (EV.as rfl) rfl (re ?_))))))))))))))))))))))
   cases H
   exact rt Try.func100 rfl (.cell 0 (some 3) rfl rfl rfl (.tmp rfl .nil)) rfl [] [] rfl rfl rfl rfl rfl ⟨rfl, rfl, rfl⟩
 ·
  refine gt rfl (nT c2) (gs (rg (sv (EV.bd (v := .agg #[.int .i64 0, .int .i64 0, .int .i64 0]) rfl (by kernel_rfl)) rfl (so rfl (op_st (cs' := [.int .i64 0, .int .i64 0, .int .i64 0]) 0 rfl rfl rfl rfl rfl rfl (sv (EV.as rfl) rfl (re ?_)))))))
  cases H
  exact rt Try.func100 rfl (.cell 0 (some 3) rfl rfl rfl (.tmp rfl .nil)) rfl [] [] rfl rfl rfl rfl rfl ⟨rfl, rfl, rfl⟩
end Go.Proofs.Ytnllplklggoabaa.K
namespace Go.Proofs.Ytnllplklggoabaa.K
open Go Go.RowKit
set_option linter.unusedVariables false
set_option linter.unusedSimpArgs false
def impl_ParseRows.l0 : Nat → (List S124) → (List ByteArray) → Int → Int → Option ((List S124) × Bool)
 | 0, _, _, _, _ => none
 | k + 1, x2_4, x2_13, x2_14, x2_15 => if x2_15 < x2_14 then (if 0 ≤ x2_15 then (if x2_15 < (x2_13.length : Int) then ((impl_ParseRow.f k (rdOf ByteArray.empty x2_13 x2_15)).bind fun bt7 => (if bt7.2.2.2 = true then (if x2_4.length < 5864062014805 then (impl_ParseRows.l0 k (x2_4 ++ ([(⟨bt7.1, bt7.2.1, bt7.2.2.1⟩ : S124)] : List S124)) x2_13 x2_14 (wrap64 (x2_15 + 1))) else none) else (some ([], false)))) else none) else none) else ((impl_AreValidRows.f k x2_4).bind fun t12 => (if t12 = true then (some (x2_4, true)) else (some ([], false))))
def impl_ParseRows.f (k : Nat) (a0 : ByteArray) : Option ((List S124) × Bool) := if a0.toList = (⟨#[]⟩ : ByteArray).toList then (some ([], true)) else ((impl_cut.f k a0 32).bind fun t3 => (impl_ParseRows.l0 k [] t3 (t3.length : Int) 0))
set_option maxHeartbeats 4000000 in
set_option maxRecDepth 100000 in
theorem impl_ParseRows.ok (k : Nat) (a0 : ByteArray) (r0 : List S124) (r1 : Bool) (H : impl_ParseRows.f k a0 = some (r0, r1)) : Fn Try.prog 74 [.string a0] [] [] (fun v bx en => ∃ A0 c0, v = .tuple #[.slice A0 r0.length c0, .bool r1] ∧ bx = [] ∧ en = [.sl 2 k124 A0 c0 r0 1 true]) := by
 refine fn_ 35 Try.func74 rfl rfl rfl (fun base T w0 => ?_)
 rw [impl_ParseRows.f] at H
 refine gs (rg (sv (EV.as rfl) rfl (sv (EV.as rfl) rfl (re (gs (gs (rg (sv (EV.mv rfl) rfl (sv (EV.eqs rfl rfl) rfl (re ?_))))))))))
 revert H; refine ifsI ?_ ?_ <;> intro c1 H
 ·
  refine gt rfl (dT c1) (gs (rg (sv (EV.as rfl) rfl (sv (EV.as rfl) rfl (re (nil_ k124 1 dq ?_))))))
  cases H
  exact rt Try.func74 rfl (.tmp rfl (.tmp rfl .nil)) rfl [] [⟨0, 2, 1, true⟩] rfl rfl rfl rfl rfl ⟨_, _, rfl, rfl, rfl⟩
 ·
  refine gf rfl (dF c1) (gk (gs (rg (so rfl (op_lit (s := 3) (by_ := 24) k124 ([] : List S124) [] [] 1 [] rfl rfl rfl rfl rfl rfl rfl rfl rfl rfl rfl rfl rfl dq rfl fun A11_2 c11_2 => (sv (EV.as rfl) rfl (re (gs (gs (rg (sv (EV.mv rfl) rfl ?_)))))))))))
  revert H; refine bdI ?_; rintro t3 A3 H
  refine so rfl (op_call (impl_cut.ok k a0 32 _ A3) [] 2 rfl rfl rfl rfl rfl ?_)
  rintro _ _ _ ⟨At3, ct3, rfl, rfl, rfl⟩
  refine sv (EV.ln rfl) rfl (sv (EV.mv rfl) rfl (re (pr [4, 13, 14, 15] [] [0, 1] rfl rfl rfl rfl (gb ?_))))
  refine lo (fun kk S => ∃ (x2_4 : List S124) (Ax2_4 : Option Addr) (cx2_4 : Nat) (x2_13 : List ByteArray) (Ax2_13 : Option Addr) (cx2_13 : Nat) (x2_14 : Int) (x2_15 : Int), impl_ParseRows.l0 kk x2_4 x2_13 x2_14 x2_15 = some (r0, r1) ∧ S = ⟨[(4, .slice Ax2_4 x2_4.length cx2_4), (13, .slice Ax2_13 x2_13.length cx2_13), (14, .int .i64 x2_14), (15, .int .i64 x2_15)], [], [.sl 2 k124 Ax2_4 cx2_4 x2_4 1 true, .sl 2 .str Ax2_13 cx2_13 x2_13 2 true]⟩) (fun S hS => ?_) (fun n0 ih0 S hS => ?_) ⟨[], A11_2, c11_2, t3, At3, ct3, (t3.length : Int), 0, H, rfl⟩ (fun h => wk [4, 13, 14, 15] [] [⟨0, 2, 1, true⟩, ⟨1, 2, 2, true⟩] h)
  · clear H; obtain ⟨_, _, _, _, _, _, _, _, H, _⟩ := hS; rw [impl_ParseRows.l0] at H; cases H
  clear H
  obtain ⟨x2_4, Ax2_4, cx2_4, x2_13, Ax2_13, cx2_13, x2_14, x2_15, H, rfl⟩ := hS
  rw [impl_ParseRows.l0] at H
  refine gs (rg (sv (EV.lss rfl rfl) rfl (re (gs ?_))))
  revert H; refine ifsI ?_ ?_ <;> intro c4 H
  ·
   refine gt rfl (dT c4) (gk (gs (gb (gs (rg ?_)))))
   revert H; refine ggI ?_; intro g5 H
   revert H; refine ggI ?_; intro g6 H
   refine sv (EV.ix 1 rfl rfl rfl g5 g6 rfl) rfl (sv (EV.le (v := .string (rdOf ByteArray.empty x2_13 x2_15)) x2_15 0 none 1 ByteArray.empty rfl rfl rfl g5 g6 rfl rfl rfl) rfl (sv (EV.as rfl) rfl (re (gs (rg (sv (EV.mv rfl) rfl ?_))))))
   revert H; refine bdI ?_; rintro ⟨t7_0, t7_1, t7_2, t7_3⟩ A7 H
   refine so rfl (op_call (impl_ParseRow.ok n0 (rdOf ByteArray.empty x2_13 x2_15) _ _ _ _ A7) [] 3 rfl rfl rfl rfl rfl ?_)
   rintro _ _ _ ⟨rfl, rfl, rfl⟩
   refine sv (EV.mv rfl) rfl (sv (EV.ex rfl rfl) rfl (sv (EV.ex rfl rfl) rfl (so rfl (op_alloc (cs := [.int .i64 0, .int .i64 0, .int .i64 0]) (by kernel_rfl) rfl fun b7 => (so rfl (op_st (cs' := [.int .i64 t7_0, .int .i64 t7_1, .int .i64 t7_2]) 0 rfl rfl rfl rfl rfl rfl (sv (EV.as rfl) rfl (re (pr [4, 7, 8, 13, 14, 15] [0] [0, 1] rfl rfl rfl rfl (gs (gs (rg (sv (EV.mv rfl) rfl (sv (EV.nt rfl) rfl (re ?_)))))))))))))))
   revert H; refine ifsI ?_ ?_ <;> intro c8 H
   ·
    subst c8
    refine gf rfl rfl (gk (rg (sv (EV.mv rfl) rfl (sv (EV.ld (v := .agg #[.int .i64 t7_0, .int .i64 t7_1, .int .i64 t7_2]) 0 (some 3) rfl rfl rfl) rfl (so rfl (op_lit (s := 3) (by_ := 24) k124 ([(⟨t7_0, t7_1, t7_2⟩ : S124)] : List S124) [[]] [] 3 [.tmp 27] rfl rfl rfl rfl rfl rfl rfl rfl rfl rfl rfl rfl rfl dq rfl fun A28_9 c28_9 => ?_))))))
    revert H; refine ggI ?_; intro g10 H
    exact so rfl (op_app (k := k124) (s := 3) (by_ := 24) 0 2 rfl rfl rfl rfl (ap1 g10 dq) (ap1n g10 dq) (.inl rfl) true (fun _ => .inl rfl) rfl rfl fun A29_11 c29_11 => (nmE (en := [.sl 2 .str Ax2_13 cx2_13 x2_13 2 true, .sl 2 k124 A28_9 c28_9 ([(⟨t7_0, t7_1, t7_2⟩ : S124)] : List S124) 3 true, .sl 2 k124 A29_11 c29_11 (x2_4 ++ ([(⟨t7_0, t7_1, t7_2⟩ : S124)] : List S124)) 1 true]) (by kernel_rfl) (sv (EV.as rfl) rfl (re (pr [4, 13, 14, 15] [] [0, 2] rfl rfl rfl rfl (ge (rg (sv (EV.add rfl rfl) rfl (sv (EV.mv rfl) rfl (re (wk [4, 13, 14, 15] [] [⟨1, 2, 1, true⟩, ⟨0, 2, 2, true⟩] (ih0 _ (by omega) _ ⟨x2_4 ++ ([(⟨t7_0, t7_1, t7_2⟩ : S124)] : List S124), A29_11, c29_11, x2_13, Ax2_13, cx2_13, x2_14, wrap64 (x2_15 + 1), H, rfl⟩))))))))))))
   ·
    obtain rfl := bF c8
    refine gt rfl rfl (gs (rg (sv (EV.as rfl) rfl (sv (EV.as rfl) rfl (re (pr [2, 3] [] [] rfl rfl rfl rfl (nil_ k124 1 dq ?_)))))))
    cases H
    exact rt Try.func74 rfl (.tmp rfl (.tmp rfl .nil)) rfl [] [⟨0, 2, 1, true⟩] rfl rfl rfl rfl rfl ⟨_, _, rfl, rfl, rfl⟩
  ·
   refine gf rfl (dF c4) (gx rfl (gs (gs (rg (sv (EV.mv rfl) rfl ?_)))))
   revert H; refine bdI ?_; rintro t12 A12 H
   refine so rfl (op_call (impl_AreValidRows.ok n0 x2_4 Ax2_4 cx2_4 _ A12) [⟨0, 0, 0, false⟩] 3 rfl rfl rfl rfl rfl ?_)
   rintro _ _ _ ⟨rfl, rfl, rfl⟩
   refine sv (EV.nt rfl) rfl (re (pr [4, 33] [] [0] rfl rfl rfl rfl ?_))
   revert H; refine ifsI ?_ ?_ <;> intro c13 H
   ·
    subst c13
    refine gf rfl rfl (gk (gs (rg (sv (EV.mv rfl) rfl (sv (EV.as rfl) rfl (sv (EV.as rfl) rfl (re ?_)))))))
    cases H
    exact rt Try.func74 rfl (.tmp rfl (.tmp rfl .nil)) rfl [] [⟨0, 2, 1, true⟩] rfl rfl rfl rfl rfl ⟨_, _, rfl, rfl, rfl⟩
   ·
    obtain rfl := bF c13
    refine gt rfl rfl (gs (rg (sv (EV.as rfl) rfl (sv (EV.as rfl) rfl (re (nil_ k124 2 dq ?_))))))
    cases H
    exact rt Try.func74 rfl (.tmp rfl (.tmp rfl .nil)) rfl [] [⟨1, 2, 1, true⟩] rfl rfl rfl rfl rfl ⟨_, _, rfl, rfl, rfl⟩
end Go.Proofs.Ytnllplklggoabaa.K
namespace Go.Proofs.Ytnllplklggoabaa.K
open Go Go.RowKit
set_option linter.unusedVariables false
set_option linter.unusedSimpArgs false
mutual
def impl_ParseAggregator.l0 : Nat → Bool → (List ByteArray) → Int → Int → (List S99) → Int → Bool → (List S99) → Int → Bool → Option ((List S99) × Int × Bool × Bool)
 | 0, _, _, _, _, _, _, _, _, _, _ => none
 | k + 1, x3_6, x3_47, x3_48, x3_49, x3_2_0, x3_2_1, x3_2_2, x3_7_0, x3_7_1, x3_7_2 => if x3_49 < x3_48 then (if 0 ≤ x3_49 then (if x3_49 < (x3_47.length : Int) then ((impl_cut.f k (rdOf ByteArray.empty x3_47 x3_49) 59).bind fun t10 => (if (t10.length : Int) = 2 then (if 0 < (t10.length : Int) then ((impl_ParseInt.f k (rdOf ByteArray.empty t10 0)).bind fun bt13 => (if 1 < (t10.length : Int) then ((impl_ParseRows.f k (rdOf ByteArray.empty t10 1)).bind fun bt15 => (if bt13.2 = true then (if bt15.2 = true then (if x3_7_0.length < 4398046511104 then (impl_ParseAggregator.l0 k x3_6 x3_47 x3_48 (wrap64 (x3_49 + 1)) x3_2_0 x3_2_1 x3_2_2 (x3_7_0 ++ ([(⟨bt15.1, bt13.1⟩ : S99)] : List S99)) x3_7_1 x3_7_2) else none) else (some ([], 0, false, false))) else (some ([], 0, false, false)))) else none)) else none) else (some ([], 0, false, false)))) else none) else none) else (if x3_6 = true then ((impl_IsValidAggregator.f k x3_7_0 x3_7_1 x3_7_2).bind fun t22 => (if t22 = true then (some (x3_7_0, x3_7_1, x3_7_2, true)) else (some ([], 0, false, false)))) else (some ([], 0, false, false)))
def impl_ParseAggregator.j0 : Nat → (List ByteArray) → (List S99) → Int → Bool → Option ((List S99) × Int × Bool × Bool)
 | 0, _, _, _, _ => none
 | k + 1, x1_4, x1_2_0, x1_2_1, x1_2_2 => if 0 < (x1_4.length : Int) then ((impl_ParseInt.f k (rdOf ByteArray.empty x1_4 0)).bind fun bt4 => (if 1 < (x1_4.length : Int) then (if 2 ≤ (x1_4.length : Int) then (impl_ParseAggregator.l0 k bt4.2 (x1_4.drop (2 : Int).toNat) ((x1_4.drop (2 : Int).toNat).length : Int) 0 x1_2_0 x1_2_1 x1_2_2 [] bt4.1 (decide ((rdOf ByteArray.empty x1_4 1).toList = (⟨#[49]⟩ : ByteArray).toList))) else none) else none)) else none
end
def impl_ParseAggregator.f (k : Nat) (a0 : ByteArray) : Option ((List S99) × Int × Bool × Bool) := (impl_cut.f k a0 47).bind fun t1 => (if (t1.length : Int) < 2 then (some ([], 0, false, false)) else (if 1 < (t1.length : Int) then (if (rdOf ByteArray.empty t1 1).toList = (⟨#[48]⟩ : ByteArray).toList then (impl_ParseAggregator.j0 k t1 [] 0 false) else (if (rdOf ByteArray.empty t1 1).toList = (⟨#[49]⟩ : ByteArray).toList then (impl_ParseAggregator.j0 k t1 [] 0 false) else (some ([], 0, false, false)))) else none))
set_option maxHeartbeats 4000000 in
set_option maxRecDepth 100000 in
theorem impl_ParseAggregator.ok (k : Nat) (a0 : ByteArray) (r0 : List S99) (r1 : Int) (r2 : Bool) (r3 : Bool) (H : impl_ParseAggregator.f k a0 = some (r0, r1, r2, r3)) : Fn Try.prog 31 [.string a0] [] [] (fun v bx en => ∃ A0 c0, v = .tuple #[.agg #[.slice A0 r0.length c0, .int .i64 r1, .bool r2], .bool r3] ∧ bx = [] ∧ en = [.sl 2 k99 A0 c0 r0 1 true]) := by
 refine fn_ 98 Try.func31 rfl rfl rfl (fun base T w0 => ?_)
 rw [impl_ParseAggregator.f] at H
 refine gs (rg (so rfl (op_alloc (cs := [.slice none 0 0, .int .i64 0, .bool false]) (by kernel_rfl) rfl fun b2 => (sv (EV.as rfl) rfl (re (gs (rg (sv (EV.mv rfl) rfl ?_))))))))
 revert H; refine bdI ?_; rintro t1 A1 H
 refine so rfl (op_call (impl_cut.ok k a0 47 _ A1) [] 1 rfl rfl rfl rfl rfl ?_)
 rintro _ _ _ ⟨At1, ct1, rfl, rfl, rfl⟩
 refine sv (EV.as rfl) rfl (re ?_)
 refine jo (fun S => ∃ (m : Nat) (x1_4 : List ByteArray) (Ax1_4 : Option Addr) (cx1_4 : Nat) (x1_2_0 : List S99) (Ax1_2_0 : Option Addr) (cx1_2_0 : Nat) (x1_2_1 : Int) (x1_2_2 : Bool), impl_ParseAggregator.j0 m x1_4 x1_2_0 x1_2_1 x1_2_2 = some (r0, r1, r2, r3) ∧ S = ⟨[(2, .pointer (some ⟨b2, 0, none⟩)), (4, .slice Ax1_4 x1_4.length cx1_4)], [⟨b2, 48, [.slice Ax1_2_0 x1_2_0.length cx1_2_0, .int .i64 x1_2_1, .bool x1_2_2]⟩], [.sl 2 .str Ax1_4 cx1_4 x1_4 1 true, .sl 2 k99 Ax1_2_0 cx1_2_0 x1_2_0 2 true]⟩) (fun S hS => ?_) (fun jh0 => ?_)
 ·
  clear H
  obtain ⟨m2, x1_4, Ax1_4, cx1_4, x1_2_0, Ax1_2_0, cx1_2_0, x1_2_1, x1_2_2, H, rfl⟩ := hS
  rcases m2 with _ | m2
  · rw [impl_ParseAggregator.j0] at H; cases H
  rw [impl_ParseAggregator.j0] at H
  refine gs (rg (sv (EV.mv rfl) rfl ?_))
  revert H; refine ggI ?_; intro g3 H
  refine sv (EV.ix 0 rfl rfl rfl dq g3 rfl) rfl (sv (EV.le (v := .string (rdOf ByteArray.empty x1_4 0)) 0 0 none 0 ByteArray.empty rfl rfl rfl dq g3 rfl rfl rfl) rfl ?_)
  revert H; refine bdI ?_; rintro ⟨t4_0, t4_1⟩ A4 H
  refine so rfl (op_call (impl_ParseInt.ok m2 (rdOf ByteArray.empty x1_4 0) _ _ A4) [] 3 rfl rfl rfl rfl rfl ?_)
  rintro _ _ _ ⟨rfl, rfl, rfl⟩
  refine sv (EV.mv rfl) rfl (sv (EV.ex rfl rfl) rfl (sv (EV.ex rfl rfl) rfl (sv (EV.as rfl) rfl (sv (EV.as rfl) rfl (re (pr [2, 4, 5, 6] [0] [0, 1] rfl rfl rfl rfl (gs (rg (sv (EV.mv rfl) rfl (sv (EV.mv rfl) rfl ?_))))))))))
  revert H; refine ggI ?_; intro g5 H
  refine sv (EV.ix 0 rfl rfl rfl dq g5 rfl) rfl (sv (EV.le (v := .string (rdOf ByteArray.empty x1_4 1)) 1 0 none 0 ByteArray.empty rfl rfl rfl dq g5 rfl rfl rfl) rfl (sv (EV.eqs rfl rfl) rfl (sv (EV.bd (v := .agg #[.slice none 0 0, .int .i64 t4_0, .bool (decide ((rdOf ByteArray.empty x1_4 1).toList = (⟨#[49]⟩ : ByteArray).toList))]) rfl (by kernel_rfl)) rfl (so rfl (op_alloc (cs := [.slice none 0 0, .int .i64 0, .bool false]) (by kernel_rfl) rfl fun b7 => (so rfl (op_st (cs' := [.slice none 0 0, .int .i64 t4_0, .bool (decide ((rdOf ByteArray.empty x1_4 1).toList = (⟨#[49]⟩ : ByteArray).toList))]) 1 rfl rfl rfl rfl rfl rfl (re (pr [2, 4, 6, 7] [0, 1] [0, 1] rfl rfl rfl rfl (gs (gs (rg (sv (EV.mv rfl) rfl ?_)))))))))))))
  revert H; refine ggI ?_; intro g6 H
  refine cutp (l' := x1_4.drop (2 : Int).toNat) 2 (x1_4.length : Int) 0 rfl dq g6 (Int.le_refl _) rfl 1 dq (.inl dq) ctl (sv (EV.ct 2 (x1_4.length : Int) 0 rfl rfl rfl rfl dq g6 (Int.le_refl _) rfl rfl ctnl) rfl (sv (EV.ln rfl) rfl (sv (EV.mv rfl) rfl (re (gb (nil_ k99 3 dq ?_))))))
  refine lo (fun kk S => ∃ (x3_6 : Bool) (x3_47 : List ByteArray) (Ax3_47 : Option Addr) (cx3_47 : Nat) (x3_48 : Int) (x3_49 : Int) (x3_2_0 : List S99) (Ax3_2_0 : Option Addr) (cx3_2_0 : Nat) (x3_2_1 : Int) (x3_2_2 : Bool) (x3_7_0 : List S99) (Ax3_7_0 : Option Addr) (cx3_7_0 : Nat) (x3_7_1 : Int) (x3_7_2 : Bool), kk ≤ m2 ∧ impl_ParseAggregator.l0 kk x3_6 x3_47 x3_48 x3_49 x3_2_0 x3_2_1 x3_2_2 x3_7_0 x3_7_1 x3_7_2 = some (r0, r1, r2, r3) ∧ S = ⟨[(2, .pointer (some ⟨b2, 0, none⟩)), (6, .bool x3_6), (7, .pointer (some ⟨b7, 0, none⟩)), (47, .slice Ax3_47 x3_47.length cx3_47), (48, .int .i64 x3_48), (49, .int .i64 x3_49)], [⟨b2, 48, [.slice Ax3_2_0 x3_2_0.length cx3_2_0, .int .i64 x3_2_1, .bool x3_2_2]⟩, ⟨b7, 48, [.slice Ax3_7_0 x3_7_0.length cx3_7_0, .int .i64 x3_7_1, .bool x3_7_2]⟩], [.sl 1 .str Ax3_47 cx3_47 x3_47 1 true, .sl 2 k99 Ax3_2_0 cx3_2_0 x3_2_0 2 true, .sl 2 k99 Ax3_7_0 cx3_7_0 x3_7_0 3 true]⟩) (fun S hS => ?_) (fun n0 ih0 S hS => ?_) ⟨t4_1, x1_4.drop (2 : Int).toNat, (cutA Ax1_4 cx1_4 (2 : Int).toNat 1), (cx1_4 - (2 : Int).toNat), ((x1_4.drop (2 : Int).toNat).length : Int), 0, x1_2_0, Ax1_2_0, cx1_2_0, x1_2_1, x1_2_2, [], none, 0, t4_0, decide ((rdOf ByteArray.empty x1_4 1).toList = (⟨#[49]⟩ : ByteArray).toList), by omega, H, rfl⟩ (fun h => wk [2, 6, 7, 47, 48, 49] [0, 1] [⟨2, 1, 1, true⟩, ⟨1, 2, 2, true⟩, ⟨3, 2, 3, true⟩] h)
  · clear H; obtain ⟨_, _, _, _, _, _, _, _, _, _, _, _, _, _, _, _, _, H, _⟩ := hS; rw [impl_ParseAggregator.l0] at H; cases H
  clear H
  obtain ⟨x3_6, x3_47, Ax3_47, cx3_47, x3_48, x3_49, x3_2_0, Ax3_2_0, cx3_2_0, x3_2_1, x3_2_2, x3_7_0, Ax3_7_0, cx3_7_0, x3_7_1, x3_7_2, lk0, H, rfl⟩ := hS
  rw [impl_ParseAggregator.l0] at H
  refine gs (rg (sv (EV.lss rfl rfl) rfl (re (gs ?_))))
  revert H; refine ifsI ?_ ?_ <;> intro c7 H
  ·
   refine gt rfl (dT c7) (gk (gs (gb (gs (rg ?_)))))
   revert H; refine ggI ?_; intro g8 H
   revert H; refine ggI ?_; intro g9 H
   refine sv (EV.ix 0 rfl rfl rfl g8 g9 rfl) rfl (sv (EV.le (v := .string (rdOf ByteArray.empty x3_47 x3_49)) x3_49 0 none 0 ByteArray.empty rfl rfl rfl g8 g9 rfl rfl rfl) rfl (sv (EV.as rfl) rfl (re (gs (rg (sv (EV.mv rfl) rfl ?_))))))
   revert H; refine bdI ?_; rintro t10 A10 H
   refine so rfl (op_call (impl_cut.ok n0 (rdOf ByteArray.empty x3_47 x3_49) 59 _ A10) [] 4 rfl rfl rfl rfl rfl ?_)
   rintro _ _ _ ⟨At10, ct10, rfl, rfl, rfl⟩
   refine sv (EV.as rfl) rfl (re (pr [2, 6, 7, 10, 47, 48, 49] [0, 1] [0, 1, 2, 3] rfl rfl rfl rfl (gs (gs (rg (sv (EV.mv rfl) rfl (sv (EV.ln rfl) rfl (sv (EV.neq rfl rfl) rfl (re ?_)))))))))
   revert H; refine ifsI ?_ ?_ <;> intro c11 H
   ·
    refine gf rfl (nF c11) (gk (gs (rg (sv (EV.mv rfl) rfl ?_))))
    revert H; refine ggI ?_; intro g12 H
    refine sv (EV.ix 3 rfl rfl rfl dq g12 rfl) rfl (sv (EV.le (v := .string (rdOf ByteArray.empty t10 0)) 0 0 none 3 ByteArray.empty rfl rfl rfl dq g12 rfl rfl rfl) rfl ?_)
    revert H; refine bdI ?_; rintro ⟨t13_0, t13_1⟩ A13 H
    refine so rfl (op_call (impl_ParseInt.ok n0 (rdOf ByteArray.empty t10 0) _ _ A13) [] 6 rfl rfl rfl rfl rfl ?_)
    rintro _ _ _ ⟨rfl, rfl, rfl⟩
    refine sv (EV.mv rfl) rfl (sv (EV.ex rfl rfl) rfl (sv (EV.ex rfl rfl) rfl (sv (EV.as rfl) rfl (sv (EV.as rfl) rfl (re (pr [2, 6, 7, 10, 11, 12, 47, 48, 49] [0, 1] [0, 1, 2, 3] rfl rfl rfl rfl (gs (rg (sv (EV.mv rfl) rfl ?_)))))))))
    revert H; refine ggI ?_; intro g14 H
    refine sv (EV.ix 3 rfl rfl rfl dq g14 rfl) rfl (sv (EV.le (v := .string (rdOf ByteArray.empty t10 1)) 1 0 none 3 ByteArray.empty rfl rfl rfl dq g14 rfl rfl rfl) rfl ?_)
    revert H; refine bdI ?_; rintro ⟨t15_0, t15_1⟩ A15 H
    refine so rfl (op_call (impl_ParseRows.ok n0 (rdOf ByteArray.empty t10 1) _ _ A15) [] 6 rfl rfl rfl rfl rfl ?_)
    rintro _ _ _ ⟨At15_0, ct15_0, rfl, rfl, rfl⟩
    refine sv (EV.mv rfl) rfl (sv (EV.ex rfl rfl) rfl (sv (EV.ex rfl rfl) rfl (sv (EV.as rfl) rfl (sv (EV.as rfl) rfl (re (pr [2, 6, 7, 11, 12, 13, 14, 47, 48, 49] [0, 1] [0, 1, 2, 4] rfl rfl rfl rfl (gs (gs (rg (sv (EV.mv rfl) rfl (sv (EV.nt rfl) rfl (sv (EV.mv rfl) rfl ?_))))))))))))
    revert H; refine ifsI ?_ ?_ <;> intro c16 H
    ·
     subst c16
     refine ts 75 rfl rfl (sv (EV.mv rfl) rfl (sv (EV.nt rfl) rfl (sv (EV.pf rfl rfl rfl) rfl (re ?_))))
     revert H; refine ifsI ?_ ?_ <;> intro c17 H
     ·
      subst c17
      refine gf rfl rfl (gk (rg (sv (EV.fa 0 rfl) rfl (sv (EV.ld 1 none rfl rfl rfl) rfl (sv (EV.mv rfl) rfl (sv (EV.mv rfl) rfl (sv (EV.bd (v := .agg #[.slice At15_0 t15_0.length ct15_0, .int .i64 t13_0]) rfl (by kernel_rfl)) rfl (so rfl (op_lit (s := 2) (by_ := 32) k99 ([(⟨t15_0, t13_0⟩ : S99)] : List S99) [[(At15_0, ct15_0)]] [3] 8 [.tmp 84] rfl rfl rfl rfl rfl rfl rfl rfl rfl rfl rfl rfl rfl dq rfl fun A85_18 c85_18 => (nmE (en := [.sl 1 .str Ax3_47 cx3_47 x3_47 1 true, .sl 2 k99 Ax3_2_0 cx3_2_0 x3_2_0 2 true, .sl 2 k99 Ax3_7_0 cx3_7_0 x3_7_0 3 true, .sl 2 k124 At15_0 ct15_0 t15_0 8 true, .sl 2 k99 A85_18 c85_18 ([(⟨t15_0, t13_0⟩ : S99)] : List S99) 8 true]) (by kernel_rfl) ?_))))))))))
      revert H; refine ggI ?_; intro g19 H
      exact so rfl (op_app (k := k99) (s := 2) (by_ := 32) 2 4 rfl rfl rfl rfl (ap1 g19 dq) (ap1n g19 dq) (.inr ⟨dq, dq, rfl, dq⟩) true (fun _ => .inr ⟨rfl, rfl, dq⟩) rfl rfl fun A86_20 c86_20 => (nmE (en := [.sl 1 .str Ax3_47 cx3_47 x3_47 1 true, .sl 2 k99 Ax3_2_0 cx3_2_0 x3_2_0 2 true, .sl 2 k124 At15_0 ct15_0 t15_0 3 true, .sl 2 k99 A85_18 c85_18 ([(⟨t15_0, t13_0⟩ : S99)] : List S99) 3 true, .sl 2 k99 A86_20 c86_20 (x3_7_0 ++ ([(⟨t15_0, t13_0⟩ : S99)] : List S99)) 3 true]) (by kernel_rfl) (sv (EV.fa 0 rfl) rfl (so rfl (op_st (cs' := [.slice A86_20 (x3_7_0 ++ ([(⟨t15_0, t13_0⟩ : S99)] : List S99)).length c86_20, .int .i64 x3_7_1, .bool x3_7_2]) 1 rfl rfl rfl rfl rfl rfl (re (pr [2, 6, 7, 47, 48, 49, 76, 77] [0, 1] [0, 1, 4] rfl rfl rfl rfl (ge (rg (sv (EV.add rfl rfl) rfl (sv (EV.mv rfl) rfl (re (wk [2, 6, 7, 47, 48, 49] [0, 1] [⟨0, 1, 1, true⟩, ⟨1, 2, 2, true⟩, ⟨2, 2, 3, true⟩] (ih0 _ (by omega) _ ⟨x3_6, x3_47, Ax3_47, cx3_47, x3_48, wrap64 (x3_49 + 1), x3_2_0, Ax3_2_0, cx3_2_0, x3_2_1, x3_2_2, x3_7_0 ++ ([(⟨t15_0, t13_0⟩ : S99)] : List S99), A86_20, c86_20, x3_7_1, x3_7_2, by omega, H, rfl⟩))))))))))))))
     ·
      obtain rfl := bF c17
      refine gt rfl rfl (gs (rg (sv (EV.bd (v := .agg #[.slice none 0 0, .int .i64 0, .bool false]) rfl (by kernel_rfl)) rfl (so rfl (op_st (cs' := [.slice none 0 0, .int .i64 0, .bool false]) 0 rfl rfl rfl rfl rfl rfl (sv (EV.as rfl) rfl (re (pr [2, 3] [0] [] rfl rfl rfl rfl (nil_ k99 1 dq ?_)))))))))
      cases H
      exact rt Try.func31 rfl (.cell 0 (some 3) rfl rfl rfl (.tmp rfl .nil)) rfl [] [⟨0, 2, 1, true⟩] rfl rfl rfl rfl rfl ⟨_, _, rfl, rfl, rfl⟩
    ·
     obtain rfl := bF c16
     refine ts 75 rfl rfl (sk rfl (sk rfl (sv (EV.pt rfl rfl rfl) rfl (re (pr [2, 6, 7, 11, 13, 47, 48, 49, 78] [0, 1] [0, 1, 2, 3] rfl rfl rfl rfl (gt rfl rfl (gs (rg (sv (EV.bd (v := .agg #[.slice none 0 0, .int .i64 0, .bool false]) rfl (by kernel_rfl)) rfl (so rfl (op_st (cs' := [.slice none 0 0, .int .i64 0, .bool false]) 0 rfl rfl rfl rfl rfl rfl (sv (EV.as rfl) rfl (re (pr [2, 3] [0] [] rfl rfl rfl rfl (nil_ k99 1 dq ?_)))))))))))))))
     cases H
     exact rt Try.func31 rfl (.cell 0 (some 3) rfl rfl rfl (.tmp rfl .nil)) rfl [] [⟨0, 2, 1, true⟩] rfl rfl rfl rfl rfl ⟨_, _, rfl, rfl, rfl⟩
   ·
    refine gt rfl (nT c11) (gs (rg (sv (EV.bd (v := .agg #[.slice none 0 0, .int .i64 0, .bool false]) rfl (by kernel_rfl)) rfl (so rfl (op_st (cs' := [.slice none 0 0, .int .i64 0, .bool false]) 0 rfl rfl rfl rfl rfl rfl (sv (EV.as rfl) rfl (re (pr [2, 3] [0] [] rfl rfl rfl rfl (nil_ k99 1 dq ?_)))))))))
    cases H
    exact rt Try.func31 rfl (.cell 0 (some 3) rfl rfl rfl (.tmp rfl .nil)) rfl [] [⟨0, 2, 1, true⟩] rfl rfl rfl rfl rfl ⟨_, _, rfl, rfl, rfl⟩
  ·
   refine gf rfl (dF c7) (gx rfl (gs (gs (rg (sv (EV.mv rfl) rfl (sv (EV.nt rfl) rfl (sv (EV.mv rfl) rfl ?_)))))))
   revert H; refine ifsI ?_ ?_ <;> intro c21 H
   ·
    subst c21
    refine ts 91 rfl rfl (sv (EV.ld (v := .agg #[.slice Ax3_7_0 x3_7_0.length cx3_7_0, .int .i64 x3_7_1, .bool x3_7_2]) 1 (some 3) rfl rfl rfl) rfl ?_)
    revert H; refine bdI ?_; rintro t22 A22 H
    refine so rfl (op_call (impl_IsValidAggregator.ok n0 x3_7_0 Ax3_7_0 cx3_7_0 x3_7_1 x3_7_2 _ A22) [⟨2, 0, 0, false⟩] 4 rfl rfl rfl rfl rfl ?_)
    rintro _ _ _ ⟨rfl, rfl, rfl⟩
    refine sv (EV.nt rfl) rfl (sv (EV.pf rfl rfl rfl) rfl (re (pr [2, 7, 95] [0, 1] [1, 2] rfl rfl rfl rfl ?_)))
    revert H; refine ifsI ?_ ?_ <;> intro c23 H
    ·
     subst c23
     refine gf rfl rfl (gk (gs (rg (sv (EV.ld (v := .agg #[.slice Ax3_7_0 x3_7_0.length cx3_7_0, .int .i64 x3_7_1, .bool x3_7_2]) 1 (some 3) rfl rfl rfl) rfl (so rfl (op_st (cs' := [.slice Ax3_7_0 x3_7_0.length cx3_7_0, .int .i64 x3_7_1, .bool x3_7_2]) 0 rfl rfl rfl rfl rfl rfl (sv (EV.as rfl) rfl (re ?_))))))))
     cases H
     exact rt Try.func31 rfl (.cell 0 (some 3) rfl rfl rfl (.tmp rfl .nil)) rfl [] [⟨1, 2, 1, true⟩] rfl rfl rfl rfl rfl ⟨_, _, rfl, rfl, rfl⟩
    ·
     obtain rfl := bF c23
     refine gt rfl rfl (gs (rg (sv (EV.bd (v := .agg #[.slice none 0 0, .int .i64 0, .bool false]) rfl (by kernel_rfl)) rfl (so rfl (op_st (cs' := [.slice none 0 0, .int .i64 0, .bool false]) 0 rfl rfl rfl rfl rfl rfl (sv (EV.as rfl) rfl (re (nil_ k99 4 dq ?_))))))))
     cases H
     exact rt Try.func31 rfl (.cell 0 (some 3) rfl rfl rfl (.tmp rfl .nil)) rfl [] [⟨2, 2, 1, true⟩] rfl rfl rfl rfl rfl ⟨_, _, rfl, rfl, rfl⟩
   ·
    obtain rfl := bF c21
    refine ts 91 rfl rfl (sk rfl (sk rfl (sk rfl (sv (EV.pt rfl rfl rfl) rfl (re (pr [2, 7, 95] [0, 1] [1, 2] rfl rfl rfl rfl (gt rfl rfl (gs (rg (sv (EV.bd (v := .agg #[.slice none 0 0, .int .i64 0, .bool false]) rfl (by kernel_rfl)) rfl (so rfl (op_st (cs' := [.slice none 0 0, .int .i64 0, .bool false]) 0 rfl rfl rfl rfl rfl rfl (sv (EV.as rfl) rfl (re (nil_ k99 4 dq ?_)))))))))))))))
    cases H
    exact rt Try.func31 rfl (.cell 0 (some 3) rfl rfl rfl (.tmp rfl .nil)) rfl [] [⟨2, 2, 1, true⟩] rfl rfl rfl rfl rfl ⟨_, _, rfl, rfl, rfl⟩
 ·
  refine gs (rg (sv (EV.mv rfl) rfl (sv (EV.ln rfl) rfl (sv (EV.lss rfl rfl) rfl (sv (EV.mv rfl) rfl ?_)))))
  revert H; refine ifsI ?_ ?_ <;> intro c24 H
  ·
   refine ts 20 rfl (dT c24) (sk rfl (sk rfl (sk rfl (sk rfl (sk rfl (sk rfl (sk rfl (sk rfl (sk rfl (sk rfl (sv (EV.pt rfl rfl rfl) rfl (re (pr [2, 4, 31] [0] [0] rfl rfl rfl rfl (gt rfl rfl (gs (rg (sv (EV.bd (v := .agg #[.slice none 0 0, .int .i64 0, .bool false]) rfl (by kernel_rfl)) rfl (so rfl (op_st (cs' := [.slice none 0 0, .int .i64 0, .bool false]) 0 rfl rfl rfl rfl rfl rfl (sv (EV.as rfl) rfl (re (nil_ k99 3 dq ?_))))))))))))))))))))))
   cases H
   exact rt Try.func31 rfl (.cell 0 (some 3) rfl rfl rfl (.tmp rfl .nil)) rfl [] [⟨1, 2, 1, true⟩] rfl rfl rfl rfl rfl ⟨_, _, rfl, rfl, rfl⟩
  ·
   refine ts 20 rfl (dF c24) (sv (EV.mv rfl) rfl ?_)
   revert H; refine ggI ?_; intro g25 H
   refine sv (EV.ix 0 rfl rfl rfl dq g25 rfl) rfl (sv (EV.le (v := .string (rdOf ByteArray.empty t1 1)) 1 0 none 0 ByteArray.empty rfl rfl rfl dq g25 rfl rfl rfl) rfl (sv (EV.nes rfl rfl) rfl (sv (EV.mv rfl) rfl ?_)))
   revert H; refine ifsI ?_ ?_ <;> intro c26 H
   ·
    exact ts 25 rfl (nF c26) (sk rfl (sk rfl (sk rfl (sk rfl (sv (EV.pf rfl rfl rfl) rfl (sv (EV.pf rfl rfl rfl) rfl (re (pr [2, 4, 31] [0] [0] rfl rfl rfl rfl (gf rfl rfl (gk (nil_ k99 3 dq (wk [2, 4] [0] [⟨0, 2, 1, true⟩, ⟨1, 2, 2, true⟩] (jh0 _ ⟨_, t1, At1, ct1, [], none, 0, 0, false, H, rfl⟩)))))))))))))
   ·
    refine ts 25 rfl (nT c26) (sv (EV.mv rfl) rfl (sv (EV.ix 0 rfl rfl rfl dq g25 rfl) rfl (sv (EV.le (v := .string (rdOf ByteArray.empty t1 1)) 1 0 none 0 ByteArray.empty rfl rfl rfl dq g25 rfl rfl rfl) rfl (sv (EV.nes rfl rfl) rfl (sv (EV.pt rfl rfl rfl) rfl (sv (EV.pf rfl rfl rfl) rfl (re (pr [2, 4, 31] [0] [0] rfl rfl rfl rfl ?_))))))))
    revert H; refine ifsI ?_ ?_ <;> intro c27 H
    ·
     exact gf rfl (nF c27) (gk (nil_ k99 3 dq (wk [2, 4] [0] [⟨0, 2, 1, true⟩, ⟨1, 2, 2, true⟩] (jh0 _ ⟨_, t1, At1, ct1, [], none, 0, 0, false, H, rfl⟩))))
    ·
     refine gt rfl (nT c27) (gs (rg (sv (EV.bd (v := .agg #[.slice none 0 0, .int .i64 0, .bool false]) rfl (by kernel_rfl)) rfl (so rfl (op_st (cs' := [.slice none 0 0, .int .i64 0, .bool false]) 0 rfl rfl rfl rfl rfl rfl (sv (EV.as rfl) rfl (re (nil_ k99 3 dq ?_))))))))
     cases H
     exact rt Try.func31 rfl (.cell 0 (some 3) rfl rfl rfl (.tmp rfl .nil)) rfl [] [⟨1, 2, 1, true⟩] rfl rfl rfl rfl rfl ⟨_, _, rfl, rfl, rfl⟩
end Go.Proofs.Ytnllplklggoabaa.K
namespace Go.Proofs.Ytnllplklggoabaa.K
open Go Go.RowKit
set_option linter.unusedVariables false
set_option linter.unusedSimpArgs false
def laws_markRowS.l0 : Nat → (List S124) → Int → Int → Option (Int × (List S124))
 | 0, _, _, _ => none
 | k + 1, x2_ml0, x2_1, x2_5 => if x2_5 < (x2_ml0.length : Int) then (if 0 ≤ x2_5 then ((some (x2_ml0.set x2_5.toNat (⟨x2_1, (rd_T124 x2_ml0 x2_5).f1, (rd_T124 x2_ml0 x2_5).f2⟩ : S124))).bind fun s3 => (if x2_5 < (s3.length : Int) then ((some (s3.set x2_5.toNat (⟨(rd_T124 s3 x2_5).f0, wrap64 (x2_1 + 1), (rd_T124 s3 x2_5).f2⟩ : S124))).bind fun s5 => (if x2_5 < (s5.length : Int) then ((some (s5.set x2_5.toNat (⟨(rd_T124 s5 x2_5).f0, (rd_T124 s5 x2_5).f1, wrap64 ((wrap64 (x2_1 + 1)) + 1)⟩ : S124))).bind fun s7 => (laws_markRowS.l0 k s7 (wrap64 ((wrap64 ((wrap64 (x2_1 + 1)) + 1)) + 1)) (wrap64 (x2_5 + 1)))) else none)) else none)) else none) else (some (x2_1, x2_ml0))
def laws_markRowS.f (k : Nat) (l0 : List S124) (a1 : Int) : Option (Int × (List S124)) := laws_markRowS.l0 k l0 a1 0
set_option maxHeartbeats 4000000 in
set_option maxRecDepth 100000 in
theorem laws_markRowS.ok (k : Nat) (l0 : List S124) (Al0 : Option Addr) (cl0 : Nat) (a1 : Int) (r0 : Int) (r1 : List S124) (H : laws_markRowS.f k l0 a1 = some (r0, r1)) : Fn Try.prog 77 [.slice Al0 l0.length cl0, .int .i64 a1] [] [.sl 1 k124 Al0 cl0 l0 1 false] (fun v bx en => v = .int .i64 r0 ∧ bx = [] ∧ en = [.sl 1 k124 Al0 cl0 r1 1 false] ∧ r1.length = l0.length) := by
 refine fn_ 34 Try.func77 rfl rfl rfl (fun base T w0 => ?_)
 rw [laws_markRowS.f] at H
 refine gs (rg (sv (EV.as rfl) rfl (re (gs (gs (rg (sv (EV.as rfl) rfl (re (gb ?_)))))))))
 refine lo (fun kk S => ∃ (x2_ml0 : List S124) (x2_1 : Int) (x2_5 : Int), laws_markRowS.l0 kk x2_ml0 x2_1 x2_5 = some (r0, r1) ∧ x2_ml0.length = l0.length ∧ S = ⟨[(0, .slice Al0 x2_ml0.length cl0), (1, .int .i64 x2_1), (5, .int .i64 x2_5)], [], [.sl 1 k124 Al0 cl0 x2_ml0 1 false]⟩) (fun S hS => ?_) (fun n0 ih0 S hS => ?_) ⟨l0, a1, 0, H, (by first | rfl | assumption | omega | (simp only [List.length_set]; first | done | assumption | omega)), rfl⟩ (fun h => wk [0, 1, 5] [] [⟨0, 1, 1, false⟩] h)
 · clear H; obtain ⟨_, _, _, H, _⟩ := hS; rw [laws_markRowS.l0] at H; cases H
 clear H
 obtain ⟨x2_ml0, x2_1, x2_5, H, ex2_ml0, rfl⟩ := hS
 rw [laws_markRowS.l0] at H
 refine gs (gs (rg (sv (EV.mv rfl) rfl (sv (EV.mv rfl) rfl (sv (EV.ln rfl) rfl (sv (EV.lss rfl rfl) rfl (re ?_)))))))
 revert H; refine ifsI ?_ ?_ <;> intro c1 H
 ·
  refine gt rfl (dT c1) (gk (gs (gb (gs (rg (sv (EV.mv rfl) rfl (sv (EV.mv rfl) rfl (sv (EV.mv rfl) rfl ?_))))))))
  revert H; refine ggI ?_; intro g2 H
  refine sv (EV.ix 0 rfl rfl rfl g2 c1 rfl) rfl (sv (EV.fa 0 rfl) rfl ?_)
  revert H; refine bdI ?_; intro s3 A3 H; have q3 := stl (Option.some.inj A3)
  refine so rfl (op_stg x2_5 0 0 z124 (⟨x2_1, (rd_T124 x2_ml0 x2_5).f1, (rd_T124 x2_ml0 x2_5).f2⟩ : S124) (Option.some.inj A3) rfl rfl rfl rfl g2 c1 rfl rfl rfl rfl dq rfl (rlT 0 (v' := .slice Al0 s3.length cl0) rfl (slq _ _ q3) (rlT 7 (v' := .slice Al0 s3.length cl0) rfl (slq _ _ q3) (rlT 12 (v' := .slice Al0 s3.length cl0) rfl (slq _ _ q3) (nmE (en := [.sl 1 k124 Al0 cl0 s3 1 true]) (by kernel_rfl) (re (pr [0, 1, 5] [] [0] rfl rfl rfl rfl (gs (rg (sv (EV.mv rfl) rfl (sv (EV.add rfl rfl) rfl (sv (EV.as rfl) rfl (re (gs (rg (sv (EV.mv rfl) rfl (sv (EV.mv rfl) rfl (sv (EV.mv rfl) rfl ?_))))))))))))))))))
  revert H; refine ggI ?_; intro g4 H
  refine sv (EV.ix 0 rfl rfl rfl g2 g4 rfl) rfl (sv (EV.fa 1 rfl) rfl ?_)
  revert H; refine bdI ?_; intro s5 A5 H; have q5 := stl (Option.some.inj A5)
  refine so rfl (op_stg x2_5 1 0 z124 (⟨(rd_T124 s3 x2_5).f0, wrap64 (x2_1 + 1), (rd_T124 s3 x2_5).f2⟩ : S124) (Option.some.inj A5) rfl rfl rfl rfl g2 g4 rfl rfl rfl rfl dq rfl (rlT 0 (v' := .slice Al0 s5.length cl0) rfl (slq _ _ q5) (rlT 19 (v' := .slice Al0 s5.length cl0) rfl (slq _ _ q5) (nmE (en := [.sl 1 k124 Al0 cl0 s5 1 true]) (by kernel_rfl) (re (gs (rg (sv (EV.mv rfl) rfl (sv (EV.add rfl rfl) rfl (sv (EV.as rfl) rfl (re (pr [0, 1, 5] [] [0] rfl rfl rfl rfl (gs (rg (sv (EV.mv rfl) rfl (sv (EV.mv rfl) rfl (sv (EV.mv rfl) rfl ?_)))))))))))))))))
  revert H; refine ggI ?_; intro g6 H
  refine sv (EV.ix 0 rfl rfl rfl g2 g6 rfl) rfl (sv (EV.fa 2 rfl) rfl ?_)
  revert H; refine bdI ?_; intro s7 A7 H; have q7 := stl (Option.some.inj A7)
  exact so rfl (op_stg x2_5 2 0 z124 (⟨(rd_T124 s5 x2_5).f0, (rd_T124 s5 x2_5).f1, wrap64 ((wrap64 (x2_1 + 1)) + 1)⟩ : S124) (Option.some.inj A7) rfl rfl rfl rfl g2 g6 rfl rfl rfl rfl dq rfl (rlT 0 (v' := .slice Al0 s7.length cl0) rfl (slq _ _ q7) (rlT 26 (v' := .slice Al0 s7.length cl0) rfl (slq _ _ q7) (nmE (en := [.sl 1 k124 Al0 cl0 s7 1 true]) (by kernel_rfl) (re (rg (sv (EV.mv rfl) rfl (sv (EV.add rfl rfl) rfl (sv (EV.as rfl) rfl (re (ge (rg (sv (EV.mv rfl) rfl (sv (EV.add rfl rfl) rfl (sv (EV.as rfl) rfl (re (pr [0, 1, 5] [] [0] rfl rfl rfl rfl (wk [0, 1, 5] [] [⟨0, 1, 1, false⟩] (ih0 _ (by omega) _ ⟨s7, wrap64 ((wrap64 ((wrap64 (x2_1 + 1)) + 1)) + 1), wrap64 (x2_5 + 1), H, (by first | rfl | assumption | omega | (simp only [List.length_set]; first | done | assumption | omega)), rfl⟩)))))))))))))))))))
 ·
  refine gf rfl (dF c1) (gx rfl (gs (rg (sv (EV.mv rfl) rfl (sv (EV.as rfl) rfl (re (pr [4] [] [0] rfl rfl rfl rfl ?_)))))))
  cases H
  exact rt Try.func77 rfl (.tmp rfl .nil) rfl [] [⟨0, 1, 1, false⟩] rfl rfl rfl rfl rfl ⟨rfl, rfl, rfl, by first | rfl | assumption | omega | (simp only [List.length_set]; first | done | assumption | omega)⟩
end Go.Proofs.Ytnllplklggoabaa.K
namespace Go.Proofs.Ytnllplklggoabaa.K
open Go Go.RowKit
set_option linter.unusedVariables false
set_option linter.unusedSimpArgs false
def laws_markGroupTaskS.l0 : Nat → (List S99) → Int → Int → Option (Int × (List S99))
 | 0, _, _, _ => none
 | k + 1, x2_ml0, x2_1, x2_5 => if x2_5 < (x2_ml0.length : Int) then (if 0 ≤ x2_5 then ((laws_markRowS.f k ((rd_T99 x2_ml0 x2_5).f0) x2_1).bind fun bt4 => ((some (x2_ml0.set x2_5.toNat (⟨bt4.2, (rd_T99 x2_ml0 x2_5).f1⟩ : S99))).bind fun s5 => (if x2_5 < (s5.length : Int) then ((some (s5.set x2_5.toNat (⟨(rd_T99 s5 x2_5).f0, bt4.1⟩ : S99))).bind fun s8 => (laws_markGroupTaskS.l0 k s8 (wrap64 (bt4.1 + 1)) (wrap64 (x2_5 + 1)))) else none))) else none) else (some (x2_1, x2_ml0))
def laws_markGroupTaskS.f (k : Nat) (l0 : List S99) (a1 : Int) : Option (Int × (List S99)) := laws_markGroupTaskS.l0 k l0 a1 0
set_option maxHeartbeats 4000000 in
set_option maxRecDepth 100000 in
theorem laws_markGroupTaskS.ok (k : Nat) (l0 : List S99) (Al0 : Option Addr) (cl0 : Nat) (a1 : Int) (r0 : Int) (r1 : List S99) (H : laws_markGroupTaskS.f k l0 a1 = some (r0, r1)) : Fn Try.prog 75 [.slice Al0 l0.length cl0, .int .i64 a1] [] [.sl 1 k99 Al0 cl0 l0 1 true] (fun v bx en => v = .int .i64 r0 ∧ bx = [] ∧ en = [.sl 1 k99 Al0 cl0 r1 1 true] ∧ r1.length = l0.length) := by
 refine fn_ 27 Try.func75 rfl rfl rfl (fun base T w0 => ?_)
 rw [laws_markGroupTaskS.f] at H
 refine gs (rg (sv (EV.as rfl) rfl (re (gs (gs (rg (sv (EV.as rfl) rfl (re (gb ?_)))))))))
 refine lo (fun kk S => ∃ (x2_ml0 : List S99) (x2_1 : Int) (x2_5 : Int), laws_markGroupTaskS.l0 kk x2_ml0 x2_1 x2_5 = some (r0, r1) ∧ x2_ml0.length = l0.length ∧ S = ⟨[(0, .slice Al0 x2_ml0.length cl0), (1, .int .i64 x2_1), (5, .int .i64 x2_5)], [], [.sl 1 k99 Al0 cl0 x2_ml0 1 true]⟩) (fun S hS => ?_) (fun n0 ih0 S hS => ?_) ⟨l0, a1, 0, H, (by first | rfl | assumption | omega | (simp only [List.length_set]; first | done | assumption | omega)), rfl⟩ (fun h => wk [0, 1, 5] [] [⟨0, 1, 1, true⟩] h)
 · clear H; obtain ⟨_, _, _, H, _⟩ := hS; rw [laws_markGroupTaskS.l0] at H; cases H
 clear H
 obtain ⟨x2_ml0, x2_1, x2_5, H, ex2_ml0, rfl⟩ := hS
 rw [laws_markGroupTaskS.l0] at H
 refine gs (gs (rg (sv (EV.mv rfl) rfl (sv (EV.mv rfl) rfl (sv (EV.ln rfl) rfl (sv (EV.lss rfl rfl) rfl (re ?_)))))))
 revert H; refine ifsI ?_ ?_ <;> intro c1 H
 ·
  refine gt rfl (dT c1) (gk (gs (gb (gs (rg (sv (EV.mv rfl) rfl (sv (EV.mv rfl) rfl ?_)))))))
  revert H; refine ggI ?_; intro g2 H
  refine sv (EV.ix 0 rfl rfl rfl g2 c1 rfl) rfl (sv (EV.fa 0 rfl) rfl (opn (i := x2_5) 0 z99 rfl g2 c1 fun A_3 c_3 => (sv (EV.lc (v := .slice A_3 ((rd_T99 x2_ml0 x2_5).f0).length c_3) 0 none 1 rfl rfl rfl rfl) rfl (sv (EV.mv rfl) rfl (opnH (i := x2_5) (s := 2) (cls' := 1) [(A_3, c_3)] 0 1 2 z99 rfl rfl (by kernel_rfl) g2 c1 dq rfl rfl (nmE (en := [holE k99 1 Al0 cl0 x2_ml0 x2_5.toNat [.slice A_3 ((rd_T99 x2_ml0 x2_5).f0).length c_3, .int .i64 ((rd_T99 x2_ml0 x2_5).f1)] 2, .sl 1 k124 A_3 c_3 ((rd_T99 x2_ml0 x2_5).f0) 3 true]) (by kernel_rfl) ?_))))))
  revert H; refine bdI ?_; rintro ⟨t4_0, t4_1⟩ A4 H
  refine so rfl (op_callM (laws_markRowS.ok n0 ((rd_T99 x2_ml0 x2_5).f0) A_3 c_3 x2_1 _ _ A4) [⟨1, 1, 1, false⟩] [] [] 4 rfl rfl rfl rfl rfl rfl rfl rfl ?_)
  rintro _ _ _ ⟨rfl, rfl, rfl, q4_0⟩
  refine linF 1 rfl rfl ?_
  revert H; refine bdI ?_; intro s5 A5 H; have q5 := stl (Option.some.inj A5)
  refine hcl 0 (⟨t4_1, (rd_T99 x2_ml0 x2_5).f1⟩ : S99) [(A_3, c_3)] [2] (Option.some.inj A5) rfl (by rw [← q4_0]; rfl) rfl (by kernel_rfl) (by kernel_rfl) (by kernel_rfl) (nmE (en := [.sl 1 k124 A_3 c_3 t4_1 2 false, .sl 1 k124 A_3 c_3 t4_1 2 true, .sl 1 k99 Al0 cl0 s5 2 true]) (by kernel_rfl) (rlT 0 (v' := .slice Al0 s5.length cl0) rfl (slq _ _ q5) (rlT 7 (v' := .slice Al0 s5.length cl0) rfl (slq _ _ q5) (rlT 12 (v' := .slice Al0 s5.length cl0) rfl (slq _ _ q5) (nmE (en := [.sl 1 k124 A_3 c_3 t4_1 2 false, .sl 1 k124 A_3 c_3 t4_1 2 true, .sl 1 k99 Al0 cl0 s5 2 true]) (by kernel_rfl) (sv (EV.as rfl) rfl (re (pr [0, 1, 5] [] [2] rfl rfl rfl rfl (gs (rg (sv (EV.mv rfl) rfl (sv (EV.mv rfl) rfl (sv (EV.mv rfl) rfl ?_)))))))))))))
  revert H; refine ggI ?_; intro g6 H
  refine sv (EV.ix 0 rfl rfl rfl g2 g6 rfl) rfl (sv (EV.fa 1 rfl) rfl (opn (i := x2_5) 0 z99 rfl g2 g6 fun A_7 c_7 => (opnH (i := x2_5) (s := 2) (cls' := 2) [(A_7, c_7)] 0 1 3 z99 rfl rfl (by kernel_rfl) g2 g6 dq rfl rfl (nmE (en := [holE k99 1 Al0 cl0 s5 x2_5.toNat [.slice A_7 ((rd_T99 s5 x2_5).f0).length c_7, .int .i64 ((rd_T99 s5 x2_5).f1)] 3, .sl 1 k124 A_7 c_7 ((rd_T99 s5 x2_5).f0) 4 true]) (by kernel_rfl) (so rfl (op_sth (cs' := [.slice A_7 ((rd_T99 s5 x2_5).f0).length c_7, .int .i64 t4_0]) 1 0 rfl rfl rfl rfl rfl (by kernel_rfl) rfl rfl (nmE (en := [.sl 1 k124 A_7 c_7 ((rd_T99 s5 x2_5).f0) 4 true, holE k99 1 Al0 cl0 s5 x2_5.toNat [.slice A_7 ((rd_T99 s5 x2_5).f0).length c_7, .int .i64 t4_0] 3]) (by kernel_rfl) ?_)))))))
  revert H; refine bdI ?_; intro s8 A8 H; have q8 := stl (Option.some.inj A8)
  exact hcl 1 (⟨(rd_T99 s5 x2_5).f0, t4_0⟩ : S99) [(A_7, c_7)] [0] (Option.some.inj A8) rfl (by kernel_rfl) rfl (by kernel_rfl) (by kernel_rfl) (by kernel_rfl) (nmE (en := [.sl 1 k124 A_7 c_7 ((rd_T99 s5 x2_5).f0) 3 true, .sl 1 k99 Al0 cl0 s8 3 true]) (by kernel_rfl) (rlT 0 (v' := .slice Al0 s8.length cl0) rfl (slq _ _ q8) (rlT 19 (v' := .slice Al0 s8.length cl0) rfl (slq _ _ q8) (re (rg (sv (EV.mv rfl) rfl (sv (EV.add rfl rfl) rfl (sv (EV.as rfl) rfl (re (ge (rg (sv (EV.mv rfl) rfl (sv (EV.add rfl rfl) rfl (sv (EV.as rfl) rfl (re (pr [0, 1, 5] [] [1] rfl rfl rfl rfl (wk [0, 1, 5] [] [⟨0, 1, 1, true⟩] (ih0 _ (by omega) _ ⟨s8, wrap64 (t4_0 + 1), wrap64 (x2_5 + 1), H, (by first | rfl | assumption | omega | (simp only [List.length_set]; first | done | assumption | omega)), rfl⟩))))))))))))))))))
 ·
  refine gf rfl (dF c1) (gx rfl (gs (rg (sv (EV.mv rfl) rfl (sv (EV.as rfl) rfl (re (pr [4] [] [0] rfl rfl rfl rfl ?_)))))))
  cases H
  exact rt Try.func75 rfl (.tmp rfl .nil) rfl [] [⟨0, 1, 1, true⟩] rfl rfl rfl rfl rfl ⟨rfl, rfl, rfl, by first | rfl | assumption | omega | (simp only [List.length_set]; first | done | assumption | omega)⟩
end Go.Proofs.Ytnllplklggoabaa.K
namespace Go.Proofs.Ytnllplklggoabaa.K
open Go Go.RowKit
set_option linter.unusedVariables false
set_option linter.unusedSimpArgs false
def laws_markAggregator.f (k : Nat) (l0_0 : List S99) (a0_1 : Int) (a0_2 : Bool) (a1 : Int) : Option (Int × (List S99)) := (laws_markGroupTaskS.f k l0_0 a1).bind fun bt1 => (some (bt1.1, bt1.2))
set_option maxHeartbeats 4000000 in
set_option maxRecDepth 100000 in
theorem laws_markAggregator.ok (k : Nat) (l0_0 : List S99) (Al0_0 : Option Addr) (cl0_0 : Nat) (a0_1 : Int) (a0_2 : Bool) (a1 : Int) (r0 : Int) (r1 : List S99) (H : laws_markAggregator.f k l0_0 a0_1 a0_2 a1 = some (r0, r1)) : Fn Try.prog 32 [.agg #[.slice Al0_0 l0_0.length cl0_0, .int .i64 a0_1, .bool a0_2], .int .i64 a1] [] [.sl 1 k99 Al0_0 cl0_0 l0_0 1 true] (fun v bx en => v = .int .i64 r0 ∧ bx = [] ∧ en = [.sl 1 k99 Al0_0 cl0_0 r1 1 true] ∧ r1.length = l0_0.length) := by
 refine fn_ 10 Try.func32 rfl rfl rfl (fun base T w0 => ?_)
 rw [laws_markAggregator.f] at H
 refine gs (rg (so rfl (op_box (cs := [.slice Al0_0 l0_0.length cl0_0, .int .i64 a0_1, .bool a0_2]) rfl rfl rfl fun b2 => (sv (EV.as rfl) rfl (re (gs (rg (sv (EV.fa 0 rfl) rfl (sv (EV.ld 0 none rfl rfl rfl) rfl (sv (EV.mv rfl) rfl ?_))))))))))
 revert H; refine bdI ?_; rintro ⟨t1_0, t1_1⟩ A1 H
 refine so rfl (op_callM (laws_markGroupTaskS.ok k l0_0 Al0_0 cl0_0 a1 _ _ A1) [⟨0, 1, 1, true⟩] [] [0] 2 rfl rfl rfl rfl rfl rfl rfl rfl ?_)
 rintro _ _ _ ⟨rfl, rfl, rfl, q1_0⟩
 refine rlT 0 (v' := .agg #[.slice Al0_0 t1_1.length cl0_0, .int .i64 a0_1, .bool a0_2]) rfl (by simp only [q1_0]) (rlT 6 (v' := .slice Al0_0 t1_1.length cl0_0) rfl (slq _ _ q1_0) (rlB 0 (cs' := [.slice Al0_0 t1_1.length cl0_0, .int .i64 a0_1, .bool a0_2]) rfl (by simp only [q1_0]) (nmE (en := [.sl 1 k99 Al0_0 cl0_0 t1_1 3 true]) (by kernel_rfl) (sv (EV.as rfl) rfl (re (pr [1] [] [0] rfl rfl rfl rfl (gs (rg (sv (EV.mv rfl) rfl (sv (EV.as rfl) rfl (re ?_)))))))))))
 cases H
 exact rt Try.func32 rfl (.tmp rfl .nil) rfl [] [⟨0, 1, 1, true⟩] rfl rfl rfl rfl rfl ⟨rfl, rfl, rfl, by first | rfl | assumption | omega | (simp only [List.length_set]; first | done | assumption | omega)⟩
end Go.Proofs.Ytnllplklggoabaa.K
namespace Go.Proofs.Ytnllplklggoabaa.K
open Go Go.RowKit
set_option linter.unusedVariables false
set_option linter.unusedSimpArgs false
def laws_heldRowS.l0 : Nat → Int → Int → (List S124) → Option (Int)
 | 0, _, _, _ => none
 | k + 1, x2_1, x2_5, l0 => if x2_5 < (l0.length : Int) then (if 0 ≤ x2_5 then (if ((rd_T124 l0 x2_5).f0) = x2_1 then (if ((rd_T124 l0 x2_5).f1) = (wrap64 (x2_1 + 1)) then (if ((rd_T124 l0 x2_5).f2) = (wrap64 ((wrap64 (x2_1 + 1)) + 1)) then (laws_heldRowS.l0 k (wrap64 ((wrap64 ((wrap64 (x2_1 + 1)) + 1)) + 1)) (wrap64 (x2_5 + 1)) l0) else (some (-1))) else (some (-1))) else (some (-1))) else none) else (some x2_1)
def laws_heldRowS.f (k : Nat) (l0 : List S124) (a1 : Int) : Option (Int) := laws_heldRowS.l0 k a1 0 l0
set_option maxHeartbeats 4000000 in
set_option maxRecDepth 100000 in
theorem laws_heldRowS.ok (k : Nat) (l0 : List S124) (Al0 : Option Addr) (cl0 : Nat) (a1 : Int) (r0 : Int) (H : laws_heldRowS.f k l0 a1 = some r0) : Fn Try.prog 79 [.slice Al0 l0.length cl0, .int .i64 a1] [] [.sl 0 k124 Al0 cl0 l0 0 false] (fun v bx en => v = .int .i64 r0 ∧ bx = [] ∧ en = []) := by
 refine fn_ 40 Try.func79 rfl rfl rfl (fun base T w0 => ?_)
 rw [laws_heldRowS.f] at H
 refine gs (rg (sv (EV.as rfl) rfl (re (gs (gs (rg (sv (EV.as rfl) rfl (re (gb ?_)))))))))
 refine lo (fun kk S => ∃ (x2_1 : Int) (x2_5 : Int), laws_heldRowS.l0 kk x2_1 x2_5 l0 = some r0 ∧ S = ⟨[(0, .slice Al0 l0.length cl0), (1, .int .i64 x2_1), (5, .int .i64 x2_5)], [], [.sl 0 k124 Al0 cl0 l0 0 false]⟩) (fun S hS => ?_) (fun n0 ih0 S hS => ?_) ⟨a1, 0, H, rfl⟩ (fun h => wk [0, 1, 5] [] [⟨0, 0, 0, false⟩] h)
 · clear H; obtain ⟨_, _, H, _⟩ := hS; rw [laws_heldRowS.l0] at H; cases H
 clear H
 obtain ⟨x2_1, x2_5, H, rfl⟩ := hS
 rw [laws_heldRowS.l0] at H
 refine gs (gs (rg (sv (EV.mv rfl) rfl (sv (EV.mv rfl) rfl (sv (EV.ln rfl) rfl (sv (EV.lss rfl rfl) rfl (re ?_)))))))
 revert H; refine ifsI ?_ ?_ <;> intro c1 H
 ·
  refine gt rfl (dT c1) (gk (gs (gb (gs (gs (rg (sv (EV.mv rfl) rfl (sv (EV.mv rfl) rfl ?_))))))))
  revert H; refine ggI ?_; intro g2 H
  refine sv (EV.ix 0 rfl rfl rfl g2 c1 rfl) rfl (sv (EV.fa 0 rfl) rfl (sv (EV.le (v := .int .i64 ((rd_T124 l0 x2_5).f0)) x2_5 0 none 0 z124 rfl rfl rfl g2 c1 rfl rfl rfl) rfl (sv (EV.mv rfl) rfl (sv (EV.neq rfl rfl) rfl (re (pr [0, 1, 5, 18] [] [0] rfl rfl rfl rfl ?_))))))
  revert H; refine ifsI ?_ ?_ <;> intro c3 H
  ·
   refine gf rfl (nF c3) (gk (gs (rg (sv (EV.mv rfl) rfl (sv (EV.add rfl rfl) rfl (sv (EV.as rfl) rfl (re (gs (gs (rg (sv (EV.mv rfl) rfl (sv (EV.mv rfl) rfl (sv (EV.ix 0 rfl rfl rfl g2 c1 rfl) rfl (sv (EV.fa 1 rfl) rfl (sv (EV.le (v := .int .i64 ((rd_T124 l0 x2_5).f1)) x2_5 1 none 0 z124 rfl rfl rfl g2 c1 rfl rfl rfl) rfl (sv (EV.mv rfl) rfl (sv (EV.neq rfl rfl) rfl (re (pr [0, 1, 5, 27] [] [0] rfl rfl rfl rfl ?_)))))))))))))))))))
   revert H; refine ifsI ?_ ?_ <;> intro c4 H
   ·
    refine gf rfl (nF c4) (gk (gs (rg (sv (EV.mv rfl) rfl (sv (EV.add rfl rfl) rfl (sv (EV.as rfl) rfl (re (gs (gs (rg (sv (EV.mv rfl) rfl (sv (EV.mv rfl) rfl (sv (EV.ix 0 rfl rfl rfl g2 c1 rfl) rfl (sv (EV.fa 2 rfl) rfl (sv (EV.le (v := .int .i64 ((rd_T124 l0 x2_5).f2)) x2_5 2 none 0 z124 rfl rfl rfl g2 c1 rfl rfl rfl) rfl (sv (EV.mv rfl) rfl (sv (EV.neq rfl rfl) rfl (re (pr [0, 1, 5, 36] [] [0] rfl rfl rfl rfl ?_)))))))))))))))))))
    revert H; refine ifsI ?_ ?_ <;> intro c5 H
    ·
     exact gf rfl (nF c5) (gk (rg (sv (EV.mv rfl) rfl (sv (EV.add rfl rfl) rfl (sv (EV.as rfl) rfl (re (ge (rg (sv (EV.mv rfl) rfl (sv (EV.add rfl rfl) rfl (sv (EV.as rfl) rfl (re (wk [0, 1, 5] [] [⟨0, 0, 0, false⟩] (ih0 _ (by omega) _ ⟨wrap64 ((wrap64 ((wrap64 (x2_1 + 1)) + 1)) + 1), wrap64 (x2_5 + 1), H, rfl⟩))))))))))))))
    ·
     refine gt rfl (nT c5) (gs (rg (sv (EV.as rfl) rfl (re ?_))))
     cases H
     exact rt Try.func79 rfl (.tmp rfl .nil) rfl [] [] rfl rfl rfl rfl rfl ⟨rfl, rfl, rfl⟩
   ·
    refine gt rfl (nT c4) (gs (rg (sv (EV.as rfl) rfl (re ?_))))
    cases H
    exact rt Try.func79 rfl (.tmp rfl .nil) rfl [] [] rfl rfl rfl rfl rfl ⟨rfl, rfl, rfl⟩
  ·
   refine gt rfl (nT c3) (gs (rg (sv (EV.as rfl) rfl (re ?_))))
   cases H
   exact rt Try.func79 rfl (.tmp rfl .nil) rfl [] [] rfl rfl rfl rfl rfl ⟨rfl, rfl, rfl⟩
 ·
  refine gf rfl (dF c1) (gx rfl (gs (rg (sv (EV.mv rfl) rfl (sv (EV.as rfl) rfl (re (pr [4] [] [] rfl rfl rfl rfl ?_)))))))
  cases H
  exact rt Try.func79 rfl (.tmp rfl .nil) rfl [] [] rfl rfl rfl rfl rfl ⟨rfl, rfl, rfl⟩
end Go.Proofs.Ytnllplklggoabaa.K
namespace Go.Proofs.Ytnllplklggoabaa.K
open Go Go.RowKit
set_option linter.unusedVariables false
set_option linter.unusedSimpArgs false
def laws_heldGroupTaskS.l0 : Nat → Int → Int → (List S99) → Option (Int)
 | 0, _, _, _ => none
 | k + 1, x2_1, x2_5, l0 => if x2_5 < (l0.length : Int) then (if 0 ≤ x2_5 then ((laws_heldRowS.f k ((rd_T99 l0 x2_5).f0) x2_1).bind fun t4 => (if t4 < 0 then (some (-1)) else (if ((rd_T99 l0 x2_5).f1) = t4 then (laws_heldGroupTaskS.l0 k (wrap64 (t4 + 1)) (wrap64 (x2_5 + 1)) l0) else (some (-1))))) else none) else (some x2_1)
def laws_heldGroupTaskS.f (k : Nat) (l0 : List S99) (a1 : Int) : Option (Int) := laws_heldGroupTaskS.l0 k a1 0 l0
set_option maxHeartbeats 4000000 in
set_option maxRecDepth 100000 in
theorem laws_heldGroupTaskS.ok (k : Nat) (l0 : List S99) (Al0 : Option Addr) (cl0 : Nat) (a1 : Int) (r0 : Int) (H : laws_heldGroupTaskS.f k l0 a1 = some r0) : Fn Try.prog 76 [.slice Al0 l0.length cl0, .int .i64 a1] [] [.sl 0 k99 Al0 cl0 l0 0 false] (fun v bx en => v = .int .i64 r0 ∧ bx = [] ∧ en = []) := by
 refine fn_ 31 Try.func76 rfl rfl rfl (fun base T w0 => ?_)
 rw [laws_heldGroupTaskS.f] at H
 refine gs (rg (sv (EV.as rfl) rfl (re (gs (gs (rg (sv (EV.as rfl) rfl (re (gb ?_)))))))))
 refine lo (fun kk S => ∃ (x2_1 : Int) (x2_5 : Int), laws_heldGroupTaskS.l0 kk x2_1 x2_5 l0 = some r0 ∧ S = ⟨[(0, .slice Al0 l0.length cl0), (1, .int .i64 x2_1), (5, .int .i64 x2_5)], [], [.sl 0 k99 Al0 cl0 l0 0 false]⟩) (fun S hS => ?_) (fun n0 ih0 S hS => ?_) ⟨a1, 0, H, rfl⟩ (fun h => wk [0, 1, 5] [] [⟨0, 0, 0, false⟩] h)
 · clear H; obtain ⟨_, _, H, _⟩ := hS; rw [laws_heldGroupTaskS.l0] at H; cases H
 clear H
 obtain ⟨x2_1, x2_5, H, rfl⟩ := hS
 rw [laws_heldGroupTaskS.l0] at H
 refine gs (gs (rg (sv (EV.mv rfl) rfl (sv (EV.mv rfl) rfl (sv (EV.ln rfl) rfl (sv (EV.lss rfl rfl) rfl (re ?_)))))))
 revert H; refine ifsI ?_ ?_ <;> intro c1 H
 ·
  refine gt rfl (dT c1) (gk (gs (gb (gs (rg (sv (EV.mv rfl) rfl (sv (EV.mv rfl) rfl ?_)))))))
  revert H; refine ggI ?_; intro g2 H
  refine sv (EV.ix 0 rfl rfl rfl g2 c1 rfl) rfl (sv (EV.fa 0 rfl) rfl (opn (i := x2_5) 0 z99 rfl g2 c1 fun A_3 c_3 => (sv (EV.lc (v := .slice A_3 ((rd_T99 l0 x2_5).f0).length c_3) 0 none 1 rfl rfl rfl rfl) rfl (sv (EV.mv rfl) rfl ?_))))
  revert H; refine bdI ?_; rintro t4 A4 H
  refine so rfl (op_call (laws_heldRowS.ok n0 ((rd_T99 l0 x2_5).f0) A_3 c_3 x2_1 _ A4) [⟨2, 0, 0, false⟩] 1 rfl rfl rfl rfl rfl ?_)
  rintro _ _ _ ⟨rfl, rfl, rfl⟩
  refine sv (EV.as rfl) rfl (re (pr [0, 1, 5] [] [0] rfl rfl rfl rfl (gs (gs (rg (sv (EV.mv rfl) rfl (sv (EV.lss rfl rfl) rfl (re ?_))))))))
  revert H; refine ifsI ?_ ?_ <;> intro c5 H
  ·
   refine gt rfl (dT c5) (gs (rg (sv (EV.as rfl) rfl (re ?_))))
   cases H
   exact rt Try.func76 rfl (.tmp rfl .nil) rfl [] [] rfl rfl rfl rfl rfl ⟨rfl, rfl, rfl⟩
  ·
   refine gf rfl (dF c5) (gk (gs (gs (rg (sv (EV.mv rfl) rfl (sv (EV.mv rfl) rfl (sv (EV.ix 0 rfl rfl rfl g2 c1 rfl) rfl (sv (EV.fa 1 rfl) rfl (sv (EV.lf (v := .int .i64 ((rd_T99 l0 x2_5).f1)) x2_5 1 none 0 z99 rfl rfl rfl g2 c1 rfl (fun _ _ => rfl)) rfl (sv (EV.mv rfl) rfl (sv (EV.neq rfl rfl) rfl (re (pr [0, 1, 5, 27] [] [0] rfl rfl rfl rfl ?_)))))))))))))
   revert H; refine ifsI ?_ ?_ <;> intro c6 H
   ·
    exact gf rfl (nF c6) (gk (rg (sv (EV.mv rfl) rfl (sv (EV.add rfl rfl) rfl (sv (EV.as rfl) rfl (re (ge (rg (sv (EV.mv rfl) rfl (sv (EV.add rfl rfl) rfl (sv (EV.as rfl) rfl (re (wk [0, 1, 5] [] [⟨0, 0, 0, false⟩] (ih0 _ (by omega) _ ⟨wrap64 (t4 + 1), wrap64 (x2_5 + 1), H, rfl⟩))))))))))))))
   ·
    refine gt rfl (nT c6) (gs (rg (sv (EV.as rfl) rfl (re ?_))))
    cases H
    exact rt Try.func76 rfl (.tmp rfl .nil) rfl [] [] rfl rfl rfl rfl rfl ⟨rfl, rfl, rfl⟩
 ·
  refine gf rfl (dF c1) (gx rfl (gs (rg (sv (EV.mv rfl) rfl (sv (EV.as rfl) rfl (re (pr [4] [] [] rfl rfl rfl rfl ?_)))))))
  cases H
  exact rt Try.func76 rfl (.tmp rfl .nil) rfl [] [] rfl rfl rfl rfl rfl ⟨rfl, rfl, rfl⟩
end Go.Proofs.Ytnllplklggoabaa.K
namespace Go.Proofs.Ytnllplklggoabaa.K
open Go Go.RowKit
set_option linter.unusedVariables false
set_option linter.unusedSimpArgs false
def laws_heldAggregator.f (k : Nat) (l0_0 : List S99) (a0_1 : Int) (a0_2 : Bool) (a1 : Int) : Option (Int) := (laws_heldGroupTaskS.f k l0_0 a1).bind fun t1 => (if t1 < 0 then (some (-1)) else (some t1))
set_option maxHeartbeats 4000000 in
set_option maxRecDepth 100000 in
theorem laws_heldAggregator.ok (k : Nat) (l0_0 : List S99) (Al0_0 : Option Addr) (cl0_0 : Nat) (a0_1 : Int) (a0_2 : Bool) (a1 : Int) (r0 : Int) (H : laws_heldAggregator.f k l0_0 a0_1 a0_2 a1 = some r0) : Fn Try.prog 33 [.agg #[.slice Al0_0 l0_0.length cl0_0, .int .i64 a0_1, .bool a0_2], .int .i64 a1] [] [.sl 0 k99 Al0_0 cl0_0 l0_0 0 false] (fun v bx en => v = .int .i64 r0 ∧ bx = [] ∧ en = []) := by
 refine fn_ 12 Try.func33 rfl rfl rfl (fun base T w0 => ?_)
 rw [laws_heldAggregator.f] at H
 refine gs (rg (so rfl (op_box (cs := [.slice Al0_0 l0_0.length cl0_0, .int .i64 a0_1, .bool a0_2]) rfl rfl rfl fun b2 => (sv (EV.as rfl) rfl (re (gs (rg (sv (EV.fa 0 rfl) rfl (sv (EV.ld 0 none rfl rfl rfl) rfl (sv (EV.mv rfl) rfl ?_))))))))))
 revert H; refine bdI ?_; rintro t1 A1 H
 refine so rfl (op_call (laws_heldGroupTaskS.ok k l0_0 Al0_0 cl0_0 a1 _ A1) [⟨0, 0, 0, false⟩] 1 rfl rfl rfl rfl rfl ?_)
 rintro _ _ _ ⟨rfl, rfl, rfl⟩
 refine sv (EV.as rfl) rfl (re (pr [1] [] [] rfl rfl rfl rfl (gs (gs (rg (sv (EV.mv rfl) rfl (sv (EV.lss rfl rfl) rfl (re ?_))))))))
 revert H; refine ifsI ?_ ?_ <;> intro c2 H
 ·
  refine gt rfl (dT c2) (gs (rg (sv (EV.as rfl) rfl (re ?_))))
  cases H
  exact rt Try.func33 rfl (.tmp rfl .nil) rfl [] [] rfl rfl rfl rfl rfl ⟨rfl, rfl, rfl⟩
 ·
  refine gf rfl (dF c2) (gk (gs (rg (sv (EV.mv rfl) rfl (sv (EV.as rfl) rfl (re ?_))))))
  cases H
  exact rt Try.func33 rfl (.tmp rfl .nil) rfl [] [] rfl rfl rfl rfl rfl ⟨rfl, rfl, rfl⟩
end Go.Proofs.Ytnllplklggoabaa.K
namespace Go.Proofs.Ytnllplklggoabaa.K
open Go Go.RowKit
set_option linter.unusedVariables false
set_option linter.unusedSimpArgs false
def laws_FnExactParseAggregator.f (k : Nat) (a0 : ByteArray) : Option (Bool) := if (a0.size : Int) > 1048576 then (some true) else ((spec_ParseAggregator.f k a0).bind fun bt2 => ((impl_ParseAggregator.f k a0).bind fun bt3 => ((laws_eqAggregator.f k bt3.1 bt3.2.1 bt3.2.2.1 bt2.1 bt2.2.1 bt2.2.2.1).bind fun t4 => (if t4 = true then (if (bt3.2.2.2 == bt2.2.2.2) = true then ((laws_markAggregator.f k bt3.1 bt3.2.1 bt3.2.2.1 1).bind fun bt7 => ((laws_heldAggregator.f k bt7.2 bt3.2.1 bt3.2.2.1 1).bind fun t8 => (if t8 < 0 then (some false) else (if t8 = bt7.1 then ((impl_ParseAggregator.f k a0).bind fun bt11 => ((laws_eqAggregator.f k bt11.1 bt11.2.1 bt11.2.2.1 bt2.1 bt2.2.1 bt2.2.2.1).bind fun t12 => (if t12 = true then (if (bt11.2.2.2 == bt2.2.2.2) = true then ((laws_heldAggregator.f k bt7.2 bt3.2.1 bt3.2.2.1 1).bind fun t15 => (if t15 < 0 then (some false) else (if t15 = bt7.1 then (some true) else (some false)))) else (some false)) else (some false)))) else (some false))))) else (some false)) else (some false)))))
set_option maxHeartbeats 4000000 in
set_option maxRecDepth 100000 in
theorem laws_FnExactParseAggregator.ok (k : Nat) (a0 : ByteArray) (r0 : Bool) (H : laws_FnExactParseAggregator.f k a0 = some r0) : Fn Try.prog 7 [.string a0] [] [] (fun v bx en => v = .bool r0 ∧ bx = [] ∧ en = []) := by
 refine fn_ 66 Try.func7 rfl rfl rfl (fun base T w0 => ?_)
 rw [laws_FnExactParseAggregator.f] at H
 refine gs (rg (sv (EV.as rfl) rfl (re (gs (gs (rg (sv (EV.mv rfl) rfl (sv (EV.lns rfl) rfl (sv (EV.gtr rfl rfl) rfl (re ?_))))))))))
 revert H; refine ifsI ?_ ?_ <;> intro c1 H
 ·
  refine gt rfl (dT c1) (gs (rg (sv (EV.as rfl) rfl (re ?_))))
  cases H
  exact rt Try.func7 rfl (.tmp rfl .nil) rfl [] [] rfl rfl rfl rfl rfl ⟨rfl, rfl, rfl⟩
 ·
  refine gf rfl (dF c1) (gk (gs (rg (sv (EV.mv rfl) rfl ?_))))
  revert H; refine bdI ?_; rintro ⟨t2_0, t2_1, t2_2, t2_3⟩ A2 H
  refine so rfl (op_call (spec_ParseAggregator.ok k a0 _ _ _ _ A2) [] 1 rfl rfl rfl rfl rfl ?_)
  rintro _ _ _ ⟨At2_0, ct2_0, rfl, rfl, rfl⟩
  refine sv (EV.mv rfl) rfl (sv (EV.ex rfl rfl) rfl (sv (EV.ex rfl rfl) rfl (so rfl (op_alloc (cs := [.slice none 0 0, .int .i64 0, .bool false]) (by kernel_rfl) rfl fun b3 => (so rfl (op_st (cs' := [.slice At2_0 t2_0.length ct2_0, .int .i64 t2_1, .bool t2_2]) 0 rfl rfl rfl rfl rfl rfl (sv (EV.as rfl) rfl (re (pr [0, 3, 4] [0] [0] rfl rfl rfl rfl (gs (rg (sv (EV.mv rfl) rfl ?_))))))))))))
  revert H; refine bdI ?_; rintro ⟨t3_0, t3_1, t3_2, t3_3⟩ A3 H
  refine so rfl (op_call (impl_ParseAggregator.ok k a0 _ _ _ _ A3) [] 3 rfl rfl rfl rfl rfl ?_)
  rintro _ _ _ ⟨At3_0, ct3_0, rfl, rfl, rfl⟩
  refine sv (EV.mv rfl) rfl (sv (EV.ex rfl rfl) rfl (sv (EV.ex rfl rfl) rfl (so rfl (op_alloc (cs := [.slice none 0 0, .int .i64 0, .bool false]) (by kernel_rfl) rfl fun b5 => (so rfl (op_st (cs' := [.slice At3_0 t3_0.length ct3_0, .int .i64 t3_1, .bool t3_2]) 1 rfl rfl rfl rfl rfl rfl (sv (EV.as rfl) rfl (re (gs (gs (rg (sv (EV.ld (v := .agg #[.slice At3_0 t3_0.length ct3_0, .int .i64 t3_1, .bool t3_2]) 1 (some 3) rfl rfl rfl) rfl (sv (EV.ld (v := .agg #[.slice At2_0 t2_0.length ct2_0, .int .i64 t2_1, .bool t2_2]) 0 (some 3) rfl rfl rfl) rfl ?_)))))))))))))
  revert H; refine bdI ?_; rintro t4 A4 H
  refine so rfl (op_call (laws_eqAggregator.ok k t3_0 At3_0 ct3_0 t3_1 t3_2 t2_0 At2_0 ct2_0 t2_1 t2_2 _ A4) [⟨1, 0, 0, false⟩, ⟨0, 0, 0, false⟩] 5 rfl rfl rfl rfl rfl ?_)
  rintro _ _ _ ⟨rfl, rfl, rfl⟩
  refine sv (EV.nt rfl) rfl (sv (EV.mv rfl) rfl ?_)
  revert H; refine ifsI ?_ ?_ <;> intro c5 H
  ·
   subst c5
   refine ts 28 rfl rfl (sv (EV.mv rfl) rfl (sv (EV.mv rfl) rfl (sv (EV.neb rfl rfl) rfl (sv (EV.pf rfl rfl rfl) rfl (re (pr [0, 3, 4, 5, 32] [0, 1] [0, 1] rfl rfl rfl rfl ?_))))))
   revert H; refine ifsI ?_ ?_ <;> intro c6 H
   ·
    refine gf rfl (bN c6) (gk (gs (rg (sv (EV.as rfl) rfl (re (gs (rg (sv (EV.ld (v := .agg #[.slice At3_0 t3_0.length ct3_0, .int .i64 t3_1, .bool t3_2]) 1 (some 3) rfl rfl rfl) rfl (sv (EV.mv rfl) rfl ?_)))))))))
    revert H; refine bdI ?_; rintro ⟨t7_0, t7_1⟩ A7 H
    refine so rfl (op_callM (laws_markAggregator.ok k t3_0 At3_0 ct3_0 t3_1 t3_2 1 _ _ A7) [⟨1, 1, 1, true⟩] [] [0, 1] 5 rfl rfl rfl rfl rfl rfl rfl rfl ?_)
    rintro _ _ _ ⟨rfl, rfl, rfl, q7_0⟩
    refine rlT 33 (v' := .agg #[.slice At3_0 t7_1.length ct3_0, .int .i64 t3_1, .bool t3_2]) rfl (by simp only [q7_0]) (rlB 1 (cs' := [.slice At3_0 t7_1.length ct3_0, .int .i64 t3_1, .bool t3_2]) rfl (by simp only [q7_0]) (nmE (en := [.sl 2 k99 At2_0 ct2_0 t2_0 2 true, .sl 1 k99 At3_0 ct3_0 t7_1 6 true]) (by kernel_rfl) (sv (EV.as rfl) rfl (re (gs (rg (sv (EV.as rfl) rfl (re (gs (rg (sv (EV.ld (v := .agg #[.slice At3_0 t7_1.length ct3_0, .int .i64 t3_1, .bool t3_2]) 1 (some 3) rfl rfl rfl) rfl (sv (EV.mv rfl) rfl ?_))))))))))))
    revert H; refine bdI ?_; rintro t8 A8 H
    refine so rfl (op_call (laws_heldAggregator.ok k t7_1 At3_0 ct3_0 t3_1 t3_2 1 _ A8) [⟨1, 0, 0, false⟩] 7 rfl rfl rfl rfl rfl ?_)
    rintro _ _ _ ⟨rfl, rfl, rfl⟩
    refine sv (EV.as rfl) rfl (re (pr [0, 3, 4, 5, 7, 8] [0, 1] [0, 1] rfl rfl rfl rfl (gs (gs (rg (sv (EV.mv rfl) rfl (sv (EV.lss rfl rfl) rfl (re ?_))))))))
    revert H; refine ifsI ?_ ?_ <;> intro c9 H
    ·
     refine gt rfl (dT c9) (gs (rg (sv (EV.as rfl) rfl (re (pr [2] [] [] rfl rfl rfl rfl ?_)))))
     cases H
     exact rt Try.func7 rfl (.tmp rfl .nil) rfl [] [] rfl rfl rfl rfl rfl ⟨rfl, rfl, rfl⟩
    ·
     refine gf rfl (dF c9) (gk (gs (gs (rg (sv (EV.mv rfl) rfl (sv (EV.mv rfl) rfl (sv (EV.neq rfl rfl) rfl (re ?_))))))))
     revert H; refine ifsI ?_ ?_ <;> intro c10 H
     ·
      refine gf rfl (nF c10) (gk (gs (rg (sv (EV.mv rfl) rfl ?_))))
      revert H; refine bdI ?_; rintro ⟨t11_0, t11_1, t11_2, t11_3⟩ A11 H
      refine so rfl (op_call (impl_ParseAggregator.ok k a0 _ _ _ _ A11) [] 7 rfl rfl rfl rfl rfl ?_)
      rintro _ _ _ ⟨At11_0, ct11_0, rfl, rfl, rfl⟩
      refine sv (EV.mv rfl) rfl (sv (EV.ex rfl rfl) rfl (sv (EV.ex rfl rfl) rfl (so rfl (op_alloc (cs := [.slice none 0 0, .int .i64 0, .bool false]) (by kernel_rfl) rfl fun b9 => (so rfl (op_st (cs' := [.slice At11_0 t11_0.length ct11_0, .int .i64 t11_1, .bool t11_2]) 2 rfl rfl rfl rfl rfl rfl (sv (EV.as rfl) rfl (re (pr [3, 4, 5, 7, 9, 10] [0, 1, 2] [0, 1, 2] rfl rfl rfl rfl (gs (gs (rg (sv (EV.ld (v := .agg #[.slice At11_0 t11_0.length ct11_0, .int .i64 t11_1, .bool t11_2]) 2 (some 3) rfl rfl rfl) rfl (sv (EV.ld (v := .agg #[.slice At2_0 t2_0.length ct2_0, .int .i64 t2_1, .bool t2_2]) 0 (some 3) rfl rfl rfl) rfl ?_))))))))))))))
      revert H; refine bdI ?_; rintro t12 A12 H
      refine so rfl (op_call (laws_eqAggregator.ok k t11_0 At11_0 ct11_0 t11_1 t11_2 t2_0 At2_0 ct2_0 t2_1 t2_2 _ A12) [⟨2, 0, 0, false⟩, ⟨0, 0, 0, false⟩] 9 rfl rfl rfl rfl rfl ?_)
      rintro _ _ _ ⟨rfl, rfl, rfl⟩
      refine sv (EV.nt rfl) rfl (sv (EV.mv rfl) rfl ?_)
      revert H; refine ifsI ?_ ?_ <;> intro c13 H
      ·
       subst c13
       refine ts 53 rfl rfl (sv (EV.mv rfl) rfl (sv (EV.mv rfl) rfl (sv (EV.neb rfl rfl) rfl (sv (EV.pf rfl rfl rfl) rfl (re (pr [5, 7, 57] [1] [1] rfl rfl rfl rfl ?_))))))
       revert H; refine ifsI ?_ ?_ <;> intro c14 H
       ·
        refine gf rfl (bN c14) (gk (gs (rg (sv (EV.as rfl) rfl (re (gs (rg (sv (EV.ld (v := .agg #[.slice At3_0 t7_1.length ct3_0, .int .i64 t3_1, .bool t3_2]) 0 (some 3) rfl rfl rfl) rfl (sv (EV.mv rfl) rfl ?_)))))))))
        revert H; refine bdI ?_; rintro t15 A15 H
        refine so rfl (op_call (laws_heldAggregator.ok k t7_1 At3_0 ct3_0 t3_1 t3_2 1 _ A15) [⟨0, 0, 0, false⟩] 7 rfl rfl rfl rfl rfl ?_)
        rintro _ _ _ ⟨rfl, rfl, rfl⟩
        refine sv (EV.as rfl) rfl (re (gs (gs (rg (sv (EV.mv rfl) rfl (sv (EV.lss rfl rfl) rfl (re (pr [7, 8, 62] [] [] rfl rfl rfl rfl ?_))))))))
        revert H; refine ifsI ?_ ?_ <;> intro c16 H
        ·
         refine gt rfl (dT c16) (gs (rg (sv (EV.as rfl) rfl (re ?_))))
         cases H
         exact rt Try.func7 rfl (.tmp rfl .nil) rfl [] [] rfl rfl rfl rfl rfl ⟨rfl, rfl, rfl⟩
        ·
         refine gf rfl (dF c16) (gk (gs (gs (rg (sv (EV.mv rfl) rfl (sv (EV.mv rfl) rfl (sv (EV.neq rfl rfl) rfl (re ?_))))))))
         revert H; refine ifsI ?_ ?_ <;> intro c17 H
         ·
          refine gf rfl (nF c17) (gk (gs (rg (sv (EV.as rfl) rfl (re (pr [2] [] [] rfl rfl rfl rfl ?_))))))
          cases H
          exact rt Try.func7 rfl (.tmp rfl .nil) rfl [] [] rfl rfl rfl rfl rfl ⟨rfl, rfl, rfl⟩
         ·
          refine gt rfl (nT c17) (gs (rg (sv (EV.as rfl) rfl (re (pr [2] [] [] rfl rfl rfl rfl ?_)))))
          cases H
          exact rt Try.func7 rfl (.tmp rfl .nil) rfl [] [] rfl rfl rfl rfl rfl ⟨rfl, rfl, rfl⟩
       ·
        refine gt rfl (bM c14) (gs (rg (sv (EV.as rfl) rfl (re ?_))))
        cases H
        exact rt Try.func7 rfl (.tmp rfl .nil) rfl [] [] rfl rfl rfl rfl rfl ⟨rfl, rfl, rfl⟩
      ·
       obtain rfl := bF c13
       refine ts 53 rfl rfl (sk rfl (sk rfl (sk rfl (sv (EV.pt rfl rfl rfl) rfl (re (pr [5, 7, 57] [1] [1] rfl rfl rfl rfl (gt rfl rfl (gs (rg (sv (EV.as rfl) rfl (re ?_)))))))))))
       cases H
       exact rt Try.func7 rfl (.tmp rfl .nil) rfl [] [] rfl rfl rfl rfl rfl ⟨rfl, rfl, rfl⟩
     ·
      refine gt rfl (nT c10) (gs (rg (sv (EV.as rfl) rfl (re (pr [2] [] [] rfl rfl rfl rfl ?_)))))
      cases H
      exact rt Try.func7 rfl (.tmp rfl .nil) rfl [] [] rfl rfl rfl rfl rfl ⟨rfl, rfl, rfl⟩
   ·
    refine gt rfl (bM c6) (gs (rg (sv (EV.as rfl) rfl (re ?_))))
    cases H
    exact rt Try.func7 rfl (.tmp rfl .nil) rfl [] [] rfl rfl rfl rfl rfl ⟨rfl, rfl, rfl⟩
  ·
   obtain rfl := bF c5
   refine ts 28 rfl rfl (sk rfl (sk rfl (sk rfl (sv (EV.pt rfl rfl rfl) rfl (re (pr [0, 3, 4, 5, 32] [0, 1] [0, 1] rfl rfl rfl rfl (gt rfl rfl (gs (rg (sv (EV.as rfl) rfl (re ?_)))))))))))
   cases H
   exact rt Try.func7 rfl (.tmp rfl .nil) rfl [] [] rfl rfl rfl rfl rfl ⟨rfl, rfl, rfl⟩
end Go.Proofs.Ytnllplklggoabaa.K
