/- Walks: what the functions compute. Printed by gen.py; no condition. -/
import Derived.Test.YtnadolmpaeenpaaProg
import Derived.Test.YtnadolmpaeenpaaSB
namespace Go.Proofs.Ytnadolmpaeenpaa.K
open Go Go.RowKit
set_option linter.unusedVariables false
set_option linter.unusedSimpArgs false
structure S79 where
  f0 : Int
  f1 : Int
  f2 : Int
def z79 : S79 := ⟨0, 0, 0⟩
def k79 : Kd S79 := .iso (fun p => ⟨p.1, p.2.1, p.2.2⟩) (fun x => (x.f0, x.f1, x.f2)) (fun _ => rfl) (.pair (.int .i64) (.pair (.int .i64) (.int .i64)))
def rd_T79 (xs : List S79) (i : Int) : S79 := xs.getD i.toNat z79
structure S66 where
  f0 : List S79
def z66 : S66 := ⟨[]⟩
def k66 : Kd S66 := .iso (fun p => ⟨p⟩) (fun x => (x.f0)) (fun _ => rfl) (.slice k79)
def rd_T66 (xs : List S66) (i : Int) : S66 := xs.getD i.toNat z66
structure S25 where
  f0 : List S79
  f1 : Int
  f2 : List S79
  f3 : List S79
  f4 : List S79
  f5 : List S66
  f6 : Int
  f7 : Int
  f8 : Int
  f9 : Int
def z25 : S25 := ⟨[], 0, [], [], [], [], 0, 0, 0, 0⟩
def k25 : Kd S25 := .iso (fun p => ⟨p.1, p.2.1, p.2.2.1, p.2.2.2.1, p.2.2.2.2.1, p.2.2.2.2.2.1, p.2.2.2.2.2.2.1, p.2.2.2.2.2.2.2.1, p.2.2.2.2.2.2.2.2.1, p.2.2.2.2.2.2.2.2.2⟩) (fun x => (x.f0, x.f1, x.f2, x.f3, x.f4, x.f5, x.f6, x.f7, x.f8, x.f9)) (fun _ => rfl) (.pair (.slice k79) (.pair (.int .i64) (.pair (.slice k79) (.pair (.slice k79) (.pair (.slice k79) (.pair (.slice k66) (.pair (.int .i64) (.pair (.int .i64) (.pair (.int .i64) (.int .i64))))))))))
def rd_T25 (xs : List S25) (i : Int) : S25 := xs.getD i.toNat z25
structure S72 where
  f0 : Int
  f1 : Int
  f2 : Int
def z72 : S72 := ⟨0, 0, 0⟩
def k72 : Kd S72 := .iso (fun p => ⟨p.1, p.2.1, p.2.2⟩) (fun x => (x.f0, x.f1, x.f2)) (fun _ => rfl) (.pair (.int .i64) (.pair (.int .i64) (.int .i64)))
def rd_T72 (xs : List S72) (i : Int) : S72 := xs.getD i.toNat z72
structure S57 where
  f0 : List S72
def z57 : S57 := ⟨[]⟩
def k57 : Kd S57 := .iso (fun p => ⟨p⟩) (fun x => (x.f0)) (fun _ => rfl) (.slice k72)
def rd_T57 (xs : List S57) (i : Int) : S57 := xs.getD i.toNat z57
structure S31 where
  f0 : List S72
  f1 : Int
  f2 : List S72
  f3 : List S72
  f4 : List S72
  f5 : List S57
  f6 : Int
  f7 : Int
  f8 : Int
  f9 : Int
def z31 : S31 := ⟨[], 0, [], [], [], [], 0, 0, 0, 0⟩
def k31 : Kd S31 := .iso (fun p => ⟨p.1, p.2.1, p.2.2.1, p.2.2.2.1, p.2.2.2.2.1, p.2.2.2.2.2.1, p.2.2.2.2.2.2.1, p.2.2.2.2.2.2.2.1, p.2.2.2.2.2.2.2.2.1, p.2.2.2.2.2.2.2.2.2⟩) (fun x => (x.f0, x.f1, x.f2, x.f3, x.f4, x.f5, x.f6, x.f7, x.f8, x.f9)) (fun _ => rfl) (.pair (.slice k72) (.pair (.int .i64) (.pair (.slice k72) (.pair (.slice k72) (.pair (.slice k72) (.pair (.slice k57) (.pair (.int .i64) (.pair (.int .i64) (.pair (.int .i64) (.int .i64))))))))))
def rd_T31 (xs : List S31) (i : Int) : S31 := xs.getD i.toNat z31
theorem eqD72 (d : Nat) (w : World) (x0 y0 : Int) (x1 y1 : Int) (x2 y2 : Int) : (Op.equalIn (d + 2) 72 (.agg #[.int .i64 x0, .int .i64 x1, .int .i64 x2]) (.agg #[.int .i64 y0, .int .i64 y1, .int .i64 y2])).run Try.prog w = .ok (x0 == y0 && (x1 == y1 && (x2 == y2))) w := by
  refine eq_of (d := d + 1) Try.underlying72 (by kernel_rfl) ?_
  refine eq_cons (by rfl) (by first | (go_simp; done) | (go_simp; rfl)) (by first | (go_simp; done) | (go_simp; rfl)) (by go_simp) ?_
  refine eq_cons (by rfl) (by first | (go_simp; done) | (go_simp; rfl)) (by first | (go_simp; done) | (go_simp; rfl)) (by go_simp) ?_
  exact eq_last (by rfl) (by first | (go_simp; done) | (go_simp; rfl)) (by first | (go_simp; done) | (go_simp; rfl)) (by go_simp)
theorem eq72 (d : Nat) (w : World) (x0 y0 : Int) (x1 y1 : Int) (x2 y2 : Int) : (Op.equalIn (d + 20) 72 (.agg #[.int .i64 x0, .int .i64 x1, .int .i64 x2]) (.agg #[.int .i64 y0, .int .i64 y1, .int .i64 y2])).run Try.prog w = .ok (x0 == y0 && (x1 == y1 && (x2 == y2))) w := eqD72 (d + 18) w x0 y0 x1 y1 x2 y2
theorem mk28 : ∀ (zz : Value) (e : TypeId) (i : TypeInfo), Try.prog.underlying 28 = some (.slice e) → Try.prog.info? e = some i → i.zero = some zz → ∀ w, Kd.rep k72 1 w zz.cells.toList z72 [] := by
  intro zz e i hu hi hz w
  have h1 : (Try.prog.underlying 28).bind (fun d => match d with | .slice e => (Try.prog.info? e).bind (fun i => i.zero) | _ => none) = some (.agg #[.int .i64 0, .int .i64 0, .int .i64 0]) := by kernel_rfl
  rw [hu] at h1
  simp only [Option.bind_some, hi, hz, Option.some.injEq] at h1
  subst h1
  exact Kd.closed k72 (o := 1) (w := w) (x := z72) (hs := []) (bs := []) 0 false (Nat.le_refl 1) rfl .nil
theorem mk29 : ∀ (zz : Value) (e : TypeId) (i : TypeInfo), Try.prog.underlying 29 = some (.slice e) → Try.prog.info? e = some i → i.zero = some zz → ∀ w, Kd.rep k57 1 w zz.cells.toList z57 [] := by
  intro zz e i hu hi hz w
  have h1 : (Try.prog.underlying 29).bind (fun d => match d with | .slice e => (Try.prog.info? e).bind (fun i => i.zero) | _ => none) = some (.agg #[.slice none 0 0]) := by kernel_rfl
  rw [hu] at h1
  simp only [Option.bind_some, hi, hz, Option.some.injEq] at h1
  subst h1
  exact Kd.closed k57 (o := 1) (w := w) (x := z57) (hs := [(none, 0)]) (bs := [[]]) 0 false (Nat.le_refl 1) rfl (.cons ⟨Nat.zero_le _, .inl ⟨rfl, rfl, rfl⟩⟩ .nil)
def good79 (x : S79) : Prop := ((Lit.int .i64 x.f0).wf = true) ∧ ((Lit.int .i64 x.f1).wf = true) ∧ ((Lit.int .i64 x.f2).wf = true)
theorem open79 : Opens Try.prog 79 k79 good79 := opens_struct Try.underlying79 (by kernel_rfl) (.cons rfl (opens_int Try.underlying3 (by kernel_rfl)) (.cons rfl (opens_int Try.underlying3 (by kernel_rfl)) (.one rfl (opens_int Try.underlying3 (by kernel_rfl))))) (fun _ => rfl) (fun _ h => h)
def good66 (x : S66) : Prop := ((x.f0.length ≤ maxLen ∧ ∀ y ∈ x.f0, good79 y))
theorem open66 : Opens Try.prog 66 k66 good66 := opens_struct Try.underlying66 (by kernel_rfl) (.one rfl (opens_slice Try.underlying22 (by kernel_rfl) (by kernel_rfl) open79)) (fun _ => rfl) (fun _ h => h)
def good25 (x : S25) : Prop := ((x.f0.length ≤ maxLen ∧ ∀ y ∈ x.f0, good79 y)) ∧ ((Lit.int .i64 x.f1).wf = true) ∧ ((x.f2.length ≤ maxLen ∧ ∀ y ∈ x.f2, good79 y)) ∧ ((x.f3.length ≤ maxLen ∧ ∀ y ∈ x.f3, good79 y)) ∧ ((x.f4.length ≤ maxLen ∧ ∀ y ∈ x.f4, good79 y)) ∧ ((x.f5.length ≤ maxLen ∧ ∀ y ∈ x.f5, good66 y)) ∧ ((Lit.int .i64 x.f6).wf = true) ∧ ((Lit.int .i64 x.f7).wf = true) ∧ ((Lit.int .i64 x.f8).wf = true) ∧ ((Lit.int .i64 x.f9).wf = true)
theorem open25 : Opens Try.prog 25 k25 good25 := opens_struct Try.underlying25 (by kernel_rfl) (.cons rfl (opens_slice Try.underlying22 (by kernel_rfl) (by kernel_rfl) open79) (.cons rfl (opens_int Try.underlying3 (by kernel_rfl)) (.cons rfl (opens_slice Try.underlying22 (by kernel_rfl) (by kernel_rfl) open79) (.cons rfl (opens_slice Try.underlying22 (by kernel_rfl) (by kernel_rfl) open79) (.cons rfl (opens_slice Try.underlying22 (by kernel_rfl) (by kernel_rfl) open79) (.cons rfl (opens_slice Try.underlying23 (by kernel_rfl) (by kernel_rfl) open66) (.cons rfl (opens_int Try.underlying3 (by kernel_rfl)) (.cons rfl (opens_int Try.underlying3 (by kernel_rfl)) (.cons rfl (opens_int Try.underlying3 (by kernel_rfl)) (.one rfl (opens_int Try.underlying3 (by kernel_rfl)))))))))))) (fun _ => rfl) (fun _ h => h)
def spec_l2Cut.l0 : Nat → ByteArray → Int → (List ByteArray) → Int → Int → Option ((List ByteArray))
 | 0, _, _, _, _, _ => none
 | k + 1, x2_0, x2_1, x2_5, x2_6, x2_7 => if x2_7 < (x2_0.size : Int) then (if 0 ≤ x2_7 then (if (bt x2_0 x2_7) = x2_1 then (if 0 ≤ x2_6 then (if x2_6 ≤ x2_7 then (if x2_7 ≤ (x2_0.size : Int) then (if x2_5.length < 8796093022208 then (spec_l2Cut.l0 k x2_0 x2_1 (x2_5 ++ ([x2_0.extract x2_6.toNat x2_7.toNat] : List ByteArray)) (wrap64 (x2_7 + 1)) (wrap64 (x2_7 + 1))) else none) else none) else none) else none) else (spec_l2Cut.l0 k x2_0 x2_1 x2_5 x2_6 (wrap64 (x2_7 + 1)))) else none) else (if 0 ≤ x2_6 then (if x2_6 ≤ (x2_0.size : Int) then (if x2_5.length < 8796093022208 then (some (x2_5 ++ ([x2_0.extract x2_6.toNat x2_0.size] : List ByteArray))) else none) else none) else none)
def spec_l2Cut.f (k : Nat) (a0 : ByteArray) (a1 : Int) : Option ((List ByteArray)) := spec_l2Cut.l0 k a0 a1 [] 0 0
set_option maxHeartbeats 4000000 in
set_option maxRecDepth 100000 in
theorem spec_l2Cut.ok (k : Nat) (a0 : ByteArray) (a1 : Int) (r0 : List ByteArray) (H : spec_l2Cut.f k a0 a1 = some r0) : Fn Try.prog 30 [.string a0, .int .u8 a1] [] [] (fun v bx en => ∃ A0 c0, v = .slice A0 r0.length c0 ∧ bx = [] ∧ en = [.sl 2 .str A0 c0 r0 1 true]) := by
 refine fn_ 35 Try.func30 rfl rfl rfl (fun base T w0 => ?_)
 rw [spec_l2Cut.f] at H
 refine gs (rg (sv (EV.as rfl) rfl (re (gs (rg (so rfl (op_lit (s := 1) (by_ := 16) .str ([] : List ByteArray) [] [] 1 [] rfl rfl rfl rfl rfl rfl rfl rfl rfl rfl rfl rfl rfl dq rfl fun A8_1 c8_1 => (sv (EV.as rfl) rfl (re (gs (rg (sv (EV.as rfl) rfl (re (gs (gs (rg (sv (EV.as rfl) rfl (re (gb ?_)))))))))))))))))))
 refine lo (fun kk S => ∃ (x2_0 : ByteArray) (x2_1 : Int) (x2_5 : List ByteArray) (Ax2_5 : Option Addr) (cx2_5 : Nat) (x2_6 : Int) (x2_7 : Int), spec_l2Cut.l0 kk x2_0 x2_1 x2_5 x2_6 x2_7 = some r0 ∧ S = ⟨[(0, .string x2_0), (1, .int .u8 x2_1), (5, .slice Ax2_5 x2_5.length cx2_5), (6, .int .i64 x2_6), (7, .int .i64 x2_7)], [], [.sl 2 .str Ax2_5 cx2_5 x2_5 1 true]⟩) (fun S hS => ?_) (fun n0 ih0 S hS => ?_) ⟨a0, a1, [], A8_1, c8_1, 0, 0, H, rfl⟩ (fun h => wk [0, 1, 5, 6, 7] [] [⟨0, 2, 1, true⟩] h)
 · clear H; obtain ⟨_, _, _, _, _, _, _, H, _⟩ := hS; rw [spec_l2Cut.l0] at H; cases H
 clear H
 obtain ⟨x2_0, x2_1, x2_5, Ax2_5, cx2_5, x2_6, x2_7, H, rfl⟩ := hS
 rw [spec_l2Cut.l0] at H
 refine gs (gs (rg (sv (EV.mv rfl) rfl (sv (EV.mv rfl) rfl (sv (EV.lns rfl) rfl (sv (EV.lss rfl rfl) rfl (re ?_)))))))
 revert H; refine ifsI ?_ ?_ <;> intro c2 H
 ·
  refine gt rfl (dT c2) (gk (gs (gb (gs (rg (sv (EV.mv rfl) rfl (sv (EV.mv rfl) rfl ?_)))))))
  revert H; refine ggI ?_; intro g3 H
  refine sv (EV.is rfl rfl g3 c2) rfl (sv (EV.mv rfl) rfl (sv (EV.eql rfl rfl) rfl (re (pr [0, 1, 5, 6, 7, 19] [] [0] rfl rfl rfl rfl ?_))))
  revert H; refine ifsI ?_ ?_ <;> intro c4 H
  ·
   refine gt rfl (dT c4) (gs (rg (sv (EV.mv rfl) rfl (sv (EV.mv rfl) rfl (sv (EV.mv rfl) rfl (sv (EV.mv rfl) rfl ?_))))))
   revert H; refine ggI ?_; intro g5 H
   revert H; refine ggI ?_; intro g6 H
   revert H; refine ggI ?_; intro g7 H
   refine sv (EV.ssb rfl rfl rfl g5 g6 g7) rfl (so rfl (op_lit (s := 1) (by_ := 16) .str ([x2_0.extract x2_6.toNat x2_7.toNat] : List ByteArray) [[]] [] 2 [.tmp 24] rfl rfl rfl rfl rfl rfl rfl rfl rfl rfl rfl rfl rfl dq rfl fun A25_8 c25_8 => ?_))
   revert H; refine ggI ?_; intro g9 H
   exact so rfl (op_app (k := .str) (s := 1) (by_ := 16) 0 1 rfl rfl rfl rfl (ap1 g9 dq) (ap1n g9 dq) (.inl rfl) true (fun _ => .inl rfl) rfl rfl fun A26_10 c26_10 => (nmE (en := [.sl 2 .str A25_8 c25_8 ([x2_0.extract x2_6.toNat x2_7.toNat] : List ByteArray) 2 true, .sl 2 .str A26_10 c26_10 (x2_5 ++ ([x2_0.extract x2_6.toNat x2_7.toNat] : List ByteArray)) 1 true]) (by kernel_rfl) (sv (EV.as rfl) rfl (re (pr [0, 1, 5, 7] [] [1] rfl rfl rfl rfl (rg (sv (EV.mv rfl) rfl (sv (EV.add rfl rfl) rfl (sv (EV.as rfl) rfl (re (ge (rg (sv (EV.mv rfl) rfl (sv (EV.add rfl rfl) rfl (sv (EV.as rfl) rfl (re (wk [0, 1, 5, 6, 7] [] [⟨0, 2, 1, true⟩] (ih0 _ (by omega) _ ⟨x2_0, x2_1, x2_5 ++ ([x2_0.extract x2_6.toNat x2_7.toNat] : List ByteArray), A26_10, c26_10, wrap64 (x2_7 + 1), wrap64 (x2_7 + 1), H, rfl⟩))))))))))))))))))
  ·
   exact gf rfl (dF c4) (gk (ge (rg (sv (EV.mv rfl) rfl (sv (EV.add rfl rfl) rfl (sv (EV.as rfl) rfl (re (wk [0, 1, 5, 6, 7] [] [⟨0, 2, 1, true⟩] (ih0 _ (by omega) _ ⟨x2_0, x2_1, x2_5, Ax2_5, cx2_5, x2_6, wrap64 (x2_7 + 1), H, rfl⟩)))))))))
 ·
  refine gf rfl (dF c2) (gx rfl (gs (rg (sv (EV.mv rfl) rfl (sv (EV.mv rfl) rfl (sv (EV.mv rfl) rfl ?_))))))
  revert H; refine ggI ?_; intro g11 H
  revert H; refine ggI ?_; intro g12 H
  refine sv (EV.ssl rfl rfl g11 g12) rfl (so rfl (op_lit (s := 1) (by_ := 16) .str ([x2_0.extract x2_6.toNat x2_0.size] : List ByteArray) [[]] [] 2 [.tmp 32] rfl rfl rfl rfl rfl rfl rfl rfl rfl rfl rfl rfl rfl dq rfl fun A33_13 c33_13 => ?_))
  revert H; refine ggI ?_; intro g14 H
  refine so rfl (op_app (k := .str) (s := 1) (by_ := 16) 0 1 rfl rfl rfl rfl (ap1 g14 dq) (ap1n g14 dq) (.inl rfl) true (fun _ => .inl rfl) rfl rfl fun A34_15 c34_15 => (nmE (en := [.sl 2 .str A33_13 c33_13 ([x2_0.extract x2_6.toNat x2_0.size] : List ByteArray) 2 true, .sl 2 .str A34_15 c34_15 (x2_5 ++ ([x2_0.extract x2_6.toNat x2_0.size] : List ByteArray)) 1 true]) (by kernel_rfl) (sv (EV.as rfl) rfl (re (pr [4] [] [1] rfl rfl rfl rfl ?_)))))
  cases H
  exact rt Try.func30 rfl (.tmp rfl .nil) rfl [] [⟨0, 2, 1, true⟩] rfl rfl rfl rfl rfl ⟨_, _, rfl, rfl, rfl⟩
def spec_l1In.f (a0 : Int) (a1 : Int) (a2 : Int) : Option (Bool) := if a0 ≥ a1 then (some (decide (a0 ≤ a2))) else (some false)
set_option maxHeartbeats 4000000 in
set_option maxRecDepth 100000 in
theorem spec_l1In.ok (a0 : Int) (a1 : Int) (a2 : Int) (r0 : Bool) (H : spec_l1In.f a0 a1 a2 = some r0) : Fn Try.prog 45 [.int .i64 a0, .int .i64 a1, .int .i64 a2] [] [] (fun v bx en => v = .bool r0 ∧ bx = [] ∧ en = []) := by
 refine fn_ 15 Try.func45 rfl rfl rfl (fun base T w0 => ?_)
 rw [spec_l1In.f] at H
 refine gs (rg (sv (EV.as rfl) rfl (re (gs (rg (sv (EV.mv rfl) rfl (sv (EV.mv rfl) rfl (sv (EV.geq rfl rfl) rfl (sv (EV.mv rfl) rfl ?_)))))))))
 revert H; refine ifsI ?_ ?_ <;> intro c1 H
 ·
  refine ts 10 rfl (dT c1) (sv (EV.mv rfl) rfl (sv (EV.mv rfl) rfl (sv (EV.leq rfl rfl) rfl (sv (EV.pt rfl rfl rfl) rfl (sv (EV.as rfl) rfl (re (pr [6] [] [] rfl rfl rfl rfl ?_)))))))
  cases H
  exact rt Try.func45 rfl (.tmp rfl .nil) rfl [] [] rfl rfl rfl rfl rfl ⟨rfl, rfl, rfl⟩
 ·
  refine ts 10 rfl (dF c1) (sk rfl (sk rfl (sk rfl (sv (EV.pf rfl rfl rfl) rfl (sv (EV.as rfl) rfl (re (pr [6] [] [] rfl rfl rfl rfl ?_)))))))
  cases H
  exact rt Try.func45 rfl (.tmp rfl .nil) rfl [] [] rfl rfl rfl rfl rfl ⟨rfl, rfl, rfl⟩
def spec_IsValidRow.f (a0_0 : Int) (a0_1 : Int) (a0_2 : Int) : Option (Bool) := (spec_l1In.f a0_0 0 9).bind fun t1 => (if t1 = true then ((spec_l1In.f a0_1 0 99).bind fun t3 => (if t3 = true then ((spec_l1In.f a0_2 0 3).bind fun t5 => (some t5)) else (some false))) else (some false))
set_option maxHeartbeats 4000000 in
set_option maxRecDepth 100000 in
theorem spec_IsValidRow.ok (a0_0 : Int) (a0_1 : Int) (a0_2 : Int) (r0 : Bool) (H : spec_IsValidRow.f a0_0 a0_1 a0_2 = some r0) : Fn Try.prog 74 [.agg #[.int .i64 a0_0, .int .i64 a0_1, .int .i64 a0_2]] [] [] (fun v bx en => v = .bool r0 ∧ bx = [] ∧ en = []) := by
 refine fn_ 16 Try.func74 rfl rfl rfl (fun base T w0 => ?_)
 rw [spec_IsValidRow.f] at H
 refine gs (rg (so rfl (op_box (cs := [.int .i64 a0_0, .int .i64 a0_1, .int .i64 a0_2]) rfl rfl rfl fun b1 => (sv (EV.as rfl) rfl (re (gs (rg (sv (EV.fa 0 rfl) rfl (sv (EV.ld 0 none rfl rfl rfl) rfl ?_)))))))))
 revert H; refine bdI ?_; rintro t1 A1 H
 refine so rfl (op_call (spec_l1In.ok a0_0 0 9 _ A1) [] 1 rfl rfl rfl rfl rfl ?_)
 rintro _ _ _ ⟨rfl, rfl, rfl⟩
 refine sv (EV.mv rfl) rfl ?_
 revert H; refine ifsI ?_ ?_ <;> intro c2 H
 ·
  subst c2
  refine ts 6 rfl rfl (sv (EV.fa 1 rfl) rfl (sv (EV.ld 0 none rfl rfl rfl) rfl ?_))
  revert H; refine bdI ?_; rintro t3 A3 H
  refine so rfl (op_call (spec_l1In.ok a0_1 0 99 _ A3) [] 1 rfl rfl rfl rfl rfl ?_)
  rintro _ _ _ ⟨rfl, rfl, rfl⟩
  refine sv (EV.pt rfl rfl rfl) rfl (sv (EV.mv rfl) rfl ?_)
  revert H; refine ifsI ?_ ?_ <;> intro c4 H
  ·
   subst c4
   refine ts 11 rfl rfl (sv (EV.fa 2 rfl) rfl (sv (EV.ld 0 none rfl rfl rfl) rfl ?_))
   revert H; refine bdI ?_; rintro t5 A5 H
   refine so rfl (op_call (spec_l1In.ok a0_2 0 3 _ A5) [] 1 rfl rfl rfl rfl rfl ?_)
   rintro _ _ _ ⟨rfl, rfl, rfl⟩
   refine sv (EV.pt rfl rfl rfl) rfl (sv (EV.as rfl) rfl (re (pr [2] [] [] rfl rfl rfl rfl ?_)))
   cases H
   exact rt Try.func74 rfl (.tmp rfl .nil) rfl [] [] rfl rfl rfl rfl rfl ⟨rfl, rfl, rfl⟩
  ·
   have xc4 := bF c4; subst xc4
   refine ts 11 rfl rfl (sk rfl (sk rfl (sk rfl (sv (EV.pf rfl rfl rfl) rfl (sv (EV.as rfl) rfl (re (pr [2] [] [] rfl rfl rfl rfl ?_)))))))
   cases H
   exact rt Try.func74 rfl (.tmp rfl .nil) rfl [] [] rfl rfl rfl rfl rfl ⟨rfl, rfl, rfl⟩
 ·
  have xc2 := bF c2; subst xc2
  refine ts 6 rfl rfl (sk rfl (sk rfl (sk rfl (sv (EV.pf rfl rfl rfl) rfl (sv (EV.mv rfl) rfl (sk rfl (sk rfl (sk rfl (sv (EV.pf rfl rfl rfl) rfl (sv (EV.as rfl) rfl (re (pr [2] [] [] rfl rfl rfl rfl ?_))))))))))))
  cases H
  exact rt Try.func74 rfl (.tmp rfl .nil) rfl [] [] rfl rfl rfl rfl rfl ⟨rfl, rfl, rfl⟩
def spec_AreValidRows.l0 : Nat → Int → (List S72) → Option (Bool)
 | 0, _, _ => none
 | k + 1, x2_3, l0 => if x2_3 < (l0.length : Int) then (if 0 ≤ x2_3 then ((spec_IsValidRow.f ((rd_T72 l0 x2_3).f0) ((rd_T72 l0 x2_3).f1) ((rd_T72 l0 x2_3).f2)).bind fun t3 => (if t3 = true then (spec_AreValidRows.l0 k (wrap64 (x2_3 + 1)) l0) else (some false))) else none) else (some (decide ((l0.length : Int) ≤ 24)))
def spec_AreValidRows.f (k : Nat) (l0 : List S72) : Option (Bool) := spec_AreValidRows.l0 k 0 l0
set_option maxHeartbeats 4000000 in
set_option maxRecDepth 100000 in
theorem spec_AreValidRows.ok (k : Nat) (l0 : List S72) (Al0 : Option Addr) (cl0 : Nat) (r0 : Bool) (H : spec_AreValidRows.f k l0 = some r0) : Fn Try.prog 44 [.slice Al0 l0.length cl0] [] [.sl 0 k72 Al0 cl0 l0 0 false] (fun v bx en => v = .bool r0 ∧ bx = [] ∧ en = []) := by
 refine fn_ 19 Try.func44 rfl rfl rfl (fun base T w0 => ?_)
 rw [spec_AreValidRows.f] at H
 refine gs (rg (sv (EV.as rfl) rfl (re (gs (gs (rg (sv (EV.as rfl) rfl (re (gb ?_)))))))))
 refine lo (fun kk S => ∃ (x2_3 : Int), spec_AreValidRows.l0 kk x2_3 l0 = some r0 ∧ S = ⟨[(0, .slice Al0 l0.length cl0), (3, .int .i64 x2_3)], [], [.sl 0 k72 Al0 cl0 l0 0 false]⟩) (fun S hS => ?_) (fun n0 ih0 S hS => ?_) ⟨0, H, rfl⟩ (fun h => wk [0, 3] [] [⟨0, 0, 0, false⟩] h)
 · clear H; obtain ⟨_, H, _⟩ := hS; rw [spec_AreValidRows.l0] at H; cases H
 clear H
 obtain ⟨x2_3, H, rfl⟩ := hS
 rw [spec_AreValidRows.l0] at H
 refine gs (gs (rg (sv (EV.mv rfl) rfl (sv (EV.mv rfl) rfl (sv (EV.ln rfl) rfl (sv (EV.lss rfl rfl) rfl (re ?_)))))))
 revert H; refine ifsI ?_ ?_ <;> intro c1 H
 ·
  refine gt rfl (dT c1) (gk (gs (gb (gs (rg (sv (EV.mv rfl) rfl (sv (EV.mv rfl) rfl ?_)))))))
  revert H; refine ggI ?_; intro g2 H
  refine sv (EV.ix 0 rfl rfl rfl g2 c1 rfl) rfl (sv (EV.le (v := .agg #[.int .i64 ((rd_T72 l0 x2_3).f0), .int .i64 ((rd_T72 l0 x2_3).f1), .int .i64 ((rd_T72 l0 x2_3).f2)]) x2_3 0 (some 3) 0 z72 rfl rfl rfl g2 c1 rfl rfl rfl) rfl ?_)
  revert H; refine bdI ?_; rintro t3 A3 H
  refine so rfl (op_call (spec_IsValidRow.ok ((rd_T72 l0 x2_3).f0) ((rd_T72 l0 x2_3).f1) ((rd_T72 l0 x2_3).f2) _ A3) [] 1 rfl rfl rfl rfl rfl ?_)
  rintro _ _ _ ⟨rfl, rfl, rfl⟩
  refine sv (EV.nt rfl) rfl (re (pr [0, 3, 15] [] [0] rfl rfl rfl rfl ?_))
  revert H; refine ifsI ?_ ?_ <;> intro c4 H
  ·
   subst c4
   exact gf rfl rfl (gk (ge (rg (sv (EV.mv rfl) rfl (sv (EV.add rfl rfl) rfl (sv (EV.as rfl) rfl (re (wk [0, 3] [] [⟨0, 0, 0, false⟩] (ih0 _ (by omega) _ ⟨wrap64 (x2_3 + 1), H, rfl⟩)))))))))
  ·
   have xc4 := bF c4; subst xc4
   refine gt rfl rfl (gs (rg (sv (EV.as rfl) rfl (re ?_))))
   cases H
   exact rt Try.func44 rfl (.tmp rfl .nil) rfl [] [] rfl rfl rfl rfl rfl ⟨rfl, rfl, rfl⟩
 ·
  refine gf rfl (dF c1) (gx rfl (gs (rg (sv (EV.mv rfl) rfl (sv (EV.ln rfl) rfl (sv (EV.leq rfl rfl) rfl (sv (EV.as rfl) rfl (re (pr [2] [] [] rfl rfl rfl rfl ?_)))))))))
  cases H
  exact rt Try.func44 rfl (.tmp rfl .nil) rfl [] [] rfl rfl rfl rfl rfl ⟨rfl, rfl, rfl⟩
mutual
def spec_FormatInt.j0 : Nat → Int → ByteArray → Bool → Int → Option (ByteArray)
 | 0, _, _, _, _ => none
 | k + 1, x6_0, x6_3, x6_4, x6_5 => if (strOfNums ([IntKind.u8.wrap (wrap64 (48 + x6_5))] : List Int)).size + x6_3.size ≤ 9223372036854775807 then (spec_FormatInt.l0 k (wrap64 (Int.tdiv x6_0 10)) ((strOfNums ([IntKind.u8.wrap (wrap64 (48 + x6_5))] : List Int)) ++ x6_3) x6_4) else none
def spec_FormatInt.l0 : Nat → Int → ByteArray → Bool → Option (ByteArray)
 | 0, _, _, _ => none
 | k + 1, x4_0, x4_3, x4_4 => if x4_0 = 0 then (if x4_4 = true then (if (⟨#[45]⟩ : ByteArray).size + x4_3.size ≤ 9223372036854775807 then (some ((⟨#[45]⟩ : ByteArray) ++ x4_3)) else none) else (some x4_3)) else (if (Int.tmod x4_0 10) < 0 then (spec_FormatInt.j0 k x4_0 x4_3 x4_4 (wrap64 (-(Int.tmod x4_0 10)))) else (spec_FormatInt.j0 k x4_0 x4_3 x4_4 (Int.tmod x4_0 10)))
end
def spec_FormatInt.f (k : Nat) (a0 : Int) : Option (ByteArray) := if a0 = 0 then (some (⟨#[48]⟩ : ByteArray)) else (spec_FormatInt.l0 k a0 (⟨#[]⟩ : ByteArray) (decide (a0 < 0)))
set_option maxHeartbeats 4000000 in
set_option maxRecDepth 100000 in
theorem spec_FormatInt.ok (k : Nat) (a0 : Int) (r0 : ByteArray) (H : spec_FormatInt.f k a0 = some r0) : Fn Try.prog 18 [.int .i64 a0] [] [] (fun v bx en => v = .string r0 ∧ bx = [] ∧ en = []) := by
 refine fn_ 31 Try.func18 rfl rfl rfl (fun base T w0 => ?_)
 rw [spec_FormatInt.f] at H
 refine gs (rg (sv (EV.as rfl) rfl (re (gs (gs (rg (sv (EV.mv rfl) rfl (sv (EV.eql rfl rfl) rfl (re ?_)))))))))
 revert H; refine ifsI ?_ ?_ <;> intro c1 H
 ·
  refine gt rfl (dT c1) (gs (rg (sv (EV.as rfl) rfl (re ?_))))
  cases H
  exact rt Try.func18 rfl (.tmp rfl .nil) rfl [] [] rfl rfl rfl rfl rfl ⟨rfl, rfl, rfl⟩
 ·
  refine gf rfl (dF c1) (gk (gs (rg (sv (EV.as rfl) rfl (re (gs (rg (sv (EV.mv rfl) rfl (sv (EV.lss rfl rfl) rfl (sv (EV.as rfl) rfl (re (gs (gb ?_)))))))))))))
  refine lo (fun kk S => ∃ (x4_0 : Int) (x4_3 : ByteArray) (x4_4 : Bool), spec_FormatInt.l0 kk x4_0 x4_3 x4_4 = some r0 ∧ S = ⟨[(0, .int .i64 x4_0), (3, .string x4_3), (4, .bool x4_4)], [], []⟩) (fun S hS => ?_) (fun n0 ih0 S hS => ?_) ⟨a0, (⟨#[]⟩ : ByteArray), decide (a0 < 0), H, rfl⟩ (fun h => wk [0, 3, 4] [] [] h)
  · clear H; obtain ⟨_, _, _, H, _⟩ := hS; rw [spec_FormatInt.l0] at H; cases H
  clear H
  obtain ⟨x4_0, x4_3, x4_4, H, rfl⟩ := hS
  rw [spec_FormatInt.l0] at H
  refine gs (gs (rg (sv (EV.mv rfl) rfl (sv (EV.neq rfl rfl) rfl (re ?_)))))
  revert H; refine ifsI ?_ ?_ <;> intro c2 H
  ·
   refine gf rfl (nF c2) (gx rfl (gs (gs (rg (sv (EV.mv rfl) rfl (re ?_))))))
   revert H; refine ifsI ?_ ?_ <;> intro c3 H
   ·
    subst c3
    refine gt rfl rfl (gs (rg (sv (EV.mv rfl) rfl ?_)))
    revert H; refine ggI ?_; intro g4 H
    refine sv (EV.ads rfl rfl g4) rfl (sv (EV.as rfl) rfl (re (pr [2] [] [] rfl rfl rfl rfl ?_)))
    cases H
    exact rt Try.func18 rfl (.tmp rfl .nil) rfl [] [] rfl rfl rfl rfl rfl ⟨rfl, rfl, rfl⟩
   ·
    have xc3 := bF c3; subst xc3
    refine gf rfl rfl (gk (gs (rg (sv (EV.mv rfl) rfl (sv (EV.as rfl) rfl (re (pr [2] [] [] rfl rfl rfl rfl ?_)))))))
    cases H
    exact rt Try.func18 rfl (.tmp rfl .nil) rfl [] [] rfl rfl rfl rfl rfl ⟨rfl, rfl, rfl⟩
  ·
   refine gt rfl (nT c2) (gk (gb (gs (rg (sv (EV.mv rfl) rfl (sv (EV.rem rfl rfl dq) rfl (sv (EV.as rfl) rfl (re ?_))))))))
   refine jo (fun S => ∃ (m : Nat) (x6_0 : Int) (x6_3 : ByteArray) (x6_4 : Bool) (x6_5 : Int), m ≤ n0 ∧ spec_FormatInt.j0 m x6_0 x6_3 x6_4 x6_5 = some r0 ∧ S = ⟨[(0, .int .i64 x6_0), (3, .string x6_3), (4, .bool x6_4), (5, .int .i64 x6_5)], [], []⟩) (fun S hS => ?_) (fun jh0 => ?_)
   ·
    clear H
    obtain ⟨m5, x6_0, x6_3, x6_4, x6_5, lm5, H, rfl⟩ := hS
    rcases m5 with _ | m5
    · rw [spec_FormatInt.j0] at H; cases H
    rw [spec_FormatInt.j0] at H
    refine gs (rg (sv (EV.mv rfl) rfl (sv (EV.add rfl rfl) rfl (sv (EV.cv (k' := .u8) rfl) rfl (so rfl (op_lit (s := 1) (by_ := 1) (.int .u8) ([IntKind.u8.wrap (wrap64 (48 + x6_5))] : List Int) [[]] [] 1 [.tmp 20] rfl rfl rfl rfl rfl rfl rfl rfl rfl rfl rfl rfl rfl dq rfl fun A21_6 c21_6 => (sv (EV.bs 0 rfl rfl) rfl (sv (EV.mv rfl) rfl ?_))))))))
    revert H; refine ggI ?_; intro g7 H
    exact sv (EV.ads rfl rfl g7) rfl (sv (EV.as rfl) rfl (re (pr [0, 3, 4] [] [] rfl rfl rfl rfl (rg (sv (EV.mv rfl) rfl (sv (EV.quo rfl rfl dq) rfl (sv (EV.as rfl) rfl (re (ge (wk [0, 3, 4] [] [] (ih0 _ (by omega) _ ⟨wrap64 (Int.tdiv x6_0 10), (strOfNums ([IntKind.u8.wrap (wrap64 (48 + x6_5))] : List Int)) ++ x6_3, x6_4, H, rfl⟩)))))))))))
   ·
    refine gs (rg (sv (EV.mv rfl) rfl (sv (EV.lss rfl rfl) rfl (re ?_))))
    revert H; refine ifsI ?_ ?_ <;> intro c8 H
    ·
     exact gt rfl (dT c8) (rg (sv (EV.mv rfl) rfl (sv (EV.ng rfl) rfl (sv (EV.as rfl) rfl (re (pr [0, 3, 4, 5] [] [] rfl rfl rfl rfl (wk [0, 3, 4, 5] [] [] (jh0 _ ⟨_, x4_0, x4_3, x4_4, wrap64 (-(Int.tmod x4_0 10)), by omega, H, rfl⟩))))))))
    ·
     exact gf rfl (dF c8) (gk (wk [0, 3, 4, 5] [] [] (jh0 _ ⟨_, x4_0, x4_3, x4_4, Int.tmod x4_0 10, by omega, H, rfl⟩)))
mutual
def spec_ParseInt.j1 : Nat → ByteArray → Int → Int → Option (Int × Bool)
 | 0, _, _, _ => none
 | k + 1, x3_0, x3_4, x3_5 => if x3_5 > 9 then (some (0, false)) else (if (x3_0.size : Int) > 10 then (some (0, false)) else ((spec_FormatInt.f k x3_4).bind fun t5 => (if t5.toList = x3_0.toList then (some (x3_4, true)) else (some (0, false)))))
def spec_ParseInt.j0 : Nat → ByteArray → Int → Int → Option (Int × Bool)
 | 0, _, _, _ => none
 | k + 1, x2_0, x2_4, x2_5 => if (x2_0.size : Int) > 0 then (if 0 < (x2_0.size : Int) then (if (bt x2_0 0) = 45 then (spec_ParseInt.j1 k x2_0 (wrap64 (-x2_4)) x2_5) else (spec_ParseInt.j1 k x2_0 x2_4 x2_5)) else none) else (spec_ParseInt.j1 k x2_0 x2_4 x2_5)
def spec_ParseInt.l0 : Nat → ByteArray → Int → Int → Int → Option (Int × Bool)
 | 0, _, _, _, _ => none
 | k + 1, x4_0, x4_4, x4_5, x4_6 => if x4_6 < (x4_0.size : Int) then (if x4_6 < 11 then (if 0 ≤ x4_6 then (if (bt x4_0 x4_6) ≥ 48 then (if (bt x4_0 x4_6) ≤ 57 then (spec_ParseInt.l0 k x4_0 (wrap64 ((wrap64 (x4_4 * 10)) + (IntKind.i64.wrap (IntKind.u8.wrap ((bt x4_0 x4_6) - 48))))) (wrap64 (x4_5 + 1)) (wrap64 (x4_6 + 1))) else (spec_ParseInt.l0 k x4_0 x4_4 x4_5 (wrap64 (x4_6 + 1)))) else (spec_ParseInt.l0 k x4_0 x4_4 x4_5 (wrap64 (x4_6 + 1)))) else none) else (spec_ParseInt.j0 k x4_0 x4_4 x4_5)) else (spec_ParseInt.j0 k x4_0 x4_4 x4_5)
end
def spec_ParseInt.f (k : Nat) (a0 : ByteArray) : Option (Int × Bool) := spec_ParseInt.l0 k a0 0 0 0
set_option maxHeartbeats 4000000 in
set_option maxRecDepth 100000 in
theorem spec_ParseInt.ok (k : Nat) (a0 : ByteArray) (r0 : Int) (r1 : Bool) (H : spec_ParseInt.f k a0 = some (r0, r1)) : Fn Try.prog 32 [.string a0] [] [] (fun v bx en => v = .tuple #[.int .i64 r0, .bool r1] ∧ bx = [] ∧ en = []) := by
 refine fn_ 61 Try.func32 rfl rfl rfl (fun base T w0 => ?_)
 rw [spec_ParseInt.f] at H
 refine gs (rg (sv (EV.as rfl) rfl (sv (EV.as rfl) rfl (re (gs (rg (sv (EV.as rfl) rfl (re (gs (rg (sv (EV.as rfl) rfl (re ?_))))))))))))
 refine jo (fun S => ∃ (m : Nat) (x2_0 : ByteArray) (x2_4 : Int) (x2_5 : Int), spec_ParseInt.j0 m x2_0 x2_4 x2_5 = some (r0, r1) ∧ S = ⟨[(0, .string x2_0), (4, .int .i64 x2_4), (5, .int .i64 x2_5)], [], []⟩) (fun S hS => ?_) (fun jh0 => ?_)
 ·
  clear H
  obtain ⟨m1, x2_0, x2_4, x2_5, H, rfl⟩ := hS
  rcases m1 with _ | m1
  · rw [spec_ParseInt.j0] at H; cases H
  rw [spec_ParseInt.j0] at H
  refine jo (fun S => ∃ (m : Nat) (x3_0 : ByteArray) (x3_4 : Int) (x3_5 : Int), m ≤ m1 ∧ spec_ParseInt.j1 m x3_0 x3_4 x3_5 = some (r0, r1) ∧ S = ⟨[(0, .string x3_0), (4, .int .i64 x3_4), (5, .int .i64 x3_5)], [], []⟩) (fun S hS => ?_) (fun jh1 => ?_)
  ·
   clear H
   obtain ⟨m2, x3_0, x3_4, x3_5, lm2, H, rfl⟩ := hS
   rcases m2 with _ | m2
   · rw [spec_ParseInt.j1] at H; cases H
   rw [spec_ParseInt.j1] at H
   refine gs (gs (rg (sv (EV.mv rfl) rfl (sv (EV.gtr rfl rfl) rfl (sv (EV.mv rfl) rfl ?_)))))
   revert H; refine ifsI ?_ ?_ <;> intro c3 H
   ·
    refine ts 49 rfl (dT c3) (sk rfl (sk rfl (sk rfl (sv (EV.pt rfl rfl rfl) rfl (sv (EV.mv rfl) rfl (sk rfl (sk rfl (sk rfl (sk rfl (sv (EV.pt rfl rfl rfl) rfl (re (pr [4, 59] [] [] rfl rfl rfl rfl (gt rfl rfl (gs (rg (sv (EV.as rfl) rfl (sv (EV.as rfl) rfl (re ?_))))))))))))))))))
    cases H
    exact rt Try.func32 rfl (.tmp rfl (.tmp rfl .nil)) rfl [] [] rfl rfl rfl rfl rfl ⟨rfl, rfl, rfl⟩
   ·
    refine ts 49 rfl (dF c3) (sv (EV.mv rfl) rfl (sv (EV.lns rfl) rfl (sv (EV.gtr rfl rfl) rfl (sv (EV.pf rfl rfl rfl) rfl (sv (EV.mv rfl) rfl ?_)))))
    revert H; refine ifsI ?_ ?_ <;> intro c4 H
    ·
     refine ts 54 rfl (dT c4) (sk rfl (sk rfl (sk rfl (sk rfl (sv (EV.pt rfl rfl rfl) rfl (re (pr [4, 59] [] [] rfl rfl rfl rfl (gt rfl rfl (gs (rg (sv (EV.as rfl) rfl (sv (EV.as rfl) rfl (re ?_)))))))))))))
     cases H
     exact rt Try.func32 rfl (.tmp rfl (.tmp rfl .nil)) rfl [] [] rfl rfl rfl rfl rfl ⟨rfl, rfl, rfl⟩
    ·
     refine ts 54 rfl (dF c4) (sv (EV.mv rfl) rfl ?_)
     revert H; refine bdI ?_; rintro t5 A5 H
     refine so rfl (op_call (spec_FormatInt.ok m2 x3_4 _ A5) [] 1 rfl rfl rfl rfl rfl ?_)
     rintro _ _ _ ⟨rfl, rfl, rfl⟩
     refine sv (EV.mv rfl) rfl (sv (EV.nes rfl rfl) rfl (sv (EV.pf rfl rfl rfl) rfl (re (pr [4, 59] [] [] rfl rfl rfl rfl ?_))))
     revert H; refine ifsI ?_ ?_ <;> intro c6 H
     ·
      refine gf rfl (nF c6) (gk (gs (rg (sv (EV.mv rfl) rfl (sv (EV.as rfl) rfl (sv (EV.as rfl) rfl (re ?_)))))))
      cases H
      exact rt Try.func32 rfl (.tmp rfl (.tmp rfl .nil)) rfl [] [] rfl rfl rfl rfl rfl ⟨rfl, rfl, rfl⟩
     ·
      refine gt rfl (nT c6) (gs (rg (sv (EV.as rfl) rfl (sv (EV.as rfl) rfl (re ?_)))))
      cases H
      exact rt Try.func32 rfl (.tmp rfl (.tmp rfl .nil)) rfl [] [] rfl rfl rfl rfl rfl ⟨rfl, rfl, rfl⟩
  ·
   refine gs (rg (sv (EV.mv rfl) rfl (sv (EV.lns rfl) rfl (sv (EV.gtr rfl rfl) rfl (sv (EV.mv rfl) rfl ?_)))))
   revert H; refine ifsI ?_ ?_ <;> intro c7 H
   ·
    refine ts 40 rfl (dT c7) (sv (EV.mv rfl) rfl ?_)
    revert H; refine ggI ?_; intro g8 H
    refine sv (EV.is rfl rfl dq g8) rfl (sv (EV.eql rfl rfl) rfl (sv (EV.pt rfl rfl rfl) rfl (re (pr [0, 4, 5, 44] [] [] rfl rfl rfl rfl ?_))))
    revert H; refine ifsI ?_ ?_ <;> intro c9 H
    ·
     exact gt rfl (dT c9) (rg (sv (EV.mv rfl) rfl (sv (EV.ng rfl) rfl (sv (EV.as rfl) rfl (re (wk [0, 4, 5] [] [] (jh1 _ ⟨_, x2_0, wrap64 (-x2_4), x2_5, by omega, H, rfl⟩)))))))
    ·
     exact gf rfl (dF c9) (gk (wk [0, 4, 5] [] [] (jh1 _ ⟨_, x2_0, x2_4, x2_5, by omega, H, rfl⟩)))
   ·
    exact ts 40 rfl (dF c7) (sk rfl (sk rfl (sk rfl (sv (EV.pf rfl rfl rfl) rfl (re (pr [0, 4, 5, 44] [] [] rfl rfl rfl rfl (gf rfl rfl (gk (wk [0, 4, 5] [] [] (jh1 _ ⟨_, x2_0, x2_4, x2_5, by omega, H, rfl⟩))))))))))
 ·
  refine gs (rg (sv (EV.as rfl) rfl (re (gb ?_))))
  refine lo (fun kk S => ∃ (x4_0 : ByteArray) (x4_4 : Int) (x4_5 : Int) (x4_6 : Int), spec_ParseInt.l0 kk x4_0 x4_4 x4_5 x4_6 = some (r0, r1) ∧ S = ⟨[(0, .string x4_0), (4, .int .i64 x4_4), (5, .int .i64 x4_5), (6, .int .i64 x4_6)], [], []⟩) (fun S hS => ?_) (fun n0 ih0 S hS => ?_) ⟨a0, 0, 0, 0, H, rfl⟩ (fun h => wk [0, 4, 5, 6] [] [] h)
  · clear H; obtain ⟨_, _, _, _, H, _⟩ := hS; rw [spec_ParseInt.l0] at H; cases H
  clear H
  obtain ⟨x4_0, x4_4, x4_5, x4_6, H, rfl⟩ := hS
  rw [spec_ParseInt.l0] at H
  refine gs (gs (rg (sv (EV.mv rfl) rfl (sv (EV.mv rfl) rfl (sv (EV.lns rfl) rfl (sv (EV.lss rfl rfl) rfl (sv (EV.mv rfl) rfl ?_)))))))
  revert H; refine ifsI ?_ ?_ <;> intro c10 H
  ·
   refine ts 11 rfl (dT c10) (sv (EV.mv rfl) rfl (sv (EV.lss rfl rfl) rfl (sv (EV.pt rfl rfl rfl) rfl (re ?_))))
   revert H; refine ifsI ?_ ?_ <;> intro c11 H
   ·
    refine gt rfl (dT c11) (gk (gs (gb (gs (rg (sv (EV.mv rfl) rfl (sv (EV.mv rfl) rfl ?_)))))))
    revert H; refine ggI ?_; intro g12 H
    refine sv (EV.is rfl rfl g12 c10) rfl (sv (EV.geq rfl rfl) rfl (sv (EV.mv rfl) rfl ?_))
    revert H; refine ifsI ?_ ?_ <;> intro c13 H
    ·
     refine ts 21 rfl (dT c13) (sv (EV.mv rfl) rfl (sv (EV.mv rfl) rfl (sv (EV.is rfl rfl g12 c10) rfl (sv (EV.leq rfl rfl) rfl (sv (EV.pt rfl rfl rfl) rfl (re (pr [0, 4, 5, 6, 12, 13, 22, 23, 24, 25, 26] [] [] rfl rfl rfl rfl ?_)))))))
     revert H; refine ifsI ?_ ?_ <;> intro c14 H
     ·
      exact gt rfl (dT c14) (gs (rg (sv (EV.mv rfl) rfl (sv (EV.mul rfl rfl) rfl (sv (EV.mv rfl) rfl (sv (EV.mv rfl) rfl (sv (EV.is rfl rfl g12 c10) rfl (sv (EV.subk rfl rfl) rfl (sv (EV.cv (k' := .i64) rfl) rfl (sv (EV.add rfl rfl) rfl (sv (EV.as rfl) rfl (re (pr [0, 4, 5, 6, 12, 13, 22, 23, 24, 25] [] [] rfl rfl rfl rfl (rg (sv (EV.mv rfl) rfl (sv (EV.add rfl rfl) rfl (sv (EV.as rfl) rfl (re (ge (rg (sv (EV.mv rfl) rfl (sv (EV.add rfl rfl) rfl (sv (EV.as rfl) rfl (re (wk [0, 4, 5, 6] [] [] (ih0 _ (by omega) _ ⟨x4_0, wrap64 ((wrap64 (x4_4 * 10)) + (IntKind.i64.wrap (IntKind.u8.wrap ((bt x4_0 x4_6) - 48)))), wrap64 (x4_5 + 1), wrap64 (x4_6 + 1), H, rfl⟩))))))))))))))))))))))))))
     ·
      exact gf rfl (dF c14) (gk (ge (rg (sv (EV.mv rfl) rfl (sv (EV.add rfl rfl) rfl (sv (EV.as rfl) rfl (re (wk [0, 4, 5, 6] [] [] (ih0 _ (by omega) _ ⟨x4_0, x4_4, x4_5, wrap64 (x4_6 + 1), H, rfl⟩)))))))))
    ·
     exact ts 21 rfl (dF c13) (sk rfl (sk rfl (sk rfl (sk rfl (sv (EV.pf rfl rfl rfl) rfl (re (pr [0, 4, 5, 6, 12, 13, 26] [] [] rfl rfl rfl rfl (gf rfl rfl (gk (ge (rg (sv (EV.mv rfl) rfl (sv (EV.add rfl rfl) rfl (sv (EV.as rfl) rfl (re (wk [0, 4, 5, 6] [] [] (ih0 _ (by omega) _ ⟨x4_0, x4_4, x4_5, wrap64 (x4_6 + 1), H, rfl⟩)))))))))))))))))
   ·
    exact gf rfl (dF c11) (gx rfl (wk [0, 4, 5] [] [] (jh0 _ ⟨_, x4_0, x4_4, x4_5, H, rfl⟩)))
  ·
   exact ts 11 rfl (dF c10) (sk rfl (sk rfl (sv (EV.pf rfl rfl rfl) rfl (re (pr [0, 4, 5, 6, 14] [] [] rfl rfl rfl rfl (gf rfl rfl (gx rfl (wk [0, 4, 5] [] [] (jh0 _ ⟨_, x4_0, x4_4, x4_5, H, rfl⟩)))))))))
def spec_FormatRow.f (k : Nat) (a0_0 : Int) (a0_1 : Int) (a0_2 : Int) : Option (ByteArray) := (spec_IsValidRow.f a0_0 a0_1 a0_2).bind fun t1 => (if t1 = true then ((spec_FormatInt.f k a0_0).bind fun t3 => (if t3.size + (⟨#[46]⟩ : ByteArray).size ≤ 9223372036854775807 then ((spec_FormatInt.f k a0_1).bind fun t5 => (if (t3 ++ (⟨#[46]⟩ : ByteArray)).size + t5.size ≤ 9223372036854775807 then (if ((t3 ++ (⟨#[46]⟩ : ByteArray)) ++ t5).size + (⟨#[46]⟩ : ByteArray).size ≤ 9223372036854775807 then ((spec_FormatInt.f k a0_2).bind fun t8 => (if (((t3 ++ (⟨#[46]⟩ : ByteArray)) ++ t5) ++ (⟨#[46]⟩ : ByteArray)).size + t8.size ≤ 9223372036854775807 then (some ((((t3 ++ (⟨#[46]⟩ : ByteArray)) ++ t5) ++ (⟨#[46]⟩ : ByteArray)) ++ t8)) else none)) else none) else none)) else none)) else (some (⟨#[]⟩ : ByteArray)))
set_option maxHeartbeats 4000000 in
set_option maxRecDepth 100000 in
theorem spec_FormatRow.ok (k : Nat) (a0_0 : Int) (a0_1 : Int) (a0_2 : Int) (r0 : ByteArray) (H : spec_FormatRow.f k a0_0 a0_1 a0_2 = some r0) : Fn Try.prog 54 [.agg #[.int .i64 a0_0, .int .i64 a0_1, .int .i64 a0_2]] [] [] (fun v bx en => v = .string r0 ∧ bx = [] ∧ en = []) := by
 refine fn_ 19 Try.func54 rfl rfl rfl (fun base T w0 => ?_)
 rw [spec_FormatRow.f] at H
 refine gs (rg (so rfl (op_box (cs := [.int .i64 a0_0, .int .i64 a0_1, .int .i64 a0_2]) rfl rfl rfl fun b1 => (sv (EV.as rfl) rfl (re (gs (gs (rg (sv (EV.ld (v := .agg #[.int .i64 a0_0, .int .i64 a0_1, .int .i64 a0_2]) 0 (some 3) rfl rfl rfl) rfl ?_)))))))))
 revert H; refine bdI ?_; rintro t1 A1 H
 refine so rfl (op_call (spec_IsValidRow.ok a0_0 a0_1 a0_2 _ A1) [] 1 rfl rfl rfl rfl rfl ?_)
 rintro _ _ _ ⟨rfl, rfl, rfl⟩
 refine sv (EV.nt rfl) rfl (re ?_)
 revert H; refine ifsI ?_ ?_ <;> intro c2 H
 ·
  subst c2
  refine gf rfl rfl (gk (gs (dr [0] [] [] 14 rfl rfl rfl rfl (xv 0 [0] [] rfl (EV.fa 0 rfl) rfl rfl rfl rfl (xv 1 [0] [] rfl (EV.ld 0 none rfl rfl rfl) rfl rfl rfl rfl (xv 4 [0] [] rfl (EV.fa 1 rfl) rfl rfl rfl rfl (xv 5 [0] [] rfl (EV.ld 0 none rfl rfl rfl) rfl rfl rfl rfl (xv 9 [0] [] rfl (EV.fa 2 rfl) rfl rfl rfl rfl (xv 10 [0] [] rfl (EV.ld 0 none rfl rfl rfl) rfl rfl rfl rfl (one1 2 rfl rfl ?_))))))))))
  revert H; refine bdI ?_; rintro t3 A3 H
  refine op_call (spec_FormatInt.ok k a0_0 _ A3) [] 1 rfl rfl rfl rfl rfl ?_
  rintro _ _ _ ⟨rfl, rfl, rfl⟩
  refine xs [0] [] rfl rfl rfl ?_
  revert H; refine ggI ?_; intro g4 H
  refine xv 3 [0] [] rfl (EV.ads rfl rfl g4) rfl rfl rfl rfl (one1 6 rfl rfl ?_)
  revert H; refine bdI ?_; rintro t5 A5 H
  refine op_call (spec_FormatInt.ok k a0_1 _ A5) [] 1 rfl rfl rfl rfl rfl ?_
  rintro _ _ _ ⟨rfl, rfl, rfl⟩
  refine xs [0] [] rfl rfl rfl ?_
  revert H; refine ggI ?_; intro g6 H
  refine xv 7 [0] [] rfl (EV.ads rfl rfl g6) rfl rfl rfl rfl ?_
  revert H; refine ggI ?_; intro g7 H
  refine xv 8 [0] [] rfl (EV.ads rfl rfl g7) rfl rfl rfl rfl (one1 11 rfl rfl ?_)
  revert H; refine bdI ?_; rintro t8 A8 H
  refine op_call (spec_FormatInt.ok k a0_2 _ A8) [] 1 rfl rfl rfl rfl rfl ?_
  rintro _ _ _ ⟨rfl, rfl, rfl⟩
  refine xs [0] [] rfl rfl rfl ?_
  revert H; refine ggI ?_; intro g9 H
  refine xv 12 [0] [] rfl (EV.ads rfl rfl g9) rfl rfl rfl rfl (xv 13 [0] [] rfl (EV.as rfl) rfl rfl rfl rfl (xd (pr [2] [] [] rfl rfl rfl rfl ?_)))
  cases H
  exact rt Try.func54 rfl (.tmp rfl .nil) rfl [] [] rfl rfl rfl rfl rfl ⟨rfl, rfl, rfl⟩
 ·
  have xc2 := bF c2; subst xc2
  refine gt rfl rfl (gs (rg (sv (EV.as rfl) rfl (re ?_))))
  cases H
  exact rt Try.func54 rfl (.tmp rfl .nil) rfl [] [] rfl rfl rfl rfl rfl ⟨rfl, rfl, rfl⟩
def spec_ParseRow.f (k : Nat) (a0 : ByteArray) : Option (Int × Int × Int × Bool) := (spec_l2Cut.f k a0 46).bind fun t1 => (if (t1.length : Int) = 3 then (if 0 < (t1.length : Int) then ((spec_ParseInt.f k (rdOf ByteArray.empty t1 0)).bind fun bt4 => (if 1 < (t1.length : Int) then ((spec_ParseInt.f k (rdOf ByteArray.empty t1 1)).bind fun bt6 => (if 2 < (t1.length : Int) then ((spec_ParseInt.f k (rdOf ByteArray.empty t1 2)).bind fun bt8 => ((spec_FormatRow.f k bt4.1 bt6.1 bt8.1).bind fun t9 => (if t9.toList = a0.toList then (some (bt4.1, bt6.1, bt8.1, true)) else (some (0, 0, 0, false))))) else none)) else none)) else none) else (some (0, 0, 0, false)))
set_option maxHeartbeats 4000000 in
set_option maxRecDepth 100000 in
theorem spec_ParseRow.ok (k : Nat) (a0 : ByteArray) (r0 : Int) (r1 : Int) (r2 : Int) (r3 : Bool) (H : spec_ParseRow.f k a0 = some (r0, r1, r2, r3)) : Fn Try.prog 72 [.string a0] [] [] (fun v bx en => v = .tuple #[.agg #[.int .i64 r0, .int .i64 r1, .int .i64 r2], .bool r3] ∧ bx = [] ∧ en = []) := by
 refine fn_ 43 Try.func72 rfl rfl rfl (fun base T w0 => ?_)
 rw [spec_ParseRow.f] at H
 refine gs (rg (so rfl (op_alloc (cs := [.int .i64 0, .int .i64 0, .int .i64 0]) (by kernel_rfl) rfl fun b2 => (sv (EV.as rfl) rfl (re (gs (rg (sv (EV.mv rfl) rfl ?_))))))))
 revert H; refine bdI ?_; rintro t1 A1 H
 refine so rfl (op_call (spec_l2Cut.ok k a0 46 _ A1) [] 1 rfl rfl rfl rfl rfl ?_)
 rintro _ _ _ ⟨At1, ct1, rfl, rfl, rfl⟩
 refine sv (EV.as rfl) rfl (re (gs (gs (rg (sv (EV.mv rfl) rfl (sv (EV.ln rfl) rfl (sv (EV.neq rfl rfl) rfl (re ?_))))))))
 revert H; refine ifsI ?_ ?_ <;> intro c2 H
 ·
  refine gf rfl (nF c2) (gk (gs (rg (sv (EV.bd (v := .agg #[.int .i64 0, .int .i64 0, .int .i64 0]) rfl (by kernel_rfl)) rfl (so rfl (op_alloc (cs := [.int .i64 0, .int .i64 0, .int .i64 0]) (by kernel_rfl) rfl fun b5 => (so rfl (op_st (cs' := [.int .i64 0, .int .i64 0, .int .i64 0]) 1 rfl rfl rfl rfl rfl rfl (re (pr [0, 2, 4, 5] [0, 1] [0] rfl rfl rfl rfl (gs (rg (sv (EV.mv rfl) rfl ?_)))))))))))))
  revert H; refine ggI ?_; intro g3 H
  refine sv (EV.ix 0 rfl rfl rfl dq g3 rfl) rfl (sv (EV.le (v := .string (rdOf ByteArray.empty t1 0)) 0 0 none 0 ByteArray.empty rfl rfl rfl dq g3 rfl rfl rfl) rfl ?_)
  revert H; refine bdI ?_; rintro ⟨t4_0, t4_1⟩ A4 H
  refine so rfl (op_call (spec_ParseInt.ok k (rdOf ByteArray.empty t1 0) _ _ A4) [] 3 rfl rfl rfl rfl rfl ?_)
  rintro _ _ _ ⟨rfl, rfl, rfl⟩
  refine sv (EV.mv rfl) rfl (sv (EV.ex rfl rfl) rfl (sv (EV.ex rfl rfl) rfl (sv (EV.fa 0 rfl) rfl (so rfl (op_st (cs' := [.int .i64 t4_0, .int .i64 0, .int .i64 0]) 1 rfl rfl rfl rfl rfl rfl (re (pr [0, 2, 4, 5] [0, 1] [0] rfl rfl rfl rfl (gs (rg (sv (EV.mv rfl) rfl ?_))))))))))
  revert H; refine ggI ?_; intro g5 H
  refine sv (EV.ix 0 rfl rfl rfl dq g5 rfl) rfl (sv (EV.le (v := .string (rdOf ByteArray.empty t1 1)) 1 0 none 0 ByteArray.empty rfl rfl rfl dq g5 rfl rfl rfl) rfl ?_)
  revert H; refine bdI ?_; rintro ⟨t6_0, t6_1⟩ A6 H
  refine so rfl (op_call (spec_ParseInt.ok k (rdOf ByteArray.empty t1 1) _ _ A6) [] 3 rfl rfl rfl rfl rfl ?_)
  rintro _ _ _ ⟨rfl, rfl, rfl⟩
  refine sv (EV.mv rfl) rfl (sv (EV.ex rfl rfl) rfl (sv (EV.ex rfl rfl) rfl (sv (EV.fa 1 rfl) rfl (so rfl (op_st (cs' := [.int .i64 t4_0, .int .i64 t6_0, .int .i64 0]) 1 rfl rfl rfl rfl rfl rfl (re (pr [0, 2, 4, 5] [0, 1] [0] rfl rfl rfl rfl (gs (rg (sv (EV.mv rfl) rfl ?_))))))))))
  revert H; refine ggI ?_; intro g7 H
  refine sv (EV.ix 0 rfl rfl rfl dq g7 rfl) rfl (sv (EV.le (v := .string (rdOf ByteArray.empty t1 2)) 2 0 none 0 ByteArray.empty rfl rfl rfl dq g7 rfl rfl rfl) rfl ?_)
  revert H; refine bdI ?_; rintro ⟨t8_0, t8_1⟩ A8 H
  refine so rfl (op_call (spec_ParseInt.ok k (rdOf ByteArray.empty t1 2) _ _ A8) [] 3 rfl rfl rfl rfl rfl ?_)
  rintro _ _ _ ⟨rfl, rfl, rfl⟩
  refine sv (EV.mv rfl) rfl (sv (EV.ex rfl rfl) rfl (sv (EV.ex rfl rfl) rfl (sv (EV.fa 2 rfl) rfl (so rfl (op_st (cs' := [.int .i64 t4_0, .int .i64 t6_0, .int .i64 t8_0]) 1 rfl rfl rfl rfl rfl rfl (re (pr [0, 2, 5] [0, 1] [] rfl rfl rfl rfl (gs (gs (rg (sv (EV.ld (v := .agg #[.int .i64 t4_0, .int .i64 t6_0, .int .i64 t8_0]) 1 (some 3) rfl rfl rfl) rfl ?_)))))))))))
  revert H; refine bdI ?_; rintro t9 A9 H
  refine so rfl (op_call (spec_FormatRow.ok k t4_0 t6_0 t8_0 _ A9) [] 1 rfl rfl rfl rfl rfl ?_)
  rintro _ _ _ ⟨rfl, rfl, rfl⟩
  refine sv (EV.mv rfl) rfl (sv (EV.nes rfl rfl) rfl (re ?_))
  revert H; refine ifsI ?_ ?_ <;> intro c10 H
  ·
   refine gf rfl (nF c10) (gk (gs (rg (sv (EV.ld (v := .agg #[.int .i64 t4_0, .int .i64 t6_0, .int .i64 t8_0]) 1 (some 3) rfl rfl rfl) rfl (so rfl (op_st (cs' := [.int .i64 t4_0, .int .i64 t6_0, .int .i64 t8_0]) 0 rfl rfl rfl rfl rfl rfl (sv (EV.as rfl) rfl (re (pr [2, 3] [0] [] rfl rfl rfl rfl ?_)))))))))
   cases H
   exact rt Try.func72 rfl (.cell 0 (some 3) rfl rfl rfl (.tmp rfl .nil)) rfl [] [] rfl rfl rfl rfl rfl ⟨rfl, rfl, rfl⟩
  ·
   refine gt rfl (nT c10) (gs (rg (sv (EV.bd (v := .agg #[.int .i64 0, .int .i64 0, .int .i64 0]) rfl (by kernel_rfl)) rfl (so rfl (op_st (cs' := [.int .i64 0, .int .i64 0, .int .i64 0]) 0 rfl rfl rfl rfl rfl rfl (sv (EV.as rfl) rfl (re (pr [2, 3] [0] [] rfl rfl rfl rfl ?_))))))))
   cases H
   exact rt Try.func72 rfl (.cell 0 (some 3) rfl rfl rfl (.tmp rfl .nil)) rfl [] [] rfl rfl rfl rfl rfl ⟨rfl, rfl, rfl⟩
 ·
  refine gt rfl (nT c2) (gs (rg (sv (EV.bd (v := .agg #[.int .i64 0, .int .i64 0, .int .i64 0]) rfl (by kernel_rfl)) rfl (so rfl (op_st (cs' := [.int .i64 0, .int .i64 0, .int .i64 0]) 0 rfl rfl rfl rfl rfl rfl (sv (EV.as rfl) rfl (re (pr [2, 3] [0] [] rfl rfl rfl rfl ?_))))))))
  cases H
  exact rt Try.func72 rfl (.cell 0 (some 3) rfl rfl rfl (.tmp rfl .nil)) rfl [] [] rfl rfl rfl rfl rfl ⟨rfl, rfl, rfl⟩
mutual
def spec_ParseRows.j0 : Nat → (List S72) → Option ((List S72) × Bool)
 | 0, _ => none
 | k + 1, x2_4 => (spec_AreValidRows.f k x2_4).bind fun t4 => (if t4 = true then (some (x2_4, true)) else (some ([], false)))
def spec_ParseRows.l0 : Nat → ByteArray → (List S72) → (List ByteArray) → Int → Option ((List S72) × Bool)
 | 0, _, _, _, _ => none
 | k + 1, x3_0, x3_4, x3_5, x3_6 => if x3_6 < (x3_5.length : Int) then (if x3_0.toList = (⟨#[]⟩ : ByteArray).toList then (spec_ParseRows.j0 k x3_4) else (if 0 ≤ x3_6 then ((spec_ParseRow.f k (rdOf ByteArray.empty x3_5 x3_6)).bind fun bt10 => (if bt10.2.2.2 = true then (if x3_4.length < 5864062014805 then (spec_ParseRows.l0 k x3_0 (x3_4 ++ ([(⟨bt10.1, bt10.2.1, bt10.2.2.1⟩ : S72)] : List S72)) x3_5 (wrap64 (x3_6 + 1))) else none) else (some ([], false)))) else none)) else (spec_ParseRows.j0 k x3_4)
end
def spec_ParseRows.f (k : Nat) (a0 : ByteArray) : Option ((List S72) × Bool) := (spec_l2Cut.f k a0 32).bind fun t2 => (spec_ParseRows.l0 k a0 [] t2 0)
set_option maxHeartbeats 4000000 in
set_option maxRecDepth 100000 in
theorem spec_ParseRows.ok (k : Nat) (a0 : ByteArray) (r0 : List S72) (r1 : Bool) (H : spec_ParseRows.f k a0 = some (r0, r1)) : Fn Try.prog 31 [.string a0] [] [] (fun v bx en => ∃ A0 c0, v = .tuple #[.slice A0 r0.length c0, .bool r1] ∧ bx = [] ∧ en = [.sl 2 k72 A0 c0 r0 1 true]) := by
 refine fn_ 42 Try.func31 rfl rfl rfl (fun base T w0 => ?_)
 rw [spec_ParseRows.f] at H
 refine gs (rg (sv (EV.as rfl) rfl (sv (EV.as rfl) rfl (re (gs (rg (so rfl (op_lit (s := 3) (by_ := 24) k72 ([] : List S72) [] [] 1 [] rfl rfl rfl rfl rfl rfl rfl rfl rfl rfl rfl rfl rfl dq rfl fun A9_1 c9_1 => (sv (EV.as rfl) rfl (re (gs (rg (sv (EV.mv rfl) rfl ?_)))))))))))))
 revert H; refine bdI ?_; rintro t2 A2 H
 refine so rfl (op_call (spec_l2Cut.ok k a0 32 _ A2) [] 2 rfl rfl rfl rfl rfl ?_)
 rintro _ _ _ ⟨At2, ct2, rfl, rfl, rfl⟩
 refine sv (EV.as rfl) rfl (re ?_)
 refine jo (fun S => ∃ (m : Nat) (x2_4 : List S72) (Ax2_4 : Option Addr) (cx2_4 : Nat), spec_ParseRows.j0 m x2_4 = some (r0, r1) ∧ S = ⟨[(4, .slice Ax2_4 x2_4.length cx2_4)], [], [.sl 2 k72 Ax2_4 cx2_4 x2_4 1 true]⟩) (fun S hS => ?_) (fun jh0 => ?_)
 ·
  clear H
  obtain ⟨m3, x2_4, Ax2_4, cx2_4, H, rfl⟩ := hS
  rcases m3 with _ | m3
  · rw [spec_ParseRows.j0] at H; cases H
  rw [spec_ParseRows.j0] at H
  refine gs (gs (rg (sv (EV.mv rfl) rfl ?_)))
  revert H; refine bdI ?_; rintro t4 A4 H
  refine so rfl (op_call (spec_AreValidRows.ok m3 x2_4 Ax2_4 cx2_4 _ A4) [⟨0, 0, 0, false⟩] 2 rfl rfl rfl rfl rfl ?_)
  rintro _ _ _ ⟨rfl, rfl, rfl⟩
  refine sv (EV.nt rfl) rfl (re ?_)
  revert H; refine ifsI ?_ ?_ <;> intro c5 H
  ·
   subst c5
   refine gf rfl rfl (gk (gs (rg (sv (EV.mv rfl) rfl (sv (EV.as rfl) rfl (sv (EV.as rfl) rfl (re ?_)))))))
   cases H
   exact rt Try.func31 rfl (.tmp rfl (.tmp rfl .nil)) rfl [] [⟨0, 2, 1, true⟩] rfl rfl rfl rfl rfl ⟨_, _, rfl, rfl, rfl⟩
  ·
   have xc5 := bF c5; subst xc5
   refine gt rfl rfl (gs (rg (so rfl (op_lit (s := 3) (by_ := 24) k72 ([] : List S72) [] [] 2 [] rfl rfl rfl rfl rfl rfl rfl rfl rfl rfl rfl rfl rfl dq rfl fun A40_6 c40_6 => (sv (EV.as rfl) rfl (sv (EV.as rfl) rfl (re ?_)))))))
   cases H
   exact rt Try.func31 rfl (.tmp rfl (.tmp rfl .nil)) rfl [] [⟨1, 2, 1, true⟩] rfl rfl rfl rfl rfl ⟨_, _, rfl, rfl, rfl⟩
 ·
  refine gs (rg (sv (EV.as rfl) rfl (re (gb ?_))))
  refine lo (fun kk S => ∃ (x3_0 : ByteArray) (x3_4 : List S72) (Ax3_4 : Option Addr) (cx3_4 : Nat) (x3_5 : List ByteArray) (Ax3_5 : Option Addr) (cx3_5 : Nat) (x3_6 : Int), spec_ParseRows.l0 kk x3_0 x3_4 x3_5 x3_6 = some (r0, r1) ∧ S = ⟨[(0, .string x3_0), (4, .slice Ax3_4 x3_4.length cx3_4), (5, .slice Ax3_5 x3_5.length cx3_5), (6, .int .i64 x3_6)], [], [.sl 2 k72 Ax3_4 cx3_4 x3_4 1 true, .sl 2 .str Ax3_5 cx3_5 x3_5 2 true]⟩) (fun S hS => ?_) (fun n0 ih0 S hS => ?_) ⟨a0, [], A9_1, c9_1, t2, At2, ct2, 0, H, rfl⟩ (fun h => wk [0, 4, 5, 6] [] [⟨0, 2, 1, true⟩, ⟨1, 2, 2, true⟩] h)
  · clear H; obtain ⟨_, _, _, _, _, _, _, _, H, _⟩ := hS; rw [spec_ParseRows.l0] at H; cases H
  clear H
  obtain ⟨x3_0, x3_4, Ax3_4, cx3_4, x3_5, Ax3_5, cx3_5, x3_6, H, rfl⟩ := hS
  rw [spec_ParseRows.l0] at H
  refine gs (gs (rg (sv (EV.mv rfl) rfl (sv (EV.mv rfl) rfl (sv (EV.ln rfl) rfl (sv (EV.lss rfl rfl) rfl (sv (EV.mv rfl) rfl ?_)))))))
  revert H; refine ifsI ?_ ?_ <;> intro c7 H
  ·
   refine ts 16 rfl (dT c7) (sv (EV.mv rfl) rfl (sv (EV.nes rfl rfl) rfl (sv (EV.pt rfl rfl rfl) rfl (re ?_))))
   revert H; refine ifsI ?_ ?_ <;> intro c8 H
   ·
    exact gf rfl (nF c8) (gx rfl (wk [4] [] [⟨0, 2, 1, true⟩] (jh0 _ ⟨_, x3_4, Ax3_4, cx3_4, H, rfl⟩)))
   ·
    refine gt rfl (nT c8) (gk (gs (gb (gs (rg (sv (EV.mv rfl) rfl (sv (EV.mv rfl) rfl ?_)))))))
    revert H; refine ggI ?_; intro g9 H
    refine sv (EV.ix 1 rfl rfl rfl g9 c7 rfl) rfl (sv (EV.le (v := .string (rdOf ByteArray.empty x3_5 x3_6)) x3_6 0 none 1 ByteArray.empty rfl rfl rfl g9 c7 rfl rfl rfl) rfl ?_)
    revert H; refine bdI ?_; rintro ⟨t10_0, t10_1, t10_2, t10_3⟩ A10 H
    refine so rfl (op_call (spec_ParseRow.ok n0 (rdOf ByteArray.empty x3_5 x3_6) _ _ _ _ A10) [] 3 rfl rfl rfl rfl rfl ?_)
    rintro _ _ _ ⟨rfl, rfl, rfl⟩
    refine sv (EV.mv rfl) rfl (sv (EV.ex rfl rfl) rfl (sv (EV.ex rfl rfl) rfl (so rfl (op_alloc (cs := [.int .i64 0, .int .i64 0, .int .i64 0]) (by kernel_rfl) rfl fun b7 => (so rfl (op_st (cs' := [.int .i64 t10_0, .int .i64 t10_1, .int .i64 t10_2]) 0 rfl rfl rfl rfl rfl rfl (sv (EV.as rfl) rfl (re (pr [0, 4, 5, 6, 7, 8, 17, 18] [0] [0, 1] rfl rfl rfl rfl (gs (gs (rg (sv (EV.mv rfl) rfl (sv (EV.nt rfl) rfl (re ?_)))))))))))))))
    revert H; refine ifsI ?_ ?_ <;> intro c11 H
    ·
     subst c11
     refine gf rfl rfl (gk (rg (sv (EV.mv rfl) rfl (sv (EV.ld (v := .agg #[.int .i64 t10_0, .int .i64 t10_1, .int .i64 t10_2]) 0 (some 3) rfl rfl rfl) rfl (so rfl (op_lit (s := 3) (by_ := 24) k72 ([(⟨t10_0, t10_1, t10_2⟩ : S72)] : List S72) [[]] [] 3 [.tmp 34] rfl rfl rfl rfl rfl rfl rfl rfl rfl rfl rfl rfl rfl dq rfl fun A35_12 c35_12 => ?_))))))
     revert H; refine ggI ?_; intro g13 H
     exact so rfl (op_app (k := k72) (s := 3) (by_ := 24) 0 2 rfl rfl rfl rfl (ap1 g13 dq) (ap1n g13 dq) (.inl rfl) true (fun _ => .inl rfl) rfl rfl fun A36_14 c36_14 => (nmE (en := [.sl 2 .str Ax3_5 cx3_5 x3_5 2 true, .sl 2 k72 A35_12 c35_12 ([(⟨t10_0, t10_1, t10_2⟩ : S72)] : List S72) 3 true, .sl 2 k72 A36_14 c36_14 (x3_4 ++ ([(⟨t10_0, t10_1, t10_2⟩ : S72)] : List S72)) 1 true]) (by kernel_rfl) (sv (EV.as rfl) rfl (re (pr [0, 4, 5, 6, 17, 18] [] [0, 2] rfl rfl rfl rfl (ge (rg (sv (EV.mv rfl) rfl (sv (EV.add rfl rfl) rfl (sv (EV.as rfl) rfl (re (wk [0, 4, 5, 6] [] [⟨1, 2, 1, true⟩, ⟨0, 2, 2, true⟩] (ih0 _ (by omega) _ ⟨x3_0, x3_4 ++ ([(⟨t10_0, t10_1, t10_2⟩ : S72)] : List S72), A36_14, c36_14, x3_5, Ax3_5, cx3_5, wrap64 (x3_6 + 1), H, rfl⟩)))))))))))))
    ·
     have xc11 := bF c11; subst xc11
     refine gt rfl rfl (gs (rg (so rfl (op_lit (s := 3) (by_ := 24) k72 ([] : List S72) [] [] 3 [] rfl rfl rfl rfl rfl rfl rfl rfl rfl rfl rfl rfl rfl dq rfl fun A32_15 c32_15 => (sv (EV.as rfl) rfl (sv (EV.as rfl) rfl (re (pr [2, 3] [] [2] rfl rfl rfl rfl ?_))))))))
     cases H
     exact rt Try.func31 rfl (.tmp rfl (.tmp rfl .nil)) rfl [] [⟨0, 2, 1, true⟩] rfl rfl rfl rfl rfl ⟨_, _, rfl, rfl, rfl⟩
  ·
   exact ts 16 rfl (dF c7) (sk rfl (sk rfl (sv (EV.pf rfl rfl rfl) rfl (re (pr [0, 4, 5, 6, 19] [] [0, 1] rfl rfl rfl rfl (gf rfl rfl (gx rfl (wk [4] [] [⟨0, 2, 1, true⟩] (jh0 _ ⟨_, x3_4, Ax3_4, cx3_4, H, rfl⟩)))))))))
def spec_CompareRows.l0 : Nat → (List Int) → (List Int) → Int → Option (Int)
 | 0, _, _, _ => none
 | k + 1, x2_5, x2_6, x2_7 => if x2_7 < 3 then (if 0 ≤ x2_7 then (if x2_7 < (x2_5.length : Int) then (if x2_7 < (x2_6.length : Int) then (if (rdOf 0 x2_5 x2_7) < (rdOf 0 x2_6 x2_7) then (some (-1)) else (if (rdOf 0 x2_5 x2_7) > (rdOf 0 x2_6 x2_7) then (some 1) else (spec_CompareRows.l0 k x2_5 x2_6 (wrap64 (x2_7 + 1))))) else none) else none) else none) else (some 0)
def spec_CompareRows.f (k : Nat) (a0_0 : Int) (a0_1 : Int) (a0_2 : Int) (a1_0 : Int) (a1_1 : Int) (a1_2 : Int) : Option (Int) := spec_CompareRows.l0 k ([a0_0, a0_1, a0_2] : List Int) ([a1_0, a1_1, a1_2] : List Int) 0
set_option maxHeartbeats 4000000 in
set_option maxRecDepth 100000 in
theorem spec_CompareRows.ok (k : Nat) (a0_0 : Int) (a0_1 : Int) (a0_2 : Int) (a1_0 : Int) (a1_1 : Int) (a1_2 : Int) (r0 : Int) (H : spec_CompareRows.f k a0_0 a0_1 a0_2 a1_0 a1_1 a1_2 = some r0) : Fn Try.prog 48 [.agg #[.int .i64 a0_0, .int .i64 a0_1, .int .i64 a0_2], .agg #[.int .i64 a1_0, .int .i64 a1_1, .int .i64 a1_2]] [] [] (fun v bx en => v = .int .i64 r0 ∧ bx = [] ∧ en = []) := by
 refine fn_ 44 Try.func48 rfl rfl rfl (fun base T w0 => ?_)
 rw [spec_CompareRows.f] at H
 refine gs (rg (so rfl (op_box (cs := [.int .i64 a0_0, .int .i64 a0_1, .int .i64 a0_2]) rfl rfl rfl fun b2 => (so rfl (op_box (cs := [.int .i64 a1_0, .int .i64 a1_1, .int .i64 a1_2]) rfl rfl rfl fun b3 => (sv (EV.as rfl) rfl (re (gs (rg (sv (EV.fa 0 rfl) rfl (sv (EV.ld 0 none rfl rfl rfl) rfl (sv (EV.fa 1 rfl) rfl (sv (EV.ld 0 none rfl rfl rfl) rfl (sv (EV.fa 2 rfl) rfl (sv (EV.ld 0 none rfl rfl rfl) rfl (so rfl (op_lit (s := 1) (by_ := 8) (.int .i64) ([a0_0, a0_1, a0_2] : List Int) [[], [], []] [] 1 [.tmp 9, .tmp 11, .tmp 13] rfl rfl rfl rfl rfl rfl rfl rfl rfl rfl rfl rfl rfl dq rfl fun A14_1 c14_1 => (sv (EV.as rfl) rfl (re (pr [3, 5] [1] [0] rfl rfl rfl rfl (gs (rg (sv (EV.fa 0 rfl) rfl (sv (EV.ld 0 none rfl rfl rfl) rfl (sv (EV.fa 1 rfl) rfl (sv (EV.ld 0 none rfl rfl rfl) rfl (sv (EV.fa 2 rfl) rfl (sv (EV.ld 0 none rfl rfl rfl) rfl (so rfl ?_)))))))))))))))))))))))))))))
 refine op_lit (s := 1) (by_ := 8) (.int .i64) ([a1_0, a1_1, a1_2] : List Int) [[], [], []] [] 2 [.tmp 16, .tmp 18, .tmp 20] rfl rfl rfl rfl rfl rfl rfl rfl rfl rfl rfl rfl rfl dq rfl fun A21_2 c21_2 => (sv (EV.as rfl) rfl (re (pr [5, 6] [] [0, 1] rfl rfl rfl rfl (gs (gs (rg (sv (EV.as rfl) rfl (re (gb ?_)))))))))
 refine lo (fun kk S => ∃ (x2_5 : List Int) (Ax2_5 : Option Addr) (cx2_5 : Nat) (x2_6 : List Int) (Ax2_6 : Option Addr) (cx2_6 : Nat) (x2_7 : Int), spec_CompareRows.l0 kk x2_5 x2_6 x2_7 = some r0 ∧ S = ⟨[(5, .slice Ax2_5 x2_5.length cx2_5), (6, .slice Ax2_6 x2_6.length cx2_6), (7, .int .i64 x2_7)], [], [.sl 2 (.int .i64) Ax2_5 cx2_5 x2_5 1 true, .sl 2 (.int .i64) Ax2_6 cx2_6 x2_6 2 true]⟩) (fun S hS => ?_) (fun n0 ih0 S hS => ?_) ⟨([a0_0, a0_1, a0_2] : List Int), A14_1, c14_1, ([a1_0, a1_1, a1_2] : List Int), A21_2, c21_2, 0, H, rfl⟩ (fun h => wk [5, 6, 7] [] [⟨0, 2, 1, true⟩, ⟨1, 2, 2, true⟩] h)
 · clear H; obtain ⟨_, _, _, _, _, _, _, H, _⟩ := hS; rw [spec_CompareRows.l0] at H; cases H
 clear H
 obtain ⟨x2_5, Ax2_5, cx2_5, x2_6, Ax2_6, cx2_6, x2_7, H, rfl⟩ := hS
 rw [spec_CompareRows.l0] at H
 refine gs (gs (rg (sv (EV.mv rfl) rfl (sv (EV.lss rfl rfl) rfl (re ?_)))))
 revert H; refine ifsI ?_ ?_ <;> intro c3 H
 ·
  refine gt rfl (dT c3) (gk (gs (gb (gs (gs ?_)))))
  revert H; refine ggI ?_; intro g4 H
  revert H; refine ggI ?_; intro g5 H
  revert H; refine ggI ?_; intro g6 H
  refine dr [] [0, 1] [] 9 rfl rfl rfl rfl (xv 0 [] [0, 1] rfl (EV.mv rfl) rfl rfl rfl rfl (xv 1 [] [0, 1] rfl (EV.mv rfl) rfl rfl rfl rfl (xv 2 [] [0, 1] rfl (EV.ix 0 rfl rfl rfl g4 g5 rfl) rfl rfl rfl rfl (xv 3 [] [0, 1] rfl (EV.le (v := .int .i64 (rdOf 0 x2_5 x2_7)) x2_7 0 none 0 0 rfl rfl rfl g4 g5 rfl rfl rfl) rfl rfl rfl rfl (xv 4 [] [0, 1] rfl (EV.mv rfl) rfl rfl rfl rfl (xv 5 [] [0, 1] rfl (EV.mv rfl) rfl rfl rfl rfl (xv 6 [] [0, 1] rfl (EV.ix 1 rfl rfl rfl g4 g6 rfl) rfl rfl rfl rfl (xv 7 [] [0, 1] rfl (EV.le (v := .int .i64 (rdOf 0 x2_6 x2_7)) x2_7 0 none 1 0 rfl rfl rfl g4 g6 rfl rfl rfl) rfl rfl rfl rfl (xv 8 [] [0, 1] rfl (EV.lss rfl rfl) rfl rfl rfl rfl (xd (pr [5, 6, 7, 34] [] [0, 1] rfl rfl rfl rfl ?_)))))))))))
  revert H; refine ifsI ?_ ?_ <;> intro c7 H
  ·
   refine gt rfl (dT c7) (gs (rg (sv (EV.as rfl) rfl (re ?_))))
   cases H
   exact rt Try.func48 rfl (.tmp rfl .nil) rfl [] [] rfl rfl rfl rfl rfl ⟨rfl, rfl, rfl⟩
  ·
   refine gf rfl (dF c7) (gk (gs (dr [] [0, 1] [] 9 rfl rfl rfl rfl (xv 0 [] [0, 1] rfl (EV.mv rfl) rfl rfl rfl rfl (xv 1 [] [0, 1] rfl (EV.mv rfl) rfl rfl rfl rfl (xv 2 [] [0, 1] rfl (EV.ix 0 rfl rfl rfl g4 g5 rfl) rfl rfl rfl rfl (xv 3 [] [0, 1] rfl (EV.le (v := .int .i64 (rdOf 0 x2_5 x2_7)) x2_7 0 none 0 0 rfl rfl rfl g4 g5 rfl rfl rfl) rfl rfl rfl rfl (xv 4 [] [0, 1] rfl (EV.mv rfl) rfl rfl rfl rfl (xv 5 [] [0, 1] rfl (EV.mv rfl) rfl rfl rfl rfl (xv 6 [] [0, 1] rfl (EV.ix 1 rfl rfl rfl g4 g6 rfl) rfl rfl rfl rfl (xv 7 [] [0, 1] rfl (EV.le (v := .int .i64 (rdOf 0 x2_6 x2_7)) x2_7 0 none 1 0 rfl rfl rfl g4 g6 rfl rfl rfl) rfl rfl rfl rfl (xv 8 [] [0, 1] rfl (EV.gtr rfl rfl) rfl rfl rfl rfl (xd (pr [5, 6, 7, 43] [] [0, 1] rfl rfl rfl rfl ?_))))))))))))))
   revert H; refine ifsI ?_ ?_ <;> intro c8 H
   ·
    refine gt rfl (dT c8) (gs (rg (sv (EV.as rfl) rfl (re ?_))))
    cases H
    exact rt Try.func48 rfl (.tmp rfl .nil) rfl [] [] rfl rfl rfl rfl rfl ⟨rfl, rfl, rfl⟩
   ·
    exact gf rfl (dF c8) (gk (ge (rg (sv (EV.mv rfl) rfl (sv (EV.add rfl rfl) rfl (sv (EV.as rfl) rfl (re (wk [5, 6, 7] [] [⟨0, 2, 1, true⟩, ⟨1, 2, 2, true⟩] (ih0 _ (by omega) _ ⟨x2_5, Ax2_5, cx2_5, x2_6, Ax2_6, cx2_6, wrap64 (x2_7 + 1), H, rfl⟩)))))))))
 ·
  refine gf rfl (dF c3) (gx rfl (gs (rg (sv (EV.as rfl) rfl (re ?_)))))
  cases H
  exact rt Try.func48 rfl (.tmp rfl .nil) rfl [] [] rfl rfl rfl rfl rfl ⟨rfl, rfl, rfl⟩
def spec_IsSorted.l0 : Nat → Int → (List S72) → Option (Bool)
 | 0, _, _ => none
 | k + 1, x2_3, l0 => if x2_3 < (l0.length : Int) then (if 0 ≤ (wrap64 (x2_3 - 1)) then (if (wrap64 (x2_3 - 1)) < (l0.length : Int) then (if 0 ≤ x2_3 then ((spec_CompareRows.f k ((rd_T72 l0 (wrap64 (x2_3 - 1))).f0) ((rd_T72 l0 (wrap64 (x2_3 - 1))).f1) ((rd_T72 l0 (wrap64 (x2_3 - 1))).f2) ((rd_T72 l0 x2_3).f0) ((rd_T72 l0 x2_3).f1) ((rd_T72 l0 x2_3).f2)).bind fun t5 => (if t5 > 0 then (some false) else (spec_IsSorted.l0 k (wrap64 (x2_3 + 1)) l0))) else none) else none) else none) else (some true)
def spec_IsSorted.f (k : Nat) (l0 : List S72) : Option (Bool) := spec_IsSorted.l0 k 1 l0
set_option maxHeartbeats 4000000 in
set_option maxRecDepth 100000 in
theorem spec_IsSorted.ok (k : Nat) (l0 : List S72) (Al0 : Option Addr) (cl0 : Nat) (r0 : Bool) (H : spec_IsSorted.f k l0 = some r0) : Fn Try.prog 47 [.slice Al0 l0.length cl0] [] [.sl 0 k72 Al0 cl0 l0 0 false] (fun v bx en => v = .bool r0 ∧ bx = [] ∧ en = []) := by
 refine fn_ 21 Try.func47 rfl rfl rfl (fun base T w0 => ?_)
 rw [spec_IsSorted.f] at H
 refine gs (rg (sv (EV.as rfl) rfl (re (gs (gs (rg (sv (EV.as rfl) rfl (re (gb ?_)))))))))
 refine lo (fun kk S => ∃ (x2_3 : Int), spec_IsSorted.l0 kk x2_3 l0 = some r0 ∧ S = ⟨[(0, .slice Al0 l0.length cl0), (3, .int .i64 x2_3)], [], [.sl 0 k72 Al0 cl0 l0 0 false]⟩) (fun S hS => ?_) (fun n0 ih0 S hS => ?_) ⟨1, H, rfl⟩ (fun h => wk [0, 3] [] [⟨0, 0, 0, false⟩] h)
 · clear H; obtain ⟨_, H, _⟩ := hS; rw [spec_IsSorted.l0] at H; cases H
 clear H
 obtain ⟨x2_3, H, rfl⟩ := hS
 rw [spec_IsSorted.l0] at H
 refine gs (gs (rg (sv (EV.mv rfl) rfl (sv (EV.mv rfl) rfl (sv (EV.ln rfl) rfl (sv (EV.lss rfl rfl) rfl (re ?_)))))))
 revert H; refine ifsI ?_ ?_ <;> intro c1 H
 ·
  refine gt rfl (dT c1) (gk (gs (gb (gs ?_))))
  revert H; refine ggI ?_; intro g2 H
  revert H; refine ggI ?_; intro g3 H
  revert H; refine ggI ?_; intro g4 H
  refine dr [] [0] [] 11 rfl rfl rfl rfl (xv 0 [] [0] rfl (EV.mv rfl) rfl rfl rfl rfl (xv 1 [] [0] rfl (EV.mv rfl) rfl rfl rfl rfl (xv 2 [] [0] rfl (EV.sub rfl rfl) rfl rfl rfl rfl (xv 3 [] [0] rfl (EV.ix 0 rfl rfl rfl g2 g3 rfl) rfl rfl rfl rfl (xv 4 [] [0] rfl (EV.le (v := .agg #[.int .i64 ((rd_T72 l0 (wrap64 (x2_3 - 1))).f0), .int .i64 ((rd_T72 l0 (wrap64 (x2_3 - 1))).f1), .int .i64 ((rd_T72 l0 (wrap64 (x2_3 - 1))).f2)]) (wrap64 (x2_3 - 1)) 0 (some 3) 0 z72 rfl rfl rfl g2 g3 rfl rfl rfl) rfl rfl rfl rfl (xv 5 [] [0] rfl (EV.mv rfl) rfl rfl rfl rfl (xv 6 [] [0] rfl (EV.mv rfl) rfl rfl rfl rfl (xv 7 [] [0] rfl (EV.ix 0 rfl rfl rfl g4 c1 rfl) rfl rfl rfl rfl (xv 8 [] [0] rfl (EV.le (v := .agg #[.int .i64 ((rd_T72 l0 x2_3).f0), .int .i64 ((rd_T72 l0 x2_3).f1), .int .i64 ((rd_T72 l0 x2_3).f2)]) x2_3 0 (some 3) 0 z72 rfl rfl rfl g4 c1 rfl rfl rfl) rfl rfl rfl rfl (one1 9 rfl rfl ?_))))))))))
  revert H; refine bdI ?_; rintro t5 A5 H
  refine op_call (spec_CompareRows.ok n0 ((rd_T72 l0 (wrap64 (x2_3 - 1))).f0) ((rd_T72 l0 (wrap64 (x2_3 - 1))).f1) ((rd_T72 l0 (wrap64 (x2_3 - 1))).f2) ((rd_T72 l0 x2_3).f0) ((rd_T72 l0 x2_3).f1) ((rd_T72 l0 x2_3).f2) _ A5) [] 1 rfl rfl rfl rfl rfl ?_
  rintro _ _ _ ⟨rfl, rfl, rfl⟩
  refine xs [] [0] rfl rfl rfl (xv 10 [] [0] rfl (EV.gtr rfl rfl) rfl rfl rfl rfl (xd (pr [0, 3, 20] [] [0] rfl rfl rfl rfl ?_)))
  revert H; refine ifsI ?_ ?_ <;> intro c6 H
  ·
   refine gt rfl (dT c6) (gs (rg (sv (EV.as rfl) rfl (re ?_))))
   cases H
   exact rt Try.func47 rfl (.tmp rfl .nil) rfl [] [] rfl rfl rfl rfl rfl ⟨rfl, rfl, rfl⟩
  ·
   exact gf rfl (dF c6) (gk (ge (rg (sv (EV.mv rfl) rfl (sv (EV.add rfl rfl) rfl (sv (EV.as rfl) rfl (re (wk [0, 3] [] [⟨0, 0, 0, false⟩] (ih0 _ (by omega) _ ⟨wrap64 (x2_3 + 1), H, rfl⟩)))))))))
 ·
  refine gf rfl (dF c1) (gx rfl (gs (rg (sv (EV.as rfl) rfl (re (pr [2] [] [] rfl rfl rfl rfl ?_))))))
  cases H
  exact rt Try.func47 rfl (.tmp rfl .nil) rfl [] [] rfl rfl rfl rfl rfl ⟨rfl, rfl, rfl⟩
def spec_AreValidRuns.l0 : Nat → Int → (List S57) → Option (Bool)
 | 0, _, _ => none
 | k + 1, x2_3, l0 => if x2_3 < (l0.length : Int) then (if 0 ≤ x2_3 then (if (((rd_T57 l0 x2_3).f0).length : Int) = 0 then (some false) else ((spec_IsSorted.f k ((rd_T57 l0 x2_3).f0)).bind fun t5 => (if t5 = true then ((spec_AreValidRows.f k ((rd_T57 l0 x2_3).f0)).bind fun t7 => (if t7 = true then (spec_AreValidRuns.l0 k (wrap64 (x2_3 + 1)) l0) else (some false))) else (some false)))) else none) else (some true)
def spec_AreValidRuns.f (k : Nat) (l0 : List S57) : Option (Bool) := spec_AreValidRuns.l0 k 0 l0
set_option maxHeartbeats 4000000 in
set_option maxRecDepth 100000 in
theorem spec_AreValidRuns.ok (k : Nat) (l0 : List S57) (Al0 : Option Addr) (cl0 : Nat) (r0 : Bool) (H : spec_AreValidRuns.f k l0 = some r0) : Fn Try.prog 46 [.slice Al0 l0.length cl0] [] [.sl 0 k57 Al0 cl0 l0 0 false] (fun v bx en => v = .bool r0 ∧ bx = [] ∧ en = []) := by
 refine fn_ 35 Try.func46 rfl rfl rfl (fun base T w0 => ?_)
 rw [spec_AreValidRuns.f] at H
 refine gs (rg (sv (EV.as rfl) rfl (re (gs (gs (rg (sv (EV.as rfl) rfl (re (gb ?_)))))))))
 refine lo (fun kk S => ∃ (x2_3 : Int), spec_AreValidRuns.l0 kk x2_3 l0 = some r0 ∧ S = ⟨[(0, .slice Al0 l0.length cl0), (3, .int .i64 x2_3)], [], [.sl 0 k57 Al0 cl0 l0 0 false]⟩) (fun S hS => ?_) (fun n0 ih0 S hS => ?_) ⟨0, H, rfl⟩ (fun h => wk [0, 3] [] [⟨0, 0, 0, false⟩] h)
 · clear H; obtain ⟨_, H, _⟩ := hS; rw [spec_AreValidRuns.l0] at H; cases H
 clear H
 obtain ⟨x2_3, H, rfl⟩ := hS
 rw [spec_AreValidRuns.l0] at H
 refine gs (gs (rg (sv (EV.mv rfl) rfl (sv (EV.mv rfl) rfl (sv (EV.ln rfl) rfl (sv (EV.lss rfl rfl) rfl (re ?_)))))))
 revert H; refine ifsI ?_ ?_ <;> intro c1 H
 ·
  refine gt rfl (dT c1) (gk (gs (gb (gs (rg (sv (EV.mv rfl) rfl (sv (EV.mv rfl) rfl ?_)))))))
  revert H; refine ggI ?_; intro g2 H
  refine sv (EV.ix 0 rfl rfl rfl g2 c1 rfl) rfl (sv (EV.fa 0 rfl) rfl (opn (i := x2_3) 0 z57 rfl g2 c1 fun A_3 c_3 => (sv (EV.lc (v := .slice A_3 ((rd_T57 l0 x2_3).f0).length c_3) 0 none 1 rfl rfl rfl rfl) rfl (sv (EV.ln rfl) rfl (sv (EV.eql rfl rfl) rfl (sv (EV.mv rfl) rfl ?_))))))
  revert H; refine ifsI ?_ ?_ <;> intro c4 H
  ·
   refine ts 17 rfl (dT c4) (sk rfl (sk rfl (sk rfl (sk rfl (sk rfl (sk rfl (sk rfl (sv (EV.pt rfl rfl rfl) rfl (sv (EV.mv rfl) rfl (sk rfl (sk rfl (sk rfl (sk rfl (sk rfl (sk rfl (sk rfl (sv (EV.pt rfl rfl rfl) rfl (re (pr [0, 3, 34] [] [0] rfl rfl rfl rfl (gt rfl rfl (gs (rg (sv (EV.as rfl) rfl (re ?_))))))))))))))))))))))))
   cases H
   exact rt Try.func46 rfl (.tmp rfl .nil) rfl [] [] rfl rfl rfl rfl rfl ⟨rfl, rfl, rfl⟩
  ·
   refine ts 17 rfl (dF c4) (sv (EV.mv rfl) rfl (sv (EV.mv rfl) rfl (sv (EV.ix 0 rfl rfl rfl g2 c1 rfl) rfl (sv (EV.fa 0 rfl) rfl (sv (EV.lc (v := .slice A_3 ((rd_T57 l0 x2_3).f0).length c_3) 0 none 1 rfl rfl rfl rfl) rfl ?_)))))
   revert H; refine bdI ?_; rintro t5 A5 H
   refine so rfl (op_call (spec_IsSorted.ok n0 ((rd_T57 l0 x2_3).f0) A_3 c_3 _ A5) [⟨2, 0, 0, false⟩] 1 rfl rfl rfl rfl rfl ?_)
   rintro _ _ _ ⟨rfl, rfl, rfl⟩
   refine sv (EV.nt rfl) rfl (sv (EV.pf rfl rfl rfl) rfl (sv (EV.mv rfl) rfl ?_))
   revert H; refine ifsI ?_ ?_ <;> intro c6 H
   ·
    subst c6
    refine ts 26 rfl rfl (sv (EV.mv rfl) rfl (sv (EV.mv rfl) rfl (sv (EV.ix 0 rfl rfl rfl g2 c1 rfl) rfl (sv (EV.fa 0 rfl) rfl (sv (EV.lc (v := .slice A_3 ((rd_T57 l0 x2_3).f0).length c_3) 0 none 1 rfl rfl rfl rfl) rfl ?_)))))
    revert H; refine bdI ?_; rintro t7 A7 H
    refine so rfl (op_call (spec_AreValidRows.ok n0 ((rd_T57 l0 x2_3).f0) A_3 c_3 _ A7) [⟨2, 0, 0, false⟩] 1 rfl rfl rfl rfl rfl ?_)
    rintro _ _ _ ⟨rfl, rfl, rfl⟩
    refine sv (EV.nt rfl) rfl (sv (EV.pf rfl rfl rfl) rfl (re (pr [0, 3, 18, 19, 20, 21, 22, 23, 24, 27, 28, 29, 30, 31, 32, 33, 34] [] [0, 1, 2] rfl rfl rfl rfl ?_)))
    revert H; refine ifsI ?_ ?_ <;> intro c8 H
    ·
     subst c8
     exact gf rfl rfl (gk (ge (rg (sv (EV.mv rfl) rfl (sv (EV.add rfl rfl) rfl (sv (EV.as rfl) rfl (re (wk [0, 3] [] [⟨0, 0, 0, false⟩] (ih0 _ (by omega) _ ⟨wrap64 (x2_3 + 1), H, rfl⟩)))))))))
    ·
     have xc8 := bF c8; subst xc8
     refine gt rfl rfl (gs (rg (sv (EV.as rfl) rfl (re (pr [2] [] [] rfl rfl rfl rfl ?_)))))
     cases H
     exact rt Try.func46 rfl (.tmp rfl .nil) rfl [] [] rfl rfl rfl rfl rfl ⟨rfl, rfl, rfl⟩
   ·
    have xc6 := bF c6; subst xc6
    refine ts 26 rfl rfl (sk rfl (sk rfl (sk rfl (sk rfl (sk rfl (sk rfl (sk rfl (sv (EV.pt rfl rfl rfl) rfl (re (pr [0, 3, 18, 19, 20, 21, 22, 23, 24, 34] [] [0, 1, 2] rfl rfl rfl rfl (gt rfl rfl (gs (rg (sv (EV.as rfl) rfl (re (pr [2] [] [] rfl rfl rfl rfl ?_))))))))))))))))
    cases H
    exact rt Try.func46 rfl (.tmp rfl .nil) rfl [] [] rfl rfl rfl rfl rfl ⟨rfl, rfl, rfl⟩
 ·
  refine gf rfl (dF c1) (gx rfl (gs (rg (sv (EV.as rfl) rfl (re (pr [2] [] [] rfl rfl rfl rfl ?_))))))
  cases H
  exact rt Try.func46 rfl (.tmp rfl .nil) rfl [] [] rfl rfl rfl rfl rfl ⟨rfl, rfl, rfl⟩
def spec_FlattenRuns.l0 : Nat → (List S72) → Int → (List S57) → Option ((List S72))
 | 0, _, _, _ => none
 | k + 1, x2_3, x2_4, l0 => if x2_4 < (l0.length : Int) then (if 0 ≤ x2_4 then (if x2_3.length + ((rd_T57 l0 x2_4).f0).length ≤ 5864062014805 then (spec_FlattenRuns.l0 k (x2_3 ++ ((rd_T57 l0 x2_4).f0)) (wrap64 (x2_4 + 1)) l0) else none) else none) else (some x2_3)
def spec_FlattenRuns.f (k : Nat) (l0 : List S57) : Option ((List S72)) := spec_FlattenRuns.l0 k [] 0 l0
set_option maxHeartbeats 4000000 in
set_option maxRecDepth 100000 in
theorem spec_FlattenRuns.ok (k : Nat) (l0 : List S57) (Al0 : Option Addr) (cl0 : Nat) (r0 : List S72) (H : spec_FlattenRuns.f k l0 = some r0) : Fn Try.prog 49 [.slice Al0 l0.length cl0] [] [.sl 0 k57 Al0 cl0 l0 0 false] (fun v bx en => ∃ A0 c0, v = .slice A0 r0.length c0 ∧ bx = [] ∧ en = [.sl 2 k72 A0 c0 r0 1 true]) := by
 refine fn_ 20 Try.func49 rfl rfl rfl (fun base T w0 => ?_)
 rw [spec_FlattenRuns.f] at H
 refine gs (rg (sv (EV.as rfl) rfl (re (gs (rg (so rfl (op_lit (s := 3) (by_ := 24) k72 ([] : List S72) [] [] 1 [] rfl rfl rfl rfl rfl rfl rfl rfl rfl rfl rfl rfl rfl dq rfl fun A5_1 c5_1 => (sv (EV.as rfl) rfl (re (gs (gs (rg (sv (EV.as rfl) rfl (re (gb ?_)))))))))))))))
 refine lo (fun kk S => ∃ (x2_3 : List S72) (Ax2_3 : Option Addr) (cx2_3 : Nat) (x2_4 : Int), spec_FlattenRuns.l0 kk x2_3 x2_4 l0 = some r0 ∧ S = ⟨[(0, .slice Al0 l0.length cl0), (3, .slice Ax2_3 x2_3.length cx2_3), (4, .int .i64 x2_4)], [], [.sl 2 k72 Ax2_3 cx2_3 x2_3 1 true, .sl 0 k57 Al0 cl0 l0 0 false]⟩) (fun S hS => ?_) (fun n0 ih0 S hS => ?_) ⟨[], A5_1, c5_1, 0, H, rfl⟩ (fun h => wk [0, 3, 4] [] [⟨1, 2, 1, true⟩, ⟨0, 0, 0, false⟩] h)
 · clear H; obtain ⟨_, _, _, _, H, _⟩ := hS; rw [spec_FlattenRuns.l0] at H; cases H
 clear H
 obtain ⟨x2_3, Ax2_3, cx2_3, x2_4, H, rfl⟩ := hS
 rw [spec_FlattenRuns.l0] at H
 refine gs (gs (rg (sv (EV.mv rfl) rfl (sv (EV.mv rfl) rfl (sv (EV.ln rfl) rfl (sv (EV.lss rfl rfl) rfl (re ?_)))))))
 revert H; refine ifsI ?_ ?_ <;> intro c2 H
 ·
  refine gt rfl (dT c2) (gk (gs (gb (rg (sv (EV.mv rfl) rfl (sv (EV.mv rfl) rfl (sv (EV.mv rfl) rfl ?_)))))))
  revert H; refine ggI ?_; intro g3 H
  refine sv (EV.ix 1 rfl rfl rfl g3 c2 rfl) rfl (sv (EV.fa 0 rfl) rfl (opn (i := x2_4) 1 z57 rfl g3 c2 fun A_4 c_4 => (sv (EV.lc (v := .slice A_4 ((rd_T57 l0 x2_4).f0).length c_4) 0 none 2 rfl rfl rfl rfl) rfl ?_)))
  revert H; refine ggI ?_; intro g5 H
  exact so rfl (op_app (k := k72) (s := 3) (by_ := 24) 0 3 rfl rfl rfl rfl (ap2 g5 dq) (ap2n g5 dq) (.inl rfl) true (fun _ => .inl rfl) rfl rfl fun A18_6 c18_6 => (nmE (en := [.sl 0 k57 Al0 cl0 l0 0 false, celE Al0 (x2_4.toNat * 1) [.slice A_4 ((rd_T57 l0 x2_4).f0).length c_4] 0, .sl 0 k72 A_4 c_4 ((rd_T57 l0 x2_4).f0) 0 false, .sl 2 k72 A18_6 c18_6 (x2_3 ++ ((rd_T57 l0 x2_4).f0)) 1 true]) (by kernel_rfl) (sv (EV.as rfl) rfl (re (pr [0, 3, 4] [] [0, 3] rfl rfl rfl rfl (ge (rg (sv (EV.mv rfl) rfl (sv (EV.add rfl rfl) rfl (sv (EV.as rfl) rfl (re (wk [0, 3, 4] [] [⟨1, 2, 1, true⟩, ⟨0, 0, 0, false⟩] (ih0 _ (by omega) _ ⟨x2_3 ++ ((rd_T57 l0 x2_4).f0), A18_6, c18_6, wrap64 (x2_4 + 1), H, rfl⟩)))))))))))))
 ·
  refine gf rfl (dF c2) (gx rfl (gs (rg (sv (EV.mv rfl) rfl (sv (EV.as rfl) rfl (re (pr [2] [] [0] rfl rfl rfl rfl ?_)))))))
  cases H
  exact rt Try.func49 rfl (.tmp rfl .nil) rfl [] [⟨0, 2, 1, true⟩] rfl rfl rfl rfl rfl ⟨_, _, rfl, rfl, rfl⟩
def spec_RowCost.f (a0_0 : Int) (a0_1 : Int) (a0_2 : Int) : Option (Int) := (spec_IsValidRow.f a0_0 a0_1 a0_2).bind fun t1 => (if t1 = true then (some (wrap64 (1 + a0_2))) else (some 0))
set_option maxHeartbeats 4000000 in
set_option maxRecDepth 100000 in
theorem spec_RowCost.ok (a0_0 : Int) (a0_1 : Int) (a0_2 : Int) (r0 : Int) (H : spec_RowCost.f a0_0 a0_1 a0_2 = some r0) : Fn Try.prog 84 [.agg #[.int .i64 a0_0, .int .i64 a0_1, .int .i64 a0_2]] [] [] (fun v bx en => v = .int .i64 r0 ∧ bx = [] ∧ en = []) := by
 refine fn_ 9 Try.func84 rfl rfl rfl (fun base T w0 => ?_)
 rw [spec_RowCost.f] at H
 refine gs (rg (so rfl (op_box (cs := [.int .i64 a0_0, .int .i64 a0_1, .int .i64 a0_2]) rfl rfl rfl fun b1 => (sv (EV.as rfl) rfl (re (gs (gs (rg (sv (EV.ld (v := .agg #[.int .i64 a0_0, .int .i64 a0_1, .int .i64 a0_2]) 0 (some 3) rfl rfl rfl) rfl ?_)))))))))
 revert H; refine bdI ?_; rintro t1 A1 H
 refine so rfl (op_call (spec_IsValidRow.ok a0_0 a0_1 a0_2 _ A1) [] 1 rfl rfl rfl rfl rfl ?_)
 rintro _ _ _ ⟨rfl, rfl, rfl⟩
 refine sv (EV.nt rfl) rfl (re ?_)
 revert H; refine ifsI ?_ ?_ <;> intro c2 H
 ·
  subst c2
  refine gf rfl rfl (gk (gs (rg (sv (EV.fa 2 rfl) rfl (sv (EV.ld 0 none rfl rfl rfl) rfl (sv (EV.add rfl rfl) rfl (sv (EV.as rfl) rfl (re (pr [2] [] [] rfl rfl rfl rfl ?_)))))))))
  cases H
  exact rt Try.func84 rfl (.tmp rfl .nil) rfl [] [] rfl rfl rfl rfl rfl ⟨rfl, rfl, rfl⟩
 ·
  have xc2 := bF c2; subst xc2
  refine gt rfl rfl (gs (rg (sv (EV.as rfl) rfl (re ?_))))
  cases H
  exact rt Try.func84 rfl (.tmp rfl .nil) rfl [] [] rfl rfl rfl rfl rfl ⟨rfl, rfl, rfl⟩
def spec_TotalCost.l0 : Nat → Int → Int → (List S72) → Option (Int)
 | 0, _, _, _ => none
 | k + 1, x2_3, x2_4, l0 => if x2_4 < (l0.length : Int) then (if 0 ≤ x2_4 then ((spec_RowCost.f ((rd_T72 l0 x2_4).f0) ((rd_T72 l0 x2_4).f1) ((rd_T72 l0 x2_4).f2)).bind fun t3 => (spec_TotalCost.l0 k (wrap64 (x2_3 + t3)) (wrap64 (x2_4 + 1)) l0)) else none) else (some x2_3)
def spec_TotalCost.f (k : Nat) (l0 : List S72) : Option (Int) := spec_TotalCost.l0 k 0 0 l0
set_option maxHeartbeats 4000000 in
set_option maxRecDepth 100000 in
theorem spec_TotalCost.ok (k : Nat) (l0 : List S72) (Al0 : Option Addr) (cl0 : Nat) (r0 : Int) (H : spec_TotalCost.f k l0 = some r0) : Fn Try.prog 75 [.slice Al0 l0.length cl0] [] [.sl 0 k72 Al0 cl0 l0 0 false] (fun v bx en => v = .int .i64 r0 ∧ bx = [] ∧ en = []) := by
 refine fn_ 19 Try.func75 rfl rfl rfl (fun base T w0 => ?_)
 rw [spec_TotalCost.f] at H
 refine gs (rg (sv (EV.as rfl) rfl (re (gs (rg (sv (EV.as rfl) rfl (re (gs (gs (rg (sv (EV.as rfl) rfl (re (gb ?_)))))))))))))
 refine lo (fun kk S => ∃ (x2_3 : Int) (x2_4 : Int), spec_TotalCost.l0 kk x2_3 x2_4 l0 = some r0 ∧ S = ⟨[(0, .slice Al0 l0.length cl0), (3, .int .i64 x2_3), (4, .int .i64 x2_4)], [], [.sl 0 k72 Al0 cl0 l0 0 false]⟩) (fun S hS => ?_) (fun n0 ih0 S hS => ?_) ⟨0, 0, H, rfl⟩ (fun h => wk [0, 3, 4] [] [⟨0, 0, 0, false⟩] h)
 · clear H; obtain ⟨_, _, H, _⟩ := hS; rw [spec_TotalCost.l0] at H; cases H
 clear H
 obtain ⟨x2_3, x2_4, H, rfl⟩ := hS
 rw [spec_TotalCost.l0] at H
 refine gs (gs (rg (sv (EV.mv rfl) rfl (sv (EV.mv rfl) rfl (sv (EV.ln rfl) rfl (sv (EV.lss rfl rfl) rfl (re ?_)))))))
 revert H; refine ifsI ?_ ?_ <;> intro c1 H
 ·
  refine gt rfl (dT c1) (gk (gs (gb (rg (sv (EV.mv rfl) rfl (sv (EV.mv rfl) rfl (sv (EV.mv rfl) rfl ?_)))))))
  revert H; refine ggI ?_; intro g2 H
  refine sv (EV.ix 0 rfl rfl rfl g2 c1 rfl) rfl (sv (EV.le (v := .agg #[.int .i64 ((rd_T72 l0 x2_4).f0), .int .i64 ((rd_T72 l0 x2_4).f1), .int .i64 ((rd_T72 l0 x2_4).f2)]) x2_4 0 (some 3) 0 z72 rfl rfl rfl g2 c1 rfl rfl rfl) rfl ?_)
  revert H; refine bdI ?_; rintro t3 A3 H
  refine so rfl (op_call (spec_RowCost.ok ((rd_T72 l0 x2_4).f0) ((rd_T72 l0 x2_4).f1) ((rd_T72 l0 x2_4).f2) _ A3) [] 1 rfl rfl rfl rfl rfl ?_)
  rintro _ _ _ ⟨rfl, rfl, rfl⟩
  exact sv (EV.add rfl rfl) rfl (sv (EV.as rfl) rfl (re (pr [0, 3, 4] [] [0] rfl rfl rfl rfl (ge (rg (sv (EV.mv rfl) rfl (sv (EV.add rfl rfl) rfl (sv (EV.as rfl) rfl (re (wk [0, 3, 4] [] [⟨0, 0, 0, false⟩] (ih0 _ (by omega) _ ⟨wrap64 (x2_3 + t3), wrap64 (x2_4 + 1), H, rfl⟩)))))))))))
 ·
  refine gf rfl (dF c1) (gx rfl (gs (rg (sv (EV.mv rfl) rfl (sv (EV.as rfl) rfl (re (pr [2] [] [] rfl rfl rfl rfl ?_)))))))
  cases H
  exact rt Try.func75 rfl (.tmp rfl .nil) rfl [] [] rfl rfl rfl rfl rfl ⟨rfl, rfl, rfl⟩
def spec_l13Row.f (l0 : List S57) (a1 : Int) (a2 : Int) : Option ((List S72)) := if a1 < (l0.length : Int) then (if 0 ≤ a1 then (if a2 < (((rd_T57 l0 a1).f0).length : Int) then (if 0 ≤ a2 then (some ([(⟨(rd_T72 ((rd_T57 l0 a1).f0) a2).f0, (rd_T72 ((rd_T57 l0 a1).f0) a2).f1, (rd_T72 ((rd_T57 l0 a1).f0) a2).f2⟩ : S72)] : List S72)) else none) else (some [])) else none) else (some [])
set_option maxHeartbeats 4000000 in
set_option maxRecDepth 100000 in
theorem spec_l13Row.ok (l0 : List S57) (Al0 : Option Addr) (cl0 : Nat) (a1 : Int) (a2 : Int) (r0 : List S72) (H : spec_l13Row.f l0 a1 a2 = some r0) : Fn Try.prog 76 [.slice Al0 l0.length cl0, .int .i64 a1, .int .i64 a2] [] [.sl 0 k57 Al0 cl0 l0 0 false] (fun v bx en => ∃ A0 c0, v = .slice A0 r0.length c0 ∧ bx = [] ∧ en = [.sl 2 k72 A0 c0 r0 1 true]) := by
 refine fn_ 31 Try.func76 rfl rfl rfl (fun base T w0 => ?_)
 rw [spec_l13Row.f] at H
 refine gs (rg (sv (EV.as rfl) rfl (re (gs (gs (rg (sv (EV.mv rfl) rfl (sv (EV.mv rfl) rfl (sv (EV.ln rfl) rfl (sv (EV.lss rfl rfl) rfl (sv (EV.mv rfl) rfl ?_)))))))))))
 revert H; refine ifsI ?_ ?_ <;> intro c1 H
 ·
  refine ts 11 rfl (dT c1) (sv (EV.mv rfl) rfl (sv (EV.mv rfl) rfl (sv (EV.mv rfl) rfl ?_)))
  revert H; refine ggI ?_; intro g2 H
  refine sv (EV.ix 0 rfl rfl rfl g2 c1 rfl) rfl (sv (EV.fa 0 rfl) rfl (opn (i := a1) 0 z57 rfl g2 c1 fun A_3 c_3 => (sv (EV.lc (v := .slice A_3 ((rd_T57 l0 a1).f0).length c_3) 0 none 1 rfl rfl rfl rfl) rfl (sv (EV.ln rfl) rfl (sv (EV.lss rfl rfl) rfl (sv (EV.pt rfl rfl rfl) rfl (re (pr [0, 1, 2, 20] [] [0] rfl rfl rfl rfl ?_))))))))
  revert H; refine ifsI ?_ ?_ <;> intro c4 H
  ·
   refine gt rfl (dT c4) (gs (rg (sv (EV.mv rfl) rfl (sv (EV.mv rfl) rfl (sv (EV.ix 0 rfl rfl rfl g2 c1 rfl) rfl (sv (EV.fa 0 rfl) rfl (opn (i := a1) 0 z57 rfl g2 c1 fun A_5 c_5 => (sv (EV.lc (v := .slice A_5 ((rd_T57 l0 a1).f0).length c_5) 0 none 1 rfl rfl rfl rfl) rfl (sv (EV.mv rfl) rfl ?_)))))))))
   revert H; refine ggI ?_; intro g6 H
   refine sv (EV.ix 2 rfl rfl rfl g6 c4 rfl) rfl (sv (EV.le (v := .agg #[.int .i64 ((rd_T72 ((rd_T57 l0 a1).f0) a2).f0), .int .i64 ((rd_T72 ((rd_T57 l0 a1).f0) a2).f1), .int .i64 ((rd_T72 ((rd_T57 l0 a1).f0) a2).f2)]) a2 0 (some 3) 2 z72 rfl rfl rfl g6 c4 rfl rfl rfl) rfl (so rfl (op_lit (s := 3) (by_ := 24) k72 ([(⟨(rd_T72 ((rd_T57 l0 a1).f0) a2).f0, (rd_T72 ((rd_T57 l0 a1).f0) a2).f1, (rd_T72 ((rd_T57 l0 a1).f0) a2).f2⟩ : S72)] : List S72) [[]] [] 1 [.tmp 28] rfl rfl rfl rfl rfl rfl rfl rfl rfl rfl rfl rfl rfl dq rfl fun A29_7 c29_7 => (sv (EV.as rfl) rfl (re (pr [6] [] [3] rfl rfl rfl rfl ?_))))))
   cases H
   exact rt Try.func76 rfl (.tmp rfl .nil) rfl [] [⟨0, 2, 1, true⟩] rfl rfl rfl rfl rfl ⟨_, _, rfl, rfl, rfl⟩
  ·
   refine gf rfl (dF c4) (gk (gs (rg (so rfl (op_lit (s := 3) (by_ := 24) k72 ([] : List S72) [] [] 1 [] rfl rfl rfl rfl rfl rfl rfl rfl rfl rfl rfl rfl rfl dq rfl fun A30_8 c30_8 => (sv (EV.as rfl) rfl (re ?_)))))))
   cases H
   exact rt Try.func76 rfl (.tmp rfl .nil) rfl [] [⟨1, 2, 1, true⟩] rfl rfl rfl rfl rfl ⟨_, _, rfl, rfl, rfl⟩
 ·
  refine ts 11 rfl (dF c1) (sk rfl (sk rfl (sk rfl (sk rfl (sk rfl (sk rfl (sk rfl (sk rfl (sv (EV.pf rfl rfl rfl) rfl (re (pr [0, 1, 2, 20] [] [0] rfl rfl rfl rfl (gf rfl rfl (gk (gs (rg (so rfl (op_lit (s := 3) (by_ := 24) k72 ([] : List S72) [] [] 1 [] rfl rfl rfl rfl rfl rfl rfl rfl rfl rfl rfl rfl rfl dq rfl fun A30_9 c30_9 => (sv (EV.as rfl) rfl (re ?_)))))))))))))))))))
  cases H
  exact rt Try.func76 rfl (.tmp rfl .nil) rfl [] [⟨1, 2, 1, true⟩] rfl rfl rfl rfl rfl ⟨_, _, rfl, rfl, rfl⟩
def spec_SorterMemory.f (k : Nat) (l0_0 : List S72) (a0_1 : Int) (l0_2 : List S72) (l0_3 : List S72) (l0_4 : List S72) (l0_5 : List S57) (a0_6 : Int) (a0_7 : Int) (a0_8 : Int) (a0_9 : Int) : Option (Int) := if a0_8 = 1 then ((spec_TotalCost.f k l0_2).bind fun t2 => ((spec_TotalCost.f k l0_3).bind fun t3 => (some (wrap64 (t2 + t3))))) else (if a0_8 = 2 then (if a0_6 < 0 then (some 0) else (if a0_7 < 0 then (some 0) else ((spec_l13Row.f l0_5 0 a0_6).bind fun t7 => ((spec_TotalCost.f k t7).bind fun t8 => ((spec_l13Row.f l0_5 1 a0_7).bind fun t9 => ((spec_TotalCost.f k t9).bind fun t10 => (some (wrap64 (t8 + t10))))))))) else (if a0_8 = 3 then (if a0_6 < 0 then (some 0) else ((spec_l13Row.f l0_5 0 a0_6).bind fun t13 => ((spec_TotalCost.f k t13).bind fun t14 => (some t14)))) else (some 0)))
set_option maxHeartbeats 4000000 in
set_option maxRecDepth 100000 in
theorem spec_SorterMemory.ok (k : Nat) (l0_0 : List S72) (Al0_0 : Option Addr) (cl0_0 : Nat) (a0_1 : Int) (l0_2 : List S72) (Al0_2 : Option Addr) (cl0_2 : Nat) (l0_3 : List S72) (Al0_3 : Option Addr) (cl0_3 : Nat) (l0_4 : List S72) (Al0_4 : Option Addr) (cl0_4 : Nat) (l0_5 : List S57) (Al0_5 : Option Addr) (cl0_5 : Nat) (a0_6 : Int) (a0_7 : Int) (a0_8 : Int) (a0_9 : Int) (r0 : Int) (H : spec_SorterMemory.f k l0_0 a0_1 l0_2 l0_3 l0_4 l0_5 a0_6 a0_7 a0_8 a0_9 = some r0) : Fn Try.prog 50 [.agg #[.slice Al0_0 l0_0.length cl0_0, .int .i64 a0_1, .slice Al0_2 l0_2.length cl0_2, .slice Al0_3 l0_3.length cl0_3, .slice Al0_4 l0_4.length cl0_4, .slice Al0_5 l0_5.length cl0_5, .int .i64 a0_6, .int .i64 a0_7, .int .i64 a0_8, .int .i64 a0_9]] [] [.sl 0 k72 Al0_0 cl0_0 l0_0 0 false, .sl 0 k72 Al0_2 cl0_2 l0_2 0 false, .sl 0 k72 Al0_3 cl0_3 l0_3 0 false, .sl 0 k72 Al0_4 cl0_4 l0_4 0 false, .sl 0 k57 Al0_5 cl0_5 l0_5 0 false] (fun v bx en => v = .int .i64 r0 ∧ bx = [] ∧ en = []) := by
 refine fn_ 48 Try.func50 rfl rfl rfl (fun base T w0 => ?_)
 rw [spec_SorterMemory.f] at H
 refine gs (rg (so rfl (op_box (cs := [.slice Al0_0 l0_0.length cl0_0, .int .i64 a0_1, .slice Al0_2 l0_2.length cl0_2, .slice Al0_3 l0_3.length cl0_3, .slice Al0_4 l0_4.length cl0_4, .slice Al0_5 l0_5.length cl0_5, .int .i64 a0_6, .int .i64 a0_7, .int .i64 a0_8, .int .i64 a0_9]) rfl rfl rfl fun b1 => (sv (EV.as rfl) rfl (re (gs (gs (rg (sv (EV.fa 8 rfl) rfl (sv (EV.ld 0 none rfl rfl rfl) rfl (re (gb (gs (rg (sv (EV.eql rfl rfl) rfl (sv (EV.as rfl) rfl (re ?_)))))))))))))))))
 revert H; refine ifsI ?_ ?_ <;> intro c1 H
 ·
  refine gt rfl (dT c1) (gs (dr [0] [0, 1, 2, 3, 4] [] 8 rfl rfl rfl rfl (xv 0 [0] [0, 1, 2, 3, 4] rfl (EV.fa 2 rfl) rfl rfl rfl rfl (xv 1 [0] [0, 1, 2, 3, 4] rfl (EV.ld 0 none rfl rfl rfl) rfl rfl rfl rfl (xv 3 [0] [0, 1, 2, 3, 4] rfl (EV.fa 3 rfl) rfl rfl rfl rfl (xv 4 [0] [0, 1, 2, 3, 4] rfl (EV.ld 0 none rfl rfl rfl) rfl rfl rfl rfl (one1 2 rfl rfl ?_)))))))
  revert H; refine bdI ?_; rintro t2 A2 H
  refine op_call (spec_TotalCost.ok k l0_2 Al0_2 cl0_2 _ A2) [⟨1, 0, 0, false⟩] 1 rfl rfl rfl rfl rfl ?_
  rintro _ _ _ ⟨rfl, rfl, rfl⟩
  refine xs [0] [0, 1, 2, 3, 4] rfl rfl rfl (one1 5 rfl rfl ?_)
  revert H; refine bdI ?_; rintro t3 A3 H
  refine op_call (spec_TotalCost.ok k l0_3 Al0_3 cl0_3 _ A3) [⟨2, 0, 0, false⟩] 1 rfl rfl rfl rfl rfl ?_
  rintro _ _ _ ⟨rfl, rfl, rfl⟩
  refine xs [0] [0, 1, 2, 3, 4] rfl rfl rfl (xv 6 [0] [0, 1, 2, 3, 4] rfl (EV.add rfl rfl) rfl rfl rfl rfl (xv 7 [0] [0, 1, 2, 3, 4] rfl (EV.as rfl) rfl rfl rfl rfl (xd (pr [2] [] [] rfl rfl rfl rfl ?_))))
  cases H
  exact rt Try.func50 rfl (.tmp rfl .nil) rfl [] [] rfl rfl rfl rfl rfl ⟨rfl, rfl, rfl⟩
 ·
  refine gf rfl (dF c1) (gs (rg (sv (EV.eql rfl rfl) rfl (sv (EV.as rfl) rfl (re (pr [1, 4, 14] [0] [0, 1, 2, 3, 4] rfl rfl rfl rfl ?_))))))
  revert H; refine ifsI ?_ ?_ <;> intro c4 H
  ·
   refine gt rfl (dT c4) (gs (gs (rg (sv (EV.fa 6 rfl) rfl (sv (EV.ld 0 none rfl rfl rfl) rfl (sv (EV.lss rfl rfl) rfl (sv (EV.mv rfl) rfl ?_)))))))
   revert H; refine ifsI ?_ ?_ <;> intro c5 H
   ·
    refine ts 19 rfl (dT c5) (sk rfl (sk rfl (sk rfl (sv (EV.pt rfl rfl rfl) rfl (re (pr [1, 23] [0] [0, 1, 2, 3, 4] rfl rfl rfl rfl (gt rfl rfl (gs (rg (sv (EV.as rfl) rfl (re ?_)))))))))))
    cases H
    exact rt Try.func50 rfl (.tmp rfl .nil) rfl [] [] rfl rfl rfl rfl rfl ⟨rfl, rfl, rfl⟩
   ·
    refine ts 19 rfl (dF c5) (sv (EV.fa 7 rfl) rfl (sv (EV.ld 0 none rfl rfl rfl) rfl (sv (EV.lss rfl rfl) rfl (sv (EV.pf rfl rfl rfl) rfl (re (pr [1, 23] [0] [0, 1, 2, 3, 4] rfl rfl rfl rfl ?_))))))
    revert H; refine ifsI ?_ ?_ <;> intro c6 H
    ·
     refine gt rfl (dT c6) (gs (rg (sv (EV.as rfl) rfl (re ?_))))
     cases H
     exact rt Try.func50 rfl (.tmp rfl .nil) rfl [] [] rfl rfl rfl rfl rfl ⟨rfl, rfl, rfl⟩
    ·
     refine gf rfl (dF c6) (gk (gs (dr [0] [0, 1, 2, 3, 4] [] 14 rfl rfl rfl rfl (xv 0 [0] [0, 1, 2, 3, 4] rfl (EV.fa 5 rfl) rfl rfl rfl rfl (xv 1 [0] [0, 1, 2, 3, 4] rfl (EV.ld 0 none rfl rfl rfl) rfl rfl rfl rfl (xv 2 [0] [0, 1, 2, 3, 4] rfl (EV.fa 6 rfl) rfl rfl rfl rfl (xv 3 [0] [0, 1, 2, 3, 4] rfl (EV.ld 0 none rfl rfl rfl) rfl rfl rfl rfl (xv 6 [0] [0, 1, 2, 3, 4] rfl (EV.fa 5 rfl) rfl rfl rfl rfl (xv 7 [0] [0, 1, 2, 3, 4] rfl (EV.ld 0 none rfl rfl rfl) rfl rfl rfl rfl (xv 8 [0] [0, 1, 2, 3, 4] rfl (EV.fa 7 rfl) rfl rfl rfl rfl (xv 9 [0] [0, 1, 2, 3, 4] rfl (EV.ld 0 none rfl rfl rfl) rfl rfl rfl rfl (one1 4 rfl rfl ?_))))))))))))
     revert H; refine bdI ?_; rintro t7 A7 H
     refine op_call (spec_l13Row.ok l0_5 Al0_5 cl0_5 0 a0_6 _ A7) [⟨4, 0, 0, false⟩] 1 rfl rfl rfl rfl rfl ?_
     rintro _ _ _ ⟨At7, ct7, rfl, rfl, rfl⟩
     refine xs [0] [0, 1, 2, 3, 4] rfl rfl rfl (one1 5 rfl rfl ?_)
     revert H; refine bdI ?_; rintro t8 A8 H
     refine op_call (spec_TotalCost.ok k t7 At7 ct7 _ A8) [⟨5, 0, 0, false⟩] 3 rfl rfl rfl rfl rfl ?_
     rintro _ _ _ ⟨rfl, rfl, rfl⟩
     refine xs [0] [0, 1, 2, 3, 4] rfl rfl rfl (one1 10 rfl rfl ?_)
     revert H; refine bdI ?_; rintro t9 A9 H
     refine op_call (spec_l13Row.ok l0_5 Al0_5 cl0_5 1 a0_7 _ A9) [⟨4, 0, 0, false⟩] 3 rfl rfl rfl rfl rfl ?_
     rintro _ _ _ ⟨At9, ct9, rfl, rfl, rfl⟩
     refine xs [0] [0, 1, 2, 3, 4] rfl rfl rfl (one1 11 rfl rfl ?_)
     revert H; refine bdI ?_; rintro t10 A10 H
     refine op_call (spec_TotalCost.ok k t9 At9 ct9 _ A10) [⟨6, 0, 0, false⟩] 5 rfl rfl rfl rfl rfl ?_
     rintro _ _ _ ⟨rfl, rfl, rfl⟩
     refine xs [0] [0, 1, 2, 3, 4] rfl rfl rfl (xv 12 [0] [0, 1, 2, 3, 4] rfl (EV.add rfl rfl) rfl rfl rfl rfl (xv 13 [0] [0, 1, 2, 3, 4] rfl (EV.as rfl) rfl rfl rfl rfl (xd (pr [2] [] [] rfl rfl rfl rfl ?_))))
     cases H
     exact rt Try.func50 rfl (.tmp rfl .nil) rfl [] [] rfl rfl rfl rfl rfl ⟨rfl, rfl, rfl⟩
  ·
   refine gf rfl (dF c4) (gs (rg (sv (EV.eql rfl rfl) rfl (sv (EV.as rfl) rfl (re ?_)))))
   revert H; refine ifsI ?_ ?_ <;> intro c11 H
   ·
    refine gt rfl (dT c11) (gs (gs (rg (sv (EV.fa 6 rfl) rfl (sv (EV.ld 0 none rfl rfl rfl) rfl (sv (EV.lss rfl rfl) rfl (re (pr [1, 41] [0] [0, 1, 2, 3, 4] rfl rfl rfl rfl ?_))))))))
    revert H; refine ifsI ?_ ?_ <;> intro c12 H
    ·
     refine gt rfl (dT c12) (gs (rg (sv (EV.as rfl) rfl (re ?_))))
     cases H
     exact rt Try.func50 rfl (.tmp rfl .nil) rfl [] [] rfl rfl rfl rfl rfl ⟨rfl, rfl, rfl⟩
    ·
     refine gf rfl (dF c12) (gk (gs (rg (sv (EV.fa 5 rfl) rfl (sv (EV.ld 0 none rfl rfl rfl) rfl (sv (EV.fa 6 rfl) rfl (sv (EV.ld 0 none rfl rfl rfl) rfl ?_)))))))
     revert H; refine bdI ?_; rintro t13 A13 H
     refine so rfl (op_call (spec_l13Row.ok l0_5 Al0_5 cl0_5 0 a0_6 _ A13) [⟨4, 0, 0, false⟩] 1 rfl rfl rfl rfl rfl ?_)
     rintro _ _ _ ⟨At13, ct13, rfl, rfl, rfl⟩
     revert H; refine bdI ?_; rintro t14 A14 H
     refine so rfl (op_call (spec_TotalCost.ok k t13 At13 ct13 _ A14) [⟨5, 0, 0, false⟩] 3 rfl rfl rfl rfl rfl ?_)
     rintro _ _ _ ⟨rfl, rfl, rfl⟩
     refine sv (EV.as rfl) rfl (re (pr [2] [] [] rfl rfl rfl rfl ?_))
     cases H
     exact rt Try.func50 rfl (.tmp rfl .nil) rfl [] [] rfl rfl rfl rfl rfl ⟨rfl, rfl, rfl⟩
   ·
    refine gf rfl (dF c11) (gk (ge (gs (rg (sv (EV.as rfl) rfl (re ?_))))))
    cases H
    exact rt Try.func50 rfl (.tmp rfl .nil) rfl [] [] rfl rfl rfl rfl rfl ⟨rfl, rfl, rfl⟩
mutual
def spec_SortRows.j0 : Nat → (List S72) → Int → Int → (List S72) → Option ((List S72))
 | 0, _, _, _, _ => none
 | k + 1, x25_3, x25_4, x25_5, l0 => if 0 ≤ x25_4 then (if x25_4 < (l0.length : Int) then (if 0 ≤ x25_5 then (if x25_5 ≤ (x25_3.length : Int) then (if ([(⟨(rd_T72 l0 x25_4).f0, (rd_T72 l0 x25_4).f1, (rd_T72 l0 x25_4).f2⟩ : S72)] : List S72).length + (x25_3.drop x25_5.toNat).length ≤ 5864062014805 then (if (x25_3.take x25_5.toNat).length ≤ 5864062014805 then (if (x25_3.take x25_5.toNat).length + (([(⟨(rd_T72 l0 x25_4).f0, (rd_T72 l0 x25_4).f1, (rd_T72 l0 x25_4).f2⟩ : S72)] : List S72) ++ (x25_3.drop x25_5.toNat)).length ≤ 5864062014805 then (spec_SortRows.l0 k ((x25_3.take x25_5.toNat) ++ (([(⟨(rd_T72 l0 x25_4).f0, (rd_T72 l0 x25_4).f1, (rd_T72 l0 x25_4).f2⟩ : S72)] : List S72) ++ (x25_3.drop x25_5.toNat))) (wrap64 (x25_4 + 1)) l0) else none) else none) else none) else none) else none) else none) else none
def spec_SortRows.l1 : Nat → (List S72) → Int → Int → (List S72) → Option ((List S72))
 | 0, _, _, _, _ => none
 | k + 1, x26_3, x26_4, x26_5, l0 => if x26_5 > 0 then (if 0 ≤ (wrap64 (x26_5 - 1)) then (if (wrap64 (x26_5 - 1)) < (x26_3.length : Int) then (if 0 ≤ x26_4 then (if x26_4 < (l0.length : Int) then ((spec_CompareRows.f k ((rd_T72 x26_3 (wrap64 (x26_5 - 1))).f0) ((rd_T72 x26_3 (wrap64 (x26_5 - 1))).f1) ((rd_T72 x26_3 (wrap64 (x26_5 - 1))).f2) ((rd_T72 l0 x26_4).f0) ((rd_T72 l0 x26_4).f1) ((rd_T72 l0 x26_4).f2)).bind fun t21 => (if t21 > 0 then (spec_SortRows.l1 k x26_3 x26_4 (wrap64 (x26_5 - 1)) l0) else (spec_SortRows.j0 k x26_3 x26_4 x26_5 l0))) else none) else none) else none) else none) else (spec_SortRows.j0 k x26_3 x26_4 x26_5 l0)
def spec_SortRows.l0 : Nat → (List S72) → Int → (List S72) → Option ((List S72))
 | 0, _, _, _ => none
 | k + 1, x14_3, x14_4, l0 => if x14_4 < (l0.length : Int) then (spec_SortRows.l1 k x14_3 x14_4 (x14_3.length : Int) l0) else (some x14_3)
end
def spec_SortRows.f (k : Nat) (l0 : List S72) : Option ((List S72)) := spec_SortRows.l0 k [] 0 l0
set_option maxHeartbeats 4000000 in
set_option maxRecDepth 100000 in
theorem spec_SortRows.ok (k : Nat) (l0 : List S72) (Al0 : Option Addr) (cl0 : Nat) (r0 : List S72) (H : spec_SortRows.f k l0 = some r0) : Fn Try.prog 77 [.slice Al0 l0.length cl0] [] [.sl 0 k72 Al0 cl0 l0 0 false] (fun v bx en => ∃ A0 c0, v = .slice A0 r0.length c0 ∧ bx = [] ∧ en = [.sl 2 k72 A0 c0 r0 1 true]) := by
 refine fn_ 50 Try.func77 rfl rfl rfl (fun base T w0 => ?_)
 rw [spec_SortRows.f] at H
 refine gs (rg (sv (EV.as rfl) rfl (re (gs (rg (so rfl (op_lit (s := 3) (by_ := 24) k72 ([] : List S72) [] [] 1 [] rfl rfl rfl rfl rfl rfl rfl rfl rfl rfl rfl rfl rfl dq rfl fun A7_1 c7_1 => (sv (EV.as rfl) rfl (re (gs (gs (rg (sv (EV.as rfl) rfl (re (gb ?_)))))))))))))))
 refine lo (fun kk S => ∃ (x14_3 : List S72) (Ax14_3 : Option Addr) (cx14_3 : Nat) (x14_4 : Int), spec_SortRows.l0 kk x14_3 x14_4 l0 = some r0 ∧ S = ⟨[(0, .slice Al0 l0.length cl0), (3, .slice Ax14_3 x14_3.length cx14_3), (4, .int .i64 x14_4)], [], [.sl 2 k72 Ax14_3 cx14_3 x14_3 1 true, .sl 0 k72 Al0 cl0 l0 0 false]⟩) (fun S hS => ?_) (fun n0 ih0 S hS => ?_) ⟨[], A7_1, c7_1, 0, H, rfl⟩ (fun h => wk [0, 3, 4] [] [⟨1, 2, 1, true⟩, ⟨0, 0, 0, false⟩] h)
 · clear H; obtain ⟨_, _, _, _, H, _⟩ := hS; rw [spec_SortRows.l0] at H; cases H
 clear H
 obtain ⟨x14_3, Ax14_3, cx14_3, x14_4, H, rfl⟩ := hS
 rw [spec_SortRows.l0] at H
 refine gs (gs (rg (sv (EV.mv rfl) rfl (sv (EV.mv rfl) rfl (sv (EV.ln rfl) rfl (sv (EV.lss rfl rfl) rfl (re ?_)))))))
 revert H; refine ifsI ?_ ?_ <;> intro c2 H
 ·
  refine gt rfl (dT c2) (gk (gs (gb (gs (rg (sv (EV.mv rfl) rfl (sv (EV.ln rfl) rfl (sv (EV.as rfl) rfl (re (pr [0, 3, 4, 5] [] [0, 1] rfl rfl rfl rfl ?_))))))))))
  refine jo (fun S => ∃ (m : Nat) (x25_3 : List S72) (Ax25_3 : Option Addr) (cx25_3 : Nat) (x25_4 : Int) (x25_5 : Int), m ≤ n0 ∧ spec_SortRows.j0 m x25_3 x25_4 x25_5 l0 = some r0 ∧ S = ⟨[(0, .slice Al0 l0.length cl0), (3, .slice Ax25_3 x25_3.length cx25_3), (4, .int .i64 x25_4), (5, .int .i64 x25_5)], [], [.sl 2 k72 Ax25_3 cx25_3 x25_3 1 true, .sl 0 k72 Al0 cl0 l0 0 false]⟩) (fun S hS => ?_) (fun jh0 => ?_)
  ·
   clear H
   obtain ⟨m3, x25_3, Ax25_3, cx25_3, x25_4, x25_5, lm3, H, rfl⟩ := hS
   rcases m3 with _ | m3
   · rw [spec_SortRows.j0] at H; cases H
   rw [spec_SortRows.j0] at H
   refine gs ?_
   revert H; refine ggI ?_; intro g4 H
   revert H; refine ggI ?_; intro g5 H
   revert H; refine ggI ?_; intro g6 H
   revert H; refine ggI ?_; intro g7 H
   refine dr [] [0, 1] [9] 10 rfl rfl rfl rfl (xv 0 [] [0, 1] rfl (EV.mv rfl) rfl rfl rfl rfl (xv 1 [] [0, 1] rfl (EV.mv rfl) rfl rfl rfl rfl (xv 2 [] [0, 1] rfl (EV.ix 1 rfl rfl rfl g4 g5 rfl) rfl rfl rfl rfl (xv 3 [] [0, 1] rfl (EV.le (v := .agg #[.int .i64 ((rd_T72 l0 x25_4).f0), .int .i64 ((rd_T72 l0 x25_4).f1), .int .i64 ((rd_T72 l0 x25_4).f2)]) x25_4 0 (some 3) 1 z72 rfl rfl rfl g4 g5 rfl rfl rfl) rfl rfl rfl rfl (xv 5 [] [0, 1] rfl (EV.mv rfl) rfl rfl rfl rfl (xv 6 [] [0, 1] rfl (EV.mv rfl) rfl rfl rfl rfl (cutp (l' := x25_3.drop x25_5.toNat) x25_5 (x25_3.length : Int) 0 rfl g6 g7 (Int.le_refl _) rfl 1 dq (.inl dq) ctl (xv 7 [] [0, 1] rfl (EV.ct x25_5 (x25_3.length : Int) 0 rfl rfl rfl rfl g6 g7 (Int.le_refl _) rfl rfl ctnl) rfl rfl rfl rfl (one1 4 rfl rfl (op_lit (s := 3) (by_ := 24) k72 ([(⟨(rd_T72 l0 x25_4).f0, (rd_T72 l0 x25_4).f1, (rd_T72 l0 x25_4).f2⟩ : S72)] : List S72) [[]] [] 2 [.tmp 36] rfl rfl rfl rfl rfl rfl rfl rfl rfl rfl rfl rfl rfl dq rfl fun A37_8 c37_8 => (xs [] [0, 1] rfl rfl rfl (one1 8 rfl rfl ?_))))))))))))
   revert H; refine ggI ?_; intro g9 H
   refine op_app (k := k72) (s := 3) (by_ := 24) 3 2 rfl rfl rfl rfl (ap2 g9 dq) (ap2n g9 dq) (.inl rfl) true (fun _ => .inl rfl) rfl rfl fun A41_10 c41_10 => (nmE (en := [.sl 2 k72 Ax25_3 cx25_3 x25_3 1 true, .sl 0 k72 Al0 cl0 l0 0 false, .sl 1 k72 (cutA Ax25_3 cx25_3 x25_5.toNat 3) (cx25_3 - x25_5.toNat) (x25_3.drop x25_5.toNat) 1 true, .sl 2 k72 A41_10 c41_10 (([(⟨(rd_T72 l0 x25_4).f0, (rd_T72 l0 x25_4).f1, (rd_T72 l0 x25_4).f2⟩ : S72)] : List S72) ++ (x25_3.drop x25_5.toNat)) 2 true]) (by kernel_rfl) (xs [] [0, 1] rfl rfl rfl (one1 9 rfl rfl (ov (EV.as rfl) rfl (xn rfl (xd (pr [0, 3, 4, 5, 6] [] [0, 1, 3] rfl rfl rfl rfl (rg (so rfl (op_lit (s := 3) (by_ := 24) k72 ([] : List S72) [] [] 3 [] rfl rfl rfl rfl rfl rfl rfl rfl rfl rfl rfl rfl rfl dq rfl fun A42_11 c42_11 => (sv (EV.mv rfl) rfl (sv (EV.mv rfl) rfl (cutp (l' := x25_3.take x25_5.toNat) 0 x25_5 0 rfl (Int.le_refl 0) g6 g7 rfl 2 dq (.inr rfl) rfl (sv (EV.ct 0 x25_5 0 rfl rfl rfl rfl (Int.le_refl 0) g6 g7 rfl rfl ctnh) rfl ?_))))))))))))))
   revert H; refine ggI ?_; intro g12 H
   refine so rfl (op_app (k := k72) (s := 3) (by_ := 24) 3 4 rfl rfl rfl rfl (ap0 g12 dq) (ap0n g12 dq) (.inl rfl) true (fun _ => .inl rfl) rfl rfl fun A46_13 c46_13 => (nmE (en := [.sl 2 k72 Ax25_3 cx25_3 x25_3 1 true, .sl 0 k72 Al0 cl0 l0 0 false, .sl 2 k72 A41_10 c41_10 (([(⟨(rd_T72 l0 x25_4).f0, (rd_T72 l0 x25_4).f1, (rd_T72 l0 x25_4).f2⟩ : S72)] : List S72) ++ (x25_3.drop x25_5.toNat)) 2 true, .sl 2 k72 (cutA Ax25_3 cx25_3 (0 : Int).toNat 3) (cx25_3 - (0 : Int).toNat) (x25_3.take x25_5.toNat) 1 true, .sl 2 k72 A46_13 c46_13 (x25_3.take x25_5.toNat) 3 true]) (by kernel_rfl) (sv (EV.mv rfl) rfl ?_)))
   revert H; refine ggI ?_; intro g14 H
   exact so rfl (op_app (k := k72) (s := 3) (by_ := 24) 4 2 rfl rfl rfl rfl (ap2 g14 dq) (ap2n g14 dq) (.inl rfl) true (fun _ => .inl rfl) rfl rfl fun A48_15 c48_15 => (nmE (en := [.sl 2 k72 Ax25_3 cx25_3 x25_3 1 true, .sl 0 k72 Al0 cl0 l0 0 false, .sl 2 k72 A41_10 c41_10 (([(⟨(rd_T72 l0 x25_4).f0, (rd_T72 l0 x25_4).f1, (rd_T72 l0 x25_4).f2⟩ : S72)] : List S72) ++ (x25_3.drop x25_5.toNat)) 2 true, .sl 2 k72 (cutA Ax25_3 cx25_3 (0 : Int).toNat 3) (cx25_3 - (0 : Int).toNat) (x25_3.take x25_5.toNat) 1 true, .sl 2 k72 A48_15 c48_15 ((x25_3.take x25_5.toNat) ++ (([(⟨(rd_T72 l0 x25_4).f0, (rd_T72 l0 x25_4).f1, (rd_T72 l0 x25_4).f2⟩ : S72)] : List S72) ++ (x25_3.drop x25_5.toNat))) 3 true]) (by kernel_rfl) (sv (EV.as rfl) rfl (re (pr [0, 3, 4] [] [1, 4] rfl rfl rfl rfl (ge (rg (sv (EV.mv rfl) rfl (sv (EV.add rfl rfl) rfl (sv (EV.as rfl) rfl (re (wk [0, 3, 4] [] [⟨1, 2, 1, true⟩, ⟨0, 0, 0, false⟩] (ih0 _ (by omega) _ ⟨(x25_3.take x25_5.toNat) ++ (([(⟨(rd_T72 l0 x25_4).f0, (rd_T72 l0 x25_4).f1, (rd_T72 l0 x25_4).f2⟩ : S72)] : List S72) ++ (x25_3.drop x25_5.toNat)), A48_15, c48_15, wrap64 (x25_4 + 1), H, rfl⟩)))))))))))))
  ·
   refine gb ?_
   refine lo (fun kk S => ∃ (x26_3 : List S72) (Ax26_3 : Option Addr) (cx26_3 : Nat) (x26_4 : Int) (x26_5 : Int), kk ≤ n0 ∧ spec_SortRows.l1 kk x26_3 x26_4 x26_5 l0 = some r0 ∧ S = ⟨[(0, .slice Al0 l0.length cl0), (3, .slice Ax26_3 x26_3.length cx26_3), (4, .int .i64 x26_4), (5, .int .i64 x26_5)], [], [.sl 2 k72 Ax26_3 cx26_3 x26_3 1 true, .sl 0 k72 Al0 cl0 l0 0 false]⟩) (fun S hS => ?_) (fun n1 ih1 S hS => ?_) ⟨x14_3, Ax14_3, cx14_3, x14_4, (x14_3.length : Int), by omega, H, rfl⟩ (fun h => wk [0, 3, 4, 5] [] [⟨0, 2, 1, true⟩, ⟨1, 0, 0, false⟩] h)
   · clear H; obtain ⟨_, _, _, _, _, _, H, _⟩ := hS; rw [spec_SortRows.l1] at H; cases H
   clear H
   obtain ⟨x26_3, Ax26_3, cx26_3, x26_4, x26_5, lk1, H, rfl⟩ := hS
   rw [spec_SortRows.l1] at H
   refine gs (gs (dr [] [0, 1] [] 15 rfl rfl rfl rfl (xv 0 [] [0, 1] rfl (EV.mv rfl) rfl rfl rfl rfl (xv 1 [] [0, 1] rfl (EV.gtr rfl rfl) rfl rfl rfl rfl (xv 2 [] [0, 1] rfl (EV.mv rfl) rfl rfl rfl rfl ?_)))))
   revert H; refine ifsI ?_ ?_ <;> intro c16 H
   ·
    refine ts 18 rfl (dT c16) (xv 3 [] [0, 1] rfl (EV.mv rfl) rfl rfl rfl rfl (xv 4 [] [0, 1] rfl (EV.mv rfl) rfl rfl rfl rfl (xv 5 [] [0, 1] rfl (EV.sub rfl rfl) rfl rfl rfl rfl ?_)))
    revert H; refine ggI ?_; intro g17 H
    revert H; refine ggI ?_; intro g18 H
    refine xv 6 [] [0, 1] rfl (EV.ix 0 rfl rfl rfl g17 g18 rfl) rfl rfl rfl rfl (xv 7 [] [0, 1] rfl (EV.le (v := .agg #[.int .i64 ((rd_T72 x26_3 (wrap64 (x26_5 - 1))).f0), .int .i64 ((rd_T72 x26_3 (wrap64 (x26_5 - 1))).f1), .int .i64 ((rd_T72 x26_3 (wrap64 (x26_5 - 1))).f2)]) (wrap64 (x26_5 - 1)) 0 (some 3) 0 z72 rfl rfl rfl g17 g18 rfl rfl rfl) rfl rfl rfl rfl (xv 8 [] [0, 1] rfl (EV.mv rfl) rfl rfl rfl rfl (xv 9 [] [0, 1] rfl (EV.mv rfl) rfl rfl rfl rfl ?_)))
    revert H; refine ggI ?_; intro g19 H
    revert H; refine ggI ?_; intro g20 H
    refine xv 10 [] [0, 1] rfl (EV.ix 1 rfl rfl rfl g19 g20 rfl) rfl rfl rfl rfl (xv 11 [] [0, 1] rfl (EV.le (v := .agg #[.int .i64 ((rd_T72 l0 x26_4).f0), .int .i64 ((rd_T72 l0 x26_4).f1), .int .i64 ((rd_T72 l0 x26_4).f2)]) x26_4 0 (some 3) 1 z72 rfl rfl rfl g19 g20 rfl rfl rfl) rfl rfl rfl rfl (one1 12 rfl rfl ?_))
    revert H; refine bdI ?_; rintro t21 A21 H
    refine op_call (spec_CompareRows.ok n1 ((rd_T72 x26_3 (wrap64 (x26_5 - 1))).f0) ((rd_T72 x26_3 (wrap64 (x26_5 - 1))).f1) ((rd_T72 x26_3 (wrap64 (x26_5 - 1))).f2) ((rd_T72 l0 x26_4).f0) ((rd_T72 l0 x26_4).f1) ((rd_T72 l0 x26_4).f2) _ A21) [] 2 rfl rfl rfl rfl rfl ?_
    rintro _ _ _ ⟨rfl, rfl, rfl⟩
    refine xs [] [0, 1] rfl rfl rfl (xv 13 [] [0, 1] rfl (EV.gtr rfl rfl) rfl rfl rfl rfl (xv 14 [] [0, 1] rfl (EV.pt rfl rfl rfl) rfl rfl rfl rfl (xd ?_)))
    revert H; refine ifsI ?_ ?_ <;> intro c22 H
    ·
     exact gt rfl (dT c22) (gk (gb (rg (sv (EV.mv rfl) rfl (sv (EV.sub rfl rfl) rfl (sv (EV.as rfl) rfl (re (pr [0, 3, 4, 5, 19, 20, 21, 22, 23, 24, 25, 26, 27, 28, 29] [] [0, 1] rfl rfl rfl rfl (ge (wk [0, 3, 4, 5] [] [⟨0, 2, 1, true⟩, ⟨1, 0, 0, false⟩] (ih1 _ (by omega) _ ⟨x26_3, Ax26_3, cx26_3, x26_4, wrap64 (x26_5 - 1), by omega, H, rfl⟩)))))))))))
    ·
     exact gf rfl (dF c22) (gx rfl (wk [0, 3, 4, 5] [] [⟨0, 2, 1, true⟩, ⟨1, 0, 0, false⟩] (jh0 _ ⟨_, x26_3, Ax26_3, cx26_3, x26_4, x26_5, by omega, H, rfl⟩)))
   ·
    exact ts 18 rfl (dF c16) (xk 3 [] [0, 1] rfl rfl rfl rfl rfl (xk 4 [] [0, 1] rfl rfl rfl rfl rfl (xk 5 [] [0, 1] rfl rfl rfl rfl rfl (xk 6 [] [0, 1] rfl rfl rfl rfl rfl (xk 7 [] [0, 1] rfl rfl rfl rfl rfl (xk 8 [] [0, 1] rfl rfl rfl rfl rfl (xk 9 [] [0, 1] rfl rfl rfl rfl rfl (xk 10 [] [0, 1] rfl rfl rfl rfl rfl (xk 11 [] [0, 1] rfl rfl rfl rfl rfl (xk 12 [] [0, 1] rfl rfl rfl rfl rfl (xk 13 [] [0, 1] rfl rfl rfl rfl rfl (xv 14 [] [0, 1] rfl (EV.pf rfl rfl rfl) rfl rfl rfl rfl (xd (pr [0, 3, 4, 5, 30] [] [0, 1] rfl rfl rfl rfl (gf rfl rfl (gx rfl (wk [0, 3, 4, 5] [] [⟨0, 2, 1, true⟩, ⟨1, 0, 0, false⟩] (jh0 _ ⟨_, x26_3, Ax26_3, cx26_3, x26_4, x26_5, by omega, H, rfl⟩))))))))))))))))))
 ·
  refine gf rfl (dF c2) (gx rfl (gs (rg (sv (EV.mv rfl) rfl (sv (EV.as rfl) rfl (re (pr [2] [] [0] rfl rfl rfl rfl ?_)))))))
  cases H
  exact rt Try.func77 rfl (.tmp rfl .nil) rfl [] [⟨0, 2, 1, true⟩] rfl rfl rfl rfl rfl ⟨_, _, rfl, rfl, rfl⟩
def spec_EqualBags.l0 : Nat → (List S72) → (List S72) → Int → Option (Bool)
 | 0, _, _, _ => none
 | k + 1, x2_5, x2_6, x2_7 => if x2_7 < (x2_5.length : Int) then (if 0 ≤ x2_7 then (if x2_7 < (x2_6.length : Int) then (if (((rd_T72 x2_5 x2_7).f0) == ((rd_T72 x2_6 x2_7).f0) && (((rd_T72 x2_5 x2_7).f1) == ((rd_T72 x2_6 x2_7).f1) && (((rd_T72 x2_5 x2_7).f2) == ((rd_T72 x2_6 x2_7).f2)))) = true then (spec_EqualBags.l0 k x2_5 x2_6 (wrap64 (x2_7 + 1))) else (some false)) else none) else none) else (some true)
def spec_EqualBags.f (k : Nat) (l0 : List S72) (l1 : List S72) : Option (Bool) := (spec_SortRows.f k l0).bind fun t1 => ((spec_SortRows.f k l1).bind fun t2 => (if (t1.length : Int) = (t2.length : Int) then (spec_EqualBags.l0 k t1 t2 0) else (some false)))
set_option maxHeartbeats 4000000 in
set_option maxRecDepth 100000 in
theorem spec_EqualBags.ok (k : Nat) (l0 : List S72) (Al0 : Option Addr) (cl0 : Nat) (l1 : List S72) (Al1 : Option Addr) (cl1 : Nat) (r0 : Bool) (H : spec_EqualBags.f k l0 l1 = some r0) : Fn Try.prog 51 [.slice Al0 l0.length cl0, .slice Al1 l1.length cl1] [] [.sl 0 k72 Al0 cl0 l0 0 false, .sl 0 k72 Al1 cl1 l1 0 false] (fun v bx en => v = .bool r0 ∧ bx = [] ∧ en = []) := by
 refine fn_ 32 Try.func51 rfl rfl rfl (fun base T w0 => ?_)
 rw [spec_EqualBags.f] at H
 refine gs (rg (sv (EV.as rfl) rfl (re (gs (rg (sv (EV.mv rfl) rfl ?_))))))
 revert H; refine bdI ?_; rintro t1 A1 H
 refine so rfl (op_call (spec_SortRows.ok k l0 Al0 cl0 _ A1) [⟨0, 0, 0, false⟩] 1 rfl rfl rfl rfl rfl ?_)
 rintro _ _ _ ⟨At1, ct1, rfl, rfl, rfl⟩
 refine sv (EV.as rfl) rfl (re (gs (rg (sv (EV.mv rfl) rfl ?_))))
 revert H; refine bdI ?_; rintro t2 A2 H
 refine so rfl (op_call (spec_SortRows.ok k l1 Al1 cl1 _ A2) [⟨1, 0, 0, false⟩] 3 rfl rfl rfl rfl rfl ?_)
 rintro _ _ _ ⟨At2, ct2, rfl, rfl, rfl⟩
 refine sv (EV.as rfl) rfl (re (pr [5, 6] [] [2, 3] rfl rfl rfl rfl (gs (gs (rg (sv (EV.mv rfl) rfl (sv (EV.ln rfl) rfl (sv (EV.mv rfl) rfl (sv (EV.ln rfl) rfl (sv (EV.neq rfl rfl) rfl (re ?_)))))))))))
 revert H; refine ifsI ?_ ?_ <;> intro c3 H
 ·
  refine gf rfl (nF c3) (gk (gs (gs (rg (sv (EV.as rfl) rfl (re (gb ?_)))))))
  refine lo (fun kk S => ∃ (x2_5 : List S72) (Ax2_5 : Option Addr) (cx2_5 : Nat) (x2_6 : List S72) (Ax2_6 : Option Addr) (cx2_6 : Nat) (x2_7 : Int), spec_EqualBags.l0 kk x2_5 x2_6 x2_7 = some r0 ∧ S = ⟨[(5, .slice Ax2_5 x2_5.length cx2_5), (6, .slice Ax2_6 x2_6.length cx2_6), (7, .int .i64 x2_7)], [], [.sl 2 k72 Ax2_5 cx2_5 x2_5 1 true, .sl 2 k72 Ax2_6 cx2_6 x2_6 2 true]⟩) (fun S hS => ?_) (fun n0 ih0 S hS => ?_) ⟨t1, At1, ct1, t2, At2, ct2, 0, H, rfl⟩ (fun h => wk [5, 6, 7] [] [⟨0, 2, 1, true⟩, ⟨1, 2, 2, true⟩] h)
  · clear H; obtain ⟨_, _, _, _, _, _, _, H, _⟩ := hS; rw [spec_EqualBags.l0] at H; cases H
  clear H
  obtain ⟨x2_5, Ax2_5, cx2_5, x2_6, Ax2_6, cx2_6, x2_7, H, rfl⟩ := hS
  rw [spec_EqualBags.l0] at H
  refine gs (gs (rg (sv (EV.mv rfl) rfl (sv (EV.mv rfl) rfl (sv (EV.ln rfl) rfl (sv (EV.lss rfl rfl) rfl (re ?_)))))))
  revert H; refine ifsI ?_ ?_ <;> intro c4 H
  ·
   refine gt rfl (dT c4) (gk (gs (gb (gs ?_))))
   revert H; refine ggI ?_; intro g5 H
   revert H; refine ggI ?_; intro g6 H
   refine dr [] [0, 1] [] 9 rfl rfl rfl rfl (xv 0 [] [0, 1] rfl (EV.mv rfl) rfl rfl rfl rfl (xv 1 [] [0, 1] rfl (EV.mv rfl) rfl rfl rfl rfl (xv 2 [] [0, 1] rfl (EV.ix 0 rfl rfl rfl g5 c4 rfl) rfl rfl rfl rfl (xv 3 [] [0, 1] rfl (EV.le (v := .agg #[.int .i64 ((rd_T72 x2_5 x2_7).f0), .int .i64 ((rd_T72 x2_5 x2_7).f1), .int .i64 ((rd_T72 x2_5 x2_7).f2)]) x2_7 0 (some 3) 0 z72 rfl rfl rfl g5 c4 rfl rfl rfl) rfl rfl rfl rfl (xv 4 [] [0, 1] rfl (EV.mv rfl) rfl rfl rfl rfl (xv 5 [] [0, 1] rfl (EV.mv rfl) rfl rfl rfl rfl (xv 6 [] [0, 1] rfl (EV.ix 1 rfl rfl rfl g5 g6 rfl) rfl rfl rfl rfl (xv 7 [] [0, 1] rfl (EV.le (v := .agg #[.int .i64 ((rd_T72 x2_6 x2_7).f0), .int .i64 ((rd_T72 x2_6 x2_7).f1), .int .i64 ((rd_T72 x2_6 x2_7).f2)]) x2_7 0 (some 3) 1 z72 rfl rfl rfl g5 g6 rfl rfl rfl) rfl rfl rfl rfl (xv 8 [] [0, 1] rfl (EV.neS rfl rfl (fun d w => eq72 d w ((rd_T72 x2_5 x2_7).f0) ((rd_T72 x2_6 x2_7).f0) ((rd_T72 x2_5 x2_7).f1) ((rd_T72 x2_6 x2_7).f1) ((rd_T72 x2_5 x2_7).f2) ((rd_T72 x2_6 x2_7).f2))) rfl rfl rfl rfl (xd (pr [5, 6, 7, 31] [] [0, 1] rfl rfl rfl rfl ?_)))))))))))
   revert H; refine ifsI ?_ ?_ <;> intro c7 H
   ·
    exact gf rfl (bN c7) (gk (ge (rg (sv (EV.mv rfl) rfl (sv (EV.add rfl rfl) rfl (sv (EV.as rfl) rfl (re (wk [5, 6, 7] [] [⟨0, 2, 1, true⟩, ⟨1, 2, 2, true⟩] (ih0 _ (by omega) _ ⟨x2_5, Ax2_5, cx2_5, x2_6, Ax2_6, cx2_6, wrap64 (x2_7 + 1), H, rfl⟩)))))))))
   ·
    refine gt rfl (bM c7) (gs (rg (sv (EV.as rfl) rfl (re ?_))))
    cases H
    exact rt Try.func51 rfl (.tmp rfl .nil) rfl [] [] rfl rfl rfl rfl rfl ⟨rfl, rfl, rfl⟩
  ·
   refine gf rfl (dF c4) (gx rfl (gs (rg (sv (EV.as rfl) rfl (re (pr [4] [] [] rfl rfl rfl rfl ?_))))))
   cases H
   exact rt Try.func51 rfl (.tmp rfl .nil) rfl [] [] rfl rfl rfl rfl rfl ⟨rfl, rfl, rfl⟩
 ·
  refine gt rfl (nT c3) (gs (rg (sv (EV.as rfl) rfl (re (pr [4] [] [] rfl rfl rfl rfl ?_)))))
  cases H
  exact rt Try.func51 rfl (.tmp rfl .nil) rfl [] [] rfl rfl rfl rfl rfl ⟨rfl, rfl, rfl⟩
mutual
def spec_MergeSorted.j0 : Nat → (List S72) → Int → Int → (List S72) → (List S72) → Option ((List S72))
 | 0, _, _, _, _, _ => none
 | k + 1, x6_5, x6_6, x6_7, l0, l1 => if x6_7 = (l1.length : Int) then (if 0 ≤ x6_6 then (if x6_6 < (l0.length : Int) then (if x6_5.length < 5864062014805 then (spec_MergeSorted.l0 k (x6_5 ++ ([(⟨(rd_T72 l0 x6_6).f0, (rd_T72 l0 x6_6).f1, (rd_T72 l0 x6_6).f2⟩ : S72)] : List S72)) (wrap64 (x6_6 + 1)) x6_7 l0 l1) else none) else none) else none) else (if x6_6 < (l0.length : Int) then (if 0 ≤ x6_6 then (if 0 ≤ x6_7 then (if x6_7 < (l1.length : Int) then ((spec_CompareRows.f k ((rd_T72 l0 x6_6).f0) ((rd_T72 l0 x6_6).f1) ((rd_T72 l0 x6_6).f2) ((rd_T72 l1 x6_7).f0) ((rd_T72 l1 x6_7).f1) ((rd_T72 l1 x6_7).f2)).bind fun t13 => (if t13 ≤ 0 then (if x6_5.length < 5864062014805 then (spec_MergeSorted.l0 k (x6_5 ++ ([(⟨(rd_T72 l0 x6_6).f0, (rd_T72 l0 x6_6).f1, (rd_T72 l0 x6_6).f2⟩ : S72)] : List S72)) (wrap64 (x6_6 + 1)) x6_7 l0 l1) else none) else (if x6_5.length < 5864062014805 then (spec_MergeSorted.l0 k (x6_5 ++ ([(⟨(rd_T72 l1 x6_7).f0, (rd_T72 l1 x6_7).f1, (rd_T72 l1 x6_7).f2⟩ : S72)] : List S72)) x6_6 (wrap64 (x6_7 + 1)) l0 l1) else none))) else none) else none) else none) else (if 0 ≤ x6_7 then (if x6_7 < (l1.length : Int) then (if x6_5.length < 5864062014805 then (spec_MergeSorted.l0 k (x6_5 ++ ([(⟨(rd_T72 l1 x6_7).f0, (rd_T72 l1 x6_7).f1, (rd_T72 l1 x6_7).f2⟩ : S72)] : List S72)) x6_6 (wrap64 (x6_7 + 1)) l0 l1) else none) else none) else none))
def spec_MergeSorted.l0 : Nat → (List S72) → Int → Int → (List S72) → (List S72) → Option ((List S72))
 | 0, _, _, _, _, _ => none
 | k + 1, x4_5, x4_6, x4_7, l0, l1 => if x4_6 < (l0.length : Int) then (spec_MergeSorted.j0 k x4_5 x4_6 x4_7 l0 l1) else (if x4_7 < (l1.length : Int) then (spec_MergeSorted.j0 k x4_5 x4_6 x4_7 l0 l1) else (some x4_5))
end
def spec_MergeSorted.f (k : Nat) (l0 : List S72) (l1 : List S72) : Option ((List S72)) := spec_MergeSorted.l0 k [] 0 0 l0 l1
set_option maxHeartbeats 4000000 in
set_option maxRecDepth 100000 in
theorem spec_MergeSorted.ok (k : Nat) (l0 : List S72) (Al0 : Option Addr) (cl0 : Nat) (l1 : List S72) (Al1 : Option Addr) (cl1 : Nat) (r0 : List S72) (H : spec_MergeSorted.f k l0 l1 = some r0) : Fn Try.prog 52 [.slice Al0 l0.length cl0, .slice Al1 l1.length cl1] [] [.sl 0 k72 Al0 cl0 l0 0 false, .sl 0 k72 Al1 cl1 l1 0 false] (fun v bx en => ∃ A0 c0, v = .slice A0 r0.length c0 ∧ bx = [] ∧ en = [.sl 2 k72 A0 c0 r0 1 true]) := by
 refine fn_ 60 Try.func52 rfl rfl rfl (fun base T w0 => ?_)
 rw [spec_MergeSorted.f] at H
 refine gs (rg (sv (EV.as rfl) rfl (re (gs (rg (so rfl (op_lit (s := 3) (by_ := 24) k72 ([] : List S72) [] [] 1 [] rfl rfl rfl rfl rfl rfl rfl rfl rfl rfl rfl rfl rfl dq rfl fun A8_1 c8_1 => (sv (EV.as rfl) rfl (re (gs (rg (sv (EV.as rfl) rfl (re (gs (rg (sv (EV.as rfl) rfl (re (gs (gb ?_)))))))))))))))))))
 refine lo (fun kk S => ∃ (x4_5 : List S72) (Ax4_5 : Option Addr) (cx4_5 : Nat) (x4_6 : Int) (x4_7 : Int), spec_MergeSorted.l0 kk x4_5 x4_6 x4_7 l0 l1 = some r0 ∧ S = ⟨[(0, .slice Al0 l0.length cl0), (1, .slice Al1 l1.length cl1), (5, .slice Ax4_5 x4_5.length cx4_5), (6, .int .i64 x4_6), (7, .int .i64 x4_7)], [], [.sl 2 k72 Ax4_5 cx4_5 x4_5 1 true, .sl 0 k72 Al0 cl0 l0 0 false, .sl 0 k72 Al1 cl1 l1 0 false]⟩) (fun S hS => ?_) (fun n0 ih0 S hS => ?_) ⟨[], A8_1, c8_1, 0, 0, H, rfl⟩ (fun h => wk [0, 1, 5, 6, 7] [] [⟨2, 2, 1, true⟩, ⟨0, 0, 0, false⟩, ⟨1, 0, 0, false⟩] h)
 · clear H; obtain ⟨_, _, _, _, _, H, _⟩ := hS; rw [spec_MergeSorted.l0] at H; cases H
 clear H
 obtain ⟨x4_5, Ax4_5, cx4_5, x4_6, x4_7, H, rfl⟩ := hS
 rw [spec_MergeSorted.l0] at H
 refine jo (fun S => ∃ (m : Nat) (x6_5 : List S72) (Ax6_5 : Option Addr) (cx6_5 : Nat) (x6_6 : Int) (x6_7 : Int), m ≤ n0 ∧ spec_MergeSorted.j0 m x6_5 x6_6 x6_7 l0 l1 = some r0 ∧ S = ⟨[(0, .slice Al0 l0.length cl0), (1, .slice Al1 l1.length cl1), (5, .slice Ax6_5 x6_5.length cx6_5), (6, .int .i64 x6_6), (7, .int .i64 x6_7)], [], [.sl 2 k72 Ax6_5 cx6_5 x6_5 1 true, .sl 0 k72 Al0 cl0 l0 0 false, .sl 0 k72 Al1 cl1 l1 0 false]⟩) (fun S hS => ?_) (fun jh0 => ?_)
 ·
  clear H
  obtain ⟨m2, x6_5, Ax6_5, cx6_5, x6_6, x6_7, lm2, H, rfl⟩ := hS
  rcases m2 with _ | m2
  · rw [spec_MergeSorted.j0] at H; cases H
  rw [spec_MergeSorted.j0] at H
  refine gb (gs (dr [] [0, 1, 2] [] 22 rfl rfl rfl rfl (xv 0 [] [0, 1, 2] rfl (EV.mv rfl) rfl rfl rfl rfl (xv 1 [] [0, 1, 2] rfl (EV.mv rfl) rfl rfl rfl rfl (xv 2 [] [0, 1, 2] rfl (EV.ln rfl) rfl rfl rfl rfl (xv 3 [] [0, 1, 2] rfl (EV.eql rfl rfl) rfl rfl rfl rfl (xv 4 [] [0, 1, 2] rfl (EV.mv rfl) rfl rfl rfl rfl ?_)))))))
  revert H; refine ifsI ?_ ?_ <;> intro c3 H
  ·
   refine ts 23 rfl (dT c3) (xk 5 [] [0, 1, 2] rfl rfl rfl rfl rfl (xk 6 [] [0, 1, 2] rfl rfl rfl rfl rfl (xk 7 [] [0, 1, 2] rfl rfl rfl rfl rfl (xk 8 [] [0, 1, 2] rfl rfl rfl rfl rfl (xk 9 [] [0, 1, 2] rfl rfl rfl rfl rfl (xk 10 [] [0, 1, 2] rfl rfl rfl rfl rfl (xk 11 [] [0, 1, 2] rfl rfl rfl rfl rfl (xk 12 [] [0, 1, 2] rfl rfl rfl rfl rfl (xk 13 [] [0, 1, 2] rfl rfl rfl rfl rfl (xk 14 [] [0, 1, 2] rfl rfl rfl rfl rfl (xk 15 [] [0, 1, 2] rfl rfl rfl rfl rfl (xk 16 [] [0, 1, 2] rfl rfl rfl rfl rfl (xk 17 [] [0, 1, 2] rfl rfl rfl rfl rfl (xk 18 [] [0, 1, 2] rfl rfl rfl rfl rfl (xk 19 [] [0, 1, 2] rfl rfl rfl rfl rfl (xk 20 [] [0, 1, 2] rfl rfl rfl rfl rfl (xv 21 [] [0, 1, 2] rfl (EV.pt rfl rfl rfl) rfl rfl rfl rfl (xd (pr [0, 1, 5, 6, 7, 40] [] [0, 1, 2] rfl rfl rfl rfl (gt rfl rfl (gs (rg (sv (EV.mv rfl) rfl (sv (EV.mv rfl) rfl (sv (EV.mv rfl) rfl ?_)))))))))))))))))))))))))
   revert H; refine ggI ?_; intro g4 H
   revert H; refine ggI ?_; intro g5 H
   refine sv (EV.ix 1 rfl rfl rfl g4 g5 rfl) rfl (sv (EV.le (v := .agg #[.int .i64 ((rd_T72 l0 x6_6).f0), .int .i64 ((rd_T72 l0 x6_6).f1), .int .i64 ((rd_T72 l0 x6_6).f2)]) x6_6 0 (some 3) 1 z72 rfl rfl rfl g4 g5 rfl rfl rfl) rfl (so rfl (op_lit (s := 3) (by_ := 24) k72 ([(⟨(rd_T72 l0 x6_6).f0, (rd_T72 l0 x6_6).f1, (rd_T72 l0 x6_6).f2⟩ : S72)] : List S72) [[]] [] 2 [.tmp 45] rfl rfl rfl rfl rfl rfl rfl rfl rfl rfl rfl rfl rfl dq rfl fun A46_6 c46_6 => ?_)))
   revert H; refine ggI ?_; intro g7 H
   exact so rfl (op_app (k := k72) (s := 3) (by_ := 24) 0 3 rfl rfl rfl rfl (ap1 g7 dq) (ap1n g7 dq) (.inl rfl) true (fun _ => .inl rfl) rfl rfl fun A47_8 c47_8 => (nmE (en := [.sl 0 k72 Al0 cl0 l0 0 false, .sl 0 k72 Al1 cl1 l1 0 false, .sl 2 k72 A46_6 c46_6 ([(⟨(rd_T72 l0 x6_6).f0, (rd_T72 l0 x6_6).f1, (rd_T72 l0 x6_6).f2⟩ : S72)] : List S72) 2 true, .sl 2 k72 A47_8 c47_8 (x6_5 ++ ([(⟨(rd_T72 l0 x6_6).f0, (rd_T72 l0 x6_6).f1, (rd_T72 l0 x6_6).f2⟩ : S72)] : List S72)) 1 true]) (by kernel_rfl) (sv (EV.as rfl) rfl (re (pr [0, 1, 5, 6, 7] [] [0, 1, 3] rfl rfl rfl rfl (rg (sv (EV.mv rfl) rfl (sv (EV.add rfl rfl) rfl (sv (EV.as rfl) rfl (re (ge (wk [0, 1, 5, 6, 7] [] [⟨2, 2, 1, true⟩, ⟨0, 0, 0, false⟩, ⟨1, 0, 0, false⟩] (ih0 _ (by omega) _ ⟨x6_5 ++ ([(⟨(rd_T72 l0 x6_6).f0, (rd_T72 l0 x6_6).f1, (rd_T72 l0 x6_6).f2⟩ : S72)] : List S72), A47_8, c47_8, wrap64 (x6_6 + 1), x6_7, H, rfl⟩)))))))))))))
  ·
   refine ts 23 rfl (dF c3) (xv 5 [] [0, 1, 2] rfl (EV.mv rfl) rfl rfl rfl rfl (xv 6 [] [0, 1, 2] rfl (EV.mv rfl) rfl rfl rfl rfl (xv 7 [] [0, 1, 2] rfl (EV.ln rfl) rfl rfl rfl rfl (xv 8 [] [0, 1, 2] rfl (EV.lss rfl rfl) rfl rfl rfl rfl (xv 9 [] [0, 1, 2] rfl (EV.mv rfl) rfl rfl rfl rfl ?_)))))
   revert H; refine ifsI ?_ ?_ <;> intro c9 H
   ·
    refine ts 28 rfl (dT c9) (xv 10 [] [0, 1, 2] rfl (EV.mv rfl) rfl rfl rfl rfl (xv 11 [] [0, 1, 2] rfl (EV.mv rfl) rfl rfl rfl rfl ?_))
    revert H; refine ggI ?_; intro g10 H
    refine xv 12 [] [0, 1, 2] rfl (EV.ix 1 rfl rfl rfl g10 c9 rfl) rfl rfl rfl rfl (xv 13 [] [0, 1, 2] rfl (EV.le (v := .agg #[.int .i64 ((rd_T72 l0 x6_6).f0), .int .i64 ((rd_T72 l0 x6_6).f1), .int .i64 ((rd_T72 l0 x6_6).f2)]) x6_6 0 (some 3) 1 z72 rfl rfl rfl g10 c9 rfl rfl rfl) rfl rfl rfl rfl (xv 14 [] [0, 1, 2] rfl (EV.mv rfl) rfl rfl rfl rfl (xv 15 [] [0, 1, 2] rfl (EV.mv rfl) rfl rfl rfl rfl ?_)))
    revert H; refine ggI ?_; intro g11 H
    revert H; refine ggI ?_; intro g12 H
    refine xv 16 [] [0, 1, 2] rfl (EV.ix 2 rfl rfl rfl g11 g12 rfl) rfl rfl rfl rfl (xv 17 [] [0, 1, 2] rfl (EV.le (v := .agg #[.int .i64 ((rd_T72 l1 x6_7).f0), .int .i64 ((rd_T72 l1 x6_7).f1), .int .i64 ((rd_T72 l1 x6_7).f2)]) x6_7 0 (some 3) 2 z72 rfl rfl rfl g11 g12 rfl rfl rfl) rfl rfl rfl rfl (one1 18 rfl rfl ?_))
    revert H; refine bdI ?_; rintro t13 A13 H
    refine op_call (spec_CompareRows.ok m2 ((rd_T72 l0 x6_6).f0) ((rd_T72 l0 x6_6).f1) ((rd_T72 l0 x6_6).f2) ((rd_T72 l1 x6_7).f0) ((rd_T72 l1 x6_7).f1) ((rd_T72 l1 x6_7).f2) _ A13) [] 2 rfl rfl rfl rfl rfl ?_
    rintro _ _ _ ⟨rfl, rfl, rfl⟩
    refine xs [] [0, 1, 2] rfl rfl rfl (xv 19 [] [0, 1, 2] rfl (EV.leq rfl rfl) rfl rfl rfl rfl (xv 20 [] [0, 1, 2] rfl (EV.pt rfl rfl rfl) rfl rfl rfl rfl (xv 21 [] [0, 1, 2] rfl (EV.pf rfl rfl rfl) rfl rfl rfl rfl (xd ?_))))
    revert H; refine ifsI ?_ ?_ <;> intro c14 H
    ·
     refine gt rfl (dT c14) (gs (rg (sv (EV.mv rfl) rfl (sv (EV.mv rfl) rfl (sv (EV.mv rfl) rfl (sv (EV.ix 1 rfl rfl rfl g10 c9 rfl) rfl (sv (EV.le (v := .agg #[.int .i64 ((rd_T72 l0 x6_6).f0), .int .i64 ((rd_T72 l0 x6_6).f1), .int .i64 ((rd_T72 l0 x6_6).f2)]) x6_6 0 (some 3) 1 z72 rfl rfl rfl g10 c9 rfl rfl rfl) rfl (so rfl (op_lit (s := 3) (by_ := 24) k72 ([(⟨(rd_T72 l0 x6_6).f0, (rd_T72 l0 x6_6).f1, (rd_T72 l0 x6_6).f2⟩ : S72)] : List S72) [[]] [] 2 [.tmp 45] rfl rfl rfl rfl rfl rfl rfl rfl rfl rfl rfl rfl rfl dq rfl fun A46_15 c46_15 => ?_)))))))))
     revert H; refine ggI ?_; intro g16 H
     exact so rfl (op_app (k := k72) (s := 3) (by_ := 24) 0 3 rfl rfl rfl rfl (ap1 g16 dq) (ap1n g16 dq) (.inl rfl) true (fun _ => .inl rfl) rfl rfl fun A47_17 c47_17 => (nmE (en := [.sl 0 k72 Al0 cl0 l0 0 false, .sl 0 k72 Al1 cl1 l1 0 false, .sl 2 k72 A46_15 c46_15 ([(⟨(rd_T72 l0 x6_6).f0, (rd_T72 l0 x6_6).f1, (rd_T72 l0 x6_6).f2⟩ : S72)] : List S72) 2 true, .sl 2 k72 A47_17 c47_17 (x6_5 ++ ([(⟨(rd_T72 l0 x6_6).f0, (rd_T72 l0 x6_6).f1, (rd_T72 l0 x6_6).f2⟩ : S72)] : List S72)) 1 true]) (by kernel_rfl) (sv (EV.as rfl) rfl (re (pr [0, 1, 5, 6, 7, 24, 25, 26, 27, 28, 29, 30, 31, 32, 33, 34, 35, 36, 37, 38, 39] [] [0, 1, 3] rfl rfl rfl rfl (rg (sv (EV.mv rfl) rfl (sv (EV.add rfl rfl) rfl (sv (EV.as rfl) rfl (re (ge (wk [0, 1, 5, 6, 7] [] [⟨2, 2, 1, true⟩, ⟨0, 0, 0, false⟩, ⟨1, 0, 0, false⟩] (ih0 _ (by omega) _ ⟨x6_5 ++ ([(⟨(rd_T72 l0 x6_6).f0, (rd_T72 l0 x6_6).f1, (rd_T72 l0 x6_6).f2⟩ : S72)] : List S72), A47_17, c47_17, wrap64 (x6_6 + 1), x6_7, H, rfl⟩)))))))))))))
    ·
     refine gf rfl (dF c14) (gs (rg (sv (EV.mv rfl) rfl (sv (EV.mv rfl) rfl (sv (EV.mv rfl) rfl (sv (EV.ix 2 rfl rfl rfl g11 g12 rfl) rfl (sv (EV.le (v := .agg #[.int .i64 ((rd_T72 l1 x6_7).f0), .int .i64 ((rd_T72 l1 x6_7).f1), .int .i64 ((rd_T72 l1 x6_7).f2)]) x6_7 0 (some 3) 2 z72 rfl rfl rfl g11 g12 rfl rfl rfl) rfl (so rfl (op_lit (s := 3) (by_ := 24) k72 ([(⟨(rd_T72 l1 x6_7).f0, (rd_T72 l1 x6_7).f1, (rd_T72 l1 x6_7).f2⟩ : S72)] : List S72) [[]] [] 2 [.tmp 54] rfl rfl rfl rfl rfl rfl rfl rfl rfl rfl rfl rfl rfl dq rfl fun A55_18 c55_18 => ?_)))))))))
     revert H; refine ggI ?_; intro g19 H
     exact so rfl (op_app (k := k72) (s := 3) (by_ := 24) 0 3 rfl rfl rfl rfl (ap1 g19 dq) (ap1n g19 dq) (.inl rfl) true (fun _ => .inl rfl) rfl rfl fun A56_20 c56_20 => (nmE (en := [.sl 0 k72 Al0 cl0 l0 0 false, .sl 0 k72 Al1 cl1 l1 0 false, .sl 2 k72 A55_18 c55_18 ([(⟨(rd_T72 l1 x6_7).f0, (rd_T72 l1 x6_7).f1, (rd_T72 l1 x6_7).f2⟩ : S72)] : List S72) 2 true, .sl 2 k72 A56_20 c56_20 (x6_5 ++ ([(⟨(rd_T72 l1 x6_7).f0, (rd_T72 l1 x6_7).f1, (rd_T72 l1 x6_7).f2⟩ : S72)] : List S72)) 1 true]) (by kernel_rfl) (sv (EV.as rfl) rfl (re (pr [0, 1, 5, 6, 7, 24, 25, 26, 27, 28, 29, 30, 31, 32, 33, 34, 35, 36, 37, 38, 39] [] [0, 1, 3] rfl rfl rfl rfl (rg (sv (EV.mv rfl) rfl (sv (EV.add rfl rfl) rfl (sv (EV.as rfl) rfl (re (ge (wk [0, 1, 5, 6, 7] [] [⟨2, 2, 1, true⟩, ⟨0, 0, 0, false⟩, ⟨1, 0, 0, false⟩] (ih0 _ (by omega) _ ⟨x6_5 ++ ([(⟨(rd_T72 l1 x6_7).f0, (rd_T72 l1 x6_7).f1, (rd_T72 l1 x6_7).f2⟩ : S72)] : List S72), A56_20, c56_20, x6_6, wrap64 (x6_7 + 1), H, rfl⟩)))))))))))))
   ·
    refine ts 28 rfl (dF c9) (xk 10 [] [0, 1, 2] rfl rfl rfl rfl rfl (xk 11 [] [0, 1, 2] rfl rfl rfl rfl rfl (xk 12 [] [0, 1, 2] rfl rfl rfl rfl rfl (xk 13 [] [0, 1, 2] rfl rfl rfl rfl rfl (xk 14 [] [0, 1, 2] rfl rfl rfl rfl rfl (xk 15 [] [0, 1, 2] rfl rfl rfl rfl rfl (xk 16 [] [0, 1, 2] rfl rfl rfl rfl rfl (xk 17 [] [0, 1, 2] rfl rfl rfl rfl rfl (xk 18 [] [0, 1, 2] rfl rfl rfl rfl rfl (xk 19 [] [0, 1, 2] rfl rfl rfl rfl rfl (xv 20 [] [0, 1, 2] rfl (EV.pf rfl rfl rfl) rfl rfl rfl rfl (xv 21 [] [0, 1, 2] rfl (EV.pf rfl rfl rfl) rfl rfl rfl rfl (xd (pr [0, 1, 5, 6, 7, 24, 25, 26, 27, 28, 39, 40] [] [0, 1, 2] rfl rfl rfl rfl (gf rfl rfl (gs (rg (sv (EV.mv rfl) rfl (sv (EV.mv rfl) rfl (sv (EV.mv rfl) rfl ?_))))))))))))))))))))
    revert H; refine ggI ?_; intro g21 H
    revert H; refine ggI ?_; intro g22 H
    refine sv (EV.ix 2 rfl rfl rfl g21 g22 rfl) rfl (sv (EV.le (v := .agg #[.int .i64 ((rd_T72 l1 x6_7).f0), .int .i64 ((rd_T72 l1 x6_7).f1), .int .i64 ((rd_T72 l1 x6_7).f2)]) x6_7 0 (some 3) 2 z72 rfl rfl rfl g21 g22 rfl rfl rfl) rfl (so rfl (op_lit (s := 3) (by_ := 24) k72 ([(⟨(rd_T72 l1 x6_7).f0, (rd_T72 l1 x6_7).f1, (rd_T72 l1 x6_7).f2⟩ : S72)] : List S72) [[]] [] 2 [.tmp 54] rfl rfl rfl rfl rfl rfl rfl rfl rfl rfl rfl rfl rfl dq rfl fun A55_23 c55_23 => ?_)))
    revert H; refine ggI ?_; intro g24 H
    exact so rfl (op_app (k := k72) (s := 3) (by_ := 24) 0 3 rfl rfl rfl rfl (ap1 g24 dq) (ap1n g24 dq) (.inl rfl) true (fun _ => .inl rfl) rfl rfl fun A56_25 c56_25 => (nmE (en := [.sl 0 k72 Al0 cl0 l0 0 false, .sl 0 k72 Al1 cl1 l1 0 false, .sl 2 k72 A55_23 c55_23 ([(⟨(rd_T72 l1 x6_7).f0, (rd_T72 l1 x6_7).f1, (rd_T72 l1 x6_7).f2⟩ : S72)] : List S72) 2 true, .sl 2 k72 A56_25 c56_25 (x6_5 ++ ([(⟨(rd_T72 l1 x6_7).f0, (rd_T72 l1 x6_7).f1, (rd_T72 l1 x6_7).f2⟩ : S72)] : List S72)) 1 true]) (by kernel_rfl) (sv (EV.as rfl) rfl (re (pr [0, 1, 5, 6, 7, 24, 25, 26, 27, 28, 39] [] [0, 1, 3] rfl rfl rfl rfl (rg (sv (EV.mv rfl) rfl (sv (EV.add rfl rfl) rfl (sv (EV.as rfl) rfl (re (ge (wk [0, 1, 5, 6, 7] [] [⟨2, 2, 1, true⟩, ⟨0, 0, 0, false⟩, ⟨1, 0, 0, false⟩] (ih0 _ (by omega) _ ⟨x6_5 ++ ([(⟨(rd_T72 l1 x6_7).f0, (rd_T72 l1 x6_7).f1, (rd_T72 l1 x6_7).f2⟩ : S72)] : List S72), A56_25, c56_25, x6_6, wrap64 (x6_7 + 1), H, rfl⟩)))))))))))))
 ·
  refine gs (rg (sv (EV.mv rfl) rfl (sv (EV.mv rfl) rfl (sv (EV.ln rfl) rfl (sv (EV.lss rfl rfl) rfl (sv (EV.mv rfl) rfl ?_))))))
  revert H; refine ifsI ?_ ?_ <;> intro c26 H
  ·
   exact ts 13 rfl (dT c26) (sk rfl (sk rfl (sk rfl (sk rfl (sv (EV.pt rfl rfl rfl) rfl (re (pr [0, 1, 5, 6, 7, 18] [] [0, 1, 2] rfl rfl rfl rfl (gt rfl rfl (gk (wk [0, 1, 5, 6, 7] [] [⟨0, 2, 1, true⟩, ⟨1, 0, 0, false⟩, ⟨2, 0, 0, false⟩] (jh0 _ ⟨_, x4_5, Ax4_5, cx4_5, x4_6, x4_7, by omega, H, rfl⟩)))))))))))
  ·
   refine ts 13 rfl (dF c26) (sv (EV.mv rfl) rfl (sv (EV.mv rfl) rfl (sv (EV.ln rfl) rfl (sv (EV.lss rfl rfl) rfl (sv (EV.pf rfl rfl rfl) rfl (re ?_))))))
   revert H; refine ifsI ?_ ?_ <;> intro c27 H
   ·
    exact gt rfl (dT c27) (gk (wk [0, 1, 5, 6, 7] [] [⟨0, 2, 1, true⟩, ⟨1, 0, 0, false⟩, ⟨2, 0, 0, false⟩] (jh0 _ ⟨_, x4_5, Ax4_5, cx4_5, x4_6, x4_7, by omega, H, rfl⟩)))
   ·
    refine gf rfl (dF c27) (gx rfl (gs (rg (sv (EV.mv rfl) rfl (sv (EV.as rfl) rfl (re (pr [4] [] [0] rfl rfl rfl rfl ?_)))))))
    cases H
    exact rt Try.func52 rfl (.tmp rfl .nil) rfl [] [⟨0, 2, 1, true⟩] rfl rfl rfl rfl rfl ⟨_, _, rfl, rfl, rfl⟩
def spec_l6Rows.l0 : Nat → Int → (List S72) → (List S72) → Option (Bool)
 | 0, _, _, _ => none
 | k + 1, x2_5, l0, l1 => if x2_5 < (l0.length : Int) then (if 0 ≤ x2_5 then (if x2_5 < (l1.length : Int) then (if (((rd_T72 l0 x2_5).f0) == ((rd_T72 l1 x2_5).f0) && (((rd_T72 l0 x2_5).f1) == ((rd_T72 l1 x2_5).f1) && (((rd_T72 l0 x2_5).f2) == ((rd_T72 l1 x2_5).f2)))) = true then (spec_l6Rows.l0 k (wrap64 (x2_5 + 1)) l0 l1) else (some false)) else none) else none) else (some true)
def spec_l6Rows.f (k : Nat) (l0 : List S72) (l1 : List S72) : Option (Bool) := if (l0.length : Int) = (l1.length : Int) then (spec_l6Rows.l0 k 0 l0 l1) else (some false)
set_option maxHeartbeats 4000000 in
set_option maxRecDepth 100000 in
theorem spec_l6Rows.ok (k : Nat) (l0 : List S72) (Al0 : Option Addr) (cl0 : Nat) (l1 : List S72) (Al1 : Option Addr) (cl1 : Nat) (r0 : Bool) (H : spec_l6Rows.f k l0 l1 = some r0) : Fn Try.prog 53 [.slice Al0 l0.length cl0, .slice Al1 l1.length cl1] [] [.sl 0 k72 Al0 cl0 l0 0 false, .sl 0 k72 Al1 cl1 l1 0 false] (fun v bx en => v = .bool r0 ∧ bx = [] ∧ en = []) := by
 refine fn_ 26 Try.func53 rfl rfl rfl (fun base T w0 => ?_)
 rw [spec_l6Rows.f] at H
 refine gs (rg (sv (EV.as rfl) rfl (re (gs (gs (rg (sv (EV.mv rfl) rfl (sv (EV.ln rfl) rfl (sv (EV.mv rfl) rfl (sv (EV.ln rfl) rfl (sv (EV.neq rfl rfl) rfl (re ?_))))))))))))
 revert H; refine ifsI ?_ ?_ <;> intro c1 H
 ·
  refine gf rfl (nF c1) (gk (gs (gs (rg (sv (EV.as rfl) rfl (re (pr [0, 1, 5] [] [0, 1] rfl rfl rfl rfl (gb ?_))))))))
  refine lo (fun kk S => ∃ (x2_5 : Int), spec_l6Rows.l0 kk x2_5 l0 l1 = some r0 ∧ S = ⟨[(0, .slice Al0 l0.length cl0), (1, .slice Al1 l1.length cl1), (5, .int .i64 x2_5)], [], [.sl 0 k72 Al0 cl0 l0 0 false, .sl 0 k72 Al1 cl1 l1 0 false]⟩) (fun S hS => ?_) (fun n0 ih0 S hS => ?_) ⟨0, H, rfl⟩ (fun h => wk [0, 1, 5] [] [⟨0, 0, 0, false⟩, ⟨1, 0, 0, false⟩] h)
  · clear H; obtain ⟨_, H, _⟩ := hS; rw [spec_l6Rows.l0] at H; cases H
  clear H
  obtain ⟨x2_5, H, rfl⟩ := hS
  rw [spec_l6Rows.l0] at H
  refine gs (gs (rg (sv (EV.mv rfl) rfl (sv (EV.mv rfl) rfl (sv (EV.ln rfl) rfl (sv (EV.lss rfl rfl) rfl (re ?_)))))))
  revert H; refine ifsI ?_ ?_ <;> intro c2 H
  ·
   refine gt rfl (dT c2) (gk (gs (gb (gs ?_))))
   revert H; refine ggI ?_; intro g3 H
   revert H; refine ggI ?_; intro g4 H
   refine dr [] [0, 1] [] 9 rfl rfl rfl rfl (xv 0 [] [0, 1] rfl (EV.mv rfl) rfl rfl rfl rfl (xv 1 [] [0, 1] rfl (EV.mv rfl) rfl rfl rfl rfl (xv 2 [] [0, 1] rfl (EV.ix 0 rfl rfl rfl g3 c2 rfl) rfl rfl rfl rfl (xv 3 [] [0, 1] rfl (EV.le (v := .agg #[.int .i64 ((rd_T72 l0 x2_5).f0), .int .i64 ((rd_T72 l0 x2_5).f1), .int .i64 ((rd_T72 l0 x2_5).f2)]) x2_5 0 (some 3) 0 z72 rfl rfl rfl g3 c2 rfl rfl rfl) rfl rfl rfl rfl (xv 4 [] [0, 1] rfl (EV.mv rfl) rfl rfl rfl rfl (xv 5 [] [0, 1] rfl (EV.mv rfl) rfl rfl rfl rfl (xv 6 [] [0, 1] rfl (EV.ix 1 rfl rfl rfl g3 g4 rfl) rfl rfl rfl rfl (xv 7 [] [0, 1] rfl (EV.le (v := .agg #[.int .i64 ((rd_T72 l1 x2_5).f0), .int .i64 ((rd_T72 l1 x2_5).f1), .int .i64 ((rd_T72 l1 x2_5).f2)]) x2_5 0 (some 3) 1 z72 rfl rfl rfl g3 g4 rfl rfl rfl) rfl rfl rfl rfl (xv 8 [] [0, 1] rfl (EV.neS rfl rfl (fun d w => eq72 d w ((rd_T72 l0 x2_5).f0) ((rd_T72 l1 x2_5).f0) ((rd_T72 l0 x2_5).f1) ((rd_T72 l1 x2_5).f1) ((rd_T72 l0 x2_5).f2) ((rd_T72 l1 x2_5).f2))) rfl rfl rfl rfl (xd (pr [0, 1, 5, 25] [] [0, 1] rfl rfl rfl rfl ?_)))))))))))
   revert H; refine ifsI ?_ ?_ <;> intro c5 H
   ·
    exact gf rfl (bN c5) (gk (ge (rg (sv (EV.mv rfl) rfl (sv (EV.add rfl rfl) rfl (sv (EV.as rfl) rfl (re (wk [0, 1, 5] [] [⟨0, 0, 0, false⟩, ⟨1, 0, 0, false⟩] (ih0 _ (by omega) _ ⟨wrap64 (x2_5 + 1), H, rfl⟩)))))))))
   ·
    refine gt rfl (bM c5) (gs (rg (sv (EV.as rfl) rfl (re ?_))))
    cases H
    exact rt Try.func53 rfl (.tmp rfl .nil) rfl [] [] rfl rfl rfl rfl rfl ⟨rfl, rfl, rfl⟩
  ·
   refine gf rfl (dF c2) (gx rfl (gs (rg (sv (EV.as rfl) rfl (re (pr [4] [] [] rfl rfl rfl rfl ?_))))))
   cases H
   exact rt Try.func53 rfl (.tmp rfl .nil) rfl [] [] rfl rfl rfl rfl rfl ⟨rfl, rfl, rfl⟩
 ·
  refine gt rfl (nT c1) (gs (rg (sv (EV.as rfl) rfl (re (pr [4] [] [] rfl rfl rfl rfl ?_)))))
  cases H
  exact rt Try.func53 rfl (.tmp rfl .nil) rfl [] [] rfl rfl rfl rfl rfl ⟨rfl, rfl, rfl⟩
def spec_IsValidSorter.l0 : Nat → Int → Int → Int → Int → Int → Int → Int → (List S72) → (List S72) → (List S72) → (List S72) → (List S57) → Option (Bool)
 | 0, _, _, _, _, _, _, _, _, _, _, _, _ => none
 | k + 1, x2_3, x2_4, x2_1_1, x2_1_6, x2_1_7, x2_1_8, x2_1_9, l0_0, l0_2, l0_3, l0_4, l0_5 => if x2_4 < (l0_2.length : Int) then (if x2_3 ≥ 0 then (if 0 ≤ x2_4 then (if 0 ≤ x2_3 then (if x2_3 < (l0_4.length : Int) then ((spec_CompareRows.f k ((rd_T72 l0_2 x2_4).f0) ((rd_T72 l0_2 x2_4).f1) ((rd_T72 l0_2 x2_4).f2) ((rd_T72 l0_4 x2_3).f0) ((rd_T72 l0_4 x2_3).f1) ((rd_T72 l0_4 x2_3).f2)).bind fun t15 => (if t15 < 0 then (some false) else (spec_IsValidSorter.l0 k x2_3 (wrap64 (x2_4 + 1)) x2_1_1 x2_1_6 x2_1_7 x2_1_8 x2_1_9 l0_0 l0_2 l0_3 l0_4 l0_5))) else none) else none) else none) else (spec_IsValidSorter.l0 k x2_3 (wrap64 (x2_4 + 1)) x2_1_1 x2_1_6 x2_1_7 x2_1_8 x2_1_9 l0_0 l0_2 l0_3 l0_4 l0_5)) else (if x2_1_8 = 1 then ((spec_FlattenRuns.f k l0_5).bind fun t18 => (if t18.length + l0_4.length ≤ 5864062014805 then (if (t18 ++ l0_4).length + l0_2.length ≤ 5864062014805 then (if ((t18 ++ l0_4) ++ l0_2).length + l0_3.length ≤ 5864062014805 then (if x2_1_6 = 0 then (if x2_1_7 = 0 then (if (l0_3.length : Int) = 0 then ((spec_SorterMemory.f k l0_0 x2_1_1 l0_2 l0_3 l0_4 l0_5 x2_1_6 x2_1_7 x2_1_8 x2_1_9).bind fun t28 => (if t28 ≤ 60 then (if 0 ≤ x2_1_1 then (if x2_1_1 ≤ (l0_0.length : Int) then ((spec_EqualBags.f k (((t18 ++ l0_4) ++ l0_2) ++ l0_3) (l0_0.take x2_1_1.toNat)).bind fun t32 => (some t32)) else none) else none) else (some false))) else (if x2_3 ≥ 0 then ((spec_SorterMemory.f k l0_0 x2_1_1 l0_2 l0_3 l0_4 l0_5 x2_1_6 x2_1_7 x2_1_8 x2_1_9).bind fun t34 => (if t34 ≤ 60 then (if 0 ≤ x2_1_1 then (if x2_1_1 ≤ (l0_0.length : Int) then ((spec_EqualBags.f k (((t18 ++ l0_4) ++ l0_2) ++ l0_3) (l0_0.take x2_1_1.toNat)).bind fun t38 => (some t38)) else none) else none) else (some false))) else (some false))) else (some false)) else (some false)) else none) else none) else none)) else (if x2_1_1 = (l0_0.length : Int) then (if (wrap64 ((l0_2.length : Int) + (l0_3.length : Int))) > 0 then (some false) else (if x2_1_8 = 2 then (if (l0_5.length : Int) < 2 then (some false) else (if 0 < (l0_5.length : Int) then (if 1 < (l0_5.length : Int) then ((spec_l1In.f x2_1_6 0 (((rd_T57 l0_5 0).f0).length : Int)).bind fun t47 => (if t47 = true then ((spec_l1In.f x2_1_7 0 (((rd_T57 l0_5 1).f0).length : Int)).bind fun t49 => (if t49 = true then (if 0 ≤ x2_1_6 then (if x2_1_6 ≤ (((rd_T57 l0_5 0).f0).length : Int) then (if 0 ≤ x2_1_7 then (if x2_1_7 ≤ (((rd_T57 l0_5 1).f0).length : Int) then ((spec_MergeSorted.f k (((rd_T57 l0_5 0).f0).take x2_1_6.toNat) (((rd_T57 l0_5 1).f0).take x2_1_7.toNat)).bind fun t57 => (if 0 ≤ (wrap64 (x2_1_6 + x2_1_7)) then ((spec_MergeSorted.f k ((rd_T57 l0_5 0).f0) ((rd_T57 l0_5 1).f0)).bind fun t61 => (if (wrap64 (x2_1_6 + x2_1_7)) ≤ (t61.length : Int) then ((spec_l6Rows.f k l0_4 (t61.take (wrap64 (x2_1_6 + x2_1_7)).toNat)).bind fun t63 => (if t63 = true then ((spec_l6Rows.f k t57 l0_4).bind fun t65 => (if t65 = true then ((spec_FlattenRuns.f k l0_5).bind fun t67 => ((spec_EqualBags.f k t67 l0_0).bind fun t68 => (some t68))) else (some false))) else (some false))) else none)) else none)) else none) else none) else none) else none) else (some false))) else (some false))) else none) else none)) else (if (l0_5.length : Int) > 1 then (some false) else (if x2_1_7 = 0 then (if (l0_4.length : Int) > 0 then (some false) else ((spec_FlattenRuns.f k l0_5).bind fun t72 => ((spec_EqualBags.f k t72 l0_0).bind fun t73 => (if t73 = true then (if x2_1_8 = 3 then (if (l0_5.length : Int) = 1 then ((spec_l1In.f x2_1_6 0 (wrap64 ((l0_0.length : Int) - 1))).bind fun t77 => (some t77)) else (some false)) else (if x2_1_8 = 4 then (some (decide (x2_1_6 = (l0_0.length : Int)))) else (some false))) else (some false))))) else (some false))))) else (some false)))
def spec_IsValidSorter.f (k : Nat) (l0_0 : List S72) (a0_1 : Int) (l0_2 : List S72) (l0_3 : List S72) (l0_4 : List S72) (l0_5 : List S57) (a0_6 : Int) (a0_7 : Int) (a0_8 : Int) (a0_9 : Int) : Option (Bool) := (spec_AreValidRows.f k l0_0).bind fun t1 => (if t1 = true then ((spec_l1In.f a0_1 0 (l0_0.length : Int)).bind fun t3 => (if t3 = true then ((spec_AreValidRuns.f k l0_5).bind fun t5 => (if t5 = true then (if a0_9 < 0 then (some false) else ((spec_IsSorted.f k l0_4).bind fun t8 => (if t8 = true then (spec_IsValidSorter.l0 k (wrap64 ((l0_4.length : Int) - 1)) 0 a0_1 a0_6 a0_7 a0_8 a0_9 l0_0 l0_2 l0_3 l0_4 l0_5) else (some false)))) else (some false))) else (some false))) else (some false))
set_option maxHeartbeats 4000000 in
set_option maxRecDepth 100000 in
theorem spec_IsValidSorter.ok (k : Nat) (l0_0 : List S72) (Al0_0 : Option Addr) (cl0_0 : Nat) (a0_1 : Int) (l0_2 : List S72) (Al0_2 : Option Addr) (cl0_2 : Nat) (l0_3 : List S72) (Al0_3 : Option Addr) (cl0_3 : Nat) (l0_4 : List S72) (Al0_4 : Option Addr) (cl0_4 : Nat) (l0_5 : List S57) (Al0_5 : Option Addr) (cl0_5 : Nat) (a0_6 : Int) (a0_7 : Int) (a0_8 : Int) (a0_9 : Int) (r0 : Bool) (H : spec_IsValidSorter.f k l0_0 a0_1 l0_2 l0_3 l0_4 l0_5 a0_6 a0_7 a0_8 a0_9 = some r0) : Fn Try.prog 16 [.agg #[.slice Al0_0 l0_0.length cl0_0, .int .i64 a0_1, .slice Al0_2 l0_2.length cl0_2, .slice Al0_3 l0_3.length cl0_3, .slice Al0_4 l0_4.length cl0_4, .slice Al0_5 l0_5.length cl0_5, .int .i64 a0_6, .int .i64 a0_7, .int .i64 a0_8, .int .i64 a0_9]] [] [.sl 0 k72 Al0_0 cl0_0 l0_0 0 false, .sl 0 k72 Al0_2 cl0_2 l0_2 0 false, .sl 0 k72 Al0_3 cl0_3 l0_3 0 false, .sl 0 k72 Al0_4 cl0_4 l0_4 0 false, .sl 0 k57 Al0_5 cl0_5 l0_5 0 false] (fun v bx en => v = .bool r0 ∧ bx = [] ∧ en = []) := by
 refine fn_ 260 Try.func16 rfl rfl rfl (fun base T w0 => ?_)
 rw [spec_IsValidSorter.f] at H
 refine gs (rg (so rfl (op_box (cs := [.slice Al0_0 l0_0.length cl0_0, .int .i64 a0_1, .slice Al0_2 l0_2.length cl0_2, .slice Al0_3 l0_3.length cl0_3, .slice Al0_4 l0_4.length cl0_4, .slice Al0_5 l0_5.length cl0_5, .int .i64 a0_6, .int .i64 a0_7, .int .i64 a0_8, .int .i64 a0_9]) rfl rfl rfl fun b1 => (sv (EV.as rfl) rfl (re (gs (gs (rg (sv (EV.fa 0 rfl) rfl (sv (EV.ld 0 none rfl rfl rfl) rfl ?_))))))))))
 revert H; refine bdI ?_; rintro t1 A1 H
 refine so rfl (op_call (spec_AreValidRows.ok k l0_0 Al0_0 cl0_0 _ A1) [⟨0, 0, 0, false⟩] 1 rfl rfl rfl rfl rfl ?_)
 rintro _ _ _ ⟨rfl, rfl, rfl⟩
 refine sv (EV.nt rfl) rfl (sv (EV.mv rfl) rfl ?_)
 revert H; refine ifsI ?_ ?_ <;> intro c2 H
 ·
  subst c2
  refine ts 11 rfl rfl (sv (EV.fa 1 rfl) rfl (sv (EV.ld 0 none rfl rfl rfl) rfl (sv (EV.fa 0 rfl) rfl (sv (EV.ld 0 none rfl rfl rfl) rfl (sv (EV.ln rfl) rfl ?_)))))
  revert H; refine bdI ?_; rintro t3 A3 H
  refine so rfl (op_call (spec_l1In.ok a0_1 0 (l0_0.length : Int) _ A3) [] 1 rfl rfl rfl rfl rfl ?_)
  rintro _ _ _ ⟨rfl, rfl, rfl⟩
  refine sv (EV.nt rfl) rfl (sv (EV.pf rfl rfl rfl) rfl (sv (EV.mv rfl) rfl ?_))
  revert H; refine ifsI ?_ ?_ <;> intro c4 H
  ·
   subst c4
   refine ts 20 rfl rfl (sv (EV.fa 5 rfl) rfl (sv (EV.ld 0 none rfl rfl rfl) rfl ?_))
   revert H; refine bdI ?_; rintro t5 A5 H
   refine so rfl (op_call (spec_AreValidRuns.ok k l0_5 Al0_5 cl0_5 _ A5) [⟨4, 0, 0, false⟩] 1 rfl rfl rfl rfl rfl ?_)
   rintro _ _ _ ⟨rfl, rfl, rfl⟩
   refine sv (EV.nt rfl) rfl (sv (EV.pf rfl rfl rfl) rfl (sv (EV.mv rfl) rfl ?_))
   revert H; refine ifsI ?_ ?_ <;> intro c6 H
   ·
    subst c6
    refine ts 26 rfl rfl (sv (EV.fa 9 rfl) rfl (sv (EV.ld 0 none rfl rfl rfl) rfl (sv (EV.lss rfl rfl) rfl (sv (EV.pf rfl rfl rfl) rfl (sv (EV.mv rfl) rfl ?_)))))
    revert H; refine ifsI ?_ ?_ <;> intro c7 H
    ·
     refine ts 31 rfl (dT c7) (sk rfl (sk rfl (sk rfl (sk rfl (sv (EV.pt rfl rfl rfl) rfl (re (pr [1, 36] [0] [0, 1, 2, 3, 4] rfl rfl rfl rfl (gt rfl rfl (gs (rg (sv (EV.as rfl) rfl (re ?_))))))))))))
     cases H
     exact rt Try.func16 rfl (.tmp rfl .nil) rfl [] [] rfl rfl rfl rfl rfl ⟨rfl, rfl, rfl⟩
    ·
     refine ts 31 rfl (dF c7) (sv (EV.fa 4 rfl) rfl (sv (EV.ld 0 none rfl rfl rfl) rfl ?_))
     revert H; refine bdI ?_; rintro t8 A8 H
     refine so rfl (op_call (spec_IsSorted.ok k l0_4 Al0_4 cl0_4 _ A8) [⟨3, 0, 0, false⟩] 1 rfl rfl rfl rfl rfl ?_)
     rintro _ _ _ ⟨rfl, rfl, rfl⟩
     refine sv (EV.nt rfl) rfl (sv (EV.pf rfl rfl rfl) rfl (re (pr [1, 36] [0] [0, 1, 2, 3, 4] rfl rfl rfl rfl ?_)))
     revert H; refine ifsI ?_ ?_ <;> intro c9 H
     ·
      subst c9
      refine gf rfl rfl (gk (gs (rg (sv (EV.fa 4 rfl) rfl (sv (EV.ld 0 none rfl rfl rfl) rfl (sv (EV.ln rfl) rfl (sv (EV.sub rfl rfl) rfl (sv (EV.as rfl) rfl (re (gs (gs (rg (sv (EV.as rfl) rfl (re (gb ?_)))))))))))))))
      refine lo (fun kk S => ∃ (x2_3 : Int) (x2_4 : Int) (x2_1_1 : Int) (x2_1_6 : Int) (x2_1_7 : Int) (x2_1_8 : Int) (x2_1_9 : Int), spec_IsValidSorter.l0 kk x2_3 x2_4 x2_1_1 x2_1_6 x2_1_7 x2_1_8 x2_1_9 l0_0 l0_2 l0_3 l0_4 l0_5 = some r0 ∧ S = ⟨[(1, .pointer (some ⟨b1, 0, none⟩)), (3, .int .i64 x2_3), (4, .int .i64 x2_4)], [⟨b1, 31, [.slice Al0_0 l0_0.length cl0_0, .int .i64 x2_1_1, .slice Al0_2 l0_2.length cl0_2, .slice Al0_3 l0_3.length cl0_3, .slice Al0_4 l0_4.length cl0_4, .slice Al0_5 l0_5.length cl0_5, .int .i64 x2_1_6, .int .i64 x2_1_7, .int .i64 x2_1_8, .int .i64 x2_1_9]⟩], [.sl 0 k72 Al0_0 cl0_0 l0_0 0 false, .sl 0 k72 Al0_2 cl0_2 l0_2 0 false, .sl 0 k72 Al0_3 cl0_3 l0_3 0 false, .sl 0 k72 Al0_4 cl0_4 l0_4 0 false, .sl 0 k57 Al0_5 cl0_5 l0_5 0 false]⟩) (fun S hS => ?_) (fun n0 ih0 S hS => ?_) ⟨wrap64 ((l0_4.length : Int) - 1), 0, a0_1, a0_6, a0_7, a0_8, a0_9, H, rfl⟩ (fun h => wk [1, 3, 4] [0] [⟨0, 0, 0, false⟩, ⟨1, 0, 0, false⟩, ⟨2, 0, 0, false⟩, ⟨3, 0, 0, false⟩, ⟨4, 0, 0, false⟩] h)
      · clear H; obtain ⟨_, _, _, _, _, _, _, H, _⟩ := hS; rw [spec_IsValidSorter.l0] at H; cases H
      clear H
      obtain ⟨x2_3, x2_4, x2_1_1, x2_1_6, x2_1_7, x2_1_8, x2_1_9, H, rfl⟩ := hS
      rw [spec_IsValidSorter.l0] at H
      refine gs (gs (rg (sv (EV.mv rfl) rfl (sv (EV.fa 2 rfl) rfl (sv (EV.ld 0 none rfl rfl rfl) rfl (sv (EV.ln rfl) rfl (sv (EV.lss rfl rfl) rfl (re ?_))))))))
      revert H; refine ifsI ?_ ?_ <;> intro c10 H
      ·
       refine gt rfl (dT c10) (gk (gs (gb (gs ?_))))
       revert H; refine ifsI ?_ ?_ <;> intro c11 H
       ·
        revert H; refine ggI ?_; intro g12 H
        revert H; refine ggI ?_; intro g13 H
        revert H; refine ggI ?_; intro g14 H
        refine dr [0] [0, 1, 2, 3, 4] [] 16 rfl rfl rfl rfl (xv 0 [0] [0, 1, 2, 3, 4] rfl (EV.mv rfl) rfl rfl rfl rfl (xv 1 [0] [0, 1, 2, 3, 4] rfl (EV.geq rfl rfl) rfl rfl rfl rfl (xv 2 [0] [0, 1, 2, 3, 4] rfl (EV.mv rfl) rfl rfl rfl rfl (ts 50 rfl (dT c11) (xv 3 [0] [0, 1, 2, 3, 4] rfl (EV.fa 2 rfl) rfl rfl rfl rfl (xv 4 [0] [0, 1, 2, 3, 4] rfl (EV.ld 0 none rfl rfl rfl) rfl rfl rfl rfl (xv 5 [0] [0, 1, 2, 3, 4] rfl (EV.mv rfl) rfl rfl rfl rfl (xv 6 [0] [0, 1, 2, 3, 4] rfl (EV.ix 1 rfl rfl rfl g12 c10 rfl) rfl rfl rfl rfl (xv 7 [0] [0, 1, 2, 3, 4] rfl (EV.le (v := .agg #[.int .i64 ((rd_T72 l0_2 x2_4).f0), .int .i64 ((rd_T72 l0_2 x2_4).f1), .int .i64 ((rd_T72 l0_2 x2_4).f2)]) x2_4 0 (some 3) 1 z72 rfl rfl rfl g12 c10 rfl rfl rfl) rfl rfl rfl rfl (xv 8 [0] [0, 1, 2, 3, 4] rfl (EV.fa 4 rfl) rfl rfl rfl rfl (xv 9 [0] [0, 1, 2, 3, 4] rfl (EV.ld 0 none rfl rfl rfl) rfl rfl rfl rfl (xv 10 [0] [0, 1, 2, 3, 4] rfl (EV.mv rfl) rfl rfl rfl rfl (xv 11 [0] [0, 1, 2, 3, 4] rfl (EV.ix 3 rfl rfl rfl g13 g14 rfl) rfl rfl rfl rfl (xv 12 [0] [0, 1, 2, 3, 4] rfl (EV.le (v := .agg #[.int .i64 ((rd_T72 l0_4 x2_3).f0), .int .i64 ((rd_T72 l0_4 x2_3).f1), .int .i64 ((rd_T72 l0_4 x2_3).f2)]) x2_3 0 (some 3) 3 z72 rfl rfl rfl g13 g14 rfl rfl rfl) rfl rfl rfl rfl (one1 13 rfl rfl ?_)))))))))))))))
        revert H; refine bdI ?_; rintro t15 A15 H
        refine op_call (spec_CompareRows.ok n0 ((rd_T72 l0_2 x2_4).f0) ((rd_T72 l0_2 x2_4).f1) ((rd_T72 l0_2 x2_4).f2) ((rd_T72 l0_4 x2_3).f0) ((rd_T72 l0_4 x2_3).f1) ((rd_T72 l0_4 x2_3).f2) _ A15) [] 1 rfl rfl rfl rfl rfl ?_
        rintro _ _ _ ⟨rfl, rfl, rfl⟩
        refine xs [0] [0, 1, 2, 3, 4] rfl rfl rfl (xv 14 [0] [0, 1, 2, 3, 4] rfl (EV.lss rfl rfl) rfl rfl rfl rfl (xv 15 [0] [0, 1, 2, 3, 4] rfl (EV.pt rfl rfl rfl) rfl rfl rfl rfl (xd (pr [1, 3, 4, 51, 52, 53, 54, 55, 56, 57, 58, 59, 60, 61, 62, 63] [0] [0, 1, 2, 3, 4] rfl rfl rfl rfl ?_))))
        revert H; refine ifsI ?_ ?_ <;> intro c16 H
        ·
         refine gt rfl (dT c16) (gs (rg (sv (EV.as rfl) rfl (re (pr [2] [] [] rfl rfl rfl rfl ?_)))))
         cases H
         exact rt Try.func16 rfl (.tmp rfl .nil) rfl [] [] rfl rfl rfl rfl rfl ⟨rfl, rfl, rfl⟩
        ·
         exact gf rfl (dF c16) (gk (ge (rg (sv (EV.mv rfl) rfl (sv (EV.add rfl rfl) rfl (sv (EV.as rfl) rfl (re (wk [1, 3, 4] [0] [⟨0, 0, 0, false⟩, ⟨1, 0, 0, false⟩, ⟨2, 0, 0, false⟩, ⟨3, 0, 0, false⟩, ⟨4, 0, 0, false⟩] (ih0 _ (by omega) _ ⟨x2_3, wrap64 (x2_4 + 1), x2_1_1, x2_1_6, x2_1_7, x2_1_8, x2_1_9, H, rfl⟩)))))))))
       ·
        exact dr [0] [0, 1, 2, 3, 4] [] 16 rfl rfl rfl rfl (xv 0 [0] [0, 1, 2, 3, 4] rfl (EV.mv rfl) rfl rfl rfl rfl (xv 1 [0] [0, 1, 2, 3, 4] rfl (EV.geq rfl rfl) rfl rfl rfl rfl (xv 2 [0] [0, 1, 2, 3, 4] rfl (EV.mv rfl) rfl rfl rfl rfl (ts 50 rfl (dF c11) (xk 3 [0] [0, 1, 2, 3, 4] rfl rfl rfl rfl rfl (xk 4 [0] [0, 1, 2, 3, 4] rfl rfl rfl rfl rfl (xk 5 [0] [0, 1, 2, 3, 4] rfl rfl rfl rfl rfl (xk 6 [0] [0, 1, 2, 3, 4] rfl rfl rfl rfl rfl (xk 7 [0] [0, 1, 2, 3, 4] rfl rfl rfl rfl rfl (xk 8 [0] [0, 1, 2, 3, 4] rfl rfl rfl rfl rfl (xk 9 [0] [0, 1, 2, 3, 4] rfl rfl rfl rfl rfl (xk 10 [0] [0, 1, 2, 3, 4] rfl rfl rfl rfl rfl (xk 11 [0] [0, 1, 2, 3, 4] rfl rfl rfl rfl rfl (xk 12 [0] [0, 1, 2, 3, 4] rfl rfl rfl rfl rfl (xk 13 [0] [0, 1, 2, 3, 4] rfl rfl rfl rfl rfl (xk 14 [0] [0, 1, 2, 3, 4] rfl rfl rfl rfl rfl (xv 15 [0] [0, 1, 2, 3, 4] rfl (EV.pf rfl rfl rfl) rfl rfl rfl rfl (xd (pr [1, 3, 4, 63] [0] [0, 1, 2, 3, 4] rfl rfl rfl rfl (gf rfl rfl (gk (ge (rg (sv (EV.mv rfl) rfl (sv (EV.add rfl rfl) rfl (sv (EV.as rfl) rfl (re (wk [1, 3, 4] [0] [⟨0, 0, 0, false⟩, ⟨1, 0, 0, false⟩, ⟨2, 0, 0, false⟩, ⟨3, 0, 0, false⟩, ⟨4, 0, 0, false⟩] (ih0 _ (by omega) _ ⟨x2_3, wrap64 (x2_4 + 1), x2_1_1, x2_1_6, x2_1_7, x2_1_8, x2_1_9, H, rfl⟩)))))))))))))))))))))))))))))
      ·
       refine gf rfl (dF c10) (gx rfl (gs (gs (rg (sv (EV.fa 8 rfl) rfl (sv (EV.ld 0 none rfl rfl rfl) rfl (sv (EV.eql rfl rfl) rfl (re (pr [1, 3, 66] [0] [0, 1, 2, 3, 4] rfl rfl rfl rfl ?_)))))))))
       revert H; refine ifsI ?_ ?_ <;> intro c17 H
       ·
        refine gt rfl (dT c17) (gs (dr [0] [0, 1, 2, 3, 4] [12] 13 rfl rfl rfl rfl (xv 0 [0] [0, 1, 2, 3, 4] rfl (EV.fa 5 rfl) rfl rfl rfl rfl (xv 1 [0] [0, 1, 2, 3, 4] rfl (EV.ld 0 none rfl rfl rfl) rfl rfl rfl rfl (xv 3 [0] [0, 1, 2, 3, 4] rfl (EV.fa 4 rfl) rfl rfl rfl rfl (xv 4 [0] [0, 1, 2, 3, 4] rfl (EV.ld 0 none rfl rfl rfl) rfl rfl rfl rfl (xv 6 [0] [0, 1, 2, 3, 4] rfl (EV.fa 2 rfl) rfl rfl rfl rfl (xv 7 [0] [0, 1, 2, 3, 4] rfl (EV.ld 0 none rfl rfl rfl) rfl rfl rfl rfl (xv 9 [0] [0, 1, 2, 3, 4] rfl (EV.fa 3 rfl) rfl rfl rfl rfl (xv 10 [0] [0, 1, 2, 3, 4] rfl (EV.ld 0 none rfl rfl rfl) rfl rfl rfl rfl (one1 2 rfl rfl ?_)))))))))))
        revert H; refine bdI ?_; rintro t18 A18 H
        refine op_call (spec_FlattenRuns.ok n0 l0_5 Al0_5 cl0_5 _ A18) [⟨4, 0, 0, false⟩] 1 rfl rfl rfl rfl rfl ?_
        rintro _ _ _ ⟨At18, ct18, rfl, rfl, rfl⟩
        refine xs [0] [0, 1, 2, 3, 4] rfl rfl rfl (one1 5 rfl rfl ?_)
        revert H; refine ggI ?_; intro g19 H
        refine op_app (k := k72) (s := 3) (by_ := 24) 5 3 rfl rfl rfl rfl (ap2 g19 dq) (ap2n g19 dq) (.inl rfl) true (fun _ => .inl rfl) rfl rfl fun A72_20 c72_20 => (nmE (en := [.sl 0 k72 Al0_0 cl0_0 l0_0 0 false, .sl 0 k72 Al0_2 cl0_2 l0_2 0 false, .sl 0 k72 Al0_3 cl0_3 l0_3 0 false, .sl 0 k72 Al0_4 cl0_4 l0_4 0 false, .sl 0 k57 Al0_5 cl0_5 l0_5 0 false, .sl 2 k72 A72_20 c72_20 (t18 ++ l0_4) 2 true]) (by kernel_rfl) (xs [0] [0, 1, 2, 3, 4] rfl rfl rfl (one1 8 rfl rfl ?_)))
        revert H; refine ggI ?_; intro g21 H
        refine op_app (k := k72) (s := 3) (by_ := 24) 5 1 rfl rfl rfl rfl (ap2 g21 dq) (ap2n g21 dq) (.inl rfl) true (fun _ => .inl rfl) rfl rfl fun A75_22 c75_22 => (nmE (en := [.sl 0 k72 Al0_0 cl0_0 l0_0 0 false, .sl 0 k72 Al0_2 cl0_2 l0_2 0 false, .sl 0 k72 Al0_3 cl0_3 l0_3 0 false, .sl 0 k72 Al0_4 cl0_4 l0_4 0 false, .sl 0 k57 Al0_5 cl0_5 l0_5 0 false, .sl 2 k72 A75_22 c75_22 ((t18 ++ l0_4) ++ l0_2) 2 true]) (by kernel_rfl) (xs [0] [0, 1, 2, 3, 4] rfl rfl rfl (one1 11 rfl rfl ?_)))
        revert H; refine ggI ?_; intro g23 H
        refine op_app (k := k72) (s := 3) (by_ := 24) 5 2 rfl rfl rfl rfl (ap2 g23 dq) (ap2n g23 dq) (.inl rfl) true (fun _ => .inl rfl) rfl rfl fun A78_24 c78_24 => (nmE (en := [.sl 0 k72 Al0_0 cl0_0 l0_0 0 false, .sl 0 k72 Al0_2 cl0_2 l0_2 0 false, .sl 0 k72 Al0_3 cl0_3 l0_3 0 false, .sl 0 k72 Al0_4 cl0_4 l0_4 0 false, .sl 0 k57 Al0_5 cl0_5 l0_5 0 false, .sl 2 k72 A78_24 c78_24 (((t18 ++ l0_4) ++ l0_2) ++ l0_3) 2 true]) (by kernel_rfl) (xs [0] [0, 1, 2, 3, 4] rfl rfl rfl (one1 12 rfl rfl (ov (EV.as rfl) rfl (xn rfl (xd (pr [1, 3, 5] [0] [0, 1, 2, 3, 4, 5] rfl rfl rfl rfl (gs (rg (sv (EV.fa 6 rfl) rfl (sv (EV.ld 0 none rfl rfl rfl) rfl (sv (EV.eql rfl rfl) rfl (sv (EV.mv rfl) rfl ?_)))))))))))))
        revert H; refine ifsI ?_ ?_ <;> intro c25 H
        ·
         refine ts 82 rfl (dT c25) (sv (EV.fa 7 rfl) rfl (sv (EV.ld 0 none rfl rfl rfl) rfl (sv (EV.eql rfl rfl) rfl (sv (EV.pt rfl rfl rfl) rfl (sv (EV.mv rfl) rfl ?_)))))
         revert H; refine ifsI ?_ ?_ <;> intro c26 H
         ·
          refine ts 87 rfl (dT c26) (sv (EV.fa 3 rfl) rfl (sv (EV.ld 0 none rfl rfl rfl) rfl (sv (EV.ln rfl) rfl (sv (EV.eql rfl rfl) rfl (sv (EV.mv rfl) rfl ?_)))))
          revert H; refine ifsI ?_ ?_ <;> intro c27 H
          ·
           refine ts 92 rfl (dT c27) (sk rfl (sk rfl (sv (EV.pt rfl rfl rfl) rfl (sv (EV.pt rfl rfl rfl) rfl (sv (EV.mv rfl) rfl (sv (EV.ld (v := .agg #[.slice Al0_0 l0_0.length cl0_0, .int .i64 x2_1_1, .slice Al0_2 l0_2.length cl0_2, .slice Al0_3 l0_3.length cl0_3, .slice Al0_4 l0_4.length cl0_4, .slice Al0_5 l0_5.length cl0_5, .int .i64 x2_1_6, .int .i64 x2_1_7, .int .i64 x2_1_8, .int .i64 x2_1_9]) 0 (some 10) rfl rfl rfl) rfl ?_))))))
           revert H; refine bdI ?_; rintro t28 A28 H
           refine so rfl (op_call (spec_SorterMemory.ok n0 l0_0 Al0_0 cl0_0 x2_1_1 l0_2 Al0_2 cl0_2 l0_3 Al0_3 cl0_3 l0_4 Al0_4 cl0_4 l0_5 Al0_5 cl0_5 x2_1_6 x2_1_7 x2_1_8 x2_1_9 _ A28) [⟨0, 0, 0, false⟩, ⟨1, 0, 0, false⟩, ⟨2, 0, 0, false⟩, ⟨3, 0, 0, false⟩, ⟨4, 0, 0, false⟩] 3 rfl rfl rfl rfl rfl ?_)
           rintro _ _ _ ⟨rfl, rfl, rfl⟩
           refine sv (EV.leq rfl rfl) rfl (sv (EV.pt rfl rfl rfl) rfl (sv (EV.mv rfl) rfl ?_))
           revert H; refine ifsI ?_ ?_ <;> intro c29 H
           ·
            refine ts 102 rfl (dT c29) (sv (EV.mv rfl) rfl (sv (EV.fa 0 rfl) rfl (sv (EV.ld 0 none rfl rfl rfl) rfl (sv (EV.fa 1 rfl) rfl (sv (EV.ld 0 none rfl rfl rfl) rfl ?_)))))
            revert H; refine ggI ?_; intro g30 H
            revert H; refine ggI ?_; intro g31 H
            refine cutp (l' := l0_0.take x2_1_1.toNat) 0 x2_1_1 0 rfl (Int.le_refl 0) g30 g31 rfl 0 dq (.inr rfl) rfl (sv (EV.ct 0 x2_1_1 0 rfl rfl rfl rfl (Int.le_refl 0) g30 g31 rfl rfl ctnh) rfl ?_)
            revert H; refine bdI ?_; rintro t32 A32 H
            refine so rfl (op_call (spec_EqualBags.ok n0 (((t18 ++ l0_4) ++ l0_2) ++ l0_3) A78_24 c78_24 (l0_0.take x2_1_1.toNat) (cutA Al0_0 cl0_0 (0 : Int).toNat 3) (cl0_0 - (0 : Int).toNat) _ A32) [⟨5, 0, 0, false⟩, ⟨6, 0, 0, false⟩] 3 rfl rfl rfl rfl rfl ?_)
            rintro _ _ _ ⟨rfl, rfl, rfl⟩
            refine sv (EV.pt rfl rfl rfl) rfl (sv (EV.as rfl) rfl (re (pr [2] [] [] rfl rfl rfl rfl ?_)))
            cases H
            exact rt Try.func16 rfl (.tmp rfl .nil) rfl [] [] rfl rfl rfl rfl rfl ⟨rfl, rfl, rfl⟩
           ·
            refine ts 102 rfl (dF c29) (sk rfl (sk rfl (sk rfl (sk rfl (sk rfl (sk rfl (sk rfl (sv (EV.pf rfl rfl rfl) rfl (sv (EV.as rfl) rfl (re (pr [2] [] [] rfl rfl rfl rfl ?_)))))))))))
            cases H
            exact rt Try.func16 rfl (.tmp rfl .nil) rfl [] [] rfl rfl rfl rfl rfl ⟨rfl, rfl, rfl⟩
          ·
           refine ts 92 rfl (dF c27) (sv (EV.mv rfl) rfl (sv (EV.geq rfl rfl) rfl (sv (EV.pf rfl rfl rfl) rfl (sv (EV.pt rfl rfl rfl) rfl (sv (EV.mv rfl) rfl ?_)))))
           revert H; refine ifsI ?_ ?_ <;> intro c33 H
           ·
            refine ts 97 rfl (dT c33) (sv (EV.ld (v := .agg #[.slice Al0_0 l0_0.length cl0_0, .int .i64 x2_1_1, .slice Al0_2 l0_2.length cl0_2, .slice Al0_3 l0_3.length cl0_3, .slice Al0_4 l0_4.length cl0_4, .slice Al0_5 l0_5.length cl0_5, .int .i64 x2_1_6, .int .i64 x2_1_7, .int .i64 x2_1_8, .int .i64 x2_1_9]) 0 (some 10) rfl rfl rfl) rfl ?_)
            revert H; refine bdI ?_; rintro t34 A34 H
            refine so rfl (op_call (spec_SorterMemory.ok n0 l0_0 Al0_0 cl0_0 x2_1_1 l0_2 Al0_2 cl0_2 l0_3 Al0_3 cl0_3 l0_4 Al0_4 cl0_4 l0_5 Al0_5 cl0_5 x2_1_6 x2_1_7 x2_1_8 x2_1_9 _ A34) [⟨0, 0, 0, false⟩, ⟨1, 0, 0, false⟩, ⟨2, 0, 0, false⟩, ⟨3, 0, 0, false⟩, ⟨4, 0, 0, false⟩] 3 rfl rfl rfl rfl rfl ?_)
            rintro _ _ _ ⟨rfl, rfl, rfl⟩
            refine sv (EV.leq rfl rfl) rfl (sv (EV.pt rfl rfl rfl) rfl (sv (EV.mv rfl) rfl ?_))
            revert H; refine ifsI ?_ ?_ <;> intro c35 H
            ·
             refine ts 102 rfl (dT c35) (sv (EV.mv rfl) rfl (sv (EV.fa 0 rfl) rfl (sv (EV.ld 0 none rfl rfl rfl) rfl (sv (EV.fa 1 rfl) rfl (sv (EV.ld 0 none rfl rfl rfl) rfl ?_)))))
             revert H; refine ggI ?_; intro g36 H
             revert H; refine ggI ?_; intro g37 H
             refine cutp (l' := l0_0.take x2_1_1.toNat) 0 x2_1_1 0 rfl (Int.le_refl 0) g36 g37 rfl 0 dq (.inr rfl) rfl (sv (EV.ct 0 x2_1_1 0 rfl rfl rfl rfl (Int.le_refl 0) g36 g37 rfl rfl ctnh) rfl ?_)
             revert H; refine bdI ?_; rintro t38 A38 H
             refine so rfl (op_call (spec_EqualBags.ok n0 (((t18 ++ l0_4) ++ l0_2) ++ l0_3) A78_24 c78_24 (l0_0.take x2_1_1.toNat) (cutA Al0_0 cl0_0 (0 : Int).toNat 3) (cl0_0 - (0 : Int).toNat) _ A38) [⟨5, 0, 0, false⟩, ⟨6, 0, 0, false⟩] 3 rfl rfl rfl rfl rfl ?_)
             rintro _ _ _ ⟨rfl, rfl, rfl⟩
             refine sv (EV.pt rfl rfl rfl) rfl (sv (EV.as rfl) rfl (re (pr [2] [] [] rfl rfl rfl rfl ?_)))
             cases H
             exact rt Try.func16 rfl (.tmp rfl .nil) rfl [] [] rfl rfl rfl rfl rfl ⟨rfl, rfl, rfl⟩
            ·
             refine ts 102 rfl (dF c35) (sk rfl (sk rfl (sk rfl (sk rfl (sk rfl (sk rfl (sk rfl (sv (EV.pf rfl rfl rfl) rfl (sv (EV.as rfl) rfl (re (pr [2] [] [] rfl rfl rfl rfl ?_)))))))))))
             cases H
             exact rt Try.func16 rfl (.tmp rfl .nil) rfl [] [] rfl rfl rfl rfl rfl ⟨rfl, rfl, rfl⟩
           ·
            refine ts 97 rfl (dF c33) (sk rfl (sk rfl (sk rfl (sv (EV.pf rfl rfl rfl) rfl (sv (EV.mv rfl) rfl (sk rfl (sk rfl (sk rfl (sk rfl (sk rfl (sk rfl (sk rfl (sv (EV.pf rfl rfl rfl) rfl (sv (EV.as rfl) rfl (re (pr [2] [] [] rfl rfl rfl rfl ?_))))))))))))))))
            cases H
            exact rt Try.func16 rfl (.tmp rfl .nil) rfl [] [] rfl rfl rfl rfl rfl ⟨rfl, rfl, rfl⟩
         ·
          refine ts 87 rfl (dF c26) (sk rfl (sk rfl (sk rfl (sk rfl (sk rfl (sk rfl (sk rfl (sk rfl (sv (EV.pf rfl rfl rfl) rfl (sv (EV.mv rfl) rfl (sk rfl (sk rfl (sk rfl (sv (EV.pf rfl rfl rfl) rfl (sv (EV.mv rfl) rfl (sk rfl (sk rfl (sk rfl (sk rfl (sk rfl (sk rfl (sk rfl (sv (EV.pf rfl rfl rfl) rfl (sv (EV.as rfl) rfl (re (pr [2] [] [] rfl rfl rfl rfl ?_))))))))))))))))))))))))))
          cases H
          exact rt Try.func16 rfl (.tmp rfl .nil) rfl [] [] rfl rfl rfl rfl rfl ⟨rfl, rfl, rfl⟩
        ·
         refine ts 82 rfl (dF c25) (sk rfl (sk rfl (sk rfl (sv (EV.pf rfl rfl rfl) rfl (sv (EV.mv rfl) rfl (sk rfl (sk rfl (sk rfl (sk rfl (sk rfl (sk rfl (sk rfl (sk rfl (sv (EV.pf rfl rfl rfl) rfl (sv (EV.mv rfl) rfl (sk rfl (sk rfl (sk rfl (sv (EV.pf rfl rfl rfl) rfl (sv (EV.mv rfl) rfl (sk rfl (sk rfl (sk rfl (sk rfl (sk rfl (sk rfl (sk rfl (sv (EV.pf rfl rfl rfl) rfl (sv (EV.as rfl) rfl ?_)))))))))))))))))))))))))))))
         refine re (pr [2] [] [] rfl rfl rfl rfl ?_)
         cases H
         exact rt Try.func16 rfl (.tmp rfl .nil) rfl [] [] rfl rfl rfl rfl rfl ⟨rfl, rfl, rfl⟩
       ·
        refine gf rfl (dF c17) (gk (gs (gs (rg (sv (EV.fa 1 rfl) rfl (sv (EV.ld 0 none rfl rfl rfl) rfl (sv (EV.fa 0 rfl) rfl (sv (EV.ld 0 none rfl rfl rfl) rfl (sv (EV.ln rfl) rfl (sv (EV.neq rfl rfl) rfl (sv (EV.mv rfl) rfl ?_)))))))))))
        revert H; refine ifsI ?_ ?_ <;> intro c39 H
        ·
         refine ts 117 rfl (nF c39) (sv (EV.fa 2 rfl) rfl (sv (EV.ld 0 none rfl rfl rfl) rfl (sv (EV.ln rfl) rfl (sv (EV.fa 3 rfl) rfl (sv (EV.ld 0 none rfl rfl rfl) rfl (sv (EV.ln rfl) rfl (sv (EV.add rfl rfl) rfl (sv (EV.gtr rfl rfl) rfl (sv (EV.pf rfl rfl rfl) rfl (re (pr [1, 126] [0] [0, 1, 2, 3, 4] rfl rfl rfl rfl ?_)))))))))))
         revert H; refine ifsI ?_ ?_ <;> intro c40 H
         ·
          refine gt rfl (dT c40) (gs (rg (sv (EV.as rfl) rfl (re ?_))))
          cases H
          exact rt Try.func16 rfl (.tmp rfl .nil) rfl [] [] rfl rfl rfl rfl rfl ⟨rfl, rfl, rfl⟩
         ·
          refine gf rfl (dF c40) (gk (gs (gs (rg (sv (EV.fa 8 rfl) rfl (sv (EV.ld 0 none rfl rfl rfl) rfl (sv (EV.eql rfl rfl) rfl (re ?_))))))))
          revert H; refine ifsI ?_ ?_ <;> intro c41 H
          ·
           refine gt rfl (dT c41) (gs (gs ?_))
           revert H; refine ifsI ?_ ?_ <;> intro c42 H
           ·
            refine dr [0] [0, 1, 2, 3, 4] [] 28 rfl rfl rfl rfl (xv 0 [0] [0, 1, 2, 3, 4] rfl (EV.fa 5 rfl) rfl rfl rfl rfl (xv 1 [0] [0, 1, 2, 3, 4] rfl (EV.ld 0 none rfl rfl rfl) rfl rfl rfl rfl (xv 2 [0] [0, 1, 2, 3, 4] rfl (EV.ln rfl) rfl rfl rfl rfl (xv 3 [0] [0, 1, 2, 3, 4] rfl (EV.lss rfl rfl) rfl rfl rfl rfl (xv 4 [0] [0, 1, 2, 3, 4] rfl (EV.mv rfl) rfl rfl rfl rfl (ts 134 rfl (dT c42) (xk 5 [0] [0, 1, 2, 3, 4] rfl rfl rfl rfl rfl (xk 6 [0] [0, 1, 2, 3, 4] rfl rfl rfl rfl rfl (xk 7 [0] [0, 1, 2, 3, 4] rfl rfl rfl rfl rfl (xk 8 [0] [0, 1, 2, 3, 4] rfl rfl rfl rfl rfl (xk 9 [0] [0, 1, 2, 3, 4] rfl rfl rfl rfl rfl (xk 10 [0] [0, 1, 2, 3, 4] rfl rfl rfl rfl rfl (xk 11 [0] [0, 1, 2, 3, 4] rfl rfl rfl rfl rfl (xk 12 [0] [0, 1, 2, 3, 4] rfl rfl rfl rfl rfl (xk 13 [0] [0, 1, 2, 3, 4] rfl rfl rfl rfl rfl (xk 14 [0] [0, 1, 2, 3, 4] rfl rfl rfl rfl rfl (xv 15 [0] [0, 1, 2, 3, 4] rfl (EV.pt rfl rfl rfl) rfl rfl rfl rfl (xv 16 [0] [0, 1, 2, 3, 4] rfl (EV.mv rfl) rfl rfl rfl rfl (xk 17 [0] [0, 1, 2, 3, 4] rfl rfl rfl rfl rfl (xk 18 [0] [0, 1, 2, 3, 4] rfl rfl rfl rfl rfl (xk 19 [0] [0, 1, 2, 3, 4] rfl rfl rfl rfl rfl (xk 20 [0] [0, 1, 2, 3, 4] rfl rfl rfl rfl rfl (xk 21 [0] [0, 1, 2, 3, 4] rfl rfl rfl rfl rfl (xk 22 [0] [0, 1, 2, 3, 4] rfl rfl rfl rfl rfl (xk 23 [0] [0, 1, 2, 3, 4] rfl rfl rfl rfl rfl (xk 24 [0] [0, 1, 2, 3, 4] rfl rfl rfl rfl rfl (xk 25 [0] [0, 1, 2, 3, 4] rfl rfl rfl rfl rfl (xk 26 [0] [0, 1, 2, 3, 4] rfl rfl rfl rfl rfl (xv 27 [0] [0, 1, 2, 3, 4] rfl (EV.pt rfl rfl rfl) rfl rfl rfl rfl ?_)))))))))))))))))))))))))))))
            refine xd (pr [1, 157] [0] [0, 1, 2, 3, 4] rfl rfl rfl rfl (gt rfl rfl (gs (rg (sv (EV.as rfl) rfl (re ?_))))))
            cases H
            exact rt Try.func16 rfl (.tmp rfl .nil) rfl [] [] rfl rfl rfl rfl rfl ⟨rfl, rfl, rfl⟩
           ·
            revert H; refine ggI ?_; intro g43 H
            refine opn (i := 0) 4 z57 rfl dq g43 fun A_44 c_44 => ?_
            revert H; refine ggI ?_; intro g45 H
            refine opn (i := 1) 4 z57 rfl dq g45 fun A_46 c_46 => (dr [0] [0, 1, 2, 3, 4, 5, 6, 7, 8] [] 28 rfl rfl rfl rfl (xv 0 [0] [0, 1, 2, 3, 4, 5, 6, 7, 8] rfl (EV.fa 5 rfl) rfl rfl rfl rfl (xv 1 [0] [0, 1, 2, 3, 4, 5, 6, 7, 8] rfl (EV.ld 0 none rfl rfl rfl) rfl rfl rfl rfl (xv 2 [0] [0, 1, 2, 3, 4, 5, 6, 7, 8] rfl (EV.ln rfl) rfl rfl rfl rfl (xv 3 [0] [0, 1, 2, 3, 4, 5, 6, 7, 8] rfl (EV.lss rfl rfl) rfl rfl rfl rfl (xv 4 [0] [0, 1, 2, 3, 4, 5, 6, 7, 8] rfl (EV.mv rfl) rfl rfl rfl rfl (ts 134 rfl (dF c42) (xv 5 [0] [0, 1, 2, 3, 4, 5, 6, 7, 8] rfl (EV.fa 6 rfl) rfl rfl rfl rfl (xv 6 [0] [0, 1, 2, 3, 4, 5, 6, 7, 8] rfl (EV.ld 0 none rfl rfl rfl) rfl rfl rfl rfl (xv 7 [0] [0, 1, 2, 3, 4, 5, 6, 7, 8] rfl (EV.fa 5 rfl) rfl rfl rfl rfl (xv 8 [0] [0, 1, 2, 3, 4, 5, 6, 7, 8] rfl (EV.ld 0 none rfl rfl rfl) rfl rfl rfl rfl (xv 9 [0] [0, 1, 2, 3, 4, 5, 6, 7, 8] rfl (EV.ix 4 rfl rfl rfl dq g43 rfl) rfl rfl rfl rfl (xv 10 [0] [0, 1, 2, 3, 4, 5, 6, 7, 8] rfl (EV.fa 0 rfl) rfl rfl rfl rfl (xv 11 [0] [0, 1, 2, 3, 4, 5, 6, 7, 8] rfl (EV.lc (v := .slice A_44 ((rd_T57 l0_5 0).f0).length c_44) 0 none 5 rfl rfl rfl rfl) rfl rfl rfl rfl (xv 12 [0] [0, 1, 2, 3, 4, 5, 6, 7, 8] rfl (EV.ln rfl) rfl rfl rfl rfl (one1 13 rfl rfl ?_))))))))))))))))
            revert H; refine bdI ?_; rintro t47 A47 H
            refine op_call (spec_l1In.ok x2_1_6 0 (((rd_T57 l0_5 0).f0).length : Int) _ A47) [] 1 rfl rfl rfl rfl rfl ?_
            rintro _ _ _ ⟨rfl, rfl, rfl⟩
            refine xs [0] [0, 1, 2, 3, 4, 5, 6, 7, 8] rfl rfl rfl (xv 14 [0] [0, 1, 2, 3, 4, 5, 6, 7, 8] rfl (EV.nt rfl) rfl rfl rfl rfl (xv 15 [0] [0, 1, 2, 3, 4, 5, 6, 7, 8] rfl (EV.pf rfl rfl rfl) rfl rfl rfl rfl (xv 16 [0] [0, 1, 2, 3, 4, 5, 6, 7, 8] rfl (EV.mv rfl) rfl rfl rfl rfl ?_)))
            revert H; refine ifsI ?_ ?_ <;> intro c48 H
            ·
             subst c48
             refine ts 146 rfl rfl (xv 17 [0] [0, 1, 2, 3, 4, 5, 6, 7, 8] rfl (EV.fa 7 rfl) rfl rfl rfl rfl (xv 18 [0] [0, 1, 2, 3, 4, 5, 6, 7, 8] rfl (EV.ld 0 none rfl rfl rfl) rfl rfl rfl rfl (xv 19 [0] [0, 1, 2, 3, 4, 5, 6, 7, 8] rfl (EV.fa 5 rfl) rfl rfl rfl rfl (xv 20 [0] [0, 1, 2, 3, 4, 5, 6, 7, 8] rfl (EV.ld 0 none rfl rfl rfl) rfl rfl rfl rfl (xv 21 [0] [0, 1, 2, 3, 4, 5, 6, 7, 8] rfl (EV.ix 4 rfl rfl rfl dq g45 rfl) rfl rfl rfl rfl (xv 22 [0] [0, 1, 2, 3, 4, 5, 6, 7, 8] rfl (EV.fa 0 rfl) rfl rfl rfl rfl (xv 23 [0] [0, 1, 2, 3, 4, 5, 6, 7, 8] rfl (EV.lc (v := .slice A_46 ((rd_T57 l0_5 1).f0).length c_46) 0 none 7 rfl rfl rfl rfl) rfl rfl rfl rfl (xv 24 [0] [0, 1, 2, 3, 4, 5, 6, 7, 8] rfl (EV.ln rfl) rfl rfl rfl rfl (one1 25 rfl rfl ?_)))))))))
             revert H; refine bdI ?_; rintro t49 A49 H
             refine op_call (spec_l1In.ok x2_1_7 0 (((rd_T57 l0_5 1).f0).length : Int) _ A49) [] 1 rfl rfl rfl rfl rfl ?_
             rintro _ _ _ ⟨rfl, rfl, rfl⟩
             refine xs [0] [0, 1, 2, 3, 4, 5, 6, 7, 8] rfl rfl rfl (xv 26 [0] [0, 1, 2, 3, 4, 5, 6, 7, 8] rfl (EV.nt rfl) rfl rfl rfl rfl (xv 27 [0] [0, 1, 2, 3, 4, 5, 6, 7, 8] rfl (EV.pf rfl rfl rfl) rfl rfl rfl rfl (xd (pr [1, 157] [0] [0, 1, 2, 3, 4] rfl rfl rfl rfl ?_))))
             revert H; refine ifsI ?_ ?_ <;> intro c50 H
             ·
              subst c50
              refine gf rfl rfl (gk (gs (opn (i := 0) 4 z57 rfl dq g43 fun A_51 c_51 => ?_)))
              revert H; refine ggI ?_; intro g52 H
              revert H; refine ggI ?_; intro g53 H
              refine opn (i := 1) 4 z57 rfl dq g45 fun A_54 c_54 => ?_
              revert H; refine ggI ?_; intro g55 H
              revert H; refine ggI ?_; intro g56 H
              refine dr [0] [0, 1, 2, 3, 4, 5, 6, 7, 8] [] 18 rfl rfl rfl rfl (xv 0 [0] [0, 1, 2, 3, 4, 5, 6, 7, 8] rfl (EV.fa 5 rfl) rfl rfl rfl rfl (xv 1 [0] [0, 1, 2, 3, 4, 5, 6, 7, 8] rfl (EV.ld 0 none rfl rfl rfl) rfl rfl rfl rfl (xv 2 [0] [0, 1, 2, 3, 4, 5, 6, 7, 8] rfl (EV.ix 4 rfl rfl rfl dq g43 rfl) rfl rfl rfl rfl (xv 3 [0] [0, 1, 2, 3, 4, 5, 6, 7, 8] rfl (EV.fa 0 rfl) rfl rfl rfl rfl (xv 4 [0] [0, 1, 2, 3, 4, 5, 6, 7, 8] rfl (EV.lc (v := .slice A_51 ((rd_T57 l0_5 0).f0).length c_51) 0 none 5 rfl rfl rfl rfl) rfl rfl rfl rfl (xv 5 [0] [0, 1, 2, 3, 4, 5, 6, 7, 8] rfl (EV.fa 6 rfl) rfl rfl rfl rfl (xv 6 [0] [0, 1, 2, 3, 4, 5, 6, 7, 8] rfl (EV.ld 0 none rfl rfl rfl) rfl rfl rfl rfl (cutp (l' := ((rd_T57 l0_5 0).f0).take x2_1_6.toNat) 0 x2_1_6 6 rfl (Int.le_refl 0) g52 g53 rfl 0 dq (.inr rfl) rfl (xv 7 [0] [0, 1, 2, 3, 4, 5, 6, 7, 8] rfl (EV.ct 0 x2_1_6 6 rfl rfl rfl rfl (Int.le_refl 0) g52 g53 rfl rfl ctnh) rfl rfl rfl rfl (xv 8 [0] [0, 1, 2, 3, 4, 5, 6, 7, 8] rfl (EV.fa 5 rfl) rfl rfl rfl rfl (xv 9 [0] [0, 1, 2, 3, 4, 5, 6, 7, 8] rfl (EV.ld 0 none rfl rfl rfl) rfl rfl rfl rfl (xv 10 [0] [0, 1, 2, 3, 4, 5, 6, 7, 8] rfl (EV.ix 4 rfl rfl rfl dq g45 rfl) rfl rfl rfl rfl (xv 11 [0] [0, 1, 2, 3, 4, 5, 6, 7, 8] rfl (EV.fa 0 rfl) rfl rfl rfl rfl (xv 12 [0] [0, 1, 2, 3, 4, 5, 6, 7, 8] rfl (EV.lc (v := .slice A_54 ((rd_T57 l0_5 1).f0).length c_54) 0 none 7 rfl rfl rfl rfl) rfl rfl rfl rfl (xv 13 [0] [0, 1, 2, 3, 4, 5, 6, 7, 8] rfl (EV.fa 7 rfl) rfl rfl rfl rfl (xv 14 [0] [0, 1, 2, 3, 4, 5, 6, 7, 8] rfl (EV.ld 0 none rfl rfl rfl) rfl rfl rfl rfl (cutp (l' := ((rd_T57 l0_5 1).f0).take x2_1_7.toNat) 0 x2_1_7 8 rfl (Int.le_refl 0) g55 g56 rfl 0 dq (.inr rfl) rfl (xv 15 [0] [0, 1, 2, 3, 4, 5, 6, 7, 8] rfl (EV.ct 0 x2_1_7 8 rfl rfl rfl rfl (Int.le_refl 0) g55 g56 rfl rfl ctnh) rfl rfl rfl rfl (one1 16 rfl rfl ?_)))))))))))))))))))
              revert H; refine bdI ?_; rintro t57 A57 H
              refine op_call (spec_MergeSorted.ok n0 (((rd_T57 l0_5 0).f0).take x2_1_6.toNat) (cutA A_51 c_51 (0 : Int).toNat 3) (c_51 - (0 : Int).toNat) (((rd_T57 l0_5 1).f0).take x2_1_7.toNat) (cutA A_54 c_54 (0 : Int).toNat 3) (c_54 - (0 : Int).toNat) _ A57) [⟨9, 0, 0, false⟩, ⟨10, 0, 0, false⟩] 1 rfl rfl rfl rfl rfl ?_
              rintro _ _ _ ⟨At57, ct57, rfl, rfl, rfl⟩
              refine xs [0] [0, 1, 2, 3, 4, 5, 6, 7, 8] rfl rfl rfl (xv 17 [0] [0, 1, 2, 3, 4, 5, 6, 7, 8] rfl (EV.as rfl) rfl rfl rfl rfl (xd (pr [1, 6] [0] [0, 1, 2, 3, 4, 11] rfl rfl rfl rfl (gs (opn (i := 0) 4 z57 rfl dq g43 fun A_58 c_58 => (opn (i := 1) 4 z57 rfl dq g45 fun A_59 c_59 => ?_))))))
              revert H; refine ggI ?_; intro g60 H
              refine dr [0] [0, 1, 2, 3, 4, 5, 6, 7, 8, 9] [] 35 rfl rfl rfl rfl (xv 0 [0] [0, 1, 2, 3, 4, 5, 6, 7, 8, 9] rfl (EV.fa 4 rfl) rfl rfl rfl rfl (xv 1 [0] [0, 1, 2, 3, 4, 5, 6, 7, 8, 9] rfl (EV.ld 0 none rfl rfl rfl) rfl rfl rfl rfl (xv 2 [0] [0, 1, 2, 3, 4, 5, 6, 7, 8, 9] rfl (EV.fa 5 rfl) rfl rfl rfl rfl (xv 3 [0] [0, 1, 2, 3, 4, 5, 6, 7, 8, 9] rfl (EV.ld 0 none rfl rfl rfl) rfl rfl rfl rfl (xv 4 [0] [0, 1, 2, 3, 4, 5, 6, 7, 8, 9] rfl (EV.ix 4 rfl rfl rfl dq g43 rfl) rfl rfl rfl rfl (xv 5 [0] [0, 1, 2, 3, 4, 5, 6, 7, 8, 9] rfl (EV.fa 0 rfl) rfl rfl rfl rfl (xv 6 [0] [0, 1, 2, 3, 4, 5, 6, 7, 8, 9] rfl (EV.lc (v := .slice A_58 ((rd_T57 l0_5 0).f0).length c_58) 0 none 6 rfl rfl rfl rfl) rfl rfl rfl rfl (xv 7 [0] [0, 1, 2, 3, 4, 5, 6, 7, 8, 9] rfl (EV.fa 5 rfl) rfl rfl rfl rfl (xv 8 [0] [0, 1, 2, 3, 4, 5, 6, 7, 8, 9] rfl (EV.ld 0 none rfl rfl rfl) rfl rfl rfl rfl (xv 9 [0] [0, 1, 2, 3, 4, 5, 6, 7, 8, 9] rfl (EV.ix 4 rfl rfl rfl dq g45 rfl) rfl rfl rfl rfl (xv 10 [0] [0, 1, 2, 3, 4, 5, 6, 7, 8, 9] rfl (EV.fa 0 rfl) rfl rfl rfl rfl (xv 11 [0] [0, 1, 2, 3, 4, 5, 6, 7, 8, 9] rfl (EV.lc (v := .slice A_59 ((rd_T57 l0_5 1).f0).length c_59) 0 none 8 rfl rfl rfl rfl) rfl rfl rfl rfl (xv 13 [0] [0, 1, 2, 3, 4, 5, 6, 7, 8, 9] rfl (EV.fa 6 rfl) rfl rfl rfl rfl (xv 14 [0] [0, 1, 2, 3, 4, 5, 6, 7, 8, 9] rfl (EV.ld 0 none rfl rfl rfl) rfl rfl rfl rfl (xv 15 [0] [0, 1, 2, 3, 4, 5, 6, 7, 8, 9] rfl (EV.fa 7 rfl) rfl rfl rfl rfl (xv 16 [0] [0, 1, 2, 3, 4, 5, 6, 7, 8, 9] rfl (EV.ld 0 none rfl rfl rfl) rfl rfl rfl rfl (xv 17 [0] [0, 1, 2, 3, 4, 5, 6, 7, 8, 9] rfl (EV.add rfl rfl) rfl rfl rfl rfl (one1 12 rfl rfl ?_))))))))))))))))))
              revert H; refine bdI ?_; rintro t61 A61 H
              refine op_call (spec_MergeSorted.ok n0 ((rd_T57 l0_5 0).f0) A_58 c_58 ((rd_T57 l0_5 1).f0) A_59 c_59 _ A61) [⟨7, 0, 0, false⟩, ⟨9, 0, 0, false⟩] 3 rfl rfl rfl rfl rfl ?_
              rintro _ _ _ ⟨At61, ct61, rfl, rfl, rfl⟩
              refine xs [0] [0, 1, 2, 3, 4, 5, 6, 7, 8, 9] rfl rfl rfl (one1 18 rfl rfl ?_)
              revert H; refine ggI ?_; intro g62 H
              refine cutp (l' := t61.take (wrap64 (x2_1_6 + x2_1_7)).toNat) 0 (wrap64 (x2_1_6 + x2_1_7)) 10 rfl (Int.le_refl 0) g60 g62 rfl 2 dq (.inr rfl) rfl (ov (EV.ct 0 (wrap64 (x2_1_6 + x2_1_7)) 10 rfl rfl rfl rfl (Int.le_refl 0) g60 g62 rfl rfl ctnh) rfl (xs [0] [0, 1, 2, 3, 4, 5, 6, 7, 8, 9] rfl rfl rfl (one1 19 rfl rfl ?_)))
              revert H; refine bdI ?_; rintro t63 A63 H
              refine op_call (spec_l6Rows.ok n0 l0_4 Al0_4 cl0_4 (t61.take (wrap64 (x2_1_6 + x2_1_7)).toNat) (cutA At61 ct61 (0 : Int).toNat 3) (ct61 - (0 : Int).toNat) _ A63) [⟨3, 0, 0, false⟩, ⟨11, 0, 0, false⟩] 5 rfl rfl rfl rfl rfl ?_
              rintro _ _ _ ⟨rfl, rfl, rfl⟩
              refine xs [0] [0, 1, 2, 3, 4, 5, 6, 7, 8, 9] rfl rfl rfl (xv 20 [0] [0, 1, 2, 3, 4, 5, 6, 7, 8, 9] rfl (EV.mv rfl) rfl rfl rfl rfl ?_)
              revert H; refine ifsI ?_ ?_ <;> intro c64 H
              ·
               subst c64
               refine ts 195 rfl rfl (xv 21 [0] [0, 1, 2, 3, 4, 5, 6, 7, 8, 9] rfl (EV.mv rfl) rfl rfl rfl rfl (xv 22 [0] [0, 1, 2, 3, 4, 5, 6, 7, 8, 9] rfl (EV.fa 4 rfl) rfl rfl rfl rfl (xv 23 [0] [0, 1, 2, 3, 4, 5, 6, 7, 8, 9] rfl (EV.ld 0 none rfl rfl rfl) rfl rfl rfl rfl (one1 24 rfl rfl ?_))))
               revert H; refine bdI ?_; rintro t65 A65 H
               refine op_call (spec_l6Rows.ok n0 t57 At57 ct57 l0_4 Al0_4 cl0_4 _ A65) [⟨5, 0, 0, false⟩, ⟨3, 0, 0, false⟩] 5 rfl rfl rfl rfl rfl ?_
               rintro _ _ _ ⟨rfl, rfl, rfl⟩
               refine xs [0] [0, 1, 2, 3, 4, 5, 6, 7, 8, 9] rfl rfl rfl (xv 25 [0] [0, 1, 2, 3, 4, 5, 6, 7, 8, 9] rfl (EV.pt rfl rfl rfl) rfl rfl rfl rfl (xv 26 [0] [0, 1, 2, 3, 4, 5, 6, 7, 8, 9] rfl (EV.mv rfl) rfl rfl rfl rfl ?_))
               revert H; refine ifsI ?_ ?_ <;> intro c66 H
               ·
                subst c66
                refine ts 201 rfl rfl (xv 27 [0] [0, 1, 2, 3, 4, 5, 6, 7, 8, 9] rfl (EV.fa 5 rfl) rfl rfl rfl rfl (xv 28 [0] [0, 1, 2, 3, 4, 5, 6, 7, 8, 9] rfl (EV.ld 0 none rfl rfl rfl) rfl rfl rfl rfl (xv 30 [0] [0, 1, 2, 3, 4, 5, 6, 7, 8, 9] rfl (EV.fa 0 rfl) rfl rfl rfl rfl (xv 31 [0] [0, 1, 2, 3, 4, 5, 6, 7, 8, 9] rfl (EV.ld 0 none rfl rfl rfl) rfl rfl rfl rfl (one1 29 rfl rfl ?_)))))
                revert H; refine bdI ?_; rintro t67 A67 H
                refine op_call (spec_FlattenRuns.ok n0 l0_5 Al0_5 cl0_5 _ A67) [⟨4, 0, 0, false⟩] 5 rfl rfl rfl rfl rfl ?_
                rintro _ _ _ ⟨At67, ct67, rfl, rfl, rfl⟩
                refine xs [0] [0, 1, 2, 3, 4, 5, 6, 7, 8, 9] rfl rfl rfl (one1 32 rfl rfl ?_)
                revert H; refine bdI ?_; rintro t68 A68 H
                refine op_call (spec_EqualBags.ok n0 t67 At67 ct67 l0_0 Al0_0 cl0_0 _ A68) [⟨12, 0, 0, false⟩, ⟨0, 0, 0, false⟩] 7 rfl rfl rfl rfl rfl ?_
                rintro _ _ _ ⟨rfl, rfl, rfl⟩
                refine xs [0] [0, 1, 2, 3, 4, 5, 6, 7, 8, 9] rfl rfl rfl (xv 33 [0] [0, 1, 2, 3, 4, 5, 6, 7, 8, 9] rfl (EV.pt rfl rfl rfl) rfl rfl rfl rfl (xv 34 [0] [0, 1, 2, 3, 4, 5, 6, 7, 8, 9] rfl (EV.as rfl) rfl rfl rfl rfl (xd (pr [2] [] [] rfl rfl rfl rfl ?_))))
                cases H
                exact rt Try.func16 rfl (.tmp rfl .nil) rfl [] [] rfl rfl rfl rfl rfl ⟨rfl, rfl, rfl⟩
               ·
                have xc66 := bF c66; subst xc66
                refine ts 201 rfl rfl (xk 27 [0] [0, 1, 2, 3, 4, 5, 6, 7, 8, 9] rfl rfl rfl rfl rfl (xk 28 [0] [0, 1, 2, 3, 4, 5, 6, 7, 8, 9] rfl rfl rfl rfl rfl (xk 30 [0] [0, 1, 2, 3, 4, 5, 6, 7, 8, 9] rfl rfl rfl rfl rfl (xk 31 [0] [0, 1, 2, 3, 4, 5, 6, 7, 8, 9] rfl rfl rfl rfl rfl (xk 29 [0] [0, 1, 2, 3, 4, 5, 6, 7, 8, 9] rfl rfl rfl rfl rfl (xk 32 [0] [0, 1, 2, 3, 4, 5, 6, 7, 8, 9] rfl rfl rfl rfl rfl (xv 33 [0] [0, 1, 2, 3, 4, 5, 6, 7, 8, 9] rfl (EV.pf rfl rfl rfl) rfl rfl rfl rfl (xv 34 [0] [0, 1, 2, 3, 4, 5, 6, 7, 8, 9] rfl (EV.as rfl) rfl rfl rfl rfl (xd (pr [2] [] [] rfl rfl rfl rfl ?_))))))))))
                cases H
                exact rt Try.func16 rfl (.tmp rfl .nil) rfl [] [] rfl rfl rfl rfl rfl ⟨rfl, rfl, rfl⟩
              ·
               have xc64 := bF c64; subst xc64
               refine ts 195 rfl rfl (xk 21 [0] [0, 1, 2, 3, 4, 5, 6, 7, 8, 9] rfl rfl rfl rfl rfl (xk 22 [0] [0, 1, 2, 3, 4, 5, 6, 7, 8, 9] rfl rfl rfl rfl rfl (xk 23 [0] [0, 1, 2, 3, 4, 5, 6, 7, 8, 9] rfl rfl rfl rfl rfl (xk 24 [0] [0, 1, 2, 3, 4, 5, 6, 7, 8, 9] rfl rfl rfl rfl rfl (xv 25 [0] [0, 1, 2, 3, 4, 5, 6, 7, 8, 9] rfl (EV.pf rfl rfl rfl) rfl rfl rfl rfl (xv 26 [0] [0, 1, 2, 3, 4, 5, 6, 7, 8, 9] rfl (EV.mv rfl) rfl rfl rfl rfl (xk 27 [0] [0, 1, 2, 3, 4, 5, 6, 7, 8, 9] rfl rfl rfl rfl rfl (xk 28 [0] [0, 1, 2, 3, 4, 5, 6, 7, 8, 9] rfl rfl rfl rfl rfl (xk 30 [0] [0, 1, 2, 3, 4, 5, 6, 7, 8, 9] rfl rfl rfl rfl rfl (xk 31 [0] [0, 1, 2, 3, 4, 5, 6, 7, 8, 9] rfl rfl rfl rfl rfl (xk 29 [0] [0, 1, 2, 3, 4, 5, 6, 7, 8, 9] rfl rfl rfl rfl rfl (xk 32 [0] [0, 1, 2, 3, 4, 5, 6, 7, 8, 9] rfl rfl rfl rfl rfl (xv 33 [0] [0, 1, 2, 3, 4, 5, 6, 7, 8, 9] rfl (EV.pf rfl rfl rfl) rfl rfl rfl rfl (xv 34 [0] [0, 1, 2, 3, 4, 5, 6, 7, 8, 9] rfl (EV.as rfl) rfl rfl rfl rfl (xd (pr [2] [] [] rfl rfl rfl rfl ?_))))))))))))))))
               cases H
               exact rt Try.func16 rfl (.tmp rfl .nil) rfl [] [] rfl rfl rfl rfl rfl ⟨rfl, rfl, rfl⟩
             ·
              have xc50 := bF c50; subst xc50
              refine gt rfl rfl (gs (rg (sv (EV.as rfl) rfl (re ?_))))
              cases H
              exact rt Try.func16 rfl (.tmp rfl .nil) rfl [] [] rfl rfl rfl rfl rfl ⟨rfl, rfl, rfl⟩
            ·
             have xc48 := bF c48; subst xc48
             refine ts 146 rfl rfl (xk 17 [0] [0, 1, 2, 3, 4, 5, 6, 7, 8] rfl rfl rfl rfl rfl (xk 18 [0] [0, 1, 2, 3, 4, 5, 6, 7, 8] rfl rfl rfl rfl rfl (xk 19 [0] [0, 1, 2, 3, 4, 5, 6, 7, 8] rfl rfl rfl rfl rfl (xk 20 [0] [0, 1, 2, 3, 4, 5, 6, 7, 8] rfl rfl rfl rfl rfl (xk 21 [0] [0, 1, 2, 3, 4, 5, 6, 7, 8] rfl rfl rfl rfl rfl (xk 22 [0] [0, 1, 2, 3, 4, 5, 6, 7, 8] rfl rfl rfl rfl rfl (xk 23 [0] [0, 1, 2, 3, 4, 5, 6, 7, 8] rfl rfl rfl rfl rfl (xk 24 [0] [0, 1, 2, 3, 4, 5, 6, 7, 8] rfl rfl rfl rfl rfl (xk 25 [0] [0, 1, 2, 3, 4, 5, 6, 7, 8] rfl rfl rfl rfl rfl (xk 26 [0] [0, 1, 2, 3, 4, 5, 6, 7, 8] rfl rfl rfl rfl rfl (xv 27 [0] [0, 1, 2, 3, 4, 5, 6, 7, 8] rfl (EV.pt rfl rfl rfl) rfl rfl rfl rfl (xd (pr [1, 157] [0] [0, 1, 2, 3, 4] rfl rfl rfl rfl (gt rfl rfl (gs (rg (sv (EV.as rfl) rfl (re ?_))))))))))))))))))
             cases H
             exact rt Try.func16 rfl (.tmp rfl .nil) rfl [] [] rfl rfl rfl rfl rfl ⟨rfl, rfl, rfl⟩
          ·
           refine gf rfl (dF c41) (gk (gs (gs ?_)))
           revert H; refine ifsI ?_ ?_ <;> intro c69 H
           ·
            refine dr [0] [0, 1, 2, 3, 4] [] 24 rfl rfl rfl rfl (xv 0 [0] [0, 1, 2, 3, 4] rfl (EV.fa 5 rfl) rfl rfl rfl rfl (xv 1 [0] [0, 1, 2, 3, 4] rfl (EV.ld 0 none rfl rfl rfl) rfl rfl rfl rfl (xv 2 [0] [0, 1, 2, 3, 4] rfl (EV.ln rfl) rfl rfl rfl rfl (xv 3 [0] [0, 1, 2, 3, 4] rfl (EV.gtr rfl rfl) rfl rfl rfl rfl (xv 4 [0] [0, 1, 2, 3, 4] rfl (EV.mv rfl) rfl rfl rfl rfl (ts 213 rfl (dT c69) (xk 5 [0] [0, 1, 2, 3, 4] rfl rfl rfl rfl rfl (xk 6 [0] [0, 1, 2, 3, 4] rfl rfl rfl rfl rfl (xk 7 [0] [0, 1, 2, 3, 4] rfl rfl rfl rfl rfl (xv 8 [0] [0, 1, 2, 3, 4] rfl (EV.pt rfl rfl rfl) rfl rfl rfl rfl (xv 9 [0] [0, 1, 2, 3, 4] rfl (EV.mv rfl) rfl rfl rfl rfl (xk 10 [0] [0, 1, 2, 3, 4] rfl rfl rfl rfl rfl (xk 11 [0] [0, 1, 2, 3, 4] rfl rfl rfl rfl rfl (xk 12 [0] [0, 1, 2, 3, 4] rfl rfl rfl rfl rfl (xk 13 [0] [0, 1, 2, 3, 4] rfl rfl rfl rfl rfl (xv 14 [0] [0, 1, 2, 3, 4] rfl (EV.pt rfl rfl rfl) rfl rfl rfl rfl (xv 15 [0] [0, 1, 2, 3, 4] rfl (EV.mv rfl) rfl rfl rfl rfl (xk 16 [0] [0, 1, 2, 3, 4] rfl rfl rfl rfl rfl (xk 17 [0] [0, 1, 2, 3, 4] rfl rfl rfl rfl rfl (xk 19 [0] [0, 1, 2, 3, 4] rfl rfl rfl rfl rfl (xk 20 [0] [0, 1, 2, 3, 4] rfl rfl rfl rfl rfl (xk 18 [0] [0, 1, 2, 3, 4] rfl rfl rfl rfl rfl (xk 21 [0] [0, 1, 2, 3, 4] rfl rfl rfl rfl rfl (xk 22 [0] [0, 1, 2, 3, 4] rfl rfl rfl rfl rfl (xv 23 [0] [0, 1, 2, 3, 4] rfl (EV.pt rfl rfl rfl) rfl rfl rfl rfl (xd (pr [1, 232] [0] [0, 1, 2, 3, 4] rfl rfl rfl rfl (gt rfl rfl (gs ?_)))))))))))))))))))))))))))))
            refine rg (sv (EV.as rfl) rfl (re ?_))
            cases H
            exact rt Try.func16 rfl (.tmp rfl .nil) rfl [] [] rfl rfl rfl rfl rfl ⟨rfl, rfl, rfl⟩
           ·
            revert H; refine ifsI ?_ ?_ <;> intro c70 H
            ·
             revert H; refine ifsI ?_ ?_ <;> intro c71 H
             ·
              refine dr [0] [0, 1, 2, 3, 4] [] 24 rfl rfl rfl rfl (xv 0 [0] [0, 1, 2, 3, 4] rfl (EV.fa 5 rfl) rfl rfl rfl rfl (xv 1 [0] [0, 1, 2, 3, 4] rfl (EV.ld 0 none rfl rfl rfl) rfl rfl rfl rfl (xv 2 [0] [0, 1, 2, 3, 4] rfl (EV.ln rfl) rfl rfl rfl rfl (xv 3 [0] [0, 1, 2, 3, 4] rfl (EV.gtr rfl rfl) rfl rfl rfl rfl (xv 4 [0] [0, 1, 2, 3, 4] rfl (EV.mv rfl) rfl rfl rfl rfl (ts 213 rfl (dF c69) (xv 5 [0] [0, 1, 2, 3, 4] rfl (EV.fa 7 rfl) rfl rfl rfl rfl (xv 6 [0] [0, 1, 2, 3, 4] rfl (EV.ld 0 none rfl rfl rfl) rfl rfl rfl rfl (xv 7 [0] [0, 1, 2, 3, 4] rfl (EV.neq rfl rfl) rfl rfl rfl rfl (xv 8 [0] [0, 1, 2, 3, 4] rfl (EV.pf rfl rfl rfl) rfl rfl rfl rfl (xv 9 [0] [0, 1, 2, 3, 4] rfl (EV.mv rfl) rfl rfl rfl rfl (ts 218 rfl (nF c70) (xv 10 [0] [0, 1, 2, 3, 4] rfl (EV.fa 4 rfl) rfl rfl rfl rfl (xv 11 [0] [0, 1, 2, 3, 4] rfl (EV.ld 0 none rfl rfl rfl) rfl rfl rfl rfl (xv 12 [0] [0, 1, 2, 3, 4] rfl (EV.ln rfl) rfl rfl rfl rfl (xv 13 [0] [0, 1, 2, 3, 4] rfl (EV.gtr rfl rfl) rfl rfl rfl rfl (xv 14 [0] [0, 1, 2, 3, 4] rfl (EV.pf rfl rfl rfl) rfl rfl rfl rfl (xv 15 [0] [0, 1, 2, 3, 4] rfl (EV.mv rfl) rfl rfl rfl rfl (ts 224 rfl (dT c71) (xk 16 [0] [0, 1, 2, 3, 4] rfl rfl rfl rfl rfl (xk 17 [0] [0, 1, 2, 3, 4] rfl rfl rfl rfl rfl (xk 19 [0] [0, 1, 2, 3, 4] rfl rfl rfl rfl rfl (xk 20 [0] [0, 1, 2, 3, 4] rfl rfl rfl rfl rfl (xk 18 [0] [0, 1, 2, 3, 4] rfl rfl rfl rfl rfl (xk 21 [0] [0, 1, 2, 3, 4] rfl rfl rfl rfl rfl (xk 22 [0] [0, 1, 2, 3, 4] rfl rfl rfl rfl rfl (xv 23 [0] [0, 1, 2, 3, 4] rfl (EV.pt rfl rfl rfl) rfl rfl rfl rfl (xd (pr [1, 232] [0] [0, 1, 2, 3, 4] rfl rfl rfl rfl ?_)))))))))))))))))))))))))))))
              refine gt rfl rfl (gs (rg (sv (EV.as rfl) rfl (re ?_))))
              cases H
              exact rt Try.func16 rfl (.tmp rfl .nil) rfl [] [] rfl rfl rfl rfl rfl ⟨rfl, rfl, rfl⟩
             ·
              refine dr [0] [0, 1, 2, 3, 4] [] 24 rfl rfl rfl rfl (xv 0 [0] [0, 1, 2, 3, 4] rfl (EV.fa 5 rfl) rfl rfl rfl rfl (xv 1 [0] [0, 1, 2, 3, 4] rfl (EV.ld 0 none rfl rfl rfl) rfl rfl rfl rfl (xv 2 [0] [0, 1, 2, 3, 4] rfl (EV.ln rfl) rfl rfl rfl rfl (xv 3 [0] [0, 1, 2, 3, 4] rfl (EV.gtr rfl rfl) rfl rfl rfl rfl (xv 4 [0] [0, 1, 2, 3, 4] rfl (EV.mv rfl) rfl rfl rfl rfl (ts 213 rfl (dF c69) (xv 5 [0] [0, 1, 2, 3, 4] rfl (EV.fa 7 rfl) rfl rfl rfl rfl (xv 6 [0] [0, 1, 2, 3, 4] rfl (EV.ld 0 none rfl rfl rfl) rfl rfl rfl rfl (xv 7 [0] [0, 1, 2, 3, 4] rfl (EV.neq rfl rfl) rfl rfl rfl rfl (xv 8 [0] [0, 1, 2, 3, 4] rfl (EV.pf rfl rfl rfl) rfl rfl rfl rfl (xv 9 [0] [0, 1, 2, 3, 4] rfl (EV.mv rfl) rfl rfl rfl rfl (ts 218 rfl (nF c70) (xv 10 [0] [0, 1, 2, 3, 4] rfl (EV.fa 4 rfl) rfl rfl rfl rfl (xv 11 [0] [0, 1, 2, 3, 4] rfl (EV.ld 0 none rfl rfl rfl) rfl rfl rfl rfl (xv 12 [0] [0, 1, 2, 3, 4] rfl (EV.ln rfl) rfl rfl rfl rfl (xv 13 [0] [0, 1, 2, 3, 4] rfl (EV.gtr rfl rfl) rfl rfl rfl rfl (xv 14 [0] [0, 1, 2, 3, 4] rfl (EV.pf rfl rfl rfl) rfl rfl rfl rfl (xv 15 [0] [0, 1, 2, 3, 4] rfl (EV.mv rfl) rfl rfl rfl rfl (ts 224 rfl (dF c71) (xv 16 [0] [0, 1, 2, 3, 4] rfl (EV.fa 5 rfl) rfl rfl rfl rfl (xv 17 [0] [0, 1, 2, 3, 4] rfl (EV.ld 0 none rfl rfl rfl) rfl rfl rfl rfl (xv 19 [0] [0, 1, 2, 3, 4] rfl (EV.fa 0 rfl) rfl rfl rfl rfl (xv 20 [0] [0, 1, 2, 3, 4] rfl (EV.ld 0 none rfl rfl rfl) rfl rfl rfl rfl (one1 18 rfl rfl ?_))))))))))))))))))))))))
              revert H; refine bdI ?_; rintro t72 A72 H
              refine op_call (spec_FlattenRuns.ok n0 l0_5 Al0_5 cl0_5 _ A72) [⟨4, 0, 0, false⟩] 1 rfl rfl rfl rfl rfl ?_
              rintro _ _ _ ⟨At72, ct72, rfl, rfl, rfl⟩
              refine xs [0] [0, 1, 2, 3, 4] rfl rfl rfl (one1 21 rfl rfl ?_)
              revert H; refine bdI ?_; rintro t73 A73 H
              refine op_call (spec_EqualBags.ok n0 t72 At72 ct72 l0_0 Al0_0 cl0_0 _ A73) [⟨5, 0, 0, false⟩, ⟨0, 0, 0, false⟩] 3 rfl rfl rfl rfl rfl ?_
              rintro _ _ _ ⟨rfl, rfl, rfl⟩
              refine xs [0] [0, 1, 2, 3, 4] rfl rfl rfl (xv 22 [0] [0, 1, 2, 3, 4] rfl (EV.nt rfl) rfl rfl rfl rfl (xv 23 [0] [0, 1, 2, 3, 4] rfl (EV.pf rfl rfl rfl) rfl rfl rfl rfl (xd (pr [1, 232] [0] [0, 1, 2, 3, 4] rfl rfl rfl rfl ?_))))
              revert H; refine ifsI ?_ ?_ <;> intro c74 H
              ·
               subst c74
               refine gf rfl rfl (gk (gs (gs (rg (sv (EV.fa 8 rfl) rfl (sv (EV.ld 0 none rfl rfl rfl) rfl (sv (EV.eql rfl rfl) rfl (re ?_))))))))
               revert H; refine ifsI ?_ ?_ <;> intro c75 H
               ·
                refine gt rfl (dT c75) (gs (rg (sv (EV.fa 5 rfl) rfl (sv (EV.ld 0 none rfl rfl rfl) rfl (sv (EV.ln rfl) rfl (sv (EV.eql rfl rfl) rfl (sv (EV.mv rfl) rfl ?_)))))))
                revert H; refine ifsI ?_ ?_ <;> intro c76 H
                ·
                 refine ts 240 rfl (dT c76) (sv (EV.fa 6 rfl) rfl (sv (EV.ld 0 none rfl rfl rfl) rfl (sv (EV.fa 0 rfl) rfl (sv (EV.ld 0 none rfl rfl rfl) rfl (sv (EV.ln rfl) rfl (sv (EV.sub rfl rfl) rfl ?_))))))
                 revert H; refine bdI ?_; rintro t77 A77 H
                 refine so rfl (op_call (spec_l1In.ok x2_1_6 0 (wrap64 ((l0_0.length : Int) - 1)) _ A77) [] 1 rfl rfl rfl rfl rfl ?_)
                 rintro _ _ _ ⟨rfl, rfl, rfl⟩
                 refine sv (EV.pt rfl rfl rfl) rfl (sv (EV.as rfl) rfl (re (pr [2] [] [] rfl rfl rfl rfl ?_)))
                 cases H
                 exact rt Try.func16 rfl (.tmp rfl .nil) rfl [] [] rfl rfl rfl rfl rfl ⟨rfl, rfl, rfl⟩
                ·
                 refine ts 240 rfl (dF c76) (sk rfl (sk rfl (sk rfl (sk rfl (sk rfl (sk rfl (sk rfl (sv (EV.pf rfl rfl rfl) rfl (sv (EV.as rfl) rfl (re (pr [2] [] [] rfl rfl rfl rfl ?_)))))))))))
                 cases H
                 exact rt Try.func16 rfl (.tmp rfl .nil) rfl [] [] rfl rfl rfl rfl rfl ⟨rfl, rfl, rfl⟩
               ·
                refine gf rfl (dF c75) (gk (gs (rg (sv (EV.fa 8 rfl) rfl (sv (EV.ld 0 none rfl rfl rfl) rfl (sv (EV.eql rfl rfl) rfl (sv (EV.mv rfl) rfl ?_)))))))
                revert H; refine ifsI ?_ ?_ <;> intro c78 H
                ·
                 refine ts 252 rfl (dT c78) (sv (EV.fa 6 rfl) rfl (sv (EV.ld 0 none rfl rfl rfl) rfl (sv (EV.fa 0 rfl) rfl (sv (EV.ld 0 none rfl rfl rfl) rfl (sv (EV.ln rfl) rfl (sv (EV.eql rfl rfl) rfl (sv (EV.pt rfl rfl rfl) rfl (sv (EV.as rfl) rfl (re (pr [2] [] [] rfl rfl rfl rfl ?_))))))))))
                 cases H
                 exact rt Try.func16 rfl (.tmp rfl .nil) rfl [] [] rfl rfl rfl rfl rfl ⟨rfl, rfl, rfl⟩
                ·
                 refine ts 252 rfl (dF c78) (sk rfl (sk rfl (sk rfl (sk rfl (sk rfl (sk rfl (sv (EV.pf rfl rfl rfl) rfl (sv (EV.as rfl) rfl (re (pr [2] [] [] rfl rfl rfl rfl ?_))))))))))
                 cases H
                 exact rt Try.func16 rfl (.tmp rfl .nil) rfl [] [] rfl rfl rfl rfl rfl ⟨rfl, rfl, rfl⟩
              ·
               have xc74 := bF c74; subst xc74
               refine gt rfl rfl (gs (rg (sv (EV.as rfl) rfl (re ?_))))
               cases H
               exact rt Try.func16 rfl (.tmp rfl .nil) rfl [] [] rfl rfl rfl rfl rfl ⟨rfl, rfl, rfl⟩
            ·
             refine dr [0] [0, 1, 2, 3, 4] [] 24 rfl rfl rfl rfl (xv 0 [0] [0, 1, 2, 3, 4] rfl (EV.fa 5 rfl) rfl rfl rfl rfl (xv 1 [0] [0, 1, 2, 3, 4] rfl (EV.ld 0 none rfl rfl rfl) rfl rfl rfl rfl (xv 2 [0] [0, 1, 2, 3, 4] rfl (EV.ln rfl) rfl rfl rfl rfl (xv 3 [0] [0, 1, 2, 3, 4] rfl (EV.gtr rfl rfl) rfl rfl rfl rfl (xv 4 [0] [0, 1, 2, 3, 4] rfl (EV.mv rfl) rfl rfl rfl rfl (ts 213 rfl (dF c69) (xv 5 [0] [0, 1, 2, 3, 4] rfl (EV.fa 7 rfl) rfl rfl rfl rfl (xv 6 [0] [0, 1, 2, 3, 4] rfl (EV.ld 0 none rfl rfl rfl) rfl rfl rfl rfl (xv 7 [0] [0, 1, 2, 3, 4] rfl (EV.neq rfl rfl) rfl rfl rfl rfl (xv 8 [0] [0, 1, 2, 3, 4] rfl (EV.pf rfl rfl rfl) rfl rfl rfl rfl (xv 9 [0] [0, 1, 2, 3, 4] rfl (EV.mv rfl) rfl rfl rfl rfl (ts 218 rfl (nT c70) (xk 10 [0] [0, 1, 2, 3, 4] rfl rfl rfl rfl rfl (xk 11 [0] [0, 1, 2, 3, 4] rfl rfl rfl rfl rfl (xk 12 [0] [0, 1, 2, 3, 4] rfl rfl rfl rfl rfl (xk 13 [0] [0, 1, 2, 3, 4] rfl rfl rfl rfl rfl (xv 14 [0] [0, 1, 2, 3, 4] rfl (EV.pt rfl rfl rfl) rfl rfl rfl rfl (xv 15 [0] [0, 1, 2, 3, 4] rfl (EV.mv rfl) rfl rfl rfl rfl (xk 16 [0] [0, 1, 2, 3, 4] rfl rfl rfl rfl rfl (xk 17 [0] [0, 1, 2, 3, 4] rfl rfl rfl rfl rfl (xk 19 [0] [0, 1, 2, 3, 4] rfl rfl rfl rfl rfl (xk 20 [0] [0, 1, 2, 3, 4] rfl rfl rfl rfl rfl (xk 18 [0] [0, 1, 2, 3, 4] rfl rfl rfl rfl rfl (xk 21 [0] [0, 1, 2, 3, 4] rfl rfl rfl rfl rfl (xk 22 [0] [0, 1, 2, 3, 4] rfl rfl rfl rfl rfl (xv 23 [0] [0, 1, 2, 3, 4] rfl (EV.pt rfl rfl rfl) rfl rfl rfl rfl (xd (pr [1, 232] [0] [0, 1, 2, 3, 4] rfl rfl rfl rfl (gt rfl rfl ?_)))))))))))))))))))))))))))))
             refine gs (rg (sv (EV.as rfl) rfl (re ?_)))
             cases H
             exact rt Try.func16 rfl (.tmp rfl .nil) rfl [] [] rfl rfl rfl rfl rfl ⟨rfl, rfl, rfl⟩
        ·
         refine ts 117 rfl (nT c39) (sk rfl (sk rfl (sk rfl (sk rfl (sk rfl (sk rfl (sk rfl (sk rfl (sv (EV.pt rfl rfl rfl) rfl (re (pr [1, 126] [0] [0, 1, 2, 3, 4] rfl rfl rfl rfl (gt rfl rfl (gs (rg (sv (EV.as rfl) rfl (re ?_))))))))))))))))
         cases H
         exact rt Try.func16 rfl (.tmp rfl .nil) rfl [] [] rfl rfl rfl rfl rfl ⟨rfl, rfl, rfl⟩
     ·
      have xc9 := bF c9; subst xc9
      refine gt rfl rfl (gs (rg (sv (EV.as rfl) rfl (re ?_))))
      cases H
      exact rt Try.func16 rfl (.tmp rfl .nil) rfl [] [] rfl rfl rfl rfl rfl ⟨rfl, rfl, rfl⟩
   ·
    have xc6 := bF c6; subst xc6
    refine ts 26 rfl rfl (sk rfl (sk rfl (sk rfl (sv (EV.pt rfl rfl rfl) rfl (sv (EV.mv rfl) rfl (sk rfl (sk rfl (sk rfl (sk rfl (sv (EV.pt rfl rfl rfl) rfl (re (pr [1, 36] [0] [0, 1, 2, 3, 4] rfl rfl rfl rfl (gt rfl rfl (gs (rg (sv (EV.as rfl) rfl (re ?_)))))))))))))))))
    cases H
    exact rt Try.func16 rfl (.tmp rfl .nil) rfl [] [] rfl rfl rfl rfl rfl ⟨rfl, rfl, rfl⟩
  ·
   have xc4 := bF c4; subst xc4
   refine ts 20 rfl rfl (sk rfl (sk rfl (sk rfl (sk rfl (sv (EV.pt rfl rfl rfl) rfl (sv (EV.mv rfl) rfl (sk rfl (sk rfl (sk rfl (sv (EV.pt rfl rfl rfl) rfl (sv (EV.mv rfl) rfl (sk rfl (sk rfl (sk rfl (sk rfl (sv (EV.pt rfl rfl rfl) rfl (re (pr [1, 36] [0] [0, 1, 2, 3, 4] rfl rfl rfl rfl (gt rfl rfl (gs (rg (sv (EV.as rfl) rfl (re ?_)))))))))))))))))))))))
   cases H
   exact rt Try.func16 rfl (.tmp rfl .nil) rfl [] [] rfl rfl rfl rfl rfl ⟨rfl, rfl, rfl⟩
 ·
  have xc2 := bF c2; subst xc2
  refine ts 11 rfl rfl (sk rfl (sk rfl (sk rfl (sk rfl (sk rfl (sk rfl (sk rfl (sv (EV.pt rfl rfl rfl) rfl (sv (EV.mv rfl) rfl (sk rfl (sk rfl (sk rfl (sk rfl (sv (EV.pt rfl rfl rfl) rfl (sv (EV.mv rfl) rfl (sk rfl (sk rfl (sk rfl (sv (EV.pt rfl rfl rfl) rfl (sv (EV.mv rfl) rfl (sk rfl (sk rfl (sk rfl (sk rfl (sv (EV.pt rfl rfl rfl) rfl (re (pr [1, 36] [0] [0, 1, 2, 3, 4] rfl rfl rfl rfl (gt rfl rfl (gs ?_)))))))))))))))))))))))))))))
  refine rg (sv (EV.as rfl) rfl (re ?_))
  cases H
  exact rt Try.func16 rfl (.tmp rfl .nil) rfl [] [] rfl rfl rfl rfl rfl ⟨rfl, rfl, rfl⟩
mutual
def spec_FormatRows.j0 : Nat → ByteArray → Int → Bool → (List S72) → Option (ByteArray)
 | 0, _, _, _, _ => none
 | k + 1, x10_3, x10_4, x10_11, l0 => if 0 ≤ x10_4 then (if x10_4 < (l0.length : Int) then ((spec_FormatRow.f k ((rd_T72 l0 x10_4).f0) ((rd_T72 l0 x10_4).f1) ((rd_T72 l0 x10_4).f2)).bind fun t7 => (if x10_3.size + t7.size ≤ 9223372036854775807 then (spec_FormatRows.l0 k (x10_3 ++ t7) (wrap64 (x10_4 + 1)) l0) else none)) else none) else none
def spec_FormatRows.l0 : Nat → ByteArray → Int → (List S72) → Option (ByteArray)
 | 0, _, _, _ => none
 | k + 1, x6_3, x6_4, l0 => if x6_4 < (l0.length : Int) then ((spec_AreValidRows.f k l0).bind fun t2 => (if t2 = true then (if x6_4 > 0 then (if x6_3.size + (⟨#[32]⟩ : ByteArray).size ≤ 9223372036854775807 then (spec_FormatRows.j0 k (x6_3 ++ (⟨#[32]⟩ : ByteArray)) x6_4 true l0) else none) else (spec_FormatRows.j0 k x6_3 x6_4 true l0)) else (some x6_3))) else (some x6_3)
end
def spec_FormatRows.f (k : Nat) (l0 : List S72) : Option (ByteArray) := spec_FormatRows.l0 k (⟨#[]⟩ : ByteArray) 0 l0
set_option maxHeartbeats 4000000 in
set_option maxRecDepth 100000 in
theorem spec_FormatRows.ok (k : Nat) (l0 : List S72) (Al0 : Option Addr) (cl0 : Nat) (r0 : ByteArray) (H : spec_FormatRows.f k l0 = some r0) : Fn Try.prog 17 [.slice Al0 l0.length cl0] [] [.sl 0 k72 Al0 cl0 l0 0 false] (fun v bx en => v = .string r0 ∧ bx = [] ∧ en = []) := by
 refine fn_ 27 Try.func17 rfl rfl rfl (fun base T w0 => ?_)
 rw [spec_FormatRows.f] at H
 refine gs (rg (sv (EV.as rfl) rfl (re (gs (rg (sv (EV.as rfl) rfl (re (gs (gs (rg (sv (EV.as rfl) rfl (re (gb ?_)))))))))))))
 refine lo (fun kk S => ∃ (x6_3 : ByteArray) (x6_4 : Int), spec_FormatRows.l0 kk x6_3 x6_4 l0 = some r0 ∧ S = ⟨[(0, .slice Al0 l0.length cl0), (3, .string x6_3), (4, .int .i64 x6_4)], [], [.sl 0 k72 Al0 cl0 l0 0 false]⟩) (fun S hS => ?_) (fun n0 ih0 S hS => ?_) ⟨(⟨#[]⟩ : ByteArray), 0, H, rfl⟩ (fun h => wk [0, 3, 4] [] [⟨0, 0, 0, false⟩] h)
 · clear H; obtain ⟨_, _, H, _⟩ := hS; rw [spec_FormatRows.l0] at H; cases H
 clear H
 obtain ⟨x6_3, x6_4, H, rfl⟩ := hS
 rw [spec_FormatRows.l0] at H
 refine gs (gs (rg (sv (EV.mv rfl) rfl (sv (EV.mv rfl) rfl (sv (EV.ln rfl) rfl (sv (EV.lss rfl rfl) rfl (sv (EV.mv rfl) rfl ?_)))))))
 revert H; refine ifsI ?_ ?_ <;> intro c1 H
 ·
  refine ts 9 rfl (dT c1) (sv (EV.mv rfl) rfl ?_)
  revert H; refine bdI ?_; rintro t2 A2 H
  refine so rfl (op_call (spec_AreValidRows.ok n0 l0 Al0 cl0 _ A2) [⟨0, 0, 0, false⟩] 1 rfl rfl rfl rfl rfl ?_)
  rintro _ _ _ ⟨rfl, rfl, rfl⟩
  refine sv (EV.pt rfl rfl rfl) rfl (re ?_)
  revert H; refine ifsI ?_ ?_ <;> intro c3 H
  ·
   subst c3
   refine gt rfl rfl (gk (gs (gb ?_)))
   refine jo (fun S => ∃ (m : Nat) (x10_3 : ByteArray) (x10_4 : Int) (x10_11 : Bool), m ≤ n0 ∧ spec_FormatRows.j0 m x10_3 x10_4 x10_11 l0 = some r0 ∧ S = ⟨[(0, .slice Al0 l0.length cl0), (3, .string x10_3), (4, .int .i64 x10_4), (10, .slice Al0 l0.length cl0), (11, .bool x10_11)], [], [.sl 0 k72 Al0 cl0 l0 0 false]⟩) (fun S hS => ?_) (fun jh0 => ?_)
   ·
    clear H
    obtain ⟨m4, x10_3, x10_4, x10_11, lm4, H, rfl⟩ := hS
    rcases m4 with _ | m4
    · rw [spec_FormatRows.j0] at H; cases H
    rw [spec_FormatRows.j0] at H
    refine rg (sv (EV.mv rfl) rfl (sv (EV.mv rfl) rfl (sv (EV.mv rfl) rfl ?_)))
    revert H; refine ggI ?_; intro g5 H
    revert H; refine ggI ?_; intro g6 H
    refine sv (EV.ix 0 rfl rfl rfl g5 g6 rfl) rfl (sv (EV.le (v := .agg #[.int .i64 ((rd_T72 l0 x10_4).f0), .int .i64 ((rd_T72 l0 x10_4).f1), .int .i64 ((rd_T72 l0 x10_4).f2)]) x10_4 0 (some 3) 0 z72 rfl rfl rfl g5 g6 rfl rfl rfl) rfl ?_)
    revert H; refine bdI ?_; rintro t7 A7 H
    refine so rfl (op_call (spec_FormatRow.ok m4 ((rd_T72 l0 x10_4).f0) ((rd_T72 l0 x10_4).f1) ((rd_T72 l0 x10_4).f2) _ A7) [] 1 rfl rfl rfl rfl rfl ?_)
    rintro _ _ _ ⟨rfl, rfl, rfl⟩
    revert H; refine ggI ?_; intro g8 H
    exact sv (EV.ads rfl rfl g8) rfl (sv (EV.as rfl) rfl (re (pr [0, 3, 4, 10, 11] [] [0] rfl rfl rfl rfl (ge (rg (sv (EV.mv rfl) rfl (sv (EV.add rfl rfl) rfl (sv (EV.as rfl) rfl (re (wk [0, 3, 4] [] [⟨0, 0, 0, false⟩] (ih0 _ (by omega) _ ⟨x10_3 ++ t7, wrap64 (x10_4 + 1), H, rfl⟩)))))))))))
   ·
    refine gs (rg (sv (EV.mv rfl) rfl (sv (EV.gtr rfl rfl) rfl (re (pr [0, 3, 4, 10, 11, 16] [] [0] rfl rfl rfl rfl ?_)))))
    revert H; refine ifsI ?_ ?_ <;> intro c9 H
    ·
     refine gt rfl (dT c9) (rg (sv (EV.mv rfl) rfl ?_))
     revert H; refine ggI ?_; intro g10 H
     exact sv (EV.ads rfl rfl g10) rfl (sv (EV.as rfl) rfl (re (wk [0, 3, 4, 10, 11] [] [⟨0, 0, 0, false⟩] (jh0 _ ⟨_, x6_3 ++ (⟨#[32]⟩ : ByteArray), x6_4, true, by omega, H, rfl⟩))))
    ·
     exact gf rfl (dF c9) (gk (wk [0, 3, 4, 10, 11] [] [⟨0, 0, 0, false⟩] (jh0 _ ⟨_, x6_3, x6_4, true, by omega, H, rfl⟩)))
  ·
   have xc3 := bF c3; subst xc3
   refine gf rfl rfl (gx rfl (gs (rg (sv (EV.mv rfl) rfl (sv (EV.as rfl) rfl (re (pr [2] [] [] rfl rfl rfl rfl ?_)))))))
   cases H
   exact rt Try.func17 rfl (.tmp rfl .nil) rfl [] [] rfl rfl rfl rfl rfl ⟨rfl, rfl, rfl⟩
 ·
  refine ts 9 rfl (dF c1) (sk rfl (sk rfl (sv (EV.pf rfl rfl rfl) rfl (re (pr [0, 3, 4, 12] [] [0] rfl rfl rfl rfl (gf rfl rfl (gx rfl (gs (rg (sv (EV.mv rfl) rfl (sv (EV.as rfl) rfl (re ?_))))))))))))
  cases H
  exact rt Try.func17 rfl (.tmp rfl .nil) rfl [] [] rfl rfl rfl rfl rfl ⟨rfl, rfl, rfl⟩
mutual
def spec_FormatRuns.j0 : Nat → ByteArray → Int → (List S57) → Option (ByteArray)
 | 0, _, _, _ => none
 | k + 1, x10_3, x10_4, l0 => if 0 ≤ x10_4 then (if x10_4 < (l0.length : Int) then ((spec_FormatRows.f k ((rd_T57 l0 x10_4).f0)).bind fun t6 => (if x10_3.size + t6.size ≤ 9223372036854775807 then (spec_FormatRuns.l0 k (x10_3 ++ t6) (wrap64 (x10_4 + 1)) l0) else none)) else none) else none
def spec_FormatRuns.l0 : Nat → ByteArray → Int → (List S57) → Option (ByteArray)
 | 0, _, _, _ => none
 | k + 1, x6_3, x6_4, l0 => if x6_4 < (l0.length : Int) then (if x6_4 > 0 then (if x6_3.size + (⟨#[124]⟩ : ByteArray).size ≤ 9223372036854775807 then (spec_FormatRuns.j0 k (x6_3 ++ (⟨#[124]⟩ : ByteArray)) x6_4 l0) else none) else (spec_FormatRuns.j0 k x6_3 x6_4 l0)) else (some x6_3)
end
def spec_FormatRuns.f (k : Nat) (l0 : List S57) : Option (ByteArray) := spec_FormatRuns.l0 k (⟨#[]⟩ : ByteArray) 0 l0
set_option maxHeartbeats 4000000 in
set_option maxRecDepth 100000 in
theorem spec_FormatRuns.ok (k : Nat) (l0 : List S57) (Al0 : Option Addr) (cl0 : Nat) (r0 : ByteArray) (H : spec_FormatRuns.f k l0 = some r0) : Fn Try.prog 19 [.slice Al0 l0.length cl0] [] [.sl 0 k57 Al0 cl0 l0 0 false] (fun v bx en => v = .string r0 ∧ bx = [] ∧ en = []) := by
 refine fn_ 24 Try.func19 rfl rfl rfl (fun base T w0 => ?_)
 rw [spec_FormatRuns.f] at H
 refine gs (rg (sv (EV.as rfl) rfl (re (gs (rg (sv (EV.as rfl) rfl (re (gs (gs (rg (sv (EV.as rfl) rfl (re (gb ?_)))))))))))))
 refine lo (fun kk S => ∃ (x6_3 : ByteArray) (x6_4 : Int), spec_FormatRuns.l0 kk x6_3 x6_4 l0 = some r0 ∧ S = ⟨[(0, .slice Al0 l0.length cl0), (3, .string x6_3), (4, .int .i64 x6_4)], [], [.sl 0 k57 Al0 cl0 l0 0 false]⟩) (fun S hS => ?_) (fun n0 ih0 S hS => ?_) ⟨(⟨#[]⟩ : ByteArray), 0, H, rfl⟩ (fun h => wk [0, 3, 4] [] [⟨0, 0, 0, false⟩] h)
 · clear H; obtain ⟨_, _, H, _⟩ := hS; rw [spec_FormatRuns.l0] at H; cases H
 clear H
 obtain ⟨x6_3, x6_4, H, rfl⟩ := hS
 rw [spec_FormatRuns.l0] at H
 refine gs (gs (rg (sv (EV.mv rfl) rfl (sv (EV.mv rfl) rfl (sv (EV.ln rfl) rfl (sv (EV.lss rfl rfl) rfl (re ?_)))))))
 revert H; refine ifsI ?_ ?_ <;> intro c1 H
 ·
  refine gt rfl (dT c1) (gk (gs (gb ?_)))
  refine jo (fun S => ∃ (m : Nat) (x10_3 : ByteArray) (x10_4 : Int), m ≤ n0 ∧ spec_FormatRuns.j0 m x10_3 x10_4 l0 = some r0 ∧ S = ⟨[(0, .slice Al0 l0.length cl0), (3, .string x10_3), (4, .int .i64 x10_4)], [], [.sl 0 k57 Al0 cl0 l0 0 false]⟩) (fun S hS => ?_) (fun jh0 => ?_)
  ·
   clear H
   obtain ⟨m2, x10_3, x10_4, lm2, H, rfl⟩ := hS
   rcases m2 with _ | m2
   · rw [spec_FormatRuns.j0] at H; cases H
   rw [spec_FormatRuns.j0] at H
   refine rg (sv (EV.mv rfl) rfl (sv (EV.mv rfl) rfl (sv (EV.mv rfl) rfl ?_)))
   revert H; refine ggI ?_; intro g3 H
   revert H; refine ggI ?_; intro g4 H
   refine sv (EV.ix 0 rfl rfl rfl g3 g4 rfl) rfl (sv (EV.fa 0 rfl) rfl (opn (i := x10_4) 0 z57 rfl g3 g4 fun A_5 c_5 => (sv (EV.lc (v := .slice A_5 ((rd_T57 l0 x10_4).f0).length c_5) 0 none 1 rfl rfl rfl rfl) rfl ?_)))
   revert H; refine bdI ?_; rintro t6 A6 H
   refine so rfl (op_call (spec_FormatRows.ok m2 ((rd_T57 l0 x10_4).f0) A_5 c_5 _ A6) [⟨2, 0, 0, false⟩] 1 rfl rfl rfl rfl rfl ?_)
   rintro _ _ _ ⟨rfl, rfl, rfl⟩
   revert H; refine ggI ?_; intro g7 H
   exact sv (EV.ads rfl rfl g7) rfl (sv (EV.as rfl) rfl (re (pr [0, 3, 4] [] [0] rfl rfl rfl rfl (ge (rg (sv (EV.mv rfl) rfl (sv (EV.add rfl rfl) rfl (sv (EV.as rfl) rfl (re (wk [0, 3, 4] [] [⟨0, 0, 0, false⟩] (ih0 _ (by omega) _ ⟨x10_3 ++ t6, wrap64 (x10_4 + 1), H, rfl⟩)))))))))))
  ·
   refine gs (rg (sv (EV.mv rfl) rfl (sv (EV.gtr rfl rfl) rfl (re ?_))))
   revert H; refine ifsI ?_ ?_ <;> intro c8 H
   ·
    refine gt rfl (dT c8) (rg (sv (EV.mv rfl) rfl ?_))
    revert H; refine ggI ?_; intro g9 H
    exact sv (EV.ads rfl rfl g9) rfl (sv (EV.as rfl) rfl (re (pr [0, 3, 4] [] [0] rfl rfl rfl rfl (wk [0, 3, 4] [] [⟨0, 0, 0, false⟩] (jh0 _ ⟨_, x6_3 ++ (⟨#[124]⟩ : ByteArray), x6_4, by omega, H, rfl⟩)))))
   ·
    exact gf rfl (dF c8) (gk (wk [0, 3, 4] [] [⟨0, 0, 0, false⟩] (jh0 _ ⟨_, x6_3, x6_4, by omega, H, rfl⟩)))
 ·
  refine gf rfl (dF c1) (gx rfl (gs (rg (sv (EV.mv rfl) rfl (sv (EV.as rfl) rfl (re (pr [2] [] [] rfl rfl rfl rfl ?_)))))))
  cases H
  exact rt Try.func19 rfl (.tmp rfl .nil) rfl [] [] rfl rfl rfl rfl rfl ⟨rfl, rfl, rfl⟩
def spec_FormatSorter.f (k : Nat) (l0_0 : List S72) (a0_1 : Int) (l0_2 : List S72) (l0_3 : List S72) (l0_4 : List S72) (l0_5 : List S57) (a0_6 : Int) (a0_7 : Int) (a0_8 : Int) (a0_9 : Int) : Option (ByteArray) := (spec_IsValidSorter.f k l0_0 a0_1 l0_2 l0_3 l0_4 l0_5 a0_6 a0_7 a0_8 a0_9).bind fun t1 => (if t1 = true then ((spec_FormatRows.f k l0_0).bind fun t3 => (if t3.size + (⟨#[47]⟩ : ByteArray).size ≤ 9223372036854775807 then ((spec_FormatInt.f k a0_1).bind fun t5 => (if (t3 ++ (⟨#[47]⟩ : ByteArray)).size + t5.size ≤ 9223372036854775807 then (if ((t3 ++ (⟨#[47]⟩ : ByteArray)) ++ t5).size + (⟨#[47]⟩ : ByteArray).size ≤ 9223372036854775807 then ((spec_FormatRows.f k l0_2).bind fun t8 => (if (((t3 ++ (⟨#[47]⟩ : ByteArray)) ++ t5) ++ (⟨#[47]⟩ : ByteArray)).size + t8.size ≤ 9223372036854775807 then (if ((((t3 ++ (⟨#[47]⟩ : ByteArray)) ++ t5) ++ (⟨#[47]⟩ : ByteArray)) ++ t8).size + (⟨#[47]⟩ : ByteArray).size ≤ 9223372036854775807 then ((spec_FormatRows.f k l0_3).bind fun t11 => (if (((((t3 ++ (⟨#[47]⟩ : ByteArray)) ++ t5) ++ (⟨#[47]⟩ : ByteArray)) ++ t8) ++ (⟨#[47]⟩ : ByteArray)).size + t11.size ≤ 9223372036854775807 then (if ((((((t3 ++ (⟨#[47]⟩ : ByteArray)) ++ t5) ++ (⟨#[47]⟩ : ByteArray)) ++ t8) ++ (⟨#[47]⟩ : ByteArray)) ++ t11).size + (⟨#[47]⟩ : ByteArray).size ≤ 9223372036854775807 then ((spec_FormatRows.f k l0_4).bind fun t14 => (if (((((((t3 ++ (⟨#[47]⟩ : ByteArray)) ++ t5) ++ (⟨#[47]⟩ : ByteArray)) ++ t8) ++ (⟨#[47]⟩ : ByteArray)) ++ t11) ++ (⟨#[47]⟩ : ByteArray)).size + t14.size ≤ 9223372036854775807 then (if ((((((((t3 ++ (⟨#[47]⟩ : ByteArray)) ++ t5) ++ (⟨#[47]⟩ : ByteArray)) ++ t8) ++ (⟨#[47]⟩ : ByteArray)) ++ t11) ++ (⟨#[47]⟩ : ByteArray)) ++ t14).size + (⟨#[47]⟩ : ByteArray).size ≤ 9223372036854775807 then ((spec_FormatRuns.f k l0_5).bind fun t17 => (if (((((((((t3 ++ (⟨#[47]⟩ : ByteArray)) ++ t5) ++ (⟨#[47]⟩ : ByteArray)) ++ t8) ++ (⟨#[47]⟩ : ByteArray)) ++ t11) ++ (⟨#[47]⟩ : ByteArray)) ++ t14) ++ (⟨#[47]⟩ : ByteArray)).size + t17.size ≤ 9223372036854775807 then (if ((((((((((t3 ++ (⟨#[47]⟩ : ByteArray)) ++ t5) ++ (⟨#[47]⟩ : ByteArray)) ++ t8) ++ (⟨#[47]⟩ : ByteArray)) ++ t11) ++ (⟨#[47]⟩ : ByteArray)) ++ t14) ++ (⟨#[47]⟩ : ByteArray)) ++ t17).size + (⟨#[47]⟩ : ByteArray).size ≤ 9223372036854775807 then ((spec_FormatInt.f k a0_6).bind fun t20 => (if (((((((((((t3 ++ (⟨#[47]⟩ : ByteArray)) ++ t5) ++ (⟨#[47]⟩ : ByteArray)) ++ t8) ++ (⟨#[47]⟩ : ByteArray)) ++ t11) ++ (⟨#[47]⟩ : ByteArray)) ++ t14) ++ (⟨#[47]⟩ : ByteArray)) ++ t17) ++ (⟨#[47]⟩ : ByteArray)).size + t20.size ≤ 9223372036854775807 then (if ((((((((((((t3 ++ (⟨#[47]⟩ : ByteArray)) ++ t5) ++ (⟨#[47]⟩ : ByteArray)) ++ t8) ++ (⟨#[47]⟩ : ByteArray)) ++ t11) ++ (⟨#[47]⟩ : ByteArray)) ++ t14) ++ (⟨#[47]⟩ : ByteArray)) ++ t17) ++ (⟨#[47]⟩ : ByteArray)) ++ t20).size + (⟨#[47]⟩ : ByteArray).size ≤ 9223372036854775807 then ((spec_FormatInt.f k a0_7).bind fun t23 => (if (((((((((((((t3 ++ (⟨#[47]⟩ : ByteArray)) ++ t5) ++ (⟨#[47]⟩ : ByteArray)) ++ t8) ++ (⟨#[47]⟩ : ByteArray)) ++ t11) ++ (⟨#[47]⟩ : ByteArray)) ++ t14) ++ (⟨#[47]⟩ : ByteArray)) ++ t17) ++ (⟨#[47]⟩ : ByteArray)) ++ t20) ++ (⟨#[47]⟩ : ByteArray)).size + t23.size ≤ 9223372036854775807 then (if ((((((((((((((t3 ++ (⟨#[47]⟩ : ByteArray)) ++ t5) ++ (⟨#[47]⟩ : ByteArray)) ++ t8) ++ (⟨#[47]⟩ : ByteArray)) ++ t11) ++ (⟨#[47]⟩ : ByteArray)) ++ t14) ++ (⟨#[47]⟩ : ByteArray)) ++ t17) ++ (⟨#[47]⟩ : ByteArray)) ++ t20) ++ (⟨#[47]⟩ : ByteArray)) ++ t23).size + (⟨#[47]⟩ : ByteArray).size ≤ 9223372036854775807 then ((spec_FormatInt.f k a0_8).bind fun t26 => (if (((((((((((((((t3 ++ (⟨#[47]⟩ : ByteArray)) ++ t5) ++ (⟨#[47]⟩ : ByteArray)) ++ t8) ++ (⟨#[47]⟩ : ByteArray)) ++ t11) ++ (⟨#[47]⟩ : ByteArray)) ++ t14) ++ (⟨#[47]⟩ : ByteArray)) ++ t17) ++ (⟨#[47]⟩ : ByteArray)) ++ t20) ++ (⟨#[47]⟩ : ByteArray)) ++ t23) ++ (⟨#[47]⟩ : ByteArray)).size + t26.size ≤ 9223372036854775807 then (if ((((((((((((((((t3 ++ (⟨#[47]⟩ : ByteArray)) ++ t5) ++ (⟨#[47]⟩ : ByteArray)) ++ t8) ++ (⟨#[47]⟩ : ByteArray)) ++ t11) ++ (⟨#[47]⟩ : ByteArray)) ++ t14) ++ (⟨#[47]⟩ : ByteArray)) ++ t17) ++ (⟨#[47]⟩ : ByteArray)) ++ t20) ++ (⟨#[47]⟩ : ByteArray)) ++ t23) ++ (⟨#[47]⟩ : ByteArray)) ++ t26).size + (⟨#[47]⟩ : ByteArray).size ≤ 9223372036854775807 then ((spec_FormatInt.f k a0_9).bind fun t29 => (if (((((((((((((((((t3 ++ (⟨#[47]⟩ : ByteArray)) ++ t5) ++ (⟨#[47]⟩ : ByteArray)) ++ t8) ++ (⟨#[47]⟩ : ByteArray)) ++ t11) ++ (⟨#[47]⟩ : ByteArray)) ++ t14) ++ (⟨#[47]⟩ : ByteArray)) ++ t17) ++ (⟨#[47]⟩ : ByteArray)) ++ t20) ++ (⟨#[47]⟩ : ByteArray)) ++ t23) ++ (⟨#[47]⟩ : ByteArray)) ++ t26) ++ (⟨#[47]⟩ : ByteArray)).size + t29.size ≤ 9223372036854775807 then (some ((((((((((((((((((t3 ++ (⟨#[47]⟩ : ByteArray)) ++ t5) ++ (⟨#[47]⟩ : ByteArray)) ++ t8) ++ (⟨#[47]⟩ : ByteArray)) ++ t11) ++ (⟨#[47]⟩ : ByteArray)) ++ t14) ++ (⟨#[47]⟩ : ByteArray)) ++ t17) ++ (⟨#[47]⟩ : ByteArray)) ++ t20) ++ (⟨#[47]⟩ : ByteArray)) ++ t23) ++ (⟨#[47]⟩ : ByteArray)) ++ t26) ++ (⟨#[47]⟩ : ByteArray)) ++ t29)) else none)) else none) else none)) else none) else none)) else none) else none)) else none) else none)) else none) else none)) else none) else none)) else none) else none)) else none) else none)) else none)) else (some (⟨#[]⟩ : ByteArray)))
set_option maxHeartbeats 4000000 in
set_option maxRecDepth 100000 in
theorem spec_FormatSorter.ok (k : Nat) (l0_0 : List S72) (Al0_0 : Option Addr) (cl0_0 : Nat) (a0_1 : Int) (l0_2 : List S72) (Al0_2 : Option Addr) (cl0_2 : Nat) (l0_3 : List S72) (Al0_3 : Option Addr) (cl0_3 : Nat) (l0_4 : List S72) (Al0_4 : Option Addr) (cl0_4 : Nat) (l0_5 : List S57) (Al0_5 : Option Addr) (cl0_5 : Nat) (a0_6 : Int) (a0_7 : Int) (a0_8 : Int) (a0_9 : Int) (r0 : ByteArray) (H : spec_FormatSorter.f k l0_0 a0_1 l0_2 l0_3 l0_4 l0_5 a0_6 a0_7 a0_8 a0_9 = some r0) : Fn Try.prog 6 [.agg #[.slice Al0_0 l0_0.length cl0_0, .int .i64 a0_1, .slice Al0_2 l0_2.length cl0_2, .slice Al0_3 l0_3.length cl0_3, .slice Al0_4 l0_4.length cl0_4, .slice Al0_5 l0_5.length cl0_5, .int .i64 a0_6, .int .i64 a0_7, .int .i64 a0_8, .int .i64 a0_9]] [] [.sl 0 k72 Al0_0 cl0_0 l0_0 0 false, .sl 0 k72 Al0_2 cl0_2 l0_2 0 false, .sl 0 k72 Al0_3 cl0_3 l0_3 0 false, .sl 0 k72 Al0_4 cl0_4 l0_4 0 false, .sl 0 k57 Al0_5 cl0_5 l0_5 0 false] (fun v bx en => v = .string r0 ∧ bx = [] ∧ en = []) := by
 refine fn_ 54 Try.func6 rfl rfl rfl (fun base T w0 => ?_)
 rw [spec_FormatSorter.f] at H
 refine gs (rg (so rfl (op_box (cs := [.slice Al0_0 l0_0.length cl0_0, .int .i64 a0_1, .slice Al0_2 l0_2.length cl0_2, .slice Al0_3 l0_3.length cl0_3, .slice Al0_4 l0_4.length cl0_4, .slice Al0_5 l0_5.length cl0_5, .int .i64 a0_6, .int .i64 a0_7, .int .i64 a0_8, .int .i64 a0_9]) rfl rfl rfl fun b1 => (sv (EV.as rfl) rfl (re (gs (gs (rg (sv (EV.ld (v := .agg #[.slice Al0_0 l0_0.length cl0_0, .int .i64 a0_1, .slice Al0_2 l0_2.length cl0_2, .slice Al0_3 l0_3.length cl0_3, .slice Al0_4 l0_4.length cl0_4, .slice Al0_5 l0_5.length cl0_5, .int .i64 a0_6, .int .i64 a0_7, .int .i64 a0_8, .int .i64 a0_9]) 0 (some 10) rfl rfl rfl) rfl ?_)))))))))
 revert H; refine bdI ?_; rintro t1 A1 H
 refine so rfl (op_call (spec_IsValidSorter.ok k l0_0 Al0_0 cl0_0 a0_1 l0_2 Al0_2 cl0_2 l0_3 Al0_3 cl0_3 l0_4 Al0_4 cl0_4 l0_5 Al0_5 cl0_5 a0_6 a0_7 a0_8 a0_9 _ A1) [⟨0, 0, 0, false⟩, ⟨1, 0, 0, false⟩, ⟨2, 0, 0, false⟩, ⟨3, 0, 0, false⟩, ⟨4, 0, 0, false⟩] 1 rfl rfl rfl rfl rfl ?_)
 rintro _ _ _ ⟨rfl, rfl, rfl⟩
 refine sv (EV.nt rfl) rfl (re ?_)
 revert H; refine ifsI ?_ ?_ <;> intro c2 H
 ·
  subst c2
  refine gf rfl rfl (gk (gs (dr [0] [0, 1, 2, 3, 4] [] 49 rfl rfl rfl rfl (xv 0 [0] [0, 1, 2, 3, 4] rfl (EV.fa 0 rfl) (by kernel_rfl) (by kernel_rfl) (by kernel_rfl) (by kernel_rfl) (xv 1 [0] [0, 1, 2, 3, 4] rfl (EV.ld 0 none rfl rfl rfl) (by kernel_rfl) (by kernel_rfl) (by kernel_rfl) (by kernel_rfl) (xv 4 [0] [0, 1, 2, 3, 4] rfl (EV.fa 1 rfl) (by kernel_rfl) (by kernel_rfl) (by kernel_rfl) (by kernel_rfl) (xv 5 [0] [0, 1, 2, 3, 4] rfl (EV.ld 0 none rfl rfl rfl) (by kernel_rfl) (by kernel_rfl) (by kernel_rfl) (by kernel_rfl) (xv 9 [0] [0, 1, 2, 3, 4] rfl (EV.fa 2 rfl) (by kernel_rfl) (by kernel_rfl) (by kernel_rfl) (by kernel_rfl) (xv 10 [0] [0, 1, 2, 3, 4] rfl (EV.ld 0 none rfl rfl rfl) (by kernel_rfl) (by kernel_rfl) (by kernel_rfl) (by kernel_rfl) (xv 14 [0] [0, 1, 2, 3, 4] rfl (EV.fa 3 rfl) (by kernel_rfl) (by kernel_rfl) (by kernel_rfl) (by kernel_rfl) (xv 15 [0] [0, 1, 2, 3, 4] rfl (EV.ld 0 none rfl rfl rfl) (by kernel_rfl) (by kernel_rfl) (by kernel_rfl) (by kernel_rfl) (xv 19 [0] [0, 1, 2, 3, 4] rfl (EV.fa 4 rfl) (by kernel_rfl) (by kernel_rfl) (by kernel_rfl) (by kernel_rfl) (xv 20 [0] [0, 1, 2, 3, 4] rfl (EV.ld 0 none rfl rfl rfl) (by kernel_rfl) (by kernel_rfl) (by kernel_rfl) (by kernel_rfl) (xv 24 [0] [0, 1, 2, 3, 4] rfl (EV.fa 5 rfl) (by kernel_rfl) (by kernel_rfl) (by kernel_rfl) (by kernel_rfl) (xv 25 [0] [0, 1, 2, 3, 4] rfl (EV.ld 0 none rfl rfl rfl) (by kernel_rfl) (by kernel_rfl) (by kernel_rfl) (by kernel_rfl) (xv 29 [0] [0, 1, 2, 3, 4] rfl (EV.fa 6 rfl) (by kernel_rfl) (by kernel_rfl) (by kernel_rfl) (by kernel_rfl) (xv 30 [0] [0, 1, 2, 3, 4] rfl (EV.ld 0 none rfl rfl rfl) (by kernel_rfl) (by kernel_rfl) (by kernel_rfl) (by kernel_rfl) (xv 34 [0] [0, 1, 2, 3, 4] rfl (EV.fa 7 rfl) (by kernel_rfl) (by kernel_rfl) (by kernel_rfl) (by kernel_rfl) (xv 35 [0] [0, 1, 2, 3, 4] rfl (EV.ld 0 none rfl rfl rfl) (by kernel_rfl) (by kernel_rfl) (by kernel_rfl) (by kernel_rfl) (xv 39 [0] [0, 1, 2, 3, 4] rfl (EV.fa 8 rfl) (by kernel_rfl) (by kernel_rfl) (by kernel_rfl) (by kernel_rfl) (xv 40 [0] [0, 1, 2, 3, 4] rfl (EV.ld 0 none rfl rfl rfl) (by kernel_rfl) (by kernel_rfl) (by kernel_rfl) (by kernel_rfl) (xv 44 [0] [0, 1, 2, 3, 4] rfl (EV.fa 9 rfl) (by kernel_rfl) (by kernel_rfl) (by kernel_rfl) (by kernel_rfl) (xv 45 [0] [0, 1, 2, 3, 4] rfl (EV.ld 0 none rfl rfl rfl) (by kernel_rfl) (by kernel_rfl) (by kernel_rfl) (by kernel_rfl) (one1 2 rfl rfl ?_))))))))))))))))))))))))
  revert H; refine bdI ?_; rintro t3 A3 H
  refine op_call (spec_FormatRows.ok k l0_0 Al0_0 cl0_0 _ A3) [⟨0, 0, 0, false⟩] 1 rfl rfl rfl rfl rfl ?_
  rintro _ _ _ ⟨rfl, rfl, rfl⟩
  refine xs [0] [0, 1, 2, 3, 4] rfl rfl rfl ?_
  revert H; refine ggI ?_; intro g4 H
  refine xv 3 [0] [0, 1, 2, 3, 4] rfl (EV.ads rfl rfl g4) (by kernel_rfl) (by kernel_rfl) (by kernel_rfl) (by kernel_rfl) (one1 6 rfl rfl ?_)
  revert H; refine bdI ?_; rintro t5 A5 H
  refine op_call (spec_FormatInt.ok k a0_1 _ A5) [] 1 rfl rfl rfl rfl rfl ?_
  rintro _ _ _ ⟨rfl, rfl, rfl⟩
  refine xs [0] [0, 1, 2, 3, 4] rfl rfl rfl ?_
  revert H; refine ggI ?_; intro g6 H
  refine xv 7 [0] [0, 1, 2, 3, 4] rfl (EV.ads rfl rfl g6) (by kernel_rfl) (by kernel_rfl) (by kernel_rfl) (by kernel_rfl) ?_
  revert H; refine ggI ?_; intro g7 H
  refine xv 8 [0] [0, 1, 2, 3, 4] rfl (EV.ads rfl rfl g7) (by kernel_rfl) (by kernel_rfl) (by kernel_rfl) (by kernel_rfl) (one1 11 rfl rfl ?_)
  revert H; refine bdI ?_; rintro t8 A8 H
  refine op_call (spec_FormatRows.ok k l0_2 Al0_2 cl0_2 _ A8) [⟨1, 0, 0, false⟩] 1 rfl rfl rfl rfl rfl ?_
  rintro _ _ _ ⟨rfl, rfl, rfl⟩
  refine xs [0] [0, 1, 2, 3, 4] rfl rfl rfl ?_
  revert H; refine ggI ?_; intro g9 H
  refine xv 12 [0] [0, 1, 2, 3, 4] rfl (EV.ads rfl rfl g9) (by kernel_rfl) (by kernel_rfl) (by kernel_rfl) (by kernel_rfl) ?_
  revert H; refine ggI ?_; intro g10 H
  refine xv 13 [0] [0, 1, 2, 3, 4] rfl (EV.ads rfl rfl g10) (by kernel_rfl) (by kernel_rfl) (by kernel_rfl) (by kernel_rfl) (one1 16 rfl rfl ?_)
  revert H; refine bdI ?_; rintro t11 A11 H
  refine op_call (spec_FormatRows.ok k l0_3 Al0_3 cl0_3 _ A11) [⟨2, 0, 0, false⟩] 1 rfl rfl rfl rfl rfl ?_
  rintro _ _ _ ⟨rfl, rfl, rfl⟩
  refine xs [0] [0, 1, 2, 3, 4] rfl rfl rfl ?_
  revert H; refine ggI ?_; intro g12 H
  refine xv 17 [0] [0, 1, 2, 3, 4] rfl (EV.ads rfl rfl g12) (by kernel_rfl) (by kernel_rfl) (by kernel_rfl) (by kernel_rfl) ?_
  revert H; refine ggI ?_; intro g13 H
  refine xv 18 [0] [0, 1, 2, 3, 4] rfl (EV.ads rfl rfl g13) (by kernel_rfl) (by kernel_rfl) (by kernel_rfl) (by kernel_rfl) (one1 21 rfl rfl ?_)
  revert H; refine bdI ?_; rintro t14 A14 H
  refine op_call (spec_FormatRows.ok k l0_4 Al0_4 cl0_4 _ A14) [⟨3, 0, 0, false⟩] 1 rfl rfl rfl rfl rfl ?_
  rintro _ _ _ ⟨rfl, rfl, rfl⟩
  refine xs [0] [0, 1, 2, 3, 4] rfl rfl rfl ?_
  revert H; refine ggI ?_; intro g15 H
  refine xv 22 [0] [0, 1, 2, 3, 4] rfl (EV.ads rfl rfl g15) (by kernel_rfl) (by kernel_rfl) (by kernel_rfl) (by kernel_rfl) ?_
  revert H; refine ggI ?_; intro g16 H
  refine xv 23 [0] [0, 1, 2, 3, 4] rfl (EV.ads rfl rfl g16) (by kernel_rfl) (by kernel_rfl) (by kernel_rfl) (by kernel_rfl) (one1 26 rfl rfl ?_)
  revert H; refine bdI ?_; rintro t17 A17 H
  refine op_call (spec_FormatRuns.ok k l0_5 Al0_5 cl0_5 _ A17) [⟨4, 0, 0, false⟩] 1 rfl rfl rfl rfl rfl ?_
  rintro _ _ _ ⟨rfl, rfl, rfl⟩
  refine xs [0] [0, 1, 2, 3, 4] rfl rfl rfl ?_
  revert H; refine ggI ?_; intro g18 H
  refine xv 27 [0] [0, 1, 2, 3, 4] rfl (EV.ads rfl rfl g18) (by kernel_rfl) (by kernel_rfl) (by kernel_rfl) (by kernel_rfl) ?_
  revert H; refine ggI ?_; intro g19 H
  refine xv 28 [0] [0, 1, 2, 3, 4] rfl (EV.ads rfl rfl g19) (by kernel_rfl) (by kernel_rfl) (by kernel_rfl) (by kernel_rfl) (one1 31 rfl rfl ?_)
  revert H; refine bdI ?_; rintro t20 A20 H
  refine op_call (spec_FormatInt.ok k a0_6 _ A20) [] 1 rfl rfl rfl rfl rfl ?_
  rintro _ _ _ ⟨rfl, rfl, rfl⟩
  refine xs [0] [0, 1, 2, 3, 4] rfl rfl rfl ?_
  revert H; refine ggI ?_; intro g21 H
  refine xv 32 [0] [0, 1, 2, 3, 4] rfl (EV.ads rfl rfl g21) (by kernel_rfl) (by kernel_rfl) (by kernel_rfl) (by kernel_rfl) ?_
  revert H; refine ggI ?_; intro g22 H
  refine xv 33 [0] [0, 1, 2, 3, 4] rfl (EV.ads rfl rfl g22) (by kernel_rfl) (by kernel_rfl) (by kernel_rfl) (by kernel_rfl) (one1 36 rfl rfl ?_)
  revert H; refine bdI ?_; rintro t23 A23 H
  refine op_call (spec_FormatInt.ok k a0_7 _ A23) [] 1 rfl rfl rfl rfl rfl ?_
  rintro _ _ _ ⟨rfl, rfl, rfl⟩
  refine xs [0] [0, 1, 2, 3, 4] rfl rfl rfl ?_
  revert H; refine ggI ?_; intro g24 H
  refine xv 37 [0] [0, 1, 2, 3, 4] rfl (EV.ads rfl rfl g24) (by kernel_rfl) (by kernel_rfl) (by kernel_rfl) (by kernel_rfl) ?_
  revert H; refine ggI ?_; intro g25 H
  refine xv 38 [0] [0, 1, 2, 3, 4] rfl (EV.ads rfl rfl g25) (by kernel_rfl) (by kernel_rfl) (by kernel_rfl) (by kernel_rfl) (one1 41 rfl rfl ?_)
  revert H; refine bdI ?_; rintro t26 A26 H
  refine op_call (spec_FormatInt.ok k a0_8 _ A26) [] 1 rfl rfl rfl rfl rfl ?_
  rintro _ _ _ ⟨rfl, rfl, rfl⟩
  refine xs [0] [0, 1, 2, 3, 4] rfl rfl rfl ?_
  revert H; refine ggI ?_; intro g27 H
  refine xv 42 [0] [0, 1, 2, 3, 4] rfl (EV.ads rfl rfl g27) (by kernel_rfl) (by kernel_rfl) (by kernel_rfl) (by kernel_rfl) ?_
  revert H; refine ggI ?_; intro g28 H
  refine xv 43 [0] [0, 1, 2, 3, 4] rfl (EV.ads rfl rfl g28) (by kernel_rfl) (by kernel_rfl) (by kernel_rfl) (by kernel_rfl) (one1 46 rfl rfl ?_)
  revert H; refine bdI ?_; rintro t29 A29 H
  refine op_call (spec_FormatInt.ok k a0_9 _ A29) [] 1 rfl rfl rfl rfl rfl ?_
  rintro _ _ _ ⟨rfl, rfl, rfl⟩
  refine xs [0] [0, 1, 2, 3, 4] rfl rfl rfl ?_
  revert H; refine ggI ?_; intro g30 H
  refine xv 47 [0] [0, 1, 2, 3, 4] rfl (EV.ads rfl rfl g30) (by kernel_rfl) (by kernel_rfl) (by kernel_rfl) (by kernel_rfl) (xv 48 [0] [0, 1, 2, 3, 4] rfl (EV.as rfl) (by kernel_rfl) (by kernel_rfl) (by kernel_rfl) (by kernel_rfl) (xd (pr [2] [] [] rfl rfl rfl rfl ?_)))
  cases H
  exact rt Try.func6 rfl (.tmp rfl .nil) rfl [] [] rfl rfl rfl rfl rfl ⟨rfl, rfl, rfl⟩
 ·
  have xc2 := bF c2; subst xc2
  refine gt rfl rfl (gs (rg (sv (EV.as rfl) rfl (re ?_))))
  cases H
  exact rt Try.func6 rfl (.tmp rfl .nil) rfl [] [] rfl rfl rfl rfl rfl ⟨rfl, rfl, rfl⟩
end Go.Proofs.Ytnadolmpaeenpaa.K
