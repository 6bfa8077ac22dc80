/- Walks: what the functions compute. Printed by gen.py; no condition. -/
import Derived.Test.YtfcebaplphpajaaVFnExactStepsToFinishd
namespace Go.Proofs.Ytfcebaplphpajaa.K
open Go Go.RowKit
set_option linter.unusedVariables false
set_option linter.unusedSimpArgs false
def impl_runJoiner.l0 : Nat → (List S68) → Int → Int → (List S99) → Int → Int → Int → (List S99) → Int → Int → Int → (List Int) → Option ((List S99) × Int × Int × Int × Bool)
 | 0, _, _, _, _, _, _, _, _, _, _, _, _ => none
 | k + 1, x4_2_0, x4_2_1, x4_2_2, x4_4_0, x4_4_1, x4_4_2, x4_4_3, x4_6_0, x4_6_1, x4_6_2, x4_6_3, l1 => if (x4_2_0.length : Int) > 0 then (if (l1.length : Int) ≠ 0 then (if 0 ≤ (Int.tmod x4_6_1 (l1.length : Int)) then (if (Int.tmod x4_6_1 (l1.length : Int)) < (l1.length : Int) then ((impl_StepJoiner.f k x4_2_0 x4_2_1 x4_2_2 (rdOf 0 l1 (Int.tmod x4_6_1 (l1.length : Int)))).bind fun bt5 => (if bt5.2.2.2.2.2 = true then (if x4_6_0.length + bt5.2.2.2.1.length ≤ 2513169434916 then (impl_runJoiner.l0 k bt5.1 bt5.2.1 bt5.2.2.1 x4_4_0 x4_4_1 x4_4_2 x4_4_3 (x4_6_0 ++ bt5.2.2.2.1) (wrap64 (x4_6_1 + 1)) (mx x4_6_2 bt5.2.2.2.2.1) x4_6_3 l1) else none) else (some ([], 0, 0, 0, false)))) else none) else none) else none) else (some (x4_6_0, x4_6_1, x4_6_2, x4_2_1, true))
def impl_runJoiner.f (k : Nat) (l0_0 : List S68) (a0_1 : Int) (a0_2 : Int) (l1 : List Int) : Option ((List S99) × Int × Int × Int × Bool) := impl_runJoiner.l0 k l0_0 a0_1 a0_2 [] 0 0 0 [] 0 0 0 l1
set_option maxHeartbeats 4000000 in
set_option maxRecDepth 100000 in
theorem impl_runJoiner.ok (k : Nat) (l0_0 : List S68) (Al0_0 : Option Addr) (cl0_0 : Nat) (a0_1 : Int) (a0_2 : Int) (l1 : List Int) (Al1 : Option Addr) (cl1 : Nat) (r0 : List S99) (r1 : Int) (r2 : Int) (r3 : Int) (r4 : Bool) (H : impl_runJoiner.f k l0_0 a0_1 a0_2 l1 = some (r0, r1, r2, r3, r4)) : Fn Try.prog 60 [.agg #[.slice Al0_0 l0_0.length cl0_0, .int .i64 a0_1, .int .i64 a0_2], .slice Al1 l1.length cl1] [] [.sl 0 k68 Al0_0 cl0_0 l0_0 0 false, .sl 0 (.int .i64) Al1 cl1 l1 0 false] (fun v bx en => ∃ A0 c0, v = .tuple #[.agg #[.slice A0 r0.length c0, .int .i64 r1, .int .i64 r2, .int .i64 r3], .bool r4] ∧ bx = [] ∧ en = [.sl 2 k99 A0 c0 r0 1 true]) := by
 refine fn_ 53 Try.func60 rfl rfl rfl (fun base T w0 => ?_)
 rw [impl_runJoiner.f] at H
 refine gs (rg (so rfl (op_box (cs := [.slice Al0_0 l0_0.length cl0_0, .int .i64 a0_1, .int .i64 a0_2]) rfl rfl rfl fun b2 => (so rfl (op_alloc (cs := [.slice none 0 0, .int .i64 0, .int .i64 0, .int .i64 0]) (by kernel_rfl) rfl fun b4 => (sv (EV.as rfl) rfl (re (gs (rg (sv (EV.bd (v := .agg #[.slice none 0 0, .int .i64 0, .int .i64 0, .int .i64 0]) rfl (by kernel_rfl)) rfl (so rfl (op_alloc (cs := [.slice none 0 0, .int .i64 0, .int .i64 0, .int .i64 0]) (by kernel_rfl) rfl fun b6 => (so rfl (op_st (cs' := [.slice none 0 0, .int .i64 0, .int .i64 0, .int .i64 0]) 2 rfl rfl rfl rfl rfl rfl (re (gs (gb (nil_ k99 1 dq (nil_ k99 2 dq ?_)))))))))))))))))))
 refine lo (fun kk S => ∃ (x4_2_0 : List S68) (Ax4_2_0 : Option Addr) (cx4_2_0 : Nat) (x4_2_1 : Int) (x4_2_2 : Int) (x4_4_0 : List S99) (Ax4_4_0 : Option Addr) (cx4_4_0 : Nat) (x4_4_1 : Int) (x4_4_2 : Int) (x4_4_3 : Int) (x4_6_0 : List S99) (Ax4_6_0 : Option Addr) (cx4_6_0 : Nat) (x4_6_1 : Int) (x4_6_2 : Int) (x4_6_3 : Int), impl_runJoiner.l0 kk x4_2_0 x4_2_1 x4_2_2 x4_4_0 x4_4_1 x4_4_2 x4_4_3 x4_6_0 x4_6_1 x4_6_2 x4_6_3 l1 = some (r0, r1, r2, r3, r4) ∧ S = ⟨[(1, .slice Al1 l1.length cl1), (2, .pointer (some ⟨b2, 0, none⟩)), (4, .pointer (some ⟨b4, 0, none⟩)), (6, .pointer (some ⟨b6, 0, none⟩))], [⟨b2, 29, [.slice Ax4_2_0 x4_2_0.length cx4_2_0, .int .i64 x4_2_1, .int .i64 x4_2_2]⟩, ⟨b4, 53, [.slice Ax4_4_0 x4_4_0.length cx4_4_0, .int .i64 x4_4_1, .int .i64 x4_4_2, .int .i64 x4_4_3]⟩, ⟨b6, 53, [.slice Ax4_6_0 x4_6_0.length cx4_6_0, .int .i64 x4_6_1, .int .i64 x4_6_2, .int .i64 x4_6_3]⟩], [.sl 0 k68 Ax4_2_0 cx4_2_0 x4_2_0 0 false, .sl 2 k99 Ax4_4_0 cx4_4_0 x4_4_0 1 true, .sl 2 k99 Ax4_6_0 cx4_6_0 x4_6_0 2 true, .sl 0 (.int .i64) Al1 cl1 l1 0 false]⟩) (fun S hS => ?_) (fun n0 ih0 S hS => ?_) ⟨l0_0, Al0_0, cl0_0, a0_1, a0_2, [], none, 0, 0, 0, 0, [], none, 0, 0, 0, 0, H, rfl⟩ (fun h => wk [1, 2, 4, 6] [0, 1, 2] [⟨0, 0, 0, false⟩, ⟨2, 2, 1, true⟩, ⟨3, 2, 2, true⟩, ⟨1, 0, 0, false⟩] h)
 · clear H; obtain ⟨_, _, _, _, _, _, _, _, _, _, _, _, _, _, _, _, _, H, _⟩ := hS; rw [impl_runJoiner.l0] at H; cases H
 clear H
 obtain ⟨x4_2_0, Ax4_2_0, cx4_2_0, x4_2_1, x4_2_2, x4_4_0, Ax4_4_0, cx4_4_0, x4_4_1, x4_4_2, x4_4_3, x4_6_0, Ax4_6_0, cx4_6_0, x4_6_1, x4_6_2, x4_6_3, H, rfl⟩ := hS
 rw [impl_runJoiner.l0] at H
 refine gs (gs (rg (sv (EV.fa 0 rfl) rfl (sv (EV.ld 0 none rfl rfl rfl) rfl (sv (EV.ln rfl) rfl (sv (EV.gtr rfl rfl) rfl (re ?_)))))))
 revert H; refine ifsI ?_ ?_ <;> intro c1 H
 ·
  refine gt rfl (dT c1) (gk (gb (gs ?_)))
  revert H; refine ggI ?_; intro g2 H
  refine dr [0, 1, 2] [0, 1, 2, 3] [19] 20 rfl rfl rfl rfl (xv 0 [0, 1, 2] [0, 1, 2, 3] rfl (EV.ld (v := .agg #[.slice Ax4_2_0 x4_2_0.length cx4_2_0, .int .i64 x4_2_1, .int .i64 x4_2_2]) 0 (some 3) rfl rfl rfl) rfl rfl rfl rfl (xv 1 [0, 1, 2] [0, 1, 2, 3] rfl (EV.mv rfl) rfl rfl rfl rfl (xv 2 [0, 1, 2] [0, 1, 2, 3] rfl (EV.fa 1 rfl) rfl rfl rfl rfl (xv 3 [0, 1, 2] [0, 1, 2, 3] rfl (EV.ld 2 none rfl rfl rfl) rfl rfl rfl rfl (xv 4 [0, 1, 2] [0, 1, 2, 3] rfl (EV.mv rfl) rfl rfl rfl rfl (xv 5 [0, 1, 2] [0, 1, 2, 3] rfl (EV.ln rfl) rfl rfl rfl rfl (xv 6 [0, 1, 2] [0, 1, 2, 3] rfl (EV.rem rfl rfl g2) rfl rfl rfl rfl ?_)))))))
  revert H; refine ggI ?_; intro g3 H
  revert H; refine ggI ?_; intro g4 H
  refine xv 7 [0, 1, 2] [0, 1, 2, 3] rfl (EV.ix 3 rfl rfl rfl g3 g4 rfl) rfl rfl rfl rfl (xv 8 [0, 1, 2] [0, 1, 2, 3] rfl (EV.le (v := .int .i64 (rdOf 0 l1 (Int.tmod x4_6_1 (l1.length : Int)))) (Int.tmod x4_6_1 (l1.length : Int)) 0 none 3 0 rfl rfl rfl g3 g4 rfl rfl rfl) rfl rfl rfl rfl ?_)
  refine one2 9 15 rfl rfl rfl rfl ?_ ?_
  ·
   revert H; refine bdI ?_; rintro ⟨t5_0, t5_1, t5_2, t5_3, t5_4, t5_5⟩ A5 H
   refine op_call (impl_StepJoiner.ok n0 x4_2_0 Ax4_2_0 cx4_2_0 x4_2_1 x4_2_2 (rdOf 0 l1 (Int.tmod x4_6_1 (l1.length : Int))) _ _ _ _ _ _ A5) [⟨0, 0, 0, false⟩] 3 rfl rfl rfl rfl rfl ?_
   rintro _ _ _ ⟨At5_0, ct5_0, At5_3, ct5_3, rfl, rfl, rfl⟩
   refine xs [0, 1, 2] [0, 1, 2, 3] rfl rfl rfl (xv 10 [0, 1, 2] [0, 1, 2, 3] rfl (EV.mv rfl) rfl rfl rfl rfl (xv 11 [0, 1, 2] [0, 1, 2, 3] rfl (EV.ex rfl rfl) rfl rfl rfl rfl (xv 12 [0, 1, 2] [0, 1, 2, 3] rfl (EV.ex rfl rfl) rfl rfl rfl rfl (xv 13 [0, 1, 2] [0, 1, 2, 3] rfl (EV.ex rfl rfl) rfl rfl rfl rfl (xv 14 [0, 1, 2] [0, 1, 2, 3] rfl (EV.ex rfl rfl) rfl rfl rfl rfl (one1 15 rfl rfl (op_alloc (cs := [.slice none 0 0, .int .i64 0, .int .i64 0]) (by kernel_rfl) rfl fun b7 => (xs [0, 1, 2] [0, 1, 2, 3] rfl rfl rfl (one1 16 rfl rfl (op_st (cs' := [.slice At5_0 t5_0.length ct5_0, .int .i64 t5_1, .int .i64 t5_2]) 3 rfl rfl rfl rfl rfl rfl (xs [0, 1, 2] [0, 1, 2, 3] rfl rfl rfl (one1 17 rfl rfl (ov (EV.as rfl) rfl (xs [0, 1, 2] [0, 1, 2, 3] rfl rfl rfl (one1 18 rfl rfl (ov (EV.as rfl) rfl (xs [0, 1, 2] [0, 1, 2, 3] rfl rfl rfl (one1 19 rfl rfl (ov (EV.as rfl) rfl (xn rfl (xd (pr [1, 2, 4, 6, 7, 8, 9, 10] [0, 1, 2, 3] [0, 1, 2, 3, 4, 5] rfl rfl rfl rfl (gs (gs (rg (sv (EV.mv rfl) rfl (sv (EV.nt rfl) rfl (re ?_))))))))))))))))))))))))))))
   revert H; refine ifsI ?_ ?_ <;> intro c6 H
   ·
    subst c6
    refine gf rfl rfl (gk (gs (rg (sv (EV.ld (v := .agg #[.slice At5_0 t5_0.length ct5_0, .int .i64 t5_1, .int .i64 t5_2]) 3 (some 3) rfl rfl rfl) rfl (so rfl (op_st (cs' := [.slice At5_0 t5_0.length ct5_0, .int .i64 t5_1, .int .i64 t5_2]) 0 rfl rfl rfl rfl rfl rfl (re (gs (rg (sv (EV.fa 0 rfl) rfl (sv (EV.ld 2 none rfl rfl rfl) rfl (sv (EV.mv rfl) rfl ?_))))))))))))
    revert H; refine ggI ?_; intro g7 H
    exact so rfl (op_app (k := k99) (s := 7) (by_ := 56) 2 5 rfl rfl rfl rfl (ap2 g7 dq) (ap2n g7 dq) (.inl rfl) true (fun _ => .inl rfl) rfl rfl fun A38_8 c38_8 => (nmE (en := [.sl 0 k68 Ax4_2_0 cx4_2_0 x4_2_0 0 false, .sl 2 k99 Ax4_4_0 cx4_4_0 x4_4_0 1 true, .sl 0 (.int .i64) Al1 cl1 l1 0 false, .sl 1 k68 At5_0 ct5_0 t5_0 4 true, .sl 2 k99 At5_3 ct5_3 t5_3 5 true, .sl 2 k99 A38_8 c38_8 (x4_6_0 ++ t5_3) 2 true]) (by kernel_rfl) (sv (EV.fa 0 rfl) rfl (so rfl (op_st (cs' := [.slice A38_8 (x4_6_0 ++ t5_3).length c38_8, .int .i64 x4_6_1, .int .i64 x4_6_2, .int .i64 x4_6_3]) 2 rfl rfl rfl rfl rfl rfl (re (pr [1, 2, 4, 6, 9] [0, 1, 2] [1, 2, 3, 5] rfl rfl rfl rfl (gs (rg (sv (EV.fa 1 rfl) rfl (sv (EV.ld 2 none rfl rfl rfl) rfl (sv (EV.add rfl rfl) rfl (sv (EV.fa 1 rfl) rfl (so rfl (op_st (cs' := [.slice A38_8 (x4_6_0 ++ t5_3).length c38_8, .int .i64 (wrap64 (x4_6_1 + 1)), .int .i64 x4_6_2, .int .i64 x4_6_3]) 2 rfl rfl rfl rfl rfl rfl (re (rg (sv (EV.fa 2 rfl) rfl (sv (EV.ld 2 none rfl rfl rfl) rfl (sv (EV.mv rfl) rfl (sv (EV.mx rfl rfl) rfl (sv (EV.fa 2 rfl) rfl (so rfl (op_st (cs' := [.slice A38_8 (x4_6_0 ++ t5_3).length c38_8, .int .i64 (wrap64 (x4_6_1 + 1)), .int .i64 (mx x4_6_2 t5_4), .int .i64 x4_6_3]) 2 rfl rfl rfl rfl rfl rfl (re (pr [1, 2, 4, 6] [0, 1, 2] [0, 1, 2, 3] rfl rfl rfl rfl (ge (wk [1, 2, 4, 6] [0, 1, 2] [⟨2, 0, 0, false⟩, ⟨0, 2, 1, true⟩, ⟨3, 2, 2, true⟩, ⟨1, 0, 0, false⟩] (ih0 _ (by omega) _ ⟨t5_0, At5_0, ct5_0, t5_1, t5_2, x4_4_0, Ax4_4_0, cx4_4_0, x4_4_1, x4_4_2, x4_4_3, x4_6_0 ++ t5_3, A38_8, c38_8, wrap64 (x4_6_1 + 1), mx x4_6_2 t5_4, x4_6_3, H, rfl⟩)))))))))))))))))))))))))))))
   ·
    obtain rfl := bF c6
    refine gt rfl rfl (gs (rg (sv (EV.bd (v := .agg #[.slice none 0 0, .int .i64 0, .int .i64 0, .int .i64 0]) rfl (by kernel_rfl)) rfl (so rfl (op_st (cs' := [.slice none 0 0, .int .i64 0, .int .i64 0, .int .i64 0]) 1 rfl rfl rfl rfl rfl rfl (sv (EV.as rfl) rfl (re (pr [4, 5] [1] [] rfl rfl rfl rfl (nil_ k99 1 dq ?_)))))))))
    cases H
    exact rt Try.func60 rfl (.cell 0 (some 4) rfl rfl rfl (.tmp rfl .nil)) rfl [] [⟨0, 2, 1, true⟩] rfl rfl rfl rfl rfl ⟨_, _, rfl, rfl, rfl⟩
  ·
   refine op_alloc (cs := [.slice none 0 0, .int .i64 0, .int .i64 0]) (by kernel_rfl) rfl fun b7 => (xs [0, 1, 2] [0, 1, 2, 3] rfl rfl rfl (one1 9 rfl rfl ?_))
   revert H; refine bdI ?_; rintro ⟨t9_0, t9_1, t9_2, t9_3, t9_4, t9_5⟩ A9 H
   refine op_call (impl_StepJoiner.ok n0 x4_2_0 Ax4_2_0 cx4_2_0 x4_2_1 x4_2_2 (rdOf 0 l1 (Int.tmod x4_6_1 (l1.length : Int))) _ _ _ _ _ _ A9) [⟨0, 0, 0, false⟩] 3 rfl rfl rfl rfl rfl ?_
   rintro _ _ _ ⟨At9_0, ct9_0, At9_3, ct9_3, rfl, rfl, rfl⟩
   refine xs [0, 1, 2] [0, 1, 2, 3] rfl rfl rfl (xv 10 [0, 1, 2] [0, 1, 2, 3] rfl (EV.mv rfl) rfl rfl rfl rfl (xv 11 [0, 1, 2] [0, 1, 2, 3] rfl (EV.ex rfl rfl) rfl rfl rfl rfl (xv 12 [0, 1, 2] [0, 1, 2, 3] rfl (EV.ex rfl rfl) rfl rfl rfl rfl (xv 13 [0, 1, 2] [0, 1, 2, 3] rfl (EV.ex rfl rfl) rfl rfl rfl rfl (xv 14 [0, 1, 2] [0, 1, 2, 3] rfl (EV.ex rfl rfl) rfl rfl rfl rfl (one1 16 rfl rfl (op_st (cs' := [.slice At9_0 t9_0.length ct9_0, .int .i64 t9_1, .int .i64 t9_2]) 3 rfl rfl rfl rfl rfl rfl (xs [0, 1, 2] [0, 1, 2, 3] rfl rfl rfl (one1 17 rfl rfl (ov (EV.as rfl) rfl (xs [0, 1, 2] [0, 1, 2, 3] rfl rfl rfl (one1 18 rfl rfl (ov (EV.as rfl) rfl (xs [0, 1, 2] [0, 1, 2, 3] rfl rfl rfl (one1 19 rfl rfl (ov (EV.as rfl) rfl (xn rfl (xd (pr [1, 2, 4, 6, 7, 8, 9, 10] [0, 1, 2, 3] [0, 1, 2, 3, 4, 5] rfl rfl rfl rfl (gs (gs (rg (sv (EV.mv rfl) rfl (sv (EV.nt rfl) rfl (re ?_)))))))))))))))))))))))))
   revert H; refine ifsI ?_ ?_ <;> intro c10 H
   ·
    subst c10
    refine gf rfl rfl (gk (gs (rg (sv (EV.ld (v := .agg #[.slice At9_0 t9_0.length ct9_0, .int .i64 t9_1, .int .i64 t9_2]) 3 (some 3) rfl rfl rfl) rfl (so rfl (op_st (cs' := [.slice At9_0 t9_0.length ct9_0, .int .i64 t9_1, .int .i64 t9_2]) 0 rfl rfl rfl rfl rfl rfl (re (gs (rg (sv (EV.fa 0 rfl) rfl (sv (EV.ld 2 none rfl rfl rfl) rfl (sv (EV.mv rfl) rfl ?_))))))))))))
    revert H; refine ggI ?_; intro g11 H
    exact so rfl (op_app (k := k99) (s := 7) (by_ := 56) 2 5 rfl rfl rfl rfl (ap2 g11 dq) (ap2n g11 dq) (.inl rfl) true (fun _ => .inl rfl) rfl rfl fun A38_12 c38_12 => (nmE (en := [.sl 0 k68 Ax4_2_0 cx4_2_0 x4_2_0 0 false, .sl 2 k99 Ax4_4_0 cx4_4_0 x4_4_0 1 true, .sl 0 (.int .i64) Al1 cl1 l1 0 false, .sl 1 k68 At9_0 ct9_0 t9_0 4 true, .sl 2 k99 At9_3 ct9_3 t9_3 5 true, .sl 2 k99 A38_12 c38_12 (x4_6_0 ++ t9_3) 2 true]) (by kernel_rfl) (sv (EV.fa 0 rfl) rfl (so rfl (op_st (cs' := [.slice A38_12 (x4_6_0 ++ t9_3).length c38_12, .int .i64 x4_6_1, .int .i64 x4_6_2, .int .i64 x4_6_3]) 2 rfl rfl rfl rfl rfl rfl (re (pr [1, 2, 4, 6, 9] [0, 1, 2] [1, 2, 3, 5] rfl rfl rfl rfl (gs (rg (sv (EV.fa 1 rfl) rfl (sv (EV.ld 2 none rfl rfl rfl) rfl (sv (EV.add rfl rfl) rfl (sv (EV.fa 1 rfl) rfl (so rfl (op_st (cs' := [.slice A38_12 (x4_6_0 ++ t9_3).length c38_12, .int .i64 (wrap64 (x4_6_1 + 1)), .int .i64 x4_6_2, .int .i64 x4_6_3]) 2 rfl rfl rfl rfl rfl rfl (re (rg (sv (EV.fa 2 rfl) rfl (sv (EV.ld 2 none rfl rfl rfl) rfl (sv (EV.mv rfl) rfl (sv (EV.mx rfl rfl) rfl (sv (EV.fa 2 rfl) rfl (so rfl (op_st (cs' := [.slice A38_12 (x4_6_0 ++ t9_3).length c38_12, .int .i64 (wrap64 (x4_6_1 + 1)), .int .i64 (mx x4_6_2 t9_4), .int .i64 x4_6_3]) 2 rfl rfl rfl rfl rfl rfl (re (pr [1, 2, 4, 6] [0, 1, 2] [0, 1, 2, 3] rfl rfl rfl rfl (ge (wk [1, 2, 4, 6] [0, 1, 2] [⟨2, 0, 0, false⟩, ⟨0, 2, 1, true⟩, ⟨3, 2, 2, true⟩, ⟨1, 0, 0, false⟩] (ih0 _ (by omega) _ ⟨t9_0, At9_0, ct9_0, t9_1, t9_2, x4_4_0, Ax4_4_0, cx4_4_0, x4_4_1, x4_4_2, x4_4_3, x4_6_0 ++ t9_3, A38_12, c38_12, wrap64 (x4_6_1 + 1), mx x4_6_2 t9_4, x4_6_3, H, rfl⟩)))))))))))))))))))))))))))))
   ·
    obtain rfl := bF c10
    refine gt rfl rfl (gs (rg (sv (EV.bd (v := .agg #[.slice none 0 0, .int .i64 0, .int .i64 0, .int .i64 0]) rfl (by kernel_rfl)) rfl (so rfl (op_st (cs' := [.slice none 0 0, .int .i64 0, .int .i64 0, .int .i64 0]) 1 rfl rfl rfl rfl rfl rfl (sv (EV.as rfl) rfl (re (pr [4, 5] [1] [] rfl rfl rfl rfl (nil_ k99 1 dq ?_)))))))))
    cases H
    exact rt Try.func60 rfl (.cell 0 (some 4) rfl rfl rfl (.tmp rfl .nil)) rfl [] [⟨0, 2, 1, true⟩] rfl rfl rfl rfl rfl ⟨_, _, rfl, rfl, rfl⟩
 ·
  refine gf rfl (dF c1) (gx rfl (gs (rg (sv (EV.fa 1 rfl) rfl (sv (EV.ld 0 none rfl rfl rfl) rfl (sv (EV.fa 3 rfl) rfl (so rfl (op_st (cs' := [.slice Ax4_6_0 x4_6_0.length cx4_6_0, .int .i64 x4_6_1, .int .i64 x4_6_2, .int .i64 x4_2_1]) 2 rfl rfl rfl rfl rfl rfl (re (pr [4, 6] [1, 2] [1, 2] rfl rfl rfl rfl (gs (rg (sv (EV.ld (v := .agg #[.slice Ax4_6_0 x4_6_0.length cx4_6_0, .int .i64 x4_6_1, .int .i64 x4_6_2, .int .i64 x4_2_1]) 1 (some 4) rfl rfl rfl) rfl (so rfl (op_st (cs' := [.slice Ax4_6_0 x4_6_0.length cx4_6_0, .int .i64 x4_6_1, .int .i64 x4_6_2, .int .i64 x4_2_1]) 0 rfl rfl rfl rfl rfl rfl (sv (EV.as rfl) rfl (re ?_)))))))))))))))))
  cases H
  exact rt Try.func60 rfl (.cell 0 (some 4) rfl rfl rfl (.tmp rfl .nil)) rfl [] [⟨1, 2, 1, true⟩] rfl rfl rfl rfl rfl ⟨_, _, rfl, rfl, rfl⟩
end Go.Proofs.Ytfcebaplphpajaa.K
namespace Go.Proofs.Ytfcebaplphpajaa.K
open Go Go.RowKit
set_option linter.unusedVariables false
set_option linter.unusedSimpArgs false
def impl_StepsToFinish.f (k : Nat) (l0_0 : List S68) (a0_1 : Int) (a0_2 : Int) (l1 : List Int) : Option (Int × Bool) := (impl_IsValidJoiner.f k l0_0 a0_1 a0_2).bind fun t1 => (if t1 = true then ((impl_areGrants.f k l1).bind fun t3 => (if t3 = true then (if a0_1 > 50000 then (some (0, false)) else (if a0_2 > 500 then (some (0, false)) else (if (l0_0.length : Int) > 20 then (some (0, false)) else ((impl_cloneJoiner.f k l0_0 a0_1 a0_2).bind fun bt8 => ((impl_runJoiner.f k bt8.1 bt8.2.1 bt8.2.2 l1).bind fun bt9 => (if bt9.2.2.2.2 = true then (some (bt9.2.1, true)) else (some (0, false)))))))) else (some (0, false)))) else (some (0, false)))
set_option maxHeartbeats 4000000 in
set_option maxRecDepth 100000 in
theorem impl_StepsToFinish.ok (k : Nat) (l0_0 : List S68) (Al0_0 : Option Addr) (cl0_0 : Nat) (a0_1 : Int) (a0_2 : Int) (l1 : List Int) (Al1 : Option Addr) (cl1 : Nat) (r0 : Int) (r1 : Bool) (H : impl_StepsToFinish.f k l0_0 a0_1 a0_2 l1 = some (r0, r1)) : Fn Try.prog 29 [.agg #[.slice Al0_0 l0_0.length cl0_0, .int .i64 a0_1, .int .i64 a0_2], .slice Al1 l1.length cl1] [] [.sl 0 k68 Al0_0 cl0_0 l0_0 0 false, .sl 0 (.int .i64) Al1 cl1 l1 0 false] (fun v bx en => v = .tuple #[.int .i64 r0, .bool r1] ∧ bx = [] ∧ en = []) := by
 refine fn_ 43 Try.func29 rfl rfl rfl (fun base T w0 => ?_)
 rw [impl_StepsToFinish.f] at H
 refine gs (rg (so rfl (op_box (cs := [.slice Al0_0 l0_0.length cl0_0, .int .i64 a0_1, .int .i64 a0_2]) rfl rfl rfl fun b2 => (sv (EV.as rfl) rfl (sv (EV.as rfl) rfl (re (gs (gs (rg (sv (EV.ld (v := .agg #[.slice Al0_0 l0_0.length cl0_0, .int .i64 a0_1, .int .i64 a0_2]) 0 (some 3) rfl rfl rfl) rfl ?_))))))))))
 revert H; refine bdI ?_; rintro t1 A1 H
 refine so rfl (op_call (impl_IsValidJoiner.ok k l0_0 Al0_0 cl0_0 a0_1 a0_2 _ A1) [⟨0, 0, 0, false⟩] 1 rfl rfl rfl rfl rfl ?_)
 rintro _ _ _ ⟨rfl, rfl, rfl⟩
 refine sv (EV.nt rfl) rfl (sv (EV.mv rfl) rfl ?_)
 revert H; refine ifsI ?_ ?_ <;> intro c2 H
 ·
  subst c2
  refine ts 11 rfl rfl (sv (EV.mv rfl) rfl ?_)
  revert H; refine bdI ?_; rintro t3 A3 H
  refine so rfl (op_call (impl_areGrants.ok k l1 Al1 cl1 _ A3) [⟨1, 0, 0, false⟩] 1 rfl rfl rfl rfl rfl ?_)
  rintro _ _ _ ⟨rfl, rfl, rfl⟩
  refine sv (EV.nt rfl) rfl (sv (EV.pf rfl rfl rfl) rfl (sv (EV.mv rfl) rfl ?_))
  revert H; refine ifsI ?_ ?_ <;> intro c4 H
  ·
   subst c4
   refine ts 16 rfl rfl (sv (EV.fa 1 rfl) rfl (sv (EV.ld 0 none rfl rfl rfl) rfl (sv (EV.gtr rfl rfl) rfl (sv (EV.pf rfl rfl rfl) rfl (sv (EV.mv rfl) rfl ?_)))))
   revert H; refine ifsI ?_ ?_ <;> intro c5 H
   ·
    refine ts 21 rfl (dT c5) (sk rfl (sk rfl (sk rfl (sv (EV.pt rfl rfl rfl) rfl (sv (EV.mv rfl) rfl (sk rfl (sk rfl (sk rfl (sk rfl (sv (EV.pt rfl rfl rfl) rfl (re (pr [1, 2, 31] [0] [0, 1] rfl rfl rfl rfl (gt rfl rfl (gs (rg (sv (EV.as rfl) rfl (sv (EV.as rfl) rfl (re ?_))))))))))))))))))
    cases H
    exact rt Try.func29 rfl (.tmp rfl (.tmp rfl .nil)) rfl [] [] rfl rfl rfl rfl rfl ⟨rfl, rfl, rfl⟩
   ·
    refine ts 21 rfl (dF c5) (sv (EV.fa 2 rfl) rfl (sv (EV.ld 0 none rfl rfl rfl) rfl (sv (EV.gtr rfl rfl) rfl (sv (EV.pf rfl rfl rfl) rfl (sv (EV.mv rfl) rfl ?_)))))
    revert H; refine ifsI ?_ ?_ <;> intro c6 H
    ·
     refine ts 26 rfl (dT c6) (sk rfl (sk rfl (sk rfl (sk rfl (sv (EV.pt rfl rfl rfl) rfl (re (pr [1, 2, 31] [0] [0, 1] rfl rfl rfl rfl (gt rfl rfl (gs (rg (sv (EV.as rfl) rfl (sv (EV.as rfl) rfl (re ?_)))))))))))))
     cases H
     exact rt Try.func29 rfl (.tmp rfl (.tmp rfl .nil)) rfl [] [] rfl rfl rfl rfl rfl ⟨rfl, rfl, rfl⟩
    ·
     refine ts 26 rfl (dF c6) (sv (EV.fa 0 rfl) rfl (sv (EV.ld 0 none rfl rfl rfl) rfl (sv (EV.ln rfl) rfl (sv (EV.gtr rfl rfl) rfl (sv (EV.pf rfl rfl rfl) rfl (re (pr [1, 2, 31] [0] [0, 1] rfl rfl rfl rfl ?_)))))))
     revert H; refine ifsI ?_ ?_ <;> intro c7 H
     ·
      refine gt rfl (dT c7) (gs (rg (sv (EV.as rfl) rfl (sv (EV.as rfl) rfl (re ?_)))))
      cases H
      exact rt Try.func29 rfl (.tmp rfl (.tmp rfl .nil)) rfl [] [] rfl rfl rfl rfl rfl ⟨rfl, rfl, rfl⟩
     ·
      refine gf rfl (dF c7) (gk (gs (rg (sv (EV.ld (v := .agg #[.slice Al0_0 l0_0.length cl0_0, .int .i64 a0_1, .int .i64 a0_2]) 0 (some 3) rfl rfl rfl) rfl ?_))))
      revert H; refine bdI ?_; rintro ⟨t8_0, t8_1, t8_2⟩ A8 H
      refine so rfl (op_call (impl_cloneJoiner.ok k l0_0 Al0_0 cl0_0 a0_1 a0_2 _ _ _ A8) [⟨0, 0, 0, false⟩] 1 rfl rfl rfl rfl rfl ?_)
      rintro _ _ _ ⟨At8_0, ct8_0, rfl, rfl, rfl⟩
      refine sv (EV.mv rfl) rfl ?_
      revert H; refine bdI ?_; rintro ⟨t9_0, t9_1, t9_2, t9_3, t9_4⟩ A9 H
      refine so rfl (op_call (impl_runJoiner.ok k t8_0 At8_0 ct8_0 t8_1 t8_2 l1 Al1 cl1 _ _ _ _ _ A9) [⟨2, 0, 0, false⟩, ⟨1, 0, 0, false⟩] 3 rfl rfl rfl rfl rfl ?_)
      rintro _ _ _ ⟨At9_0, ct9_0, rfl, rfl, rfl⟩
      refine sv (EV.mv rfl) rfl (sv (EV.ex rfl rfl) rfl (sv (EV.ex rfl rfl) rfl (so rfl (op_alloc (cs := [.slice none 0 0, .int .i64 0, .int .i64 0, .int .i64 0]) (by kernel_rfl) rfl fun b6 => (so rfl (op_st (cs' := [.slice At9_0 t9_0.length ct9_0, .int .i64 t9_1, .int .i64 t9_2, .int .i64 t9_3]) 1 rfl rfl rfl rfl rfl rfl (sv (EV.as rfl) rfl (re (pr [6, 7] [1] [3] rfl rfl rfl rfl (gs (gs (rg (sv (EV.mv rfl) rfl (sv (EV.nt rfl) rfl (re ?_)))))))))))))))
      revert H; refine ifsI ?_ ?_ <;> intro c10 H
      ·
       subst c10
       refine gf rfl rfl (gk (gs (rg (sv (EV.fa 1 rfl) rfl (sv (EV.ld 0 none rfl rfl rfl) rfl (sv (EV.as rfl) rfl (sv (EV.as rfl) rfl (re (pr [4, 5] [] [] rfl rfl rfl rfl ?_)))))))))
       cases H
       exact rt Try.func29 rfl (.tmp rfl (.tmp rfl .nil)) rfl [] [] rfl rfl rfl rfl rfl ⟨rfl, rfl, rfl⟩
      ·
       obtain rfl := bF c10
       refine gt rfl rfl (gs (rg (sv (EV.as rfl) rfl (sv (EV.as rfl) rfl (re ?_)))))
       cases H
       exact rt Try.func29 rfl (.tmp rfl (.tmp rfl .nil)) rfl [] [] rfl rfl rfl rfl rfl ⟨rfl, rfl, rfl⟩
  ·
   obtain rfl := bF c4
   refine ts 16 rfl rfl (sk rfl (sk rfl (sk rfl (sv (EV.pt rfl rfl rfl) rfl (sv (EV.mv rfl) rfl (sk rfl (sk rfl (sk rfl (sv (EV.pt rfl rfl rfl) rfl (sv (EV.mv rfl) rfl (sk rfl (sk rfl (sk rfl (sk rfl (sv (EV.pt rfl rfl rfl) rfl (re (pr [1, 2, 31] [0] [0, 1] rfl rfl rfl rfl (gt rfl rfl (gs (rg (sv (EV.as rfl) rfl (sv (EV.as rfl) rfl (re ?_)))))))))))))))))))))))
   cases H
   exact rt Try.func29 rfl (.tmp rfl (.tmp rfl .nil)) rfl [] [] rfl rfl rfl rfl rfl ⟨rfl, rfl, rfl⟩
 ·
  obtain rfl := bF c2
  refine ts 11 rfl rfl (sk rfl (sk rfl (sk rfl (sv (EV.pt rfl rfl rfl) rfl (sv (EV.mv rfl) rfl (sk rfl (sk rfl (sk rfl (sv (EV.pt rfl rfl rfl) rfl (sv (EV.mv rfl) rfl (sk rfl (sk rfl (sk rfl (sv (EV.pt rfl rfl rfl) rfl (sv (EV.mv rfl) rfl (sk rfl (sk rfl (sk rfl (sk rfl (sv (EV.pt rfl rfl rfl) rfl (re (pr [1, 2, 31] [0] [0, 1] rfl rfl rfl rfl (gt rfl rfl (gs (rg (sv (EV.as rfl) rfl (sv (EV.as rfl) rfl (re ?_))))))))))))))))))))))))))))
  cases H
  exact rt Try.func29 rfl (.tmp rfl (.tmp rfl .nil)) rfl [] [] rfl rfl rfl rfl rfl ⟨rfl, rfl, rfl⟩
end Go.Proofs.Ytfcebaplphpajaa.K
namespace Go.Proofs.Ytfcebaplphpajaa.K
open Go Go.RowKit
set_option linter.unusedVariables false
set_option linter.unusedSimpArgs false
def laws_eqIntS.l0 : Nat → Int → (List Int) → (List Int) → Option (Bool)
 | 0, _, _, _ => none
 | k + 1, x2_5, l0, l1 => if x2_5 < (l0.length : Int) then (if 0 ≤ x2_5 then (if x2_5 < (l1.length : Int) then (if (rdOf 0 l0 x2_5) = (rdOf 0 l1 x2_5) then (laws_eqIntS.l0 k (wrap64 (x2_5 + 1)) l0 l1) else (some false)) else none) else none) else (some true)
def laws_eqIntS.f (k : Nat) (l0 : List Int) (l1 : List Int) : Option (Bool) := if (l0.length : Int) = (l1.length : Int) then (laws_eqIntS.l0 k 0 l0 l1) else (some false)
set_option maxHeartbeats 4000000 in
set_option maxRecDepth 100000 in
theorem laws_eqIntS.ok (k : Nat) (l0 : List Int) (Al0 : Option Addr) (cl0 : Nat) (l1 : List Int) (Al1 : Option Addr) (cl1 : Nat) (r0 : Bool) (H : laws_eqIntS.f k l0 l1 = some r0) : Fn Try.prog 30 [.slice Al0 l0.length cl0, .slice Al1 l1.length cl1] [] [.sl 0 (.int .i64) Al0 cl0 l0 0 false, .sl 0 (.int .i64) Al1 cl1 l1 0 false] (fun v bx en => v = .bool r0 ∧ bx = [] ∧ en = []) := by
 refine fn_ 26 Try.func30 rfl rfl rfl (fun base T w0 => ?_)
 rw [laws_eqIntS.f] at H
 refine gs (rg (sv (EV.as rfl) rfl (re (gs (gs (rg (sv (EV.mv rfl) rfl (sv (EV.ln rfl) rfl (sv (EV.mv rfl) rfl (sv (EV.ln rfl) rfl (sv (EV.neq rfl rfl) rfl (re ?_))))))))))))
 revert H; refine ifsI ?_ ?_ <;> intro c1 H
 ·
  refine gf rfl (nF c1) (gk (gs (gs (rg (sv (EV.as rfl) rfl (re (pr [0, 1, 5] [] [0, 1] rfl rfl rfl rfl (gb ?_))))))))
  refine lo (fun kk S => ∃ (x2_5 : Int), laws_eqIntS.l0 kk x2_5 l0 l1 = some r0 ∧ S = ⟨[(0, .slice Al0 l0.length cl0), (1, .slice Al1 l1.length cl1), (5, .int .i64 x2_5)], [], [.sl 0 (.int .i64) Al0 cl0 l0 0 false, .sl 0 (.int .i64) Al1 cl1 l1 0 false]⟩) (fun S hS => ?_) (fun n0 ih0 S hS => ?_) ⟨0, H, rfl⟩ (fun h => wk [0, 1, 5] [] [⟨0, 0, 0, false⟩, ⟨1, 0, 0, false⟩] h)
  · clear H; obtain ⟨_, H, _⟩ := hS; rw [laws_eqIntS.l0] at H; cases H
  clear H
  obtain ⟨x2_5, H, rfl⟩ := hS
  rw [laws_eqIntS.l0] at H
  refine gs (gs (rg (sv (EV.mv rfl) rfl (sv (EV.mv rfl) rfl (sv (EV.ln rfl) rfl (sv (EV.lss rfl rfl) rfl (re ?_)))))))
  revert H; refine ifsI ?_ ?_ <;> intro c2 H
  ·
   refine gt rfl (dT c2) (gk (gs (gb (gs ?_))))
   revert H; refine ggI ?_; intro g3 H
   revert H; refine ggI ?_; intro g4 H
   refine dr [] [0, 1] [] 9 rfl rfl rfl rfl (xv 0 [] [0, 1] rfl (EV.mv rfl) rfl rfl rfl rfl (xv 1 [] [0, 1] rfl (EV.mv rfl) rfl rfl rfl rfl (xv 2 [] [0, 1] rfl (EV.ix 0 rfl rfl rfl g3 c2 rfl) rfl rfl rfl rfl (xv 3 [] [0, 1] rfl (EV.le (v := .int .i64 (rdOf 0 l0 x2_5)) x2_5 0 none 0 0 rfl rfl rfl g3 c2 rfl rfl rfl) rfl rfl rfl rfl (xv 4 [] [0, 1] rfl (EV.mv rfl) rfl rfl rfl rfl (xv 5 [] [0, 1] rfl (EV.mv rfl) rfl rfl rfl rfl (xv 6 [] [0, 1] rfl (EV.ix 1 rfl rfl rfl g3 g4 rfl) rfl rfl rfl rfl (xv 7 [] [0, 1] rfl (EV.le (v := .int .i64 (rdOf 0 l1 x2_5)) x2_5 0 none 1 0 rfl rfl rfl g3 g4 rfl rfl rfl) rfl rfl rfl rfl (xv 8 [] [0, 1] rfl (EV.neq rfl rfl) rfl rfl rfl rfl (xd (pr [0, 1, 5, 25] [] [0, 1] rfl rfl rfl rfl ?_)))))))))))
   revert H; refine ifsI ?_ ?_ <;> intro c5 H
   ·
    exact gf rfl (nF c5) (gk (ge (rg (sv (EV.mv rfl) rfl (sv (EV.add rfl rfl) rfl (sv (EV.as rfl) rfl (re (wk [0, 1, 5] [] [⟨0, 0, 0, false⟩, ⟨1, 0, 0, false⟩] (ih0 _ (by omega) _ ⟨wrap64 (x2_5 + 1), H, rfl⟩)))))))))
   ·
    refine gt rfl (nT c5) (gs (rg (sv (EV.as rfl) rfl (re ?_))))
    cases H
    exact rt Try.func30 rfl (.tmp rfl .nil) rfl [] [] rfl rfl rfl rfl rfl ⟨rfl, rfl, rfl⟩
  ·
   refine gf rfl (dF c2) (gx rfl (gs (rg (sv (EV.as rfl) rfl (re (pr [4] [] [] rfl rfl rfl rfl ?_))))))
   cases H
   exact rt Try.func30 rfl (.tmp rfl .nil) rfl [] [] rfl rfl rfl rfl rfl ⟨rfl, rfl, rfl⟩
 ·
  refine gt rfl (nT c1) (gs (rg (sv (EV.as rfl) rfl (re (pr [4] [] [] rfl rfl rfl rfl ?_)))))
  cases H
  exact rt Try.func30 rfl (.tmp rfl .nil) rfl [] [] rfl rfl rfl rfl rfl ⟨rfl, rfl, rfl⟩
end Go.Proofs.Ytfcebaplphpajaa.K
namespace Go.Proofs.Ytfcebaplphpajaa.K
open Go Go.RowKit
set_option linter.unusedVariables false
set_option linter.unusedSimpArgs false
def laws_FnExactStepsToFinish.f (k : Nat) (l0_0 : List S102) (a0_1 : Int) (a0_2 : Int) (l1 : List Int) : Option (Bool) := if (l1.length : Int) > 1048576 then (some true) else ((laws_szJoiner.f k l0_0 a0_1 a0_2 1048576).bind fun t2 => (if t2 < 0 then (some true) else ((laws_toJoiner.f k l0_0 a0_1 a0_2).bind fun bt4 => ((laws_toIntS.f k l1).bind fun t5 => ((spec_StepsToFinish.f k bt4.1 bt4.2.1 bt4.2.2 t5).bind fun bt6 => ((laws_toJoiner.f k l0_0 a0_1 a0_2).bind fun bt7 => ((laws_toIntS.f k l1).bind fun t8 => ((impl_StepsToFinish.f k bt7.1 bt7.2.1 bt7.2.2 t8).bind fun bt9 => (if bt9.1 = bt6.1 then (if (bt9.2 == bt6.2) = true then ((laws_toJoiner.f k l0_0 a0_1 a0_2).bind fun bt12 => ((laws_eqJoiner.f k bt7.1 bt7.2.1 bt7.2.2 bt12.1 bt12.2.1 bt12.2.2).bind fun t13 => (if t13 = true then ((laws_toIntS.f k l1).bind fun t15 => ((laws_eqIntS.f k t8 t15).bind fun t16 => (if t16 = true then (some true) else (some false)))) else (some false)))) else (some false)) else (some false))))))))))
set_option maxHeartbeats 4000000 in
set_option maxRecDepth 100000 in
theorem laws_FnExactStepsToFinish.ok (k : Nat) (l0_0 : List S102) (Al0_0 : Option Addr) (cl0_0 : Nat) (a0_1 : Int) (a0_2 : Int) (l1 : List Int) (Al1 : Option Addr) (cl1 : Nat) (r0 : Bool) (H : laws_FnExactStepsToFinish.f k l0_0 a0_1 a0_2 l1 = some r0) : Fn Try.prog 7 [.agg #[.slice Al0_0 l0_0.length cl0_0, .int .i64 a0_1, .int .i64 a0_2], .slice Al1 l1.length cl1] [] [.sl 0 k102 Al0_0 cl0_0 l0_0 0 false, .sl 0 (.int .i64) Al1 cl1 l1 0 false] (fun v bx en => v = .bool r0 ∧ bx = [] ∧ en = []) := by
 refine fn_ 56 Try.func7 rfl rfl rfl (fun base T w0 => ?_)
 rw [laws_FnExactStepsToFinish.f] at H
 refine gs (rg (so rfl (op_box (cs := [.slice Al0_0 l0_0.length cl0_0, .int .i64 a0_1, .int .i64 a0_2]) rfl rfl rfl fun b2 => (sv (EV.as rfl) rfl (re (gs (gs (rg (sv (EV.mv rfl) rfl (sv (EV.ln rfl) rfl (sv (EV.gtr rfl rfl) rfl (re ?_))))))))))))
 revert H; refine ifsI ?_ ?_ <;> intro c1 H
 ·
  refine gt rfl (dT c1) (gs (rg (sv (EV.as rfl) rfl (re (pr [4] [] [] rfl rfl rfl rfl ?_)))))
  cases H
  exact rt Try.func7 rfl (.tmp rfl .nil) rfl [] [] rfl rfl rfl rfl rfl ⟨rfl, rfl, rfl⟩
 ·
  refine gf rfl (dF c1) (gk (gs (rg (sv (EV.as rfl) rfl (re (gs (rg (sv (EV.ld (v := .agg #[.slice Al0_0 l0_0.length cl0_0, .int .i64 a0_1, .int .i64 a0_2]) 0 (some 3) rfl rfl rfl) rfl (sv (EV.mv rfl) rfl ?_)))))))))
  revert H; refine bdI ?_; rintro t2 A2 H
  refine so rfl (op_call (laws_szJoiner.ok k l0_0 Al0_0 cl0_0 a0_1 a0_2 1048576 _ A2) [⟨0, 0, 0, false⟩] 1 rfl rfl rfl rfl rfl ?_)
  rintro _ _ _ ⟨rfl, rfl, rfl⟩
  refine sv (EV.as rfl) rfl (re (pr [1, 2, 5] [0] [0, 1] rfl rfl rfl rfl (gs (gs (rg (sv (EV.mv rfl) rfl (sv (EV.lss rfl rfl) rfl (re ?_))))))))
  revert H; refine ifsI ?_ ?_ <;> intro c3 H
  ·
   refine gt rfl (dT c3) (gs (rg (sv (EV.as rfl) rfl (re ?_))))
   cases H
   exact rt Try.func7 rfl (.tmp rfl .nil) rfl [] [] rfl rfl rfl rfl rfl ⟨rfl, rfl, rfl⟩
  ·
   refine gf rfl (dF c3) (gk (gs (rg (sv (EV.ld (v := .agg #[.slice Al0_0 l0_0.length cl0_0, .int .i64 a0_1, .int .i64 a0_2]) 0 (some 3) rfl rfl rfl) rfl ?_))))
   revert H; refine bdI ?_; rintro ⟨t4_0, t4_1, t4_2⟩ A4 H
   refine so rfl (op_call (laws_toJoiner.ok k l0_0 Al0_0 cl0_0 a0_1 a0_2 _ _ _ A4) [⟨0, 0, 0, false⟩] 1 rfl rfl rfl rfl rfl ?_)
   rintro _ _ _ ⟨At4_0, ct4_0, rfl, rfl, rfl⟩
   refine sv (EV.mv rfl) rfl ?_
   revert H; refine bdI ?_; rintro t5 A5 H
   refine so rfl (op_call (laws_toIntS.ok k l1 Al1 cl1 _ A5) [⟨1, 0, 0, false⟩] 3 rfl rfl rfl rfl rfl ?_)
   rintro _ _ _ ⟨At5, ct5, rfl, rfl, rfl⟩
   revert H; refine bdI ?_; rintro ⟨t6_0, t6_1⟩ A6 H
   refine so rfl (op_call (spec_StepsToFinish.ok k t4_0 At4_0 ct4_0 t4_1 t4_2 t5 At5 ct5 _ _ A6) [⟨2, 0, 0, false⟩, ⟨3, 0, 0, false⟩] 5 rfl rfl rfl rfl rfl ?_)
   rintro _ _ _ ⟨rfl, rfl, rfl⟩
   refine sv (EV.mv rfl) rfl (sv (EV.ex rfl rfl) rfl (sv (EV.ex rfl rfl) rfl (sv (EV.as rfl) rfl (sv (EV.as rfl) rfl (re (pr [1, 2, 6, 7] [0] [0, 1] rfl rfl rfl rfl (gs (rg (sv (EV.ld (v := .agg #[.slice Al0_0 l0_0.length cl0_0, .int .i64 a0_1, .int .i64 a0_2]) 0 (some 3) rfl rfl rfl) rfl ?_)))))))))
   revert H; refine bdI ?_; rintro ⟨t7_0, t7_1, t7_2⟩ A7 H
   refine so rfl (op_call (laws_toJoiner.ok k l0_0 Al0_0 cl0_0 a0_1 a0_2 _ _ _ A7) [⟨0, 0, 0, false⟩] 1 rfl rfl rfl rfl rfl ?_)
   rintro _ _ _ ⟨At7_0, ct7_0, rfl, rfl, rfl⟩
   refine so rfl (op_alloc (cs := [.slice none 0 0, .int .i64 0, .int .i64 0]) (by kernel_rfl) rfl fun b8 => (so rfl (op_st (cs' := [.slice At7_0 t7_0.length ct7_0, .int .i64 t7_1, .int .i64 t7_2]) 1 rfl rfl rfl rfl rfl rfl (re (gs (rg (sv (EV.mv rfl) rfl ?_)))))))
   revert H; refine bdI ?_; rintro t8 A8 H
   refine so rfl (op_call (laws_toIntS.ok k l1 Al1 cl1 _ A8) [⟨1, 0, 0, false⟩] 3 rfl rfl rfl rfl rfl ?_)
   rintro _ _ _ ⟨At8, ct8, rfl, rfl, rfl⟩
   refine sv (EV.as rfl) rfl (re (gs (rg (sv (EV.ld (v := .agg #[.slice At7_0 t7_0.length ct7_0, .int .i64 t7_1, .int .i64 t7_2]) 1 (some 3) rfl rfl rfl) rfl (sv (EV.mv rfl) rfl ?_)))))
   revert H; refine bdI ?_; rintro ⟨t9_0, t9_1⟩ A9 H
   refine so rfl (op_call (impl_StepsToFinish.ok k t7_0 At7_0 ct7_0 t7_1 t7_2 t8 At8 ct8 _ _ A9) [⟨2, 0, 0, false⟩, ⟨3, 0, 0, false⟩] 5 rfl rfl rfl rfl rfl ?_)
   rintro _ _ _ ⟨rfl, rfl, rfl⟩
   refine sv (EV.mv rfl) rfl (sv (EV.ex rfl rfl) rfl (sv (EV.ex rfl rfl) rfl (sv (EV.as rfl) rfl (sv (EV.as rfl) rfl (re (pr [1, 2, 6, 7, 8, 9, 10, 11] [0, 1] [0, 1, 2, 3] rfl rfl rfl rfl (gs (gs (rg (sv (EV.mv rfl) rfl (sv (EV.mv rfl) rfl (sv (EV.neq rfl rfl) rfl (sv (EV.mv rfl) rfl ?_)))))))))))))
   revert H; refine ifsI ?_ ?_ <;> intro c10 H
   ·
    refine ts 41 rfl (nF c10) (sv (EV.mv rfl) rfl (sv (EV.mv rfl) rfl (sv (EV.neb rfl rfl) rfl (sv (EV.pf rfl rfl rfl) rfl (re (pr [1, 2, 8, 9, 45] [0, 1] [0, 1, 2, 3] rfl rfl rfl rfl ?_))))))
    revert H; refine ifsI ?_ ?_ <;> intro c11 H
    ·
     refine gf rfl (bN c11) (gk (gs (gs (dr [0, 1] [0, 1, 2, 3] [] 5 rfl rfl rfl rfl (xv 0 [0, 1] [0, 1, 2, 3] rfl (EV.ld (v := .agg #[.slice At7_0 t7_0.length ct7_0, .int .i64 t7_1, .int .i64 t7_2]) 1 (some 3) rfl rfl rfl) rfl rfl rfl rfl (xv 1 [0, 1] [0, 1, 2, 3] rfl (EV.ld (v := .agg #[.slice Al0_0 l0_0.length cl0_0, .int .i64 a0_1, .int .i64 a0_2]) 0 (some 3) rfl rfl rfl) rfl rfl rfl rfl (one1 2 rfl rfl ?_)))))))
     revert H; refine bdI ?_; rintro ⟨t12_0, t12_1, t12_2⟩ A12 H
     refine op_call (laws_toJoiner.ok k l0_0 Al0_0 cl0_0 a0_1 a0_2 _ _ _ A12) [⟨0, 0, 0, false⟩] 5 rfl rfl rfl rfl rfl ?_
     rintro _ _ _ ⟨At12_0, ct12_0, rfl, rfl, rfl⟩
     refine xs [0, 1] [0, 1, 2, 3] rfl rfl rfl (one1 3 rfl rfl ?_)
     revert H; refine bdI ?_; rintro t13 A13 H
     refine op_call (laws_eqJoiner.ok k t7_0 At7_0 ct7_0 t7_1 t7_2 t12_0 At12_0 ct12_0 t12_1 t12_2 _ A13) [⟨2, 0, 0, false⟩, ⟨4, 0, 0, false⟩] 7 rfl rfl rfl rfl rfl ?_
     rintro _ _ _ ⟨rfl, rfl, rfl⟩
     refine xs [0, 1] [0, 1, 2, 3] rfl rfl rfl (xv 4 [0, 1] [0, 1, 2, 3] rfl (EV.nt rfl) rfl rfl rfl rfl (xd (pr [1, 9, 50] [] [1, 3] rfl rfl rfl rfl ?_)))
     revert H; refine ifsI ?_ ?_ <;> intro c14 H
     ·
      subst c14
      refine gf rfl rfl (gk (gs (gs (rg (sv (EV.mv rfl) rfl (sv (EV.mv rfl) rfl ?_))))))
      revert H; refine bdI ?_; rintro t15 A15 H
      refine so rfl (op_call (laws_toIntS.ok k l1 Al1 cl1 _ A15) [⟨0, 0, 0, false⟩] 5 rfl rfl rfl rfl rfl ?_)
      rintro _ _ _ ⟨At15, ct15, rfl, rfl, rfl⟩
      revert H; refine bdI ?_; rintro t16 A16 H
      refine so rfl (op_call (laws_eqIntS.ok k t8 At8 ct8 t15 At15 ct15 _ A16) [⟨1, 0, 0, false⟩, ⟨2, 0, 0, false⟩] 7 rfl rfl rfl rfl rfl ?_)
      rintro _ _ _ ⟨rfl, rfl, rfl⟩
      refine sv (EV.nt rfl) rfl (re (pr [55] [] [] rfl rfl rfl rfl ?_))
      revert H; refine ifsI ?_ ?_ <;> intro c17 H
      ·
       subst c17
       refine gf rfl rfl (gk (gs (rg (sv (EV.as rfl) rfl (re ?_)))))
       cases H
       exact rt Try.func7 rfl (.tmp rfl .nil) rfl [] [] rfl rfl rfl rfl rfl ⟨rfl, rfl, rfl⟩
      ·
       obtain rfl := bF c17
       refine gt rfl rfl (gs (rg (sv (EV.as rfl) rfl (re ?_))))
       cases H
       exact rt Try.func7 rfl (.tmp rfl .nil) rfl [] [] rfl rfl rfl rfl rfl ⟨rfl, rfl, rfl⟩
     ·
      obtain rfl := bF c14
      refine gt rfl rfl (gs (rg (sv (EV.as rfl) rfl (re ?_))))
      cases H
      exact rt Try.func7 rfl (.tmp rfl .nil) rfl [] [] rfl rfl rfl rfl rfl ⟨rfl, rfl, rfl⟩
    ·
     refine gt rfl (bM c11) (gs (rg (sv (EV.as rfl) rfl (re ?_))))
     cases H
     exact rt Try.func7 rfl (.tmp rfl .nil) rfl [] [] rfl rfl rfl rfl rfl ⟨rfl, rfl, rfl⟩
   ·
    refine ts 41 rfl (nT c10) (sk rfl (sk rfl (sk rfl (sv (EV.pt rfl rfl rfl) rfl (re (pr [1, 2, 8, 9, 45] [0, 1] [0, 1, 2, 3] rfl rfl rfl rfl (gt rfl rfl (gs (rg (sv (EV.as rfl) rfl (re ?_)))))))))))
    cases H
    exact rt Try.func7 rfl (.tmp rfl .nil) rfl [] [] rfl rfl rfl rfl rfl ⟨rfl, rfl, rfl⟩
end Go.Proofs.Ytfcebaplphpajaa.K
