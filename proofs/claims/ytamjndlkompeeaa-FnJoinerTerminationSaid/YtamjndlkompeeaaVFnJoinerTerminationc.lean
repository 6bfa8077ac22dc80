/- Walks: what the functions compute. Printed by gen.py; no condition. -/
import Derived.Test.YtamjndlkompeeaaVFnJoinerTerminationb
namespace Go.Proofs.Ytamjndlkompeeaa.K
open Go Go.RowKit
set_option linter.unusedVariables false
set_option linter.unusedSimpArgs false
def spec_l19Joiner.l0 : Nat → Int → Int → Int → (List S27) → Int → Int → (List S27) → Int → Int → (List Int) → Option ((List S27) × Int × Int × Int × Int)
 | 0, _, _, _, _, _, _, _, _, _, _ => none
 | k + 1, x4_6, x4_1000_1, x4_1000_2, x4_2_0, x4_2_1, x4_2_2, x4_4_0, x4_4_1, x4_4_2, l0_0 => if x4_6 > 0 then ((spec_l1PickInt.f l0_0 x4_1000_1 x4_1000_2 ([8, 9, 12] : List Int)).bind fun bt8 => ((spec_StepJoiner.f k x4_4_0 x4_4_1 x4_4_2 bt8.1).bind fun bt9 => (spec_l19Joiner.l0 k (wrap64 (x4_6 - 1)) bt8.2.1 bt8.2.2 x4_2_0 x4_2_1 x4_2_2 bt9.1 bt9.2.1 bt9.2.2.1 l0_0))) else ((spec_l1Below.f l0_0 x4_1000_1 x4_1000_2 16).bind fun bt15 => (if bt15.1 = 0 then (if x4_4_0.length < 1599289640401 then ((spec_l16Any.f k l0_0 bt15.2.1 bt15.2.2 3).bind fun bt18 => (some (x4_4_0 ++ ([(⟨bt18.1, bt18.2.1, bt18.2.2.1, bt18.2.2.2.1, bt18.2.2.2.2.1⟩ : S27)] : List S27), x4_4_1, x4_4_2, bt18.2.2.2.2.2.1, bt18.2.2.2.2.2.2))) else none) else (if bt15.1 = 1 then ((spec_l1PickInt.f l0_0 bt15.2.1 bt15.2.2 ([(-1), 100001] : List Int)).bind fun bt23 => (some (x4_4_0, bt23.1, x4_4_2, bt23.2.1, bt23.2.2))) else (if bt15.1 = 2 then (some (x4_4_0, x4_4_1, (-1), bt15.2.1, bt15.2.2)) else (some (x4_4_0, x4_4_1, x4_4_2, bt15.2.1, bt15.2.2))))))
def spec_l19Joiner.f (k : Nat) (l0_0 : List Int) (a0_1 : Int) (a0_2 : Int) : Option ((List S27) × Int × Int × Int × Int) := (spec_l2Rows.f k l0_0 a0_1 a0_2 8).bind fun bt1 => ((spec_l1Below.f l0_0 bt1.2.1 bt1.2.2 4).bind fun bt2 => ((spec_l2Rows.f k l0_0 bt2.2.1 bt2.2.2 12).bind fun bt3 => ((spec_NewJoiner.f k (wrap64 (1 + bt2.1)) bt1.1 bt3.1).bind fun bt4 => ((spec_l1Below.f l0_0 bt3.2.1 bt3.2.2 6).bind fun bt5 => (spec_l19Joiner.l0 k bt5.1 bt5.2.1 bt5.2.2 [] 0 0 bt4.1 bt4.2.1 bt4.2.2.1 l0_0)))))
set_option maxHeartbeats 4000000 in
set_option maxRecDepth 100000 in
theorem spec_l19Joiner.ok (k : Nat) (b1000 : Nat) (l0_0 : List Int) (Al0_0 : Option Addr) (cl0_0 : Nat) (a0_1 : Int) (a0_2 : Int) (r0 : List S27) (r1 : Int) (r2 : Int) (r3 : Int) (r4 : Int) (H : spec_l19Joiner.f k l0_0 a0_1 a0_2 = some (r0, r1, r2, r3, r4)) : Fn Try.prog 89 [.pointer (some ⟨b1000, 0, none⟩)] [⟨b1000, 119, [.slice Al0_0 l0_0.length cl0_0, .int .i64 a0_1, .int .i64 a0_2]⟩] [.sl 0 (.int .u8) Al0_0 cl0_0 l0_0 0 false] (fun v bx en => ∃ A0 c0, v = .agg #[.slice A0 r0.length c0, .int .i64 r1, .int .i64 r2] ∧ bx = [⟨b1000, 119, [.slice Al0_0 l0_0.length cl0_0, .int .i64 r3, .int .i64 r4]⟩] ∧ en = [.sl 1 k27 A0 c0 r0 1 true]) := by
 refine fn_ 56 Try.func89 rfl rfl rfl (fun base T w0 => ?_)
 rw [spec_l19Joiner.f] at H
 refine gs (rg (so rfl (op_alloc (cs := [.slice none 0 0, .int .i64 0, .int .i64 0]) (by kernel_rfl) rfl fun b2 => (re (gs (rg (sv (EV.mv rfl) rfl ?_)))))))
 revert H; refine bdI ?_; rintro ⟨t1_0, t1_1, t1_2⟩ A1 H
 refine so rfl (op_callM (spec_l2Rows.ok k b1000 l0_0 Al0_0 cl0_0 a0_1 a0_2 8 _ _ _ A1) [⟨0, 0, 0, false⟩] [0] [1] 1 rfl rfl rfl rfl rfl rfl rfl rfl ?_)
 rintro _ _ _ ⟨At1_0, ct1_0, rfl, rfl, rfl⟩
 refine nmE (en := [.sl 0 (.int .u8) Al0_0 cl0_0 l0_0 0 false, .sl 2 k99 At1_0 ct1_0 t1_0 2 true]) (by kernel_rfl) (sv (EV.as rfl) rfl (re (gs (rg (sv (EV.mv rfl) rfl ?_)))))
 revert H; refine bdI ?_; rintro ⟨t2_0, t2_1, t2_2⟩ A2 H
 refine so rfl (op_callM (spec_l1Below.ok b1000 l0_0 Al0_0 cl0_0 t1_1 t1_2 4 _ _ _ A2) [⟨0, 0, 0, false⟩] [1] [0] 3 rfl rfl rfl rfl rfl rfl rfl rfl ?_)
 rintro _ _ _ ⟨rfl, rfl, rfl⟩
 refine nmE (en := [.sl 0 (.int .u8) Al0_0 cl0_0 l0_0 0 false, .sl 2 k99 At1_0 ct1_0 t1_0 2 true]) (by kernel_rfl) (sv (EV.add rfl rfl) rfl (sv (EV.mv rfl) rfl (sv (EV.mv rfl) rfl ?_)))
 revert H; refine bdI ?_; rintro ⟨t3_0, t3_1, t3_2⟩ A3 H
 refine so rfl (op_callM (spec_l2Rows.ok k b1000 l0_0 Al0_0 cl0_0 t2_1 t2_2 12 _ _ _ A3) [⟨0, 0, 0, false⟩] [1] [0] 3 rfl rfl rfl rfl rfl rfl rfl rfl ?_)
 rintro _ _ _ ⟨At3_0, ct3_0, rfl, rfl, rfl⟩
 refine nmE (en := [.sl 0 (.int .u8) Al0_0 cl0_0 l0_0 0 false, .sl 2 k99 At1_0 ct1_0 t1_0 2 true, .sl 2 k99 At3_0 ct3_0 t3_0 4 true]) (by kernel_rfl) ?_
 revert H; refine bdI ?_; rintro ⟨t4_0, t4_1, t4_2, t4_3⟩ A4 H
 refine so rfl (op_call (spec_NewJoiner.ok k (wrap64 (1 + t2_0)) t1_0 At1_0 ct1_0 t3_0 At3_0 ct3_0 _ _ _ _ A4) [⟨1, 0, 0, false⟩, ⟨2, 0, 0, false⟩] 5 rfl rfl rfl rfl rfl ?_)
 rintro _ _ _ ⟨At4_0, ct4_0, rfl, rfl, rfl⟩
 refine sv (EV.mv rfl) rfl (sv (EV.ex rfl rfl) rfl (sv (EV.ex rfl rfl) rfl (so rfl (op_alloc (cs := [.slice none 0 0, .int .i64 0, .int .i64 0]) (by kernel_rfl) rfl fun b4 => (so rfl (op_st (cs' := [.slice At4_0 t4_0.length ct4_0, .int .i64 t4_1, .int .i64 t4_2]) 2 rfl rfl rfl rfl rfl rfl (sv (EV.as rfl) rfl (re (pr [0, 2, 4] [0, 1, 2] [0, 3] rfl rfl rfl rfl (gs (gs (rg (sv (EV.mv rfl) rfl ?_)))))))))))))
 revert H; refine bdI ?_; rintro ⟨t5_0, t5_1, t5_2⟩ A5 H
 refine so rfl (op_callM (spec_l1Below.ok b1000 l0_0 Al0_0 cl0_0 t3_1 t3_2 6 _ _ _ A5) [⟨0, 0, 0, false⟩] [1] [0, 2] 7 rfl rfl rfl rfl rfl rfl rfl rfl ?_)
 rintro _ _ _ ⟨rfl, rfl, rfl⟩
 refine nmE (en := [.sl 0 (.int .u8) Al0_0 cl0_0 l0_0 0 false, .sl 2 k27 At4_0 ct4_0 t4_0 6 true]) (by kernel_rfl) (sv (EV.as rfl) rfl (re (gb (nil_ k27 7 dq ?_))))
 refine lo (fun kk S => ∃ (x4_6 : Int) (x4_1000_1 : Int) (x4_1000_2 : Int) (x4_2_0 : List S27) (Ax4_2_0 : Option Addr) (cx4_2_0 : Nat) (x4_2_1 : Int) (x4_2_2 : Int) (x4_4_0 : List S27) (Ax4_4_0 : Option Addr) (cx4_4_0 : Nat) (x4_4_1 : Int) (x4_4_2 : Int), spec_l19Joiner.l0 kk x4_6 x4_1000_1 x4_1000_2 x4_2_0 x4_2_1 x4_2_2 x4_4_0 x4_4_1 x4_4_2 l0_0 = some (r0, r1, r2, r3, r4) ∧ S = ⟨[(0, .pointer (some ⟨b1000, 0, none⟩)), (2, .pointer (some ⟨b2, 0, none⟩)), (4, .pointer (some ⟨b4, 0, none⟩)), (6, .int .i64 x4_6)], [⟨b1000, 119, [.slice Al0_0 l0_0.length cl0_0, .int .i64 x4_1000_1, .int .i64 x4_1000_2]⟩, ⟨b2, 60, [.slice Ax4_2_0 x4_2_0.length cx4_2_0, .int .i64 x4_2_1, .int .i64 x4_2_2]⟩, ⟨b4, 60, [.slice Ax4_4_0 x4_4_0.length cx4_4_0, .int .i64 x4_4_1, .int .i64 x4_4_2]⟩], [.sl 2 k27 Ax4_2_0 cx4_2_0 x4_2_0 1 true, .sl 1 k27 Ax4_4_0 cx4_4_0 x4_4_0 2 true, .sl 0 (.int .u8) Al0_0 cl0_0 l0_0 0 false]⟩) (fun S hS => ?_) (fun n0 ih0 S hS => ?_) ⟨t5_0, t5_1, t5_2, [], none, 0, 0, 0, t4_0, At4_0, ct4_0, t4_1, t4_2, H, rfl⟩ (fun h => wk [0, 2, 4, 6] [2, 0, 1] [⟨2, 2, 1, true⟩, ⟨1, 1, 2, true⟩, ⟨0, 0, 0, false⟩] h)
 · clear H; obtain ⟨_, _, _, _, _, _, _, _, _, _, _, _, _, H, _⟩ := hS; rw [spec_l19Joiner.l0] at H; cases H
 clear H
 obtain ⟨x4_6, x4_1000_1, x4_1000_2, x4_2_0, Ax4_2_0, cx4_2_0, x4_2_1, x4_2_2, x4_4_0, Ax4_4_0, cx4_4_0, x4_4_1, x4_4_2, H, rfl⟩ := hS
 rw [spec_l19Joiner.l0] at H
 refine gs (gs (rg (sv (EV.mv rfl) rfl (sv (EV.gtr rfl rfl) rfl (re ?_)))))
 revert H; refine ifsI ?_ ?_ <;> intro c6 H
 ·
  refine gt rfl (dT c6) (gk (gs (gb (dr [] [0, 1, 2] [10] 11 rfl rfl rfl rfl (xv 1 [] [0, 1, 2] rfl (EV.mv rfl) rfl rfl rfl rfl ?_)))))
  refine one2 0 2 rfl rfl rfl rfl ?_ ?_
  ·
   refine ov (EV.ld (v := .agg #[.slice Ax4_4_0 x4_4_0.length cx4_4_0, .int .i64 x4_4_1, .int .i64 x4_4_2]) 2 (some 3) rfl rfl rfl) rfl (xs [] [0, 1, 2] rfl rfl rfl (one1 2 rfl rfl (op_lit (s := 1) (by_ := 8) (.int .i64) ([8, 9, 12] : List Int) [[], [], []] [] 3 [.const (.int .i64 8), .const (.int .i64 9), .const (.int .i64 12)] rfl rfl rfl rfl rfl rfl rfl rfl rfl rfl rfl rfl rfl dq rfl fun A28_7 c28_7 => (xs [] [0, 1, 2] rfl rfl rfl (one1 3 rfl rfl ?_)))))
   revert H; refine bdI ?_; rintro ⟨t8_0, t8_1, t8_2⟩ A8 H
   refine op_callM (spec_l1PickInt.ok b1000 l0_0 Al0_0 cl0_0 x4_1000_1 x4_1000_2 ([8, 9, 12] : List Int) A28_7 c28_7 _ _ _ A8) [⟨2, 0, 0, false⟩, ⟨3, 0, 0, false⟩] [0] [1, 2] 4 rfl rfl rfl rfl rfl rfl rfl rfl ?_
   rintro _ _ _ ⟨rfl, rfl, rfl⟩
   refine nmE (en := [.sl 2 k27 Ax4_2_0 cx4_2_0 x4_2_0 1 true, .sl 1 k27 Ax4_4_0 cx4_4_0 x4_4_0 2 true, .sl 0 (.int .u8) Al0_0 cl0_0 l0_0 0 false, .sl 2 (.int .i64) A28_7 c28_7 ([8, 9, 12] : List Int) 3 true]) (by kernel_rfl) (xs [] [0, 1, 2] rfl rfl rfl (one1 4 rfl rfl ?_))
   revert H; refine bdI ?_; rintro ⟨t9_0, t9_1, t9_2, t9_3, t9_4, t9_5⟩ A9 H
   refine op_call (spec_StepJoiner.ok n0 x4_4_0 Ax4_4_0 cx4_4_0 x4_4_1 x4_4_2 t8_0 _ _ _ _ _ _ A9) [⟨1, 0, 0, false⟩] 4 rfl rfl rfl rfl rfl ?_
   rintro _ _ _ ⟨At9_0, ct9_0, At9_3, ct9_3, rfl, rfl, rfl⟩
   refine xs [] [0, 1, 2] rfl rfl rfl (one1 5 rfl rfl (ov (EV.mv rfl) rfl (xs [] [0, 1, 2] rfl rfl rfl ?_)))
   refine one4 6 7 8 9 rfl rfl rfl rfl rfl rfl rfl rfl ?_ ?_ ?_ ?_
   ·
    refine ov (EV.ex rfl rfl) rfl (xs [] [0, 1, 2] rfl rfl rfl ?_)
    refine one4 7 8 9 10 rfl rfl rfl rfl rfl rfl rfl rfl ?_ ?_ ?_ ?_
    ·
     refine ov (EV.ex rfl rfl) rfl (xs [] [0, 1, 2] rfl rfl rfl ?_)
     refine one3 8 9 10 rfl rfl rfl rfl rfl rfl ?_ ?_ ?_
     ·
      refine ov (EV.ex rfl rfl) rfl (xs [] [0, 1, 2] rfl rfl rfl ?_)
      refine one2 9 10 rfl rfl rfl rfl ?_ ?_
      ·
       exact ov (EV.ex rfl rfl) rfl (xs [] [0, 1, 2] rfl rfl rfl (one1 10 rfl rfl (op_st (cs' := [.slice At9_0 t9_0.length ct9_0, .int .i64 t9_1, .int .i64 t9_2]) 1 rfl rfl rfl rfl rfl rfl (xn rfl (xd (pr [0, 2, 4, 6] [0, 1, 2] [0, 2, 4] rfl rfl rfl rfl (ge (rg (sv (EV.mv rfl) rfl (sv (EV.sub rfl rfl) rfl (sv (EV.as rfl) rfl (re (wk [0, 2, 4, 6] [2, 0, 1] [⟨0, 2, 1, true⟩, ⟨2, 1, 2, true⟩, ⟨1, 0, 0, false⟩] (ih0 _ (by omega) _ ⟨wrap64 (x4_6 - 1), t8_1, t8_2, x4_2_0, Ax4_2_0, cx4_2_0, x4_2_1, x4_2_2, t9_0, At9_0, ct9_0, t9_1, t9_2, H, rfl⟩))))))))))))))
      ·
       exact op_st (cs' := [.slice At9_0 t9_0.length ct9_0, .int .i64 t9_1, .int .i64 t9_2]) 1 rfl rfl rfl rfl rfl rfl (xn rfl (one1 9 rfl rfl (ov (EV.ex rfl rfl) rfl (xs [] [0, 1, 2] rfl rfl rfl (xd (pr [0, 2, 4, 6] [0, 1, 2] [0, 2, 4] rfl rfl rfl rfl (ge (rg (sv (EV.mv rfl) rfl (sv (EV.sub rfl rfl) rfl (sv (EV.as rfl) rfl (re (wk [0, 2, 4, 6] [2, 0, 1] [⟨0, 2, 1, true⟩, ⟨2, 1, 2, true⟩, ⟨1, 0, 0, false⟩] (ih0 _ (by omega) _ ⟨wrap64 (x4_6 - 1), t8_1, t8_2, x4_2_0, Ax4_2_0, cx4_2_0, x4_2_1, x4_2_2, t9_0, At9_0, ct9_0, t9_1, t9_2, H, rfl⟩))))))))))))))
     ·
      refine ov (EV.ex rfl rfl) rfl (xs [] [0, 1, 2] rfl rfl rfl ?_)
      refine one2 8 10 rfl rfl rfl rfl ?_ ?_
      ·
       exact ov (EV.ex rfl rfl) rfl (xs [] [0, 1, 2] rfl rfl rfl (one1 10 rfl rfl (op_st (cs' := [.slice At9_0 t9_0.length ct9_0, .int .i64 t9_1, .int .i64 t9_2]) 1 rfl rfl rfl rfl rfl rfl (xn rfl (xd (pr [0, 2, 4, 6] [0, 1, 2] [0, 2, 4] rfl rfl rfl rfl (ge (rg (sv (EV.mv rfl) rfl (sv (EV.sub rfl rfl) rfl (sv (EV.as rfl) rfl (re (wk [0, 2, 4, 6] [2, 0, 1] [⟨0, 2, 1, true⟩, ⟨2, 1, 2, true⟩, ⟨1, 0, 0, false⟩] (ih0 _ (by omega) _ ⟨wrap64 (x4_6 - 1), t8_1, t8_2, x4_2_0, Ax4_2_0, cx4_2_0, x4_2_1, x4_2_2, t9_0, At9_0, ct9_0, t9_1, t9_2, H, rfl⟩))))))))))))))
      ·
       exact op_st (cs' := [.slice At9_0 t9_0.length ct9_0, .int .i64 t9_1, .int .i64 t9_2]) 1 rfl rfl rfl rfl rfl rfl (xn rfl (one1 8 rfl rfl (ov (EV.ex rfl rfl) rfl (xs [] [0, 1, 2] rfl rfl rfl (xd (pr [0, 2, 4, 6] [0, 1, 2] [0, 2, 4] rfl rfl rfl rfl (ge (rg (sv (EV.mv rfl) rfl (sv (EV.sub rfl rfl) rfl (sv (EV.as rfl) rfl (re (wk [0, 2, 4, 6] [2, 0, 1] [⟨0, 2, 1, true⟩, ⟨2, 1, 2, true⟩, ⟨1, 0, 0, false⟩] (ih0 _ (by omega) _ ⟨wrap64 (x4_6 - 1), t8_1, t8_2, x4_2_0, Ax4_2_0, cx4_2_0, x4_2_1, x4_2_2, t9_0, At9_0, ct9_0, t9_1, t9_2, H, rfl⟩))))))))))))))
     ·
      refine op_st (cs' := [.slice At9_0 t9_0.length ct9_0, .int .i64 t9_1, .int .i64 t9_2]) 1 rfl rfl rfl rfl rfl rfl (xn rfl ?_)
      refine one2 8 9 rfl rfl rfl rfl ?_ ?_
      ·
       exact ov (EV.ex rfl rfl) rfl (xs [] [0, 1, 2] rfl rfl rfl (one1 9 rfl rfl (ov (EV.ex rfl rfl) rfl (xs [] [0, 1, 2] rfl rfl rfl (xd (pr [0, 2, 4, 6] [0, 1, 2] [0, 2, 4] rfl rfl rfl rfl (ge (rg (sv (EV.mv rfl) rfl (sv (EV.sub rfl rfl) rfl (sv (EV.as rfl) rfl (re (wk [0, 2, 4, 6] [2, 0, 1] [⟨0, 2, 1, true⟩, ⟨2, 1, 2, true⟩, ⟨1, 0, 0, false⟩] (ih0 _ (by omega) _ ⟨wrap64 (x4_6 - 1), t8_1, t8_2, x4_2_0, Ax4_2_0, cx4_2_0, x4_2_1, x4_2_2, t9_0, At9_0, ct9_0, t9_1, t9_2, H, rfl⟩))))))))))))))
      ·
       exact ov (EV.ex rfl rfl) rfl (xs [] [0, 1, 2] rfl rfl rfl (one1 8 rfl rfl (ov (EV.ex rfl rfl) rfl (xs [] [0, 1, 2] rfl rfl rfl (xd (pr [0, 2, 4, 6] [0, 1, 2] [0, 2, 4] rfl rfl rfl rfl (ge (rg (sv (EV.mv rfl) rfl (sv (EV.sub rfl rfl) rfl (sv (EV.as rfl) rfl (re (wk [0, 2, 4, 6] [2, 0, 1] [⟨0, 2, 1, true⟩, ⟨2, 1, 2, true⟩, ⟨1, 0, 0, false⟩] (ih0 _ (by omega) _ ⟨wrap64 (x4_6 - 1), t8_1, t8_2, x4_2_0, Ax4_2_0, cx4_2_0, x4_2_1, x4_2_2, t9_0, At9_0, ct9_0, t9_1, t9_2, H, rfl⟩))))))))))))))
    ·
     refine ov (EV.ex rfl rfl) rfl (xs [] [0, 1, 2] rfl rfl rfl ?_)
     refine one3 7 9 10 rfl rfl rfl rfl rfl rfl ?_ ?_ ?_
     ·
      refine ov (EV.ex rfl rfl) rfl (xs [] [0, 1, 2] rfl rfl rfl ?_)
      refine one2 9 10 rfl rfl rfl rfl ?_ ?_
      ·
       exact ov (EV.ex rfl rfl) rfl (xs [] [0, 1, 2] rfl rfl rfl (one1 10 rfl rfl (op_st (cs' := [.slice At9_0 t9_0.length ct9_0, .int .i64 t9_1, .int .i64 t9_2]) 1 rfl rfl rfl rfl rfl rfl (xn rfl (xd (pr [0, 2, 4, 6] [0, 1, 2] [0, 2, 4] rfl rfl rfl rfl (ge (rg (sv (EV.mv rfl) rfl (sv (EV.sub rfl rfl) rfl (sv (EV.as rfl) rfl (re (wk [0, 2, 4, 6] [2, 0, 1] [⟨0, 2, 1, true⟩, ⟨2, 1, 2, true⟩, ⟨1, 0, 0, false⟩] (ih0 _ (by omega) _ ⟨wrap64 (x4_6 - 1), t8_1, t8_2, x4_2_0, Ax4_2_0, cx4_2_0, x4_2_1, x4_2_2, t9_0, At9_0, ct9_0, t9_1, t9_2, H, rfl⟩))))))))))))))
      ·
       exact op_st (cs' := [.slice At9_0 t9_0.length ct9_0, .int .i64 t9_1, .int .i64 t9_2]) 1 rfl rfl rfl rfl rfl rfl (xn rfl (one1 9 rfl rfl (ov (EV.ex rfl rfl) rfl (xs [] [0, 1, 2] rfl rfl rfl (xd (pr [0, 2, 4, 6] [0, 1, 2] [0, 2, 4] rfl rfl rfl rfl (ge (rg (sv (EV.mv rfl) rfl (sv (EV.sub rfl rfl) rfl (sv (EV.as rfl) rfl (re (wk [0, 2, 4, 6] [2, 0, 1] [⟨0, 2, 1, true⟩, ⟨2, 1, 2, true⟩, ⟨1, 0, 0, false⟩] (ih0 _ (by omega) _ ⟨wrap64 (x4_6 - 1), t8_1, t8_2, x4_2_0, Ax4_2_0, cx4_2_0, x4_2_1, x4_2_2, t9_0, At9_0, ct9_0, t9_1, t9_2, H, rfl⟩))))))))))))))
     ·
      refine ov (EV.ex rfl rfl) rfl (xs [] [0, 1, 2] rfl rfl rfl ?_)
      refine one2 7 10 rfl rfl rfl rfl ?_ ?_
      ·
       exact ov (EV.ex rfl rfl) rfl (xs [] [0, 1, 2] rfl rfl rfl (one1 10 rfl rfl (op_st (cs' := [.slice At9_0 t9_0.length ct9_0, .int .i64 t9_1, .int .i64 t9_2]) 1 rfl rfl rfl rfl rfl rfl (xn rfl (xd (pr [0, 2, 4, 6] [0, 1, 2] [0, 2, 4] rfl rfl rfl rfl (ge (rg (sv (EV.mv rfl) rfl (sv (EV.sub rfl rfl) rfl (sv (EV.as rfl) rfl (re (wk [0, 2, 4, 6] [2, 0, 1] [⟨0, 2, 1, true⟩, ⟨2, 1, 2, true⟩, ⟨1, 0, 0, false⟩] (ih0 _ (by omega) _ ⟨wrap64 (x4_6 - 1), t8_1, t8_2, x4_2_0, Ax4_2_0, cx4_2_0, x4_2_1, x4_2_2, t9_0, At9_0, ct9_0, t9_1, t9_2, H, rfl⟩))))))))))))))
      ·
       exact op_st (cs' := [.slice At9_0 t9_0.length ct9_0, .int .i64 t9_1, .int .i64 t9_2]) 1 rfl rfl rfl rfl rfl rfl (xn rfl (one1 7 rfl rfl (ov (EV.ex rfl rfl) rfl (xs [] [0, 1, 2] rfl rfl rfl (xd (pr [0, 2, 4, 6] [0, 1, 2] [0, 2, 4] rfl rfl rfl rfl (ge (rg (sv (EV.mv rfl) rfl (sv (EV.sub rfl rfl) rfl (sv (EV.as rfl) rfl (re (wk [0, 2, 4, 6] [2, 0, 1] [⟨0, 2, 1, true⟩, ⟨2, 1, 2, true⟩, ⟨1, 0, 0, false⟩] (ih0 _ (by omega) _ ⟨wrap64 (x4_6 - 1), t8_1, t8_2, x4_2_0, Ax4_2_0, cx4_2_0, x4_2_1, x4_2_2, t9_0, At9_0, ct9_0, t9_1, t9_2, H, rfl⟩))))))))))))))
     ·
      refine op_st (cs' := [.slice At9_0 t9_0.length ct9_0, .int .i64 t9_1, .int .i64 t9_2]) 1 rfl rfl rfl rfl rfl rfl (xn rfl ?_)
      refine one2 7 9 rfl rfl rfl rfl ?_ ?_
      ·
       exact ov (EV.ex rfl rfl) rfl (xs [] [0, 1, 2] rfl rfl rfl (one1 9 rfl rfl (ov (EV.ex rfl rfl) rfl (xs [] [0, 1, 2] rfl rfl rfl (xd (pr [0, 2, 4, 6] [0, 1, 2] [0, 2, 4] rfl rfl rfl rfl (ge (rg (sv (EV.mv rfl) rfl (sv (EV.sub rfl rfl) rfl (sv (EV.as rfl) rfl (re (wk [0, 2, 4, 6] [2, 0, 1] [⟨0, 2, 1, true⟩, ⟨2, 1, 2, true⟩, ⟨1, 0, 0, false⟩] (ih0 _ (by omega) _ ⟨wrap64 (x4_6 - 1), t8_1, t8_2, x4_2_0, Ax4_2_0, cx4_2_0, x4_2_1, x4_2_2, t9_0, At9_0, ct9_0, t9_1, t9_2, H, rfl⟩))))))))))))))
      ·
       exact ov (EV.ex rfl rfl) rfl (xs [] [0, 1, 2] rfl rfl rfl (one1 7 rfl rfl (ov (EV.ex rfl rfl) rfl (xs [] [0, 1, 2] rfl rfl rfl (xd (pr [0, 2, 4, 6] [0, 1, 2] [0, 2, 4] rfl rfl rfl rfl (ge (rg (sv (EV.mv rfl) rfl (sv (EV.sub rfl rfl) rfl (sv (EV.as rfl) rfl (re (wk [0, 2, 4, 6] [2, 0, 1] [⟨0, 2, 1, true⟩, ⟨2, 1, 2, true⟩, ⟨1, 0, 0, false⟩] (ih0 _ (by omega) _ ⟨wrap64 (x4_6 - 1), t8_1, t8_2, x4_2_0, Ax4_2_0, cx4_2_0, x4_2_1, x4_2_2, t9_0, At9_0, ct9_0, t9_1, t9_2, H, rfl⟩))))))))))))))
    ·
     refine ov (EV.ex rfl rfl) rfl (xs [] [0, 1, 2] rfl rfl rfl ?_)
     refine one3 7 8 10 rfl rfl rfl rfl rfl rfl ?_ ?_ ?_
     ·
      refine ov (EV.ex rfl rfl) rfl (xs [] [0, 1, 2] rfl rfl rfl ?_)
      refine one2 8 10 rfl rfl rfl rfl ?_ ?_
      ·
       exact ov (EV.ex rfl rfl) rfl (xs [] [0, 1, 2] rfl rfl rfl (one1 10 rfl rfl (op_st (cs' := [.slice At9_0 t9_0.length ct9_0, .int .i64 t9_1, .int .i64 t9_2]) 1 rfl rfl rfl rfl rfl rfl (xn rfl (xd (pr [0, 2, 4, 6] [0, 1, 2] [0, 2, 4] rfl rfl rfl rfl (ge (rg (sv (EV.mv rfl) rfl (sv (EV.sub rfl rfl) rfl (sv (EV.as rfl) rfl (re (wk [0, 2, 4, 6] [2, 0, 1] [⟨0, 2, 1, true⟩, ⟨2, 1, 2, true⟩, ⟨1, 0, 0, false⟩] (ih0 _ (by omega) _ ⟨wrap64 (x4_6 - 1), t8_1, t8_2, x4_2_0, Ax4_2_0, cx4_2_0, x4_2_1, x4_2_2, t9_0, At9_0, ct9_0, t9_1, t9_2, H, rfl⟩))))))))))))))
      ·
       exact op_st (cs' := [.slice At9_0 t9_0.length ct9_0, .int .i64 t9_1, .int .i64 t9_2]) 1 rfl rfl rfl rfl rfl rfl (xn rfl (one1 8 rfl rfl (ov (EV.ex rfl rfl) rfl (xs [] [0, 1, 2] rfl rfl rfl (xd (pr [0, 2, 4, 6] [0, 1, 2] [0, 2, 4] rfl rfl rfl rfl (ge (rg (sv (EV.mv rfl) rfl (sv (EV.sub rfl rfl) rfl (sv (EV.as rfl) rfl (re (wk [0, 2, 4, 6] [2, 0, 1] [⟨0, 2, 1, true⟩, ⟨2, 1, 2, true⟩, ⟨1, 0, 0, false⟩] (ih0 _ (by omega) _ ⟨wrap64 (x4_6 - 1), t8_1, t8_2, x4_2_0, Ax4_2_0, cx4_2_0, x4_2_1, x4_2_2, t9_0, At9_0, ct9_0, t9_1, t9_2, H, rfl⟩))))))))))))))
     ·
      refine ov (EV.ex rfl rfl) rfl (xs [] [0, 1, 2] rfl rfl rfl ?_)
      refine one2 7 10 rfl rfl rfl rfl ?_ ?_
      ·
       exact ov (EV.ex rfl rfl) rfl (xs [] [0, 1, 2] rfl rfl rfl (one1 10 rfl rfl (op_st (cs' := [.slice At9_0 t9_0.length ct9_0, .int .i64 t9_1, .int .i64 t9_2]) 1 rfl rfl rfl rfl rfl rfl (xn rfl (xd (pr [0, 2, 4, 6] [0, 1, 2] [0, 2, 4] rfl rfl rfl rfl (ge (rg (sv (EV.mv rfl) rfl (sv (EV.sub rfl rfl) rfl (sv (EV.as rfl) rfl (re (wk [0, 2, 4, 6] [2, 0, 1] [⟨0, 2, 1, true⟩, ⟨2, 1, 2, true⟩, ⟨1, 0, 0, false⟩] (ih0 _ (by omega) _ ⟨wrap64 (x4_6 - 1), t8_1, t8_2, x4_2_0, Ax4_2_0, cx4_2_0, x4_2_1, x4_2_2, t9_0, At9_0, ct9_0, t9_1, t9_2, H, rfl⟩))))))))))))))
      ·
       exact op_st (cs' := [.slice At9_0 t9_0.length ct9_0, .int .i64 t9_1, .int .i64 t9_2]) 1 rfl rfl rfl rfl rfl rfl (xn rfl (one1 7 rfl rfl (ov (EV.ex rfl rfl) rfl (xs [] [0, 1, 2] rfl rfl rfl (xd (pr [0, 2, 4, 6] [0, 1, 2] [0, 2, 4] rfl rfl rfl rfl (ge (rg (sv (EV.mv rfl) rfl (sv (EV.sub rfl rfl) rfl (sv (EV.as rfl) rfl (re (wk [0, 2, 4, 6] [2, 0, 1] [⟨0, 2, 1, true⟩, ⟨2, 1, 2, true⟩, ⟨1, 0, 0, false⟩] (ih0 _ (by omega) _ ⟨wrap64 (x4_6 - 1), t8_1, t8_2, x4_2_0, Ax4_2_0, cx4_2_0, x4_2_1, x4_2_2, t9_0, At9_0, ct9_0, t9_1, t9_2, H, rfl⟩))))))))))))))
     ·
      refine op_st (cs' := [.slice At9_0 t9_0.length ct9_0, .int .i64 t9_1, .int .i64 t9_2]) 1 rfl rfl rfl rfl rfl rfl (xn rfl ?_)
      refine one2 7 8 rfl rfl rfl rfl ?_ ?_
      ·
       exact ov (EV.ex rfl rfl) rfl (xs [] [0, 1, 2] rfl rfl rfl (one1 8 rfl rfl (ov (EV.ex rfl rfl) rfl (xs [] [0, 1, 2] rfl rfl rfl (xd (pr [0, 2, 4, 6] [0, 1, 2] [0, 2, 4] rfl rfl rfl rfl (ge (rg (sv (EV.mv rfl) rfl (sv (EV.sub rfl rfl) rfl (sv (EV.as rfl) rfl (re (wk [0, 2, 4, 6] [2, 0, 1] [⟨0, 2, 1, true⟩, ⟨2, 1, 2, true⟩, ⟨1, 0, 0, false⟩] (ih0 _ (by omega) _ ⟨wrap64 (x4_6 - 1), t8_1, t8_2, x4_2_0, Ax4_2_0, cx4_2_0, x4_2_1, x4_2_2, t9_0, At9_0, ct9_0, t9_1, t9_2, H, rfl⟩))))))))))))))
      ·
       exact ov (EV.ex rfl rfl) rfl (xs [] [0, 1, 2] rfl rfl rfl (one1 7 rfl rfl (ov (EV.ex rfl rfl) rfl (xs [] [0, 1, 2] rfl rfl rfl (xd (pr [0, 2, 4, 6] [0, 1, 2] [0, 2, 4] rfl rfl rfl rfl (ge (rg (sv (EV.mv rfl) rfl (sv (EV.sub rfl rfl) rfl (sv (EV.as rfl) rfl (re (wk [0, 2, 4, 6] [2, 0, 1] [⟨0, 2, 1, true⟩, ⟨2, 1, 2, true⟩, ⟨1, 0, 0, false⟩] (ih0 _ (by omega) _ ⟨wrap64 (x4_6 - 1), t8_1, t8_2, x4_2_0, Ax4_2_0, cx4_2_0, x4_2_1, x4_2_2, t9_0, At9_0, ct9_0, t9_1, t9_2, H, rfl⟩))))))))))))))
    ·
     refine op_st (cs' := [.slice At9_0 t9_0.length ct9_0, .int .i64 t9_1, .int .i64 t9_2]) 1 rfl rfl rfl rfl rfl rfl (xn rfl ?_)
     refine one3 7 8 9 rfl rfl rfl rfl rfl rfl ?_ ?_ ?_
     ·
      refine ov (EV.ex rfl rfl) rfl (xs [] [0, 1, 2] rfl rfl rfl ?_)
      refine one2 8 9 rfl rfl rfl rfl ?_ ?_
      ·
       exact ov (EV.ex rfl rfl) rfl (xs [] [0, 1, 2] rfl rfl rfl (one1 9 rfl rfl (ov (EV.ex rfl rfl) rfl (xs [] [0, 1, 2] rfl rfl rfl (xd (pr [0, 2, 4, 6] [0, 1, 2] [0, 2, 4] rfl rfl rfl rfl (ge (rg (sv (EV.mv rfl) rfl (sv (EV.sub rfl rfl) rfl (sv (EV.as rfl) rfl (re (wk [0, 2, 4, 6] [2, 0, 1] [⟨0, 2, 1, true⟩, ⟨2, 1, 2, true⟩, ⟨1, 0, 0, false⟩] (ih0 _ (by omega) _ ⟨wrap64 (x4_6 - 1), t8_1, t8_2, x4_2_0, Ax4_2_0, cx4_2_0, x4_2_1, x4_2_2, t9_0, At9_0, ct9_0, t9_1, t9_2, H, rfl⟩))))))))))))))
      ·
       exact ov (EV.ex rfl rfl) rfl (xs [] [0, 1, 2] rfl rfl rfl (one1 8 rfl rfl (ov (EV.ex rfl rfl) rfl (xs [] [0, 1, 2] rfl rfl rfl (xd (pr [0, 2, 4, 6] [0, 1, 2] [0, 2, 4] rfl rfl rfl rfl (ge (rg (sv (EV.mv rfl) rfl (sv (EV.sub rfl rfl) rfl (sv (EV.as rfl) rfl (re (wk [0, 2, 4, 6] [2, 0, 1] [⟨0, 2, 1, true⟩, ⟨2, 1, 2, true⟩, ⟨1, 0, 0, false⟩] (ih0 _ (by omega) _ ⟨wrap64 (x4_6 - 1), t8_1, t8_2, x4_2_0, Ax4_2_0, cx4_2_0, x4_2_1, x4_2_2, t9_0, At9_0, ct9_0, t9_1, t9_2, H, rfl⟩))))))))))))))
     ·
      refine ov (EV.ex rfl rfl) rfl (xs [] [0, 1, 2] rfl rfl rfl ?_)
      refine one2 7 9 rfl rfl rfl rfl ?_ ?_
      ·
       exact ov (EV.ex rfl rfl) rfl (xs [] [0, 1, 2] rfl rfl rfl (one1 9 rfl rfl (ov (EV.ex rfl rfl) rfl (xs [] [0, 1, 2] rfl rfl rfl (xd (pr [0, 2, 4, 6] [0, 1, 2] [0, 2, 4] rfl rfl rfl rfl (ge (rg (sv (EV.mv rfl) rfl (sv (EV.sub rfl rfl) rfl (sv (EV.as rfl) rfl (re (wk [0, 2, 4, 6] [2, 0, 1] [⟨0, 2, 1, true⟩, ⟨2, 1, 2, true⟩, ⟨1, 0, 0, false⟩] (ih0 _ (by omega) _ ⟨wrap64 (x4_6 - 1), t8_1, t8_2, x4_2_0, Ax4_2_0, cx4_2_0, x4_2_1, x4_2_2, t9_0, At9_0, ct9_0, t9_1, t9_2, H, rfl⟩))))))))))))))
      ·
       exact ov (EV.ex rfl rfl) rfl (xs [] [0, 1, 2] rfl rfl rfl (one1 7 rfl rfl (ov (EV.ex rfl rfl) rfl (xs [] [0, 1, 2] rfl rfl rfl (xd (pr [0, 2, 4, 6] [0, 1, 2] [0, 2, 4] rfl rfl rfl rfl (ge (rg (sv (EV.mv rfl) rfl (sv (EV.sub rfl rfl) rfl (sv (EV.as rfl) rfl (re (wk [0, 2, 4, 6] [2, 0, 1] [⟨0, 2, 1, true⟩, ⟨2, 1, 2, true⟩, ⟨1, 0, 0, false⟩] (ih0 _ (by omega) _ ⟨wrap64 (x4_6 - 1), t8_1, t8_2, x4_2_0, Ax4_2_0, cx4_2_0, x4_2_1, x4_2_2, t9_0, At9_0, ct9_0, t9_1, t9_2, H, rfl⟩))))))))))))))
     ·
      refine ov (EV.ex rfl rfl) rfl (xs [] [0, 1, 2] rfl rfl rfl ?_)
      refine one2 7 8 rfl rfl rfl rfl ?_ ?_
      ·
       exact ov (EV.ex rfl rfl) rfl (xs [] [0, 1, 2] rfl rfl rfl (one1 8 rfl rfl (ov (EV.ex rfl rfl) rfl (xs [] [0, 1, 2] rfl rfl rfl (xd (pr [0, 2, 4, 6] [0, 1, 2] [0, 2, 4] rfl rfl rfl rfl (ge (rg (sv (EV.mv rfl) rfl (sv (EV.sub rfl rfl) rfl (sv (EV.as rfl) rfl (re (wk [0, 2, 4, 6] [2, 0, 1] [⟨0, 2, 1, true⟩, ⟨2, 1, 2, true⟩, ⟨1, 0, 0, false⟩] (ih0 _ (by omega) _ ⟨wrap64 (x4_6 - 1), t8_1, t8_2, x4_2_0, Ax4_2_0, cx4_2_0, x4_2_1, x4_2_2, t9_0, At9_0, ct9_0, t9_1, t9_2, H, rfl⟩))))))))))))))
      ·
       exact ov (EV.ex rfl rfl) rfl (xs [] [0, 1, 2] rfl rfl rfl (one1 7 rfl rfl (ov (EV.ex rfl rfl) rfl (xs [] [0, 1, 2] rfl rfl rfl (xd (pr [0, 2, 4, 6] [0, 1, 2] [0, 2, 4] rfl rfl rfl rfl (ge (rg (sv (EV.mv rfl) rfl (sv (EV.sub rfl rfl) rfl (sv (EV.as rfl) rfl (re (wk [0, 2, 4, 6] [2, 0, 1] [⟨0, 2, 1, true⟩, ⟨2, 1, 2, true⟩, ⟨1, 0, 0, false⟩] (ih0 _ (by omega) _ ⟨wrap64 (x4_6 - 1), t8_1, t8_2, x4_2_0, Ax4_2_0, cx4_2_0, x4_2_1, x4_2_2, t9_0, At9_0, ct9_0, t9_1, t9_2, H, rfl⟩))))))))))))))
   ·
    refine ov (EV.ex rfl rfl) rfl (xs [] [0, 1, 2] rfl rfl rfl ?_)
    refine one3 6 8 9 rfl rfl rfl rfl rfl rfl ?_ ?_ ?_
    ·
     refine ov (EV.ex rfl rfl) rfl (xs [] [0, 1, 2] rfl rfl rfl ?_)
     refine one3 8 9 10 rfl rfl rfl rfl rfl rfl ?_ ?_ ?_
     ·
      refine ov (EV.ex rfl rfl) rfl (xs [] [0, 1, 2] rfl rfl rfl ?_)
      refine one2 9 10 rfl rfl rfl rfl ?_ ?_
      ·
       exact ov (EV.ex rfl rfl) rfl (xs [] [0, 1, 2] rfl rfl rfl (one1 10 rfl rfl (op_st (cs' := [.slice At9_0 t9_0.length ct9_0, .int .i64 t9_1, .int .i64 t9_2]) 1 rfl rfl rfl rfl rfl rfl (xn rfl (xd (pr [0, 2, 4, 6] [0, 1, 2] [0, 2, 4] rfl rfl rfl rfl (ge (rg (sv (EV.mv rfl) rfl (sv (EV.sub rfl rfl) rfl (sv (EV.as rfl) rfl (re (wk [0, 2, 4, 6] [2, 0, 1] [⟨0, 2, 1, true⟩, ⟨2, 1, 2, true⟩, ⟨1, 0, 0, false⟩] (ih0 _ (by omega) _ ⟨wrap64 (x4_6 - 1), t8_1, t8_2, x4_2_0, Ax4_2_0, cx4_2_0, x4_2_1, x4_2_2, t9_0, At9_0, ct9_0, t9_1, t9_2, H, rfl⟩))))))))))))))
      ·
       exact op_st (cs' := [.slice At9_0 t9_0.length ct9_0, .int .i64 t9_1, .int .i64 t9_2]) 1 rfl rfl rfl rfl rfl rfl (xn rfl (one1 9 rfl rfl (ov (EV.ex rfl rfl) rfl (xs [] [0, 1, 2] rfl rfl rfl (xd (pr [0, 2, 4, 6] [0, 1, 2] [0, 2, 4] rfl rfl rfl rfl (ge (rg (sv (EV.mv rfl) rfl (sv (EV.sub rfl rfl) rfl (sv (EV.as rfl) rfl (re (wk [0, 2, 4, 6] [2, 0, 1] [⟨0, 2, 1, true⟩, ⟨2, 1, 2, true⟩, ⟨1, 0, 0, false⟩] (ih0 _ (by omega) _ ⟨wrap64 (x4_6 - 1), t8_1, t8_2, x4_2_0, Ax4_2_0, cx4_2_0, x4_2_1, x4_2_2, t9_0, At9_0, ct9_0, t9_1, t9_2, H, rfl⟩))))))))))))))
     ·
      refine ov (EV.ex rfl rfl) rfl (xs [] [0, 1, 2] rfl rfl rfl ?_)
      refine one2 8 10 rfl rfl rfl rfl ?_ ?_
      ·
       exact ov (EV.ex rfl rfl) rfl (xs [] [0, 1, 2] rfl rfl rfl (one1 10 rfl rfl (op_st (cs' := [.slice At9_0 t9_0.length ct9_0, .int .i64 t9_1, .int .i64 t9_2]) 1 rfl rfl rfl rfl rfl rfl (xn rfl (xd (pr [0, 2, 4, 6] [0, 1, 2] [0, 2, 4] rfl rfl rfl rfl (ge (rg (sv (EV.mv rfl) rfl (sv (EV.sub rfl rfl) rfl (sv (EV.as rfl) rfl (re (wk [0, 2, 4, 6] [2, 0, 1] [⟨0, 2, 1, true⟩, ⟨2, 1, 2, true⟩, ⟨1, 0, 0, false⟩] (ih0 _ (by omega) _ ⟨wrap64 (x4_6 - 1), t8_1, t8_2, x4_2_0, Ax4_2_0, cx4_2_0, x4_2_1, x4_2_2, t9_0, At9_0, ct9_0, t9_1, t9_2, H, rfl⟩))))))))))))))
      ·
       exact op_st (cs' := [.slice At9_0 t9_0.length ct9_0, .int .i64 t9_1, .int .i64 t9_2]) 1 rfl rfl rfl rfl rfl rfl (xn rfl (one1 8 rfl rfl (ov (EV.ex rfl rfl) rfl (xs [] [0, 1, 2] rfl rfl rfl (xd (pr [0, 2, 4, 6] [0, 1, 2] [0, 2, 4] rfl rfl rfl rfl (ge (rg (sv (EV.mv rfl) rfl (sv (EV.sub rfl rfl) rfl (sv (EV.as rfl) rfl (re (wk [0, 2, 4, 6] [2, 0, 1] [⟨0, 2, 1, true⟩, ⟨2, 1, 2, true⟩, ⟨1, 0, 0, false⟩] (ih0 _ (by omega) _ ⟨wrap64 (x4_6 - 1), t8_1, t8_2, x4_2_0, Ax4_2_0, cx4_2_0, x4_2_1, x4_2_2, t9_0, At9_0, ct9_0, t9_1, t9_2, H, rfl⟩))))))))))))))
     ·
      refine op_st (cs' := [.slice At9_0 t9_0.length ct9_0, .int .i64 t9_1, .int .i64 t9_2]) 1 rfl rfl rfl rfl rfl rfl (xn rfl ?_)
      refine one2 8 9 rfl rfl rfl rfl ?_ ?_
      ·
       exact ov (EV.ex rfl rfl) rfl (xs [] [0, 1, 2] rfl rfl rfl (one1 9 rfl rfl (ov (EV.ex rfl rfl) rfl (xs [] [0, 1, 2] rfl rfl rfl (xd (pr [0, 2, 4, 6] [0, 1, 2] [0, 2, 4] rfl rfl rfl rfl (ge (rg (sv (EV.mv rfl) rfl (sv (EV.sub rfl rfl) rfl (sv (EV.as rfl) rfl (re (wk [0, 2, 4, 6] [2, 0, 1] [⟨0, 2, 1, true⟩, ⟨2, 1, 2, true⟩, ⟨1, 0, 0, false⟩] (ih0 _ (by omega) _ ⟨wrap64 (x4_6 - 1), t8_1, t8_2, x4_2_0, Ax4_2_0, cx4_2_0, x4_2_1, x4_2_2, t9_0, At9_0, ct9_0, t9_1, t9_2, H, rfl⟩))))))))))))))
      ·
       exact ov (EV.ex rfl rfl) rfl (xs [] [0, 1, 2] rfl rfl rfl (one1 8 rfl rfl (ov (EV.ex rfl rfl) rfl (xs [] [0, 1, 2] rfl rfl rfl (xd (pr [0, 2, 4, 6] [0, 1, 2] [0, 2, 4] rfl rfl rfl rfl (ge (rg (sv (EV.mv rfl) rfl (sv (EV.sub rfl rfl) rfl (sv (EV.as rfl) rfl (re (wk [0, 2, 4, 6] [2, 0, 1] [⟨0, 2, 1, true⟩, ⟨2, 1, 2, true⟩, ⟨1, 0, 0, false⟩] (ih0 _ (by omega) _ ⟨wrap64 (x4_6 - 1), t8_1, t8_2, x4_2_0, Ax4_2_0, cx4_2_0, x4_2_1, x4_2_2, t9_0, At9_0, ct9_0, t9_1, t9_2, H, rfl⟩))))))))))))))
    ·
     refine ov (EV.ex rfl rfl) rfl (xs [] [0, 1, 2] rfl rfl rfl ?_)
     refine one2 6 9 rfl rfl rfl rfl ?_ ?_
     ·
      refine ov (EV.ex rfl rfl) rfl (xs [] [0, 1, 2] rfl rfl rfl ?_)
      refine one2 9 10 rfl rfl rfl rfl ?_ ?_
      ·
       exact ov (EV.ex rfl rfl) rfl (xs [] [0, 1, 2] rfl rfl rfl (one1 10 rfl rfl (op_st (cs' := [.slice At9_0 t9_0.length ct9_0, .int .i64 t9_1, .int .i64 t9_2]) 1 rfl rfl rfl rfl rfl rfl (xn rfl (xd (pr [0, 2, 4, 6] [0, 1, 2] [0, 2, 4] rfl rfl rfl rfl (ge (rg (sv (EV.mv rfl) rfl (sv (EV.sub rfl rfl) rfl (sv (EV.as rfl) rfl (re (wk [0, 2, 4, 6] [2, 0, 1] [⟨0, 2, 1, true⟩, ⟨2, 1, 2, true⟩, ⟨1, 0, 0, false⟩] (ih0 _ (by omega) _ ⟨wrap64 (x4_6 - 1), t8_1, t8_2, x4_2_0, Ax4_2_0, cx4_2_0, x4_2_1, x4_2_2, t9_0, At9_0, ct9_0, t9_1, t9_2, H, rfl⟩))))))))))))))
      ·
       exact op_st (cs' := [.slice At9_0 t9_0.length ct9_0, .int .i64 t9_1, .int .i64 t9_2]) 1 rfl rfl rfl rfl rfl rfl (xn rfl (one1 9 rfl rfl (ov (EV.ex rfl rfl) rfl (xs [] [0, 1, 2] rfl rfl rfl (xd (pr [0, 2, 4, 6] [0, 1, 2] [0, 2, 4] rfl rfl rfl rfl (ge (rg (sv (EV.mv rfl) rfl (sv (EV.sub rfl rfl) rfl (sv (EV.as rfl) rfl (re (wk [0, 2, 4, 6] [2, 0, 1] [⟨0, 2, 1, true⟩, ⟨2, 1, 2, true⟩, ⟨1, 0, 0, false⟩] (ih0 _ (by omega) _ ⟨wrap64 (x4_6 - 1), t8_1, t8_2, x4_2_0, Ax4_2_0, cx4_2_0, x4_2_1, x4_2_2, t9_0, At9_0, ct9_0, t9_1, t9_2, H, rfl⟩))))))))))))))
     ·
      exact ov (EV.ex rfl rfl) rfl (xs [] [0, 1, 2] rfl rfl rfl (one1 6 rfl rfl (ov (EV.ex rfl rfl) rfl (xs [] [0, 1, 2] rfl rfl rfl (one1 10 rfl rfl (op_st (cs' := [.slice At9_0 t9_0.length ct9_0, .int .i64 t9_1, .int .i64 t9_2]) 1 rfl rfl rfl rfl rfl rfl (xn rfl (xd (pr [0, 2, 4, 6] [0, 1, 2] [0, 2, 4] rfl rfl rfl rfl (ge (rg (sv (EV.mv rfl) rfl (sv (EV.sub rfl rfl) rfl (sv (EV.as rfl) rfl (re (wk [0, 2, 4, 6] [2, 0, 1] [⟨0, 2, 1, true⟩, ⟨2, 1, 2, true⟩, ⟨1, 0, 0, false⟩] (ih0 _ (by omega) _ ⟨wrap64 (x4_6 - 1), t8_1, t8_2, x4_2_0, Ax4_2_0, cx4_2_0, x4_2_1, x4_2_2, t9_0, At9_0, ct9_0, t9_1, t9_2, H, rfl⟩)))))))))))))))))
    ·
     refine ov (EV.ex rfl rfl) rfl (xs [] [0, 1, 2] rfl rfl rfl ?_)
     refine one2 6 8 rfl rfl rfl rfl ?_ ?_
     ·
      refine ov (EV.ex rfl rfl) rfl (xs [] [0, 1, 2] rfl rfl rfl ?_)
      refine one2 8 10 rfl rfl rfl rfl ?_ ?_
      ·
       exact ov (EV.ex rfl rfl) rfl (xs [] [0, 1, 2] rfl rfl rfl (one1 10 rfl rfl (op_st (cs' := [.slice At9_0 t9_0.length ct9_0, .int .i64 t9_1, .int .i64 t9_2]) 1 rfl rfl rfl rfl rfl rfl (xn rfl (xd (pr [0, 2, 4, 6] [0, 1, 2] [0, 2, 4] rfl rfl rfl rfl (ge (rg (sv (EV.mv rfl) rfl (sv (EV.sub rfl rfl) rfl (sv (EV.as rfl) rfl (re (wk [0, 2, 4, 6] [2, 0, 1] [⟨0, 2, 1, true⟩, ⟨2, 1, 2, true⟩, ⟨1, 0, 0, false⟩] (ih0 _ (by omega) _ ⟨wrap64 (x4_6 - 1), t8_1, t8_2, x4_2_0, Ax4_2_0, cx4_2_0, x4_2_1, x4_2_2, t9_0, At9_0, ct9_0, t9_1, t9_2, H, rfl⟩))))))))))))))
      ·
       exact op_st (cs' := [.slice At9_0 t9_0.length ct9_0, .int .i64 t9_1, .int .i64 t9_2]) 1 rfl rfl rfl rfl rfl rfl (xn rfl (one1 8 rfl rfl (ov (EV.ex rfl rfl) rfl (xs [] [0, 1, 2] rfl rfl rfl (xd (pr [0, 2, 4, 6] [0, 1, 2] [0, 2, 4] rfl rfl rfl rfl (ge (rg (sv (EV.mv rfl) rfl (sv (EV.sub rfl rfl) rfl (sv (EV.as rfl) rfl (re (wk [0, 2, 4, 6] [2, 0, 1] [⟨0, 2, 1, true⟩, ⟨2, 1, 2, true⟩, ⟨1, 0, 0, false⟩] (ih0 _ (by omega) _ ⟨wrap64 (x4_6 - 1), t8_1, t8_2, x4_2_0, Ax4_2_0, cx4_2_0, x4_2_1, x4_2_2, t9_0, At9_0, ct9_0, t9_1, t9_2, H, rfl⟩))))))))))))))
     ·
      exact ov (EV.ex rfl rfl) rfl (xs [] [0, 1, 2] rfl rfl rfl (one1 6 rfl rfl (ov (EV.ex rfl rfl) rfl (xs [] [0, 1, 2] rfl rfl rfl (one1 10 rfl rfl (op_st (cs' := [.slice At9_0 t9_0.length ct9_0, .int .i64 t9_1, .int .i64 t9_2]) 1 rfl rfl rfl rfl rfl rfl (xn rfl (xd (pr [0, 2, 4, 6] [0, 1, 2] [0, 2, 4] rfl rfl rfl rfl (ge (rg (sv (EV.mv rfl) rfl (sv (EV.sub rfl rfl) rfl (sv (EV.as rfl) rfl (re (wk [0, 2, 4, 6] [2, 0, 1] [⟨0, 2, 1, true⟩, ⟨2, 1, 2, true⟩, ⟨1, 0, 0, false⟩] (ih0 _ (by omega) _ ⟨wrap64 (x4_6 - 1), t8_1, t8_2, x4_2_0, Ax4_2_0, cx4_2_0, x4_2_1, x4_2_2, t9_0, At9_0, ct9_0, t9_1, t9_2, H, rfl⟩)))))))))))))))))
   ·
    refine ov (EV.ex rfl rfl) rfl (xs [] [0, 1, 2] rfl rfl rfl ?_)
    refine one3 6 7 9 rfl rfl rfl rfl rfl rfl ?_ ?_ ?_
    ·
     refine ov (EV.ex rfl rfl) rfl (xs [] [0, 1, 2] rfl rfl rfl ?_)
     refine one3 7 9 10 rfl rfl rfl rfl rfl rfl ?_ ?_ ?_
     ·
      refine ov (EV.ex rfl rfl) rfl (xs [] [0, 1, 2] rfl rfl rfl ?_)
      refine one2 9 10 rfl rfl rfl rfl ?_ ?_
      ·
       exact ov (EV.ex rfl rfl) rfl (xs [] [0, 1, 2] rfl rfl rfl (one1 10 rfl rfl (op_st (cs' := [.slice At9_0 t9_0.length ct9_0, .int .i64 t9_1, .int .i64 t9_2]) 1 rfl rfl rfl rfl rfl rfl (xn rfl (xd (pr [0, 2, 4, 6] [0, 1, 2] [0, 2, 4] rfl rfl rfl rfl (ge (rg (sv (EV.mv rfl) rfl (sv (EV.sub rfl rfl) rfl (sv (EV.as rfl) rfl (re (wk [0, 2, 4, 6] [2, 0, 1] [⟨0, 2, 1, true⟩, ⟨2, 1, 2, true⟩, ⟨1, 0, 0, false⟩] (ih0 _ (by omega) _ ⟨wrap64 (x4_6 - 1), t8_1, t8_2, x4_2_0, Ax4_2_0, cx4_2_0, x4_2_1, x4_2_2, t9_0, At9_0, ct9_0, t9_1, t9_2, H, rfl⟩))))))))))))))
      ·
       exact op_st (cs' := [.slice At9_0 t9_0.length ct9_0, .int .i64 t9_1, .int .i64 t9_2]) 1 rfl rfl rfl rfl rfl rfl (xn rfl (one1 9 rfl rfl (ov (EV.ex rfl rfl) rfl (xs [] [0, 1, 2] rfl rfl rfl (xd (pr [0, 2, 4, 6] [0, 1, 2] [0, 2, 4] rfl rfl rfl rfl (ge (rg (sv (EV.mv rfl) rfl (sv (EV.sub rfl rfl) rfl (sv (EV.as rfl) rfl (re (wk [0, 2, 4, 6] [2, 0, 1] [⟨0, 2, 1, true⟩, ⟨2, 1, 2, true⟩, ⟨1, 0, 0, false⟩] (ih0 _ (by omega) _ ⟨wrap64 (x4_6 - 1), t8_1, t8_2, x4_2_0, Ax4_2_0, cx4_2_0, x4_2_1, x4_2_2, t9_0, At9_0, ct9_0, t9_1, t9_2, H, rfl⟩))))))))))))))
     ·
      refine ov (EV.ex rfl rfl) rfl (xs [] [0, 1, 2] rfl rfl rfl ?_)
      refine one2 7 10 rfl rfl rfl rfl ?_ ?_
      ·
       exact ov (EV.ex rfl rfl) rfl (xs [] [0, 1, 2] rfl rfl rfl (one1 10 rfl rfl (op_st (cs' := [.slice At9_0 t9_0.length ct9_0, .int .i64 t9_1, .int .i64 t9_2]) 1 rfl rfl rfl rfl rfl rfl (xn rfl (xd (pr [0, 2, 4, 6] [0, 1, 2] [0, 2, 4] rfl rfl rfl rfl (ge (rg (sv (EV.mv rfl) rfl (sv (EV.sub rfl rfl) rfl (sv (EV.as rfl) rfl (re (wk [0, 2, 4, 6] [2, 0, 1] [⟨0, 2, 1, true⟩, ⟨2, 1, 2, true⟩, ⟨1, 0, 0, false⟩] (ih0 _ (by omega) _ ⟨wrap64 (x4_6 - 1), t8_1, t8_2, x4_2_0, Ax4_2_0, cx4_2_0, x4_2_1, x4_2_2, t9_0, At9_0, ct9_0, t9_1, t9_2, H, rfl⟩))))))))))))))
      ·
       exact op_st (cs' := [.slice At9_0 t9_0.length ct9_0, .int .i64 t9_1, .int .i64 t9_2]) 1 rfl rfl rfl rfl rfl rfl (xn rfl (one1 7 rfl rfl (ov (EV.ex rfl rfl) rfl (xs [] [0, 1, 2] rfl rfl rfl (xd (pr [0, 2, 4, 6] [0, 1, 2] [0, 2, 4] rfl rfl rfl rfl (ge (rg (sv (EV.mv rfl) rfl (sv (EV.sub rfl rfl) rfl (sv (EV.as rfl) rfl (re (wk [0, 2, 4, 6] [2, 0, 1] [⟨0, 2, 1, true⟩, ⟨2, 1, 2, true⟩, ⟨1, 0, 0, false⟩] (ih0 _ (by omega) _ ⟨wrap64 (x4_6 - 1), t8_1, t8_2, x4_2_0, Ax4_2_0, cx4_2_0, x4_2_1, x4_2_2, t9_0, At9_0, ct9_0, t9_1, t9_2, H, rfl⟩))))))))))))))
     ·
      refine op_st (cs' := [.slice At9_0 t9_0.length ct9_0, .int .i64 t9_1, .int .i64 t9_2]) 1 rfl rfl rfl rfl rfl rfl (xn rfl ?_)
      refine one2 7 9 rfl rfl rfl rfl ?_ ?_
      ·
       exact ov (EV.ex rfl rfl) rfl (xs [] [0, 1, 2] rfl rfl rfl (one1 9 rfl rfl (ov (EV.ex rfl rfl) rfl (xs [] [0, 1, 2] rfl rfl rfl (xd (pr [0, 2, 4, 6] [0, 1, 2] [0, 2, 4] rfl rfl rfl rfl (ge (rg (sv (EV.mv rfl) rfl (sv (EV.sub rfl rfl) rfl (sv (EV.as rfl) rfl (re (wk [0, 2, 4, 6] [2, 0, 1] [⟨0, 2, 1, true⟩, ⟨2, 1, 2, true⟩, ⟨1, 0, 0, false⟩] (ih0 _ (by omega) _ ⟨wrap64 (x4_6 - 1), t8_1, t8_2, x4_2_0, Ax4_2_0, cx4_2_0, x4_2_1, x4_2_2, t9_0, At9_0, ct9_0, t9_1, t9_2, H, rfl⟩))))))))))))))
      ·
       exact ov (EV.ex rfl rfl) rfl (xs [] [0, 1, 2] rfl rfl rfl (one1 7 rfl rfl (ov (EV.ex rfl rfl) rfl (xs [] [0, 1, 2] rfl rfl rfl (xd (pr [0, 2, 4, 6] [0, 1, 2] [0, 2, 4] rfl rfl rfl rfl (ge (rg (sv (EV.mv rfl) rfl (sv (EV.sub rfl rfl) rfl (sv (EV.as rfl) rfl (re (wk [0, 2, 4, 6] [2, 0, 1] [⟨0, 2, 1, true⟩, ⟨2, 1, 2, true⟩, ⟨1, 0, 0, false⟩] (ih0 _ (by omega) _ ⟨wrap64 (x4_6 - 1), t8_1, t8_2, x4_2_0, Ax4_2_0, cx4_2_0, x4_2_1, x4_2_2, t9_0, At9_0, ct9_0, t9_1, t9_2, H, rfl⟩))))))))))))))
    ·
     refine ov (EV.ex rfl rfl) rfl (xs [] [0, 1, 2] rfl rfl rfl ?_)
     refine one2 6 9 rfl rfl rfl rfl ?_ ?_
     ·
      refine ov (EV.ex rfl rfl) rfl (xs [] [0, 1, 2] rfl rfl rfl ?_)
      refine one2 9 10 rfl rfl rfl rfl ?_ ?_
      ·
       exact ov (EV.ex rfl rfl) rfl (xs [] [0, 1, 2] rfl rfl rfl (one1 10 rfl rfl (op_st (cs' := [.slice At9_0 t9_0.length ct9_0, .int .i64 t9_1, .int .i64 t9_2]) 1 rfl rfl rfl rfl rfl rfl (xn rfl (xd (pr [0, 2, 4, 6] [0, 1, 2] [0, 2, 4] rfl rfl rfl rfl (ge (rg (sv (EV.mv rfl) rfl (sv (EV.sub rfl rfl) rfl (sv (EV.as rfl) rfl (re (wk [0, 2, 4, 6] [2, 0, 1] [⟨0, 2, 1, true⟩, ⟨2, 1, 2, true⟩, ⟨1, 0, 0, false⟩] (ih0 _ (by omega) _ ⟨wrap64 (x4_6 - 1), t8_1, t8_2, x4_2_0, Ax4_2_0, cx4_2_0, x4_2_1, x4_2_2, t9_0, At9_0, ct9_0, t9_1, t9_2, H, rfl⟩))))))))))))))
      ·
       exact op_st (cs' := [.slice At9_0 t9_0.length ct9_0, .int .i64 t9_1, .int .i64 t9_2]) 1 rfl rfl rfl rfl rfl rfl (xn rfl (one1 9 rfl rfl (ov (EV.ex rfl rfl) rfl (xs [] [0, 1, 2] rfl rfl rfl (xd (pr [0, 2, 4, 6] [0, 1, 2] [0, 2, 4] rfl rfl rfl rfl (ge (rg (sv (EV.mv rfl) rfl (sv (EV.sub rfl rfl) rfl (sv (EV.as rfl) rfl (re (wk [0, 2, 4, 6] [2, 0, 1] [⟨0, 2, 1, true⟩, ⟨2, 1, 2, true⟩, ⟨1, 0, 0, false⟩] (ih0 _ (by omega) _ ⟨wrap64 (x4_6 - 1), t8_1, t8_2, x4_2_0, Ax4_2_0, cx4_2_0, x4_2_1, x4_2_2, t9_0, At9_0, ct9_0, t9_1, t9_2, H, rfl⟩))))))))))))))
     ·
      exact ov (EV.ex rfl rfl) rfl (xs [] [0, 1, 2] rfl rfl rfl (one1 6 rfl rfl (ov (EV.ex rfl rfl) rfl (xs [] [0, 1, 2] rfl rfl rfl (one1 10 rfl rfl (op_st (cs' := [.slice At9_0 t9_0.length ct9_0, .int .i64 t9_1, .int .i64 t9_2]) 1 rfl rfl rfl rfl rfl rfl (xn rfl (xd (pr [0, 2, 4, 6] [0, 1, 2] [0, 2, 4] rfl rfl rfl rfl (ge (rg (sv (EV.mv rfl) rfl (sv (EV.sub rfl rfl) rfl (sv (EV.as rfl) rfl (re (wk [0, 2, 4, 6] [2, 0, 1] [⟨0, 2, 1, true⟩, ⟨2, 1, 2, true⟩, ⟨1, 0, 0, false⟩] (ih0 _ (by omega) _ ⟨wrap64 (x4_6 - 1), t8_1, t8_2, x4_2_0, Ax4_2_0, cx4_2_0, x4_2_1, x4_2_2, t9_0, At9_0, ct9_0, t9_1, t9_2, H, rfl⟩)))))))))))))))))
    ·
     refine ov (EV.ex rfl rfl) rfl (xs [] [0, 1, 2] rfl rfl rfl ?_)
     refine one2 6 7 rfl rfl rfl rfl ?_ ?_
     ·
      refine ov (EV.ex rfl rfl) rfl (xs [] [0, 1, 2] rfl rfl rfl ?_)
      refine one2 7 10 rfl rfl rfl rfl ?_ ?_
      ·
       exact ov (EV.ex rfl rfl) rfl (xs [] [0, 1, 2] rfl rfl rfl (one1 10 rfl rfl (op_st (cs' := [.slice At9_0 t9_0.length ct9_0, .int .i64 t9_1, .int .i64 t9_2]) 1 rfl rfl rfl rfl rfl rfl (xn rfl (xd (pr [0, 2, 4, 6] [0, 1, 2] [0, 2, 4] rfl rfl rfl rfl (ge (rg (sv (EV.mv rfl) rfl (sv (EV.sub rfl rfl) rfl (sv (EV.as rfl) rfl (re (wk [0, 2, 4, 6] [2, 0, 1] [⟨0, 2, 1, true⟩, ⟨2, 1, 2, true⟩, ⟨1, 0, 0, false⟩] (ih0 _ (by omega) _ ⟨wrap64 (x4_6 - 1), t8_1, t8_2, x4_2_0, Ax4_2_0, cx4_2_0, x4_2_1, x4_2_2, t9_0, At9_0, ct9_0, t9_1, t9_2, H, rfl⟩))))))))))))))
      ·
       exact op_st (cs' := [.slice At9_0 t9_0.length ct9_0, .int .i64 t9_1, .int .i64 t9_2]) 1 rfl rfl rfl rfl rfl rfl (xn rfl (one1 7 rfl rfl (ov (EV.ex rfl rfl) rfl (xs [] [0, 1, 2] rfl rfl rfl (xd (pr [0, 2, 4, 6] [0, 1, 2] [0, 2, 4] rfl rfl rfl rfl (ge (rg (sv (EV.mv rfl) rfl (sv (EV.sub rfl rfl) rfl (sv (EV.as rfl) rfl (re (wk [0, 2, 4, 6] [2, 0, 1] [⟨0, 2, 1, true⟩, ⟨2, 1, 2, true⟩, ⟨1, 0, 0, false⟩] (ih0 _ (by omega) _ ⟨wrap64 (x4_6 - 1), t8_1, t8_2, x4_2_0, Ax4_2_0, cx4_2_0, x4_2_1, x4_2_2, t9_0, At9_0, ct9_0, t9_1, t9_2, H, rfl⟩))))))))))))))
     ·
      exact ov (EV.ex rfl rfl) rfl (xs [] [0, 1, 2] rfl rfl rfl (one1 6 rfl rfl (ov (EV.ex rfl rfl) rfl (xs [] [0, 1, 2] rfl rfl rfl (one1 10 rfl rfl (op_st (cs' := [.slice At9_0 t9_0.length ct9_0, .int .i64 t9_1, .int .i64 t9_2]) 1 rfl rfl rfl rfl rfl rfl (xn rfl (xd (pr [0, 2, 4, 6] [0, 1, 2] [0, 2, 4] rfl rfl rfl rfl (ge (rg (sv (EV.mv rfl) rfl (sv (EV.sub rfl rfl) rfl (sv (EV.as rfl) rfl (re (wk [0, 2, 4, 6] [2, 0, 1] [⟨0, 2, 1, true⟩, ⟨2, 1, 2, true⟩, ⟨1, 0, 0, false⟩] (ih0 _ (by omega) _ ⟨wrap64 (x4_6 - 1), t8_1, t8_2, x4_2_0, Ax4_2_0, cx4_2_0, x4_2_1, x4_2_2, t9_0, At9_0, ct9_0, t9_1, t9_2, H, rfl⟩)))))))))))))))))
   ·
    refine ov (EV.ex rfl rfl) rfl (xs [] [0, 1, 2] rfl rfl rfl ?_)
    refine one3 6 7 8 rfl rfl rfl rfl rfl rfl ?_ ?_ ?_
    ·
     refine ov (EV.ex rfl rfl) rfl (xs [] [0, 1, 2] rfl rfl rfl ?_)
     refine one3 7 8 10 rfl rfl rfl rfl rfl rfl ?_ ?_ ?_
     ·
      refine ov (EV.ex rfl rfl) rfl (xs [] [0, 1, 2] rfl rfl rfl ?_)
      refine one2 8 10 rfl rfl rfl rfl ?_ ?_
      ·
       exact ov (EV.ex rfl rfl) rfl (xs [] [0, 1, 2] rfl rfl rfl (one1 10 rfl rfl (op_st (cs' := [.slice At9_0 t9_0.length ct9_0, .int .i64 t9_1, .int .i64 t9_2]) 1 rfl rfl rfl rfl rfl rfl (xn rfl (xd (pr [0, 2, 4, 6] [0, 1, 2] [0, 2, 4] rfl rfl rfl rfl (ge (rg (sv (EV.mv rfl) rfl (sv (EV.sub rfl rfl) rfl (sv (EV.as rfl) rfl (re (wk [0, 2, 4, 6] [2, 0, 1] [⟨0, 2, 1, true⟩, ⟨2, 1, 2, true⟩, ⟨1, 0, 0, false⟩] (ih0 _ (by omega) _ ⟨wrap64 (x4_6 - 1), t8_1, t8_2, x4_2_0, Ax4_2_0, cx4_2_0, x4_2_1, x4_2_2, t9_0, At9_0, ct9_0, t9_1, t9_2, H, rfl⟩))))))))))))))
      ·
       exact op_st (cs' := [.slice At9_0 t9_0.length ct9_0, .int .i64 t9_1, .int .i64 t9_2]) 1 rfl rfl rfl rfl rfl rfl (xn rfl (one1 8 rfl rfl (ov (EV.ex rfl rfl) rfl (xs [] [0, 1, 2] rfl rfl rfl (xd (pr [0, 2, 4, 6] [0, 1, 2] [0, 2, 4] rfl rfl rfl rfl (ge (rg (sv (EV.mv rfl) rfl (sv (EV.sub rfl rfl) rfl (sv (EV.as rfl) rfl (re (wk [0, 2, 4, 6] [2, 0, 1] [⟨0, 2, 1, true⟩, ⟨2, 1, 2, true⟩, ⟨1, 0, 0, false⟩] (ih0 _ (by omega) _ ⟨wrap64 (x4_6 - 1), t8_1, t8_2, x4_2_0, Ax4_2_0, cx4_2_0, x4_2_1, x4_2_2, t9_0, At9_0, ct9_0, t9_1, t9_2, H, rfl⟩))))))))))))))
     ·
      refine ov (EV.ex rfl rfl) rfl (xs [] [0, 1, 2] rfl rfl rfl ?_)
      refine one2 7 10 rfl rfl rfl rfl ?_ ?_
      ·
       exact ov (EV.ex rfl rfl) rfl (xs [] [0, 1, 2] rfl rfl rfl (one1 10 rfl rfl (op_st (cs' := [.slice At9_0 t9_0.length ct9_0, .int .i64 t9_1, .int .i64 t9_2]) 1 rfl rfl rfl rfl rfl rfl (xn rfl (xd (pr [0, 2, 4, 6] [0, 1, 2] [0, 2, 4] rfl rfl rfl rfl (ge (rg (sv (EV.mv rfl) rfl (sv (EV.sub rfl rfl) rfl (sv (EV.as rfl) rfl (re (wk [0, 2, 4, 6] [2, 0, 1] [⟨0, 2, 1, true⟩, ⟨2, 1, 2, true⟩, ⟨1, 0, 0, false⟩] (ih0 _ (by omega) _ ⟨wrap64 (x4_6 - 1), t8_1, t8_2, x4_2_0, Ax4_2_0, cx4_2_0, x4_2_1, x4_2_2, t9_0, At9_0, ct9_0, t9_1, t9_2, H, rfl⟩))))))))))))))
      ·
       exact op_st (cs' := [.slice At9_0 t9_0.length ct9_0, .int .i64 t9_1, .int .i64 t9_2]) 1 rfl rfl rfl rfl rfl rfl (xn rfl (one1 7 rfl rfl (ov (EV.ex rfl rfl) rfl (xs [] [0, 1, 2] rfl rfl rfl (xd (pr [0, 2, 4, 6] [0, 1, 2] [0, 2, 4] rfl rfl rfl rfl (ge (rg (sv (EV.mv rfl) rfl (sv (EV.sub rfl rfl) rfl (sv (EV.as rfl) rfl (re (wk [0, 2, 4, 6] [2, 0, 1] [⟨0, 2, 1, true⟩, ⟨2, 1, 2, true⟩, ⟨1, 0, 0, false⟩] (ih0 _ (by omega) _ ⟨wrap64 (x4_6 - 1), t8_1, t8_2, x4_2_0, Ax4_2_0, cx4_2_0, x4_2_1, x4_2_2, t9_0, At9_0, ct9_0, t9_1, t9_2, H, rfl⟩))))))))))))))
     ·
      refine op_st (cs' := [.slice At9_0 t9_0.length ct9_0, .int .i64 t9_1, .int .i64 t9_2]) 1 rfl rfl rfl rfl rfl rfl (xn rfl ?_)
      refine one2 7 8 rfl rfl rfl rfl ?_ ?_
      ·
       exact ov (EV.ex rfl rfl) rfl (xs [] [0, 1, 2] rfl rfl rfl (one1 8 rfl rfl (ov (EV.ex rfl rfl) rfl (xs [] [0, 1, 2] rfl rfl rfl (xd (pr [0, 2, 4, 6] [0, 1, 2] [0, 2, 4] rfl rfl rfl rfl (ge (rg (sv (EV.mv rfl) rfl (sv (EV.sub rfl rfl) rfl (sv (EV.as rfl) rfl (re (wk [0, 2, 4, 6] [2, 0, 1] [⟨0, 2, 1, true⟩, ⟨2, 1, 2, true⟩, ⟨1, 0, 0, false⟩] (ih0 _ (by omega) _ ⟨wrap64 (x4_6 - 1), t8_1, t8_2, x4_2_0, Ax4_2_0, cx4_2_0, x4_2_1, x4_2_2, t9_0, At9_0, ct9_0, t9_1, t9_2, H, rfl⟩))))))))))))))
      ·
       exact ov (EV.ex rfl rfl) rfl (xs [] [0, 1, 2] rfl rfl rfl (one1 7 rfl rfl (ov (EV.ex rfl rfl) rfl (xs [] [0, 1, 2] rfl rfl rfl (xd (pr [0, 2, 4, 6] [0, 1, 2] [0, 2, 4] rfl rfl rfl rfl (ge (rg (sv (EV.mv rfl) rfl (sv (EV.sub rfl rfl) rfl (sv (EV.as rfl) rfl (re (wk [0, 2, 4, 6] [2, 0, 1] [⟨0, 2, 1, true⟩, ⟨2, 1, 2, true⟩, ⟨1, 0, 0, false⟩] (ih0 _ (by omega) _ ⟨wrap64 (x4_6 - 1), t8_1, t8_2, x4_2_0, Ax4_2_0, cx4_2_0, x4_2_1, x4_2_2, t9_0, At9_0, ct9_0, t9_1, t9_2, H, rfl⟩))))))))))))))
    ·
     refine ov (EV.ex rfl rfl) rfl (xs [] [0, 1, 2] rfl rfl rfl ?_)
     refine one2 6 8 rfl rfl rfl rfl ?_ ?_
     ·
      refine ov (EV.ex rfl rfl) rfl (xs [] [0, 1, 2] rfl rfl rfl ?_)
      refine one2 8 10 rfl rfl rfl rfl ?_ ?_
      ·
       exact ov (EV.ex rfl rfl) rfl (xs [] [0, 1, 2] rfl rfl rfl (one1 10 rfl rfl (op_st (cs' := [.slice At9_0 t9_0.length ct9_0, .int .i64 t9_1, .int .i64 t9_2]) 1 rfl rfl rfl rfl rfl rfl (xn rfl (xd (pr [0, 2, 4, 6] [0, 1, 2] [0, 2, 4] rfl rfl rfl rfl (ge (rg (sv (EV.mv rfl) rfl (sv (EV.sub rfl rfl) rfl (sv (EV.as rfl) rfl (re (wk [0, 2, 4, 6] [2, 0, 1] [⟨0, 2, 1, true⟩, ⟨2, 1, 2, true⟩, ⟨1, 0, 0, false⟩] (ih0 _ (by omega) _ ⟨wrap64 (x4_6 - 1), t8_1, t8_2, x4_2_0, Ax4_2_0, cx4_2_0, x4_2_1, x4_2_2, t9_0, At9_0, ct9_0, t9_1, t9_2, H, rfl⟩))))))))))))))
      ·
       exact op_st (cs' := [.slice At9_0 t9_0.length ct9_0, .int .i64 t9_1, .int .i64 t9_2]) 1 rfl rfl rfl rfl rfl rfl (xn rfl (one1 8 rfl rfl (ov (EV.ex rfl rfl) rfl (xs [] [0, 1, 2] rfl rfl rfl (xd (pr [0, 2, 4, 6] [0, 1, 2] [0, 2, 4] rfl rfl rfl rfl (ge (rg (sv (EV.mv rfl) rfl (sv (EV.sub rfl rfl) rfl (sv (EV.as rfl) rfl (re (wk [0, 2, 4, 6] [2, 0, 1] [⟨0, 2, 1, true⟩, ⟨2, 1, 2, true⟩, ⟨1, 0, 0, false⟩] (ih0 _ (by omega) _ ⟨wrap64 (x4_6 - 1), t8_1, t8_2, x4_2_0, Ax4_2_0, cx4_2_0, x4_2_1, x4_2_2, t9_0, At9_0, ct9_0, t9_1, t9_2, H, rfl⟩))))))))))))))
     ·
      exact ov (EV.ex rfl rfl) rfl (xs [] [0, 1, 2] rfl rfl rfl (one1 6 rfl rfl (ov (EV.ex rfl rfl) rfl (xs [] [0, 1, 2] rfl rfl rfl (one1 10 rfl rfl (op_st (cs' := [.slice At9_0 t9_0.length ct9_0, .int .i64 t9_1, .int .i64 t9_2]) 1 rfl rfl rfl rfl rfl rfl (xn rfl (xd (pr [0, 2, 4, 6] [0, 1, 2] [0, 2, 4] rfl rfl rfl rfl (ge (rg (sv (EV.mv rfl) rfl (sv (EV.sub rfl rfl) rfl (sv (EV.as rfl) rfl (re (wk [0, 2, 4, 6] [2, 0, 1] [⟨0, 2, 1, true⟩, ⟨2, 1, 2, true⟩, ⟨1, 0, 0, false⟩] (ih0 _ (by omega) _ ⟨wrap64 (x4_6 - 1), t8_1, t8_2, x4_2_0, Ax4_2_0, cx4_2_0, x4_2_1, x4_2_2, t9_0, At9_0, ct9_0, t9_1, t9_2, H, rfl⟩)))))))))))))))))
    ·
     refine ov (EV.ex rfl rfl) rfl (xs [] [0, 1, 2] rfl rfl rfl ?_)
     refine one2 6 7 rfl rfl rfl rfl ?_ ?_
     ·
      refine ov (EV.ex rfl rfl) rfl (xs [] [0, 1, 2] rfl rfl rfl ?_)
      refine one2 7 10 rfl rfl rfl rfl ?_ ?_
      ·
       exact ov (EV.ex rfl rfl) rfl (xs [] [0, 1, 2] rfl rfl rfl (one1 10 rfl rfl (op_st (cs' := [.slice At9_0 t9_0.length ct9_0, .int .i64 t9_1, .int .i64 t9_2]) 1 rfl rfl rfl rfl rfl rfl (xn rfl (xd (pr [0, 2, 4, 6] [0, 1, 2] [0, 2, 4] rfl rfl rfl rfl (ge (rg (sv (EV.mv rfl) rfl (sv (EV.sub rfl rfl) rfl (sv (EV.as rfl) rfl (re (wk [0, 2, 4, 6] [2, 0, 1] [⟨0, 2, 1, true⟩, ⟨2, 1, 2, true⟩, ⟨1, 0, 0, false⟩] (ih0 _ (by omega) _ ⟨wrap64 (x4_6 - 1), t8_1, t8_2, x4_2_0, Ax4_2_0, cx4_2_0, x4_2_1, x4_2_2, t9_0, At9_0, ct9_0, t9_1, t9_2, H, rfl⟩))))))))))))))
      ·
       exact op_st (cs' := [.slice At9_0 t9_0.length ct9_0, .int .i64 t9_1, .int .i64 t9_2]) 1 rfl rfl rfl rfl rfl rfl (xn rfl (one1 7 rfl rfl (ov (EV.ex rfl rfl) rfl (xs [] [0, 1, 2] rfl rfl rfl (xd (pr [0, 2, 4, 6] [0, 1, 2] [0, 2, 4] rfl rfl rfl rfl (ge (rg (sv (EV.mv rfl) rfl (sv (EV.sub rfl rfl) rfl (sv (EV.as rfl) rfl (re (wk [0, 2, 4, 6] [2, 0, 1] [⟨0, 2, 1, true⟩, ⟨2, 1, 2, true⟩, ⟨1, 0, 0, false⟩] (ih0 _ (by omega) _ ⟨wrap64 (x4_6 - 1), t8_1, t8_2, x4_2_0, Ax4_2_0, cx4_2_0, x4_2_1, x4_2_2, t9_0, At9_0, ct9_0, t9_1, t9_2, H, rfl⟩))))))))))))))
     ·
      exact ov (EV.ex rfl rfl) rfl (xs [] [0, 1, 2] rfl rfl rfl (one1 6 rfl rfl (ov (EV.ex rfl rfl) rfl (xs [] [0, 1, 2] rfl rfl rfl (one1 10 rfl rfl (op_st (cs' := [.slice At9_0 t9_0.length ct9_0, .int .i64 t9_1, .int .i64 t9_2]) 1 rfl rfl rfl rfl rfl rfl (xn rfl (xd (pr [0, 2, 4, 6] [0, 1, 2] [0, 2, 4] rfl rfl rfl rfl (ge (rg (sv (EV.mv rfl) rfl (sv (EV.sub rfl rfl) rfl (sv (EV.as rfl) rfl (re (wk [0, 2, 4, 6] [2, 0, 1] [⟨0, 2, 1, true⟩, ⟨2, 1, 2, true⟩, ⟨1, 0, 0, false⟩] (ih0 _ (by omega) _ ⟨wrap64 (x4_6 - 1), t8_1, t8_2, x4_2_0, Ax4_2_0, cx4_2_0, x4_2_1, x4_2_2, t9_0, At9_0, ct9_0, t9_1, t9_2, H, rfl⟩)))))))))))))))))
  ·
   refine op_lit (s := 1) (by_ := 8) (.int .i64) ([8, 9, 12] : List Int) [[], [], []] [] 3 [.const (.int .i64 8), .const (.int .i64 9), .const (.int .i64 12)] rfl rfl rfl rfl rfl rfl rfl rfl rfl rfl rfl rfl rfl dq rfl fun A28_10 c28_10 => (xs [] [0, 1, 2] rfl rfl rfl ?_)
   refine one2 0 3 rfl rfl rfl rfl ?_ ?_
   ·
    refine ov (EV.ld (v := .agg #[.slice Ax4_4_0 x4_4_0.length cx4_4_0, .int .i64 x4_4_1, .int .i64 x4_4_2]) 2 (some 3) rfl rfl rfl) rfl (xs [] [0, 1, 2] rfl rfl rfl (one1 3 rfl rfl ?_))
    revert H; refine bdI ?_; rintro ⟨t11_0, t11_1, t11_2⟩ A11 H
    refine op_callM (spec_l1PickInt.ok b1000 l0_0 Al0_0 cl0_0 x4_1000_1 x4_1000_2 ([8, 9, 12] : List Int) A28_10 c28_10 _ _ _ A11) [⟨2, 0, 0, false⟩, ⟨3, 0, 0, false⟩] [0] [1, 2] 4 rfl rfl rfl rfl rfl rfl rfl rfl ?_
    rintro _ _ _ ⟨rfl, rfl, rfl⟩
    refine nmE (en := [.sl 2 k27 Ax4_2_0 cx4_2_0 x4_2_0 1 true, .sl 1 k27 Ax4_4_0 cx4_4_0 x4_4_0 2 true, .sl 0 (.int .u8) Al0_0 cl0_0 l0_0 0 false, .sl 2 (.int .i64) A28_10 c28_10 ([8, 9, 12] : List Int) 3 true]) (by kernel_rfl) (xs [] [0, 1, 2] rfl rfl rfl (one1 4 rfl rfl ?_))
    revert H; refine bdI ?_; rintro ⟨t12_0, t12_1, t12_2, t12_3, t12_4, t12_5⟩ A12 H
    refine op_call (spec_StepJoiner.ok n0 x4_4_0 Ax4_4_0 cx4_4_0 x4_4_1 x4_4_2 t11_0 _ _ _ _ _ _ A12) [⟨1, 0, 0, false⟩] 4 rfl rfl rfl rfl rfl ?_
    rintro _ _ _ ⟨At12_0, ct12_0, At12_3, ct12_3, rfl, rfl, rfl⟩
    refine xs [] [0, 1, 2] rfl rfl rfl (one1 5 rfl rfl (ov (EV.mv rfl) rfl (xs [] [0, 1, 2] rfl rfl rfl ?_)))
    refine one4 6 7 8 9 rfl rfl rfl rfl rfl rfl rfl rfl ?_ ?_ ?_ ?_
    ·
     refine ov (EV.ex rfl rfl) rfl (xs [] [0, 1, 2] rfl rfl rfl ?_)
     refine one4 7 8 9 10 rfl rfl rfl rfl rfl rfl rfl rfl ?_ ?_ ?_ ?_
     ·
      refine ov (EV.ex rfl rfl) rfl (xs [] [0, 1, 2] rfl rfl rfl ?_)
      refine one3 8 9 10 rfl rfl rfl rfl rfl rfl ?_ ?_ ?_
      ·
       refine ov (EV.ex rfl rfl) rfl (xs [] [0, 1, 2] rfl rfl rfl ?_)
       refine one2 9 10 rfl rfl rfl rfl ?_ ?_
       ·
        exact ov (EV.ex rfl rfl) rfl (xs [] [0, 1, 2] rfl rfl rfl (one1 10 rfl rfl (op_st (cs' := [.slice At12_0 t12_0.length ct12_0, .int .i64 t12_1, .int .i64 t12_2]) 1 rfl rfl rfl rfl rfl rfl (xn rfl (xd (pr [0, 2, 4, 6] [0, 1, 2] [0, 2, 4] rfl rfl rfl rfl (ge (rg (sv (EV.mv rfl) rfl (sv (EV.sub rfl rfl) rfl (sv (EV.as rfl) rfl (re (wk [0, 2, 4, 6] [2, 0, 1] [⟨0, 2, 1, true⟩, ⟨2, 1, 2, true⟩, ⟨1, 0, 0, false⟩] (ih0 _ (by omega) _ ⟨wrap64 (x4_6 - 1), t11_1, t11_2, x4_2_0, Ax4_2_0, cx4_2_0, x4_2_1, x4_2_2, t12_0, At12_0, ct12_0, t12_1, t12_2, H, rfl⟩))))))))))))))
       ·
        exact op_st (cs' := [.slice At12_0 t12_0.length ct12_0, .int .i64 t12_1, .int .i64 t12_2]) 1 rfl rfl rfl rfl rfl rfl (xn rfl (one1 9 rfl rfl (ov (EV.ex rfl rfl) rfl (xs [] [0, 1, 2] rfl rfl rfl (xd (pr [0, 2, 4, 6] [0, 1, 2] [0, 2, 4] rfl rfl rfl rfl (ge (rg (sv (EV.mv rfl) rfl (sv (EV.sub rfl rfl) rfl (sv (EV.as rfl) rfl (re (wk [0, 2, 4, 6] [2, 0, 1] [⟨0, 2, 1, true⟩, ⟨2, 1, 2, true⟩, ⟨1, 0, 0, false⟩] (ih0 _ (by omega) _ ⟨wrap64 (x4_6 - 1), t11_1, t11_2, x4_2_0, Ax4_2_0, cx4_2_0, x4_2_1, x4_2_2, t12_0, At12_0, ct12_0, t12_1, t12_2, H, rfl⟩))))))))))))))
      ·
       refine ov (EV.ex rfl rfl) rfl (xs [] [0, 1, 2] rfl rfl rfl ?_)
       refine one2 8 10 rfl rfl rfl rfl ?_ ?_
       ·
        exact ov (EV.ex rfl rfl) rfl (xs [] [0, 1, 2] rfl rfl rfl (one1 10 rfl rfl (op_st (cs' := [.slice At12_0 t12_0.length ct12_0, .int .i64 t12_1, .int .i64 t12_2]) 1 rfl rfl rfl rfl rfl rfl (xn rfl (xd (pr [0, 2, 4, 6] [0, 1, 2] [0, 2, 4] rfl rfl rfl rfl (ge (rg (sv (EV.mv rfl) rfl (sv (EV.sub rfl rfl) rfl (sv (EV.as rfl) rfl (re (wk [0, 2, 4, 6] [2, 0, 1] [⟨0, 2, 1, true⟩, ⟨2, 1, 2, true⟩, ⟨1, 0, 0, false⟩] (ih0 _ (by omega) _ ⟨wrap64 (x4_6 - 1), t11_1, t11_2, x4_2_0, Ax4_2_0, cx4_2_0, x4_2_1, x4_2_2, t12_0, At12_0, ct12_0, t12_1, t12_2, H, rfl⟩))))))))))))))
       ·
        exact op_st (cs' := [.slice At12_0 t12_0.length ct12_0, .int .i64 t12_1, .int .i64 t12_2]) 1 rfl rfl rfl rfl rfl rfl (xn rfl (one1 8 rfl rfl (ov (EV.ex rfl rfl) rfl (xs [] [0, 1, 2] rfl rfl rfl (xd (pr [0, 2, 4, 6] [0, 1, 2] [0, 2, 4] rfl rfl rfl rfl (ge (rg (sv (EV.mv rfl) rfl (sv (EV.sub rfl rfl) rfl (sv (EV.as rfl) rfl (re (wk [0, 2, 4, 6] [2, 0, 1] [⟨0, 2, 1, true⟩, ⟨2, 1, 2, true⟩, ⟨1, 0, 0, false⟩] (ih0 _ (by omega) _ ⟨wrap64 (x4_6 - 1), t11_1, t11_2, x4_2_0, Ax4_2_0, cx4_2_0, x4_2_1, x4_2_2, t12_0, At12_0, ct12_0, t12_1, t12_2, H, rfl⟩))))))))))))))
      ·
       refine op_st (cs' := [.slice At12_0 t12_0.length ct12_0, .int .i64 t12_1, .int .i64 t12_2]) 1 rfl rfl rfl rfl rfl rfl (xn rfl ?_)
       refine one2 8 9 rfl rfl rfl rfl ?_ ?_
       ·
        exact ov (EV.ex rfl rfl) rfl (xs [] [0, 1, 2] rfl rfl rfl (one1 9 rfl rfl (ov (EV.ex rfl rfl) rfl (xs [] [0, 1, 2] rfl rfl rfl (xd (pr [0, 2, 4, 6] [0, 1, 2] [0, 2, 4] rfl rfl rfl rfl (ge (rg (sv (EV.mv rfl) rfl (sv (EV.sub rfl rfl) rfl (sv (EV.as rfl) rfl (re (wk [0, 2, 4, 6] [2, 0, 1] [⟨0, 2, 1, true⟩, ⟨2, 1, 2, true⟩, ⟨1, 0, 0, false⟩] (ih0 _ (by omega) _ ⟨wrap64 (x4_6 - 1), t11_1, t11_2, x4_2_0, Ax4_2_0, cx4_2_0, x4_2_1, x4_2_2, t12_0, At12_0, ct12_0, t12_1, t12_2, H, rfl⟩))))))))))))))
       ·
        exact ov (EV.ex rfl rfl) rfl (xs [] [0, 1, 2] rfl rfl rfl (one1 8 rfl rfl (ov (EV.ex rfl rfl) rfl (xs [] [0, 1, 2] rfl rfl rfl (xd (pr [0, 2, 4, 6] [0, 1, 2] [0, 2, 4] rfl rfl rfl rfl (ge (rg (sv (EV.mv rfl) rfl (sv (EV.sub rfl rfl) rfl (sv (EV.as rfl) rfl (re (wk [0, 2, 4, 6] [2, 0, 1] [⟨0, 2, 1, true⟩, ⟨2, 1, 2, true⟩, ⟨1, 0, 0, false⟩] (ih0 _ (by omega) _ ⟨wrap64 (x4_6 - 1), t11_1, t11_2, x4_2_0, Ax4_2_0, cx4_2_0, x4_2_1, x4_2_2, t12_0, At12_0, ct12_0, t12_1, t12_2, H, rfl⟩))))))))))))))
     ·
      refine ov (EV.ex rfl rfl) rfl (xs [] [0, 1, 2] rfl rfl rfl ?_)
      refine one3 7 9 10 rfl rfl rfl rfl rfl rfl ?_ ?_ ?_
      ·
       refine ov (EV.ex rfl rfl) rfl (xs [] [0, 1, 2] rfl rfl rfl ?_)
       refine one2 9 10 rfl rfl rfl rfl ?_ ?_
       ·
        exact ov (EV.ex rfl rfl) rfl (xs [] [0, 1, 2] rfl rfl rfl (one1 10 rfl rfl (op_st (cs' := [.slice At12_0 t12_0.length ct12_0, .int .i64 t12_1, .int .i64 t12_2]) 1 rfl rfl rfl rfl rfl rfl (xn rfl (xd (pr [0, 2, 4, 6] [0, 1, 2] [0, 2, 4] rfl rfl rfl rfl (ge (rg (sv (EV.mv rfl) rfl (sv (EV.sub rfl rfl) rfl (sv (EV.as rfl) rfl (re (wk [0, 2, 4, 6] [2, 0, 1] [⟨0, 2, 1, true⟩, ⟨2, 1, 2, true⟩, ⟨1, 0, 0, false⟩] (ih0 _ (by omega) _ ⟨wrap64 (x4_6 - 1), t11_1, t11_2, x4_2_0, Ax4_2_0, cx4_2_0, x4_2_1, x4_2_2, t12_0, At12_0, ct12_0, t12_1, t12_2, H, rfl⟩))))))))))))))
       ·
        exact op_st (cs' := [.slice At12_0 t12_0.length ct12_0, .int .i64 t12_1, .int .i64 t12_2]) 1 rfl rfl rfl rfl rfl rfl (xn rfl (one1 9 rfl rfl (ov (EV.ex rfl rfl) rfl (xs [] [0, 1, 2] rfl rfl rfl (xd (pr [0, 2, 4, 6] [0, 1, 2] [0, 2, 4] rfl rfl rfl rfl (ge (rg (sv (EV.mv rfl) rfl (sv (EV.sub rfl rfl) rfl (sv (EV.as rfl) rfl (re (wk [0, 2, 4, 6] [2, 0, 1] [⟨0, 2, 1, true⟩, ⟨2, 1, 2, true⟩, ⟨1, 0, 0, false⟩] (ih0 _ (by omega) _ ⟨wrap64 (x4_6 - 1), t11_1, t11_2, x4_2_0, Ax4_2_0, cx4_2_0, x4_2_1, x4_2_2, t12_0, At12_0, ct12_0, t12_1, t12_2, H, rfl⟩))))))))))))))
      ·
       refine ov (EV.ex rfl rfl) rfl (xs [] [0, 1, 2] rfl rfl rfl ?_)
       refine one2 7 10 rfl rfl rfl rfl ?_ ?_
       ·
        exact ov (EV.ex rfl rfl) rfl (xs [] [0, 1, 2] rfl rfl rfl (one1 10 rfl rfl (op_st (cs' := [.slice At12_0 t12_0.length ct12_0, .int .i64 t12_1, .int .i64 t12_2]) 1 rfl rfl rfl rfl rfl rfl (xn rfl (xd (pr [0, 2, 4, 6] [0, 1, 2] [0, 2, 4] rfl rfl rfl rfl (ge (rg (sv (EV.mv rfl) rfl (sv (EV.sub rfl rfl) rfl (sv (EV.as rfl) rfl (re (wk [0, 2, 4, 6] [2, 0, 1] [⟨0, 2, 1, true⟩, ⟨2, 1, 2, true⟩, ⟨1, 0, 0, false⟩] (ih0 _ (by omega) _ ⟨wrap64 (x4_6 - 1), t11_1, t11_2, x4_2_0, Ax4_2_0, cx4_2_0, x4_2_1, x4_2_2, t12_0, At12_0, ct12_0, t12_1, t12_2, H, rfl⟩))))))))))))))
       ·
        exact op_st (cs' := [.slice At12_0 t12_0.length ct12_0, .int .i64 t12_1, .int .i64 t12_2]) 1 rfl rfl rfl rfl rfl rfl (xn rfl (one1 7 rfl rfl (ov (EV.ex rfl rfl) rfl (xs [] [0, 1, 2] rfl rfl rfl (xd (pr [0, 2, 4, 6] [0, 1, 2] [0, 2, 4] rfl rfl rfl rfl (ge (rg (sv (EV.mv rfl) rfl (sv (EV.sub rfl rfl) rfl (sv (EV.as rfl) rfl (re (wk [0, 2, 4, 6] [2, 0, 1] [⟨0, 2, 1, true⟩, ⟨2, 1, 2, true⟩, ⟨1, 0, 0, false⟩] (ih0 _ (by omega) _ ⟨wrap64 (x4_6 - 1), t11_1, t11_2, x4_2_0, Ax4_2_0, cx4_2_0, x4_2_1, x4_2_2, t12_0, At12_0, ct12_0, t12_1, t12_2, H, rfl⟩))))))))))))))
      ·
       refine op_st (cs' := [.slice At12_0 t12_0.length ct12_0, .int .i64 t12_1, .int .i64 t12_2]) 1 rfl rfl rfl rfl rfl rfl (xn rfl ?_)
       refine one2 7 9 rfl rfl rfl rfl ?_ ?_
       ·
        exact ov (EV.ex rfl rfl) rfl (xs [] [0, 1, 2] rfl rfl rfl (one1 9 rfl rfl (ov (EV.ex rfl rfl) rfl (xs [] [0, 1, 2] rfl rfl rfl (xd (pr [0, 2, 4, 6] [0, 1, 2] [0, 2, 4] rfl rfl rfl rfl (ge (rg (sv (EV.mv rfl) rfl (sv (EV.sub rfl rfl) rfl (sv (EV.as rfl) rfl (re (wk [0, 2, 4, 6] [2, 0, 1] [⟨0, 2, 1, true⟩, ⟨2, 1, 2, true⟩, ⟨1, 0, 0, false⟩] (ih0 _ (by omega) _ ⟨wrap64 (x4_6 - 1), t11_1, t11_2, x4_2_0, Ax4_2_0, cx4_2_0, x4_2_1, x4_2_2, t12_0, At12_0, ct12_0, t12_1, t12_2, H, rfl⟩))))))))))))))
       ·
        exact ov (EV.ex rfl rfl) rfl (xs [] [0, 1, 2] rfl rfl rfl (one1 7 rfl rfl (ov (EV.ex rfl rfl) rfl (xs [] [0, 1, 2] rfl rfl rfl (xd (pr [0, 2, 4, 6] [0, 1, 2] [0, 2, 4] rfl rfl rfl rfl (ge (rg (sv (EV.mv rfl) rfl (sv (EV.sub rfl rfl) rfl (sv (EV.as rfl) rfl (re (wk [0, 2, 4, 6] [2, 0, 1] [⟨0, 2, 1, true⟩, ⟨2, 1, 2, true⟩, ⟨1, 0, 0, false⟩] (ih0 _ (by omega) _ ⟨wrap64 (x4_6 - 1), t11_1, t11_2, x4_2_0, Ax4_2_0, cx4_2_0, x4_2_1, x4_2_2, t12_0, At12_0, ct12_0, t12_1, t12_2, H, rfl⟩))))))))))))))
     ·
      refine ov (EV.ex rfl rfl) rfl (xs [] [0, 1, 2] rfl rfl rfl ?_)
      refine one3 7 8 10 rfl rfl rfl rfl rfl rfl ?_ ?_ ?_
      ·
       refine ov (EV.ex rfl rfl) rfl (xs [] [0, 1, 2] rfl rfl rfl ?_)
       refine one2 8 10 rfl rfl rfl rfl ?_ ?_
       ·
        exact ov (EV.ex rfl rfl) rfl (xs [] [0, 1, 2] rfl rfl rfl (one1 10 rfl rfl (op_st (cs' := [.slice At12_0 t12_0.length ct12_0, .int .i64 t12_1, .int .i64 t12_2]) 1 rfl rfl rfl rfl rfl rfl (xn rfl (xd (pr [0, 2, 4, 6] [0, 1, 2] [0, 2, 4] rfl rfl rfl rfl (ge (rg (sv (EV.mv rfl) rfl (sv (EV.sub rfl rfl) rfl (sv (EV.as rfl) rfl (re (wk [0, 2, 4, 6] [2, 0, 1] [⟨0, 2, 1, true⟩, ⟨2, 1, 2, true⟩, ⟨1, 0, 0, false⟩] (ih0 _ (by omega) _ ⟨wrap64 (x4_6 - 1), t11_1, t11_2, x4_2_0, Ax4_2_0, cx4_2_0, x4_2_1, x4_2_2, t12_0, At12_0, ct12_0, t12_1, t12_2, H, rfl⟩))))))))))))))
       ·
        exact op_st (cs' := [.slice At12_0 t12_0.length ct12_0, .int .i64 t12_1, .int .i64 t12_2]) 1 rfl rfl rfl rfl rfl rfl (xn rfl (one1 8 rfl rfl (ov (EV.ex rfl rfl) rfl (xs [] [0, 1, 2] rfl rfl rfl (xd (pr [0, 2, 4, 6] [0, 1, 2] [0, 2, 4] rfl rfl rfl rfl (ge (rg (sv (EV.mv rfl) rfl (sv (EV.sub rfl rfl) rfl (sv (EV.as rfl) rfl (re (wk [0, 2, 4, 6] [2, 0, 1] [⟨0, 2, 1, true⟩, ⟨2, 1, 2, true⟩, ⟨1, 0, 0, false⟩] (ih0 _ (by omega) _ ⟨wrap64 (x4_6 - 1), t11_1, t11_2, x4_2_0, Ax4_2_0, cx4_2_0, x4_2_1, x4_2_2, t12_0, At12_0, ct12_0, t12_1, t12_2, H, rfl⟩))))))))))))))
      ·
       refine ov (EV.ex rfl rfl) rfl (xs [] [0, 1, 2] rfl rfl rfl ?_)
       refine one2 7 10 rfl rfl rfl rfl ?_ ?_
       ·
        exact ov (EV.ex rfl rfl) rfl (xs [] [0, 1, 2] rfl rfl rfl (one1 10 rfl rfl (op_st (cs' := [.slice At12_0 t12_0.length ct12_0, .int .i64 t12_1, .int .i64 t12_2]) 1 rfl rfl rfl rfl rfl rfl (xn rfl (xd (pr [0, 2, 4, 6] [0, 1, 2] [0, 2, 4] rfl rfl rfl rfl (ge (rg (sv (EV.mv rfl) rfl (sv (EV.sub rfl rfl) rfl (sv (EV.as rfl) rfl (re (wk [0, 2, 4, 6] [2, 0, 1] [⟨0, 2, 1, true⟩, ⟨2, 1, 2, true⟩, ⟨1, 0, 0, false⟩] (ih0 _ (by omega) _ ⟨wrap64 (x4_6 - 1), t11_1, t11_2, x4_2_0, Ax4_2_0, cx4_2_0, x4_2_1, x4_2_2, t12_0, At12_0, ct12_0, t12_1, t12_2, H, rfl⟩))))))))))))))
       ·
        exact op_st (cs' := [.slice At12_0 t12_0.length ct12_0, .int .i64 t12_1, .int .i64 t12_2]) 1 rfl rfl rfl rfl rfl rfl (xn rfl (one1 7 rfl rfl (ov (EV.ex rfl rfl) rfl (xs [] [0, 1, 2] rfl rfl rfl (xd (pr [0, 2, 4, 6] [0, 1, 2] [0, 2, 4] rfl rfl rfl rfl (ge (rg (sv (EV.mv rfl) rfl (sv (EV.sub rfl rfl) rfl (sv (EV.as rfl) rfl (re (wk [0, 2, 4, 6] [2, 0, 1] [⟨0, 2, 1, true⟩, ⟨2, 1, 2, true⟩, ⟨1, 0, 0, false⟩] (ih0 _ (by omega) _ ⟨wrap64 (x4_6 - 1), t11_1, t11_2, x4_2_0, Ax4_2_0, cx4_2_0, x4_2_1, x4_2_2, t12_0, At12_0, ct12_0, t12_1, t12_2, H, rfl⟩))))))))))))))
      ·
       refine op_st (cs' := [.slice At12_0 t12_0.length ct12_0, .int .i64 t12_1, .int .i64 t12_2]) 1 rfl rfl rfl rfl rfl rfl (xn rfl ?_)
       refine one2 7 8 rfl rfl rfl rfl ?_ ?_
       ·
        exact ov (EV.ex rfl rfl) rfl (xs [] [0, 1, 2] rfl rfl rfl (one1 8 rfl rfl (ov (EV.ex rfl rfl) rfl (xs [] [0, 1, 2] rfl rfl rfl (xd (pr [0, 2, 4, 6] [0, 1, 2] [0, 2, 4] rfl rfl rfl rfl (ge (rg (sv (EV.mv rfl) rfl (sv (EV.sub rfl rfl) rfl (sv (EV.as rfl) rfl (re (wk [0, 2, 4, 6] [2, 0, 1] [⟨0, 2, 1, true⟩, ⟨2, 1, 2, true⟩, ⟨1, 0, 0, false⟩] (ih0 _ (by omega) _ ⟨wrap64 (x4_6 - 1), t11_1, t11_2, x4_2_0, Ax4_2_0, cx4_2_0, x4_2_1, x4_2_2, t12_0, At12_0, ct12_0, t12_1, t12_2, H, rfl⟩))))))))))))))
       ·
        exact ov (EV.ex rfl rfl) rfl (xs [] [0, 1, 2] rfl rfl rfl (one1 7 rfl rfl (ov (EV.ex rfl rfl) rfl (xs [] [0, 1, 2] rfl rfl rfl (xd (pr [0, 2, 4, 6] [0, 1, 2] [0, 2, 4] rfl rfl rfl rfl (ge (rg (sv (EV.mv rfl) rfl (sv (EV.sub rfl rfl) rfl (sv (EV.as rfl) rfl (re (wk [0, 2, 4, 6] [2, 0, 1] [⟨0, 2, 1, true⟩, ⟨2, 1, 2, true⟩, ⟨1, 0, 0, false⟩] (ih0 _ (by omega) _ ⟨wrap64 (x4_6 - 1), t11_1, t11_2, x4_2_0, Ax4_2_0, cx4_2_0, x4_2_1, x4_2_2, t12_0, At12_0, ct12_0, t12_1, t12_2, H, rfl⟩))))))))))))))
     ·
      refine op_st (cs' := [.slice At12_0 t12_0.length ct12_0, .int .i64 t12_1, .int .i64 t12_2]) 1 rfl rfl rfl rfl rfl rfl (xn rfl ?_)
      refine one3 7 8 9 rfl rfl rfl rfl rfl rfl ?_ ?_ ?_
      ·
       refine ov (EV.ex rfl rfl) rfl (xs [] [0, 1, 2] rfl rfl rfl ?_)
       refine one2 8 9 rfl rfl rfl rfl ?_ ?_
       ·
        exact ov (EV.ex rfl rfl) rfl (xs [] [0, 1, 2] rfl rfl rfl (one1 9 rfl rfl (ov (EV.ex rfl rfl) rfl (xs [] [0, 1, 2] rfl rfl rfl (xd (pr [0, 2, 4, 6] [0, 1, 2] [0, 2, 4] rfl rfl rfl rfl (ge (rg (sv (EV.mv rfl) rfl (sv (EV.sub rfl rfl) rfl (sv (EV.as rfl) rfl (re (wk [0, 2, 4, 6] [2, 0, 1] [⟨0, 2, 1, true⟩, ⟨2, 1, 2, true⟩, ⟨1, 0, 0, false⟩] (ih0 _ (by omega) _ ⟨wrap64 (x4_6 - 1), t11_1, t11_2, x4_2_0, Ax4_2_0, cx4_2_0, x4_2_1, x4_2_2, t12_0, At12_0, ct12_0, t12_1, t12_2, H, rfl⟩))))))))))))))
       ·
        exact ov (EV.ex rfl rfl) rfl (xs [] [0, 1, 2] rfl rfl rfl (one1 8 rfl rfl (ov (EV.ex rfl rfl) rfl (xs [] [0, 1, 2] rfl rfl rfl (xd (pr [0, 2, 4, 6] [0, 1, 2] [0, 2, 4] rfl rfl rfl rfl (ge (rg (sv (EV.mv rfl) rfl (sv (EV.sub rfl rfl) rfl (sv (EV.as rfl) rfl (re (wk [0, 2, 4, 6] [2, 0, 1] [⟨0, 2, 1, true⟩, ⟨2, 1, 2, true⟩, ⟨1, 0, 0, false⟩] (ih0 _ (by omega) _ ⟨wrap64 (x4_6 - 1), t11_1, t11_2, x4_2_0, Ax4_2_0, cx4_2_0, x4_2_1, x4_2_2, t12_0, At12_0, ct12_0, t12_1, t12_2, H, rfl⟩))))))))))))))
      ·
       refine ov (EV.ex rfl rfl) rfl (xs [] [0, 1, 2] rfl rfl rfl ?_)
       refine one2 7 9 rfl rfl rfl rfl ?_ ?_
       ·
        exact ov (EV.ex rfl rfl) rfl (xs [] [0, 1, 2] rfl rfl rfl (one1 9 rfl rfl (ov (EV.ex rfl rfl) rfl (xs [] [0, 1, 2] rfl rfl rfl (xd (pr [0, 2, 4, 6] [0, 1, 2] [0, 2, 4] rfl rfl rfl rfl (ge (rg (sv (EV.mv rfl) rfl (sv (EV.sub rfl rfl) rfl (sv (EV.as rfl) rfl (re (wk [0, 2, 4, 6] [2, 0, 1] [⟨0, 2, 1, true⟩, ⟨2, 1, 2, true⟩, ⟨1, 0, 0, false⟩] (ih0 _ (by omega) _ ⟨wrap64 (x4_6 - 1), t11_1, t11_2, x4_2_0, Ax4_2_0, cx4_2_0, x4_2_1, x4_2_2, t12_0, At12_0, ct12_0, t12_1, t12_2, H, rfl⟩))))))))))))))
       ·
        exact ov (EV.ex rfl rfl) rfl (xs [] [0, 1, 2] rfl rfl rfl (one1 7 rfl rfl (ov (EV.ex rfl rfl) rfl (xs [] [0, 1, 2] rfl rfl rfl (xd (pr [0, 2, 4, 6] [0, 1, 2] [0, 2, 4] rfl rfl rfl rfl (ge (rg (sv (EV.mv rfl) rfl (sv (EV.sub rfl rfl) rfl (sv (EV.as rfl) rfl (re (wk [0, 2, 4, 6] [2, 0, 1] [⟨0, 2, 1, true⟩, ⟨2, 1, 2, true⟩, ⟨1, 0, 0, false⟩] (ih0 _ (by omega) _ ⟨wrap64 (x4_6 - 1), t11_1, t11_2, x4_2_0, Ax4_2_0, cx4_2_0, x4_2_1, x4_2_2, t12_0, At12_0, ct12_0, t12_1, t12_2, H, rfl⟩))))))))))))))
      ·
       refine ov (EV.ex rfl rfl) rfl (xs [] [0, 1, 2] rfl rfl rfl ?_)
       refine one2 7 8 rfl rfl rfl rfl ?_ ?_
       ·
        exact ov (EV.ex rfl rfl) rfl (xs [] [0, 1, 2] rfl rfl rfl (one1 8 rfl rfl (ov (EV.ex rfl rfl) rfl (xs [] [0, 1, 2] rfl rfl rfl (xd (pr [0, 2, 4, 6] [0, 1, 2] [0, 2, 4] rfl rfl rfl rfl (ge (rg (sv (EV.mv rfl) rfl (sv (EV.sub rfl rfl) rfl (sv (EV.as rfl) rfl (re (wk [0, 2, 4, 6] [2, 0, 1] [⟨0, 2, 1, true⟩, ⟨2, 1, 2, true⟩, ⟨1, 0, 0, false⟩] (ih0 _ (by omega) _ ⟨wrap64 (x4_6 - 1), t11_1, t11_2, x4_2_0, Ax4_2_0, cx4_2_0, x4_2_1, x4_2_2, t12_0, At12_0, ct12_0, t12_1, t12_2, H, rfl⟩))))))))))))))
       ·
        exact ov (EV.ex rfl rfl) rfl (xs [] [0, 1, 2] rfl rfl rfl (one1 7 rfl rfl (ov (EV.ex rfl rfl) rfl (xs [] [0, 1, 2] rfl rfl rfl (xd (pr [0, 2, 4, 6] [0, 1, 2] [0, 2, 4] rfl rfl rfl rfl (ge (rg (sv (EV.mv rfl) rfl (sv (EV.sub rfl rfl) rfl (sv (EV.as rfl) rfl (re (wk [0, 2, 4, 6] [2, 0, 1] [⟨0, 2, 1, true⟩, ⟨2, 1, 2, true⟩, ⟨1, 0, 0, false⟩] (ih0 _ (by omega) _ ⟨wrap64 (x4_6 - 1), t11_1, t11_2, x4_2_0, Ax4_2_0, cx4_2_0, x4_2_1, x4_2_2, t12_0, At12_0, ct12_0, t12_1, t12_2, H, rfl⟩))))))))))))))
    ·
     refine ov (EV.ex rfl rfl) rfl (xs [] [0, 1, 2] rfl rfl rfl ?_)
     refine one3 6 8 9 rfl rfl rfl rfl rfl rfl ?_ ?_ ?_
     ·
      refine ov (EV.ex rfl rfl) rfl (xs [] [0, 1, 2] rfl rfl rfl ?_)
      refine one3 8 9 10 rfl rfl rfl rfl rfl rfl ?_ ?_ ?_
      ·
       refine ov (EV.ex rfl rfl) rfl (xs [] [0, 1, 2] rfl rfl rfl ?_)
       refine one2 9 10 rfl rfl rfl rfl ?_ ?_
       ·
        exact ov (EV.ex rfl rfl) rfl (xs [] [0, 1, 2] rfl rfl rfl (one1 10 rfl rfl (op_st (cs' := [.slice At12_0 t12_0.length ct12_0, .int .i64 t12_1, .int .i64 t12_2]) 1 rfl rfl rfl rfl rfl rfl (xn rfl (xd (pr [0, 2, 4, 6] [0, 1, 2] [0, 2, 4] rfl rfl rfl rfl (ge (rg (sv (EV.mv rfl) rfl (sv (EV.sub rfl rfl) rfl (sv (EV.as rfl) rfl (re (wk [0, 2, 4, 6] [2, 0, 1] [⟨0, 2, 1, true⟩, ⟨2, 1, 2, true⟩, ⟨1, 0, 0, false⟩] (ih0 _ (by omega) _ ⟨wrap64 (x4_6 - 1), t11_1, t11_2, x4_2_0, Ax4_2_0, cx4_2_0, x4_2_1, x4_2_2, t12_0, At12_0, ct12_0, t12_1, t12_2, H, rfl⟩))))))))))))))
       ·
        exact op_st (cs' := [.slice At12_0 t12_0.length ct12_0, .int .i64 t12_1, .int .i64 t12_2]) 1 rfl rfl rfl rfl rfl rfl (xn rfl (one1 9 rfl rfl (ov (EV.ex rfl rfl) rfl (xs [] [0, 1, 2] rfl rfl rfl (xd (pr [0, 2, 4, 6] [0, 1, 2] [0, 2, 4] rfl rfl rfl rfl (ge (rg (sv (EV.mv rfl) rfl (sv (EV.sub rfl rfl) rfl (sv (EV.as rfl) rfl (re (wk [0, 2, 4, 6] [2, 0, 1] [⟨0, 2, 1, true⟩, ⟨2, 1, 2, true⟩, ⟨1, 0, 0, false⟩] (ih0 _ (by omega) _ ⟨wrap64 (x4_6 - 1), t11_1, t11_2, x4_2_0, Ax4_2_0, cx4_2_0, x4_2_1, x4_2_2, t12_0, At12_0, ct12_0, t12_1, t12_2, H, rfl⟩))))))))))))))
      ·
       refine ov (EV.ex rfl rfl) rfl (xs [] [0, 1, 2] rfl rfl rfl ?_)
       refine one2 8 10 rfl rfl rfl rfl ?_ ?_
       ·
        exact ov (EV.ex rfl rfl) rfl (xs [] [0, 1, 2] rfl rfl rfl (one1 10 rfl rfl (op_st (cs' := [.slice At12_0 t12_0.length ct12_0, .int .i64 t12_1, .int .i64 t12_2]) 1 rfl rfl rfl rfl rfl rfl (xn rfl (xd (pr [0, 2, 4, 6] [0, 1, 2] [0, 2, 4] rfl rfl rfl rfl (ge (rg (sv (EV.mv rfl) rfl (sv (EV.sub rfl rfl) rfl (sv (EV.as rfl) rfl (re (wk [0, 2, 4, 6] [2, 0, 1] [⟨0, 2, 1, true⟩, ⟨2, 1, 2, true⟩, ⟨1, 0, 0, false⟩] (ih0 _ (by omega) _ ⟨wrap64 (x4_6 - 1), t11_1, t11_2, x4_2_0, Ax4_2_0, cx4_2_0, x4_2_1, x4_2_2, t12_0, At12_0, ct12_0, t12_1, t12_2, H, rfl⟩))))))))))))))
       ·
        exact op_st (cs' := [.slice At12_0 t12_0.length ct12_0, .int .i64 t12_1, .int .i64 t12_2]) 1 rfl rfl rfl rfl rfl rfl (xn rfl (one1 8 rfl rfl (ov (EV.ex rfl rfl) rfl (xs [] [0, 1, 2] rfl rfl rfl (xd (pr [0, 2, 4, 6] [0, 1, 2] [0, 2, 4] rfl rfl rfl rfl (ge (rg (sv (EV.mv rfl) rfl (sv (EV.sub rfl rfl) rfl (sv (EV.as rfl) rfl (re (wk [0, 2, 4, 6] [2, 0, 1] [⟨0, 2, 1, true⟩, ⟨2, 1, 2, true⟩, ⟨1, 0, 0, false⟩] (ih0 _ (by omega) _ ⟨wrap64 (x4_6 - 1), t11_1, t11_2, x4_2_0, Ax4_2_0, cx4_2_0, x4_2_1, x4_2_2, t12_0, At12_0, ct12_0, t12_1, t12_2, H, rfl⟩))))))))))))))
      ·
       refine op_st (cs' := [.slice At12_0 t12_0.length ct12_0, .int .i64 t12_1, .int .i64 t12_2]) 1 rfl rfl rfl rfl rfl rfl (xn rfl ?_)
       refine one2 8 9 rfl rfl rfl rfl ?_ ?_
       ·
        exact ov (EV.ex rfl rfl) rfl (xs [] [0, 1, 2] rfl rfl rfl (one1 9 rfl rfl (ov (EV.ex rfl rfl) rfl (xs [] [0, 1, 2] rfl rfl rfl (xd (pr [0, 2, 4, 6] [0, 1, 2] [0, 2, 4] rfl rfl rfl rfl (ge (rg (sv (EV.mv rfl) rfl (sv (EV.sub rfl rfl) rfl (sv (EV.as rfl) rfl (re (wk [0, 2, 4, 6] [2, 0, 1] [⟨0, 2, 1, true⟩, ⟨2, 1, 2, true⟩, ⟨1, 0, 0, false⟩] (ih0 _ (by omega) _ ⟨wrap64 (x4_6 - 1), t11_1, t11_2, x4_2_0, Ax4_2_0, cx4_2_0, x4_2_1, x4_2_2, t12_0, At12_0, ct12_0, t12_1, t12_2, H, rfl⟩))))))))))))))
       ·
        exact ov (EV.ex rfl rfl) rfl (xs [] [0, 1, 2] rfl rfl rfl (one1 8 rfl rfl (ov (EV.ex rfl rfl) rfl (xs [] [0, 1, 2] rfl rfl rfl (xd (pr [0, 2, 4, 6] [0, 1, 2] [0, 2, 4] rfl rfl rfl rfl (ge (rg (sv (EV.mv rfl) rfl (sv (EV.sub rfl rfl) rfl (sv (EV.as rfl) rfl (re (wk [0, 2, 4, 6] [2, 0, 1] [⟨0, 2, 1, true⟩, ⟨2, 1, 2, true⟩, ⟨1, 0, 0, false⟩] (ih0 _ (by omega) _ ⟨wrap64 (x4_6 - 1), t11_1, t11_2, x4_2_0, Ax4_2_0, cx4_2_0, x4_2_1, x4_2_2, t12_0, At12_0, ct12_0, t12_1, t12_2, H, rfl⟩))))))))))))))
     ·
      refine ov (EV.ex rfl rfl) rfl (xs [] [0, 1, 2] rfl rfl rfl ?_)
      refine one2 6 9 rfl rfl rfl rfl ?_ ?_
      ·
       refine ov (EV.ex rfl rfl) rfl (xs [] [0, 1, 2] rfl rfl rfl ?_)
       refine one2 9 10 rfl rfl rfl rfl ?_ ?_
       ·
        exact ov (EV.ex rfl rfl) rfl (xs [] [0, 1, 2] rfl rfl rfl (one1 10 rfl rfl (op_st (cs' := [.slice At12_0 t12_0.length ct12_0, .int .i64 t12_1, .int .i64 t12_2]) 1 rfl rfl rfl rfl rfl rfl (xn rfl (xd (pr [0, 2, 4, 6] [0, 1, 2] [0, 2, 4] rfl rfl rfl rfl (ge (rg (sv (EV.mv rfl) rfl (sv (EV.sub rfl rfl) rfl (sv (EV.as rfl) rfl (re (wk [0, 2, 4, 6] [2, 0, 1] [⟨0, 2, 1, true⟩, ⟨2, 1, 2, true⟩, ⟨1, 0, 0, false⟩] (ih0 _ (by omega) _ ⟨wrap64 (x4_6 - 1), t11_1, t11_2, x4_2_0, Ax4_2_0, cx4_2_0, x4_2_1, x4_2_2, t12_0, At12_0, ct12_0, t12_1, t12_2, H, rfl⟩))))))))))))))
       ·
        exact op_st (cs' := [.slice At12_0 t12_0.length ct12_0, .int .i64 t12_1, .int .i64 t12_2]) 1 rfl rfl rfl rfl rfl rfl (xn rfl (one1 9 rfl rfl (ov (EV.ex rfl rfl) rfl (xs [] [0, 1, 2] rfl rfl rfl (xd (pr [0, 2, 4, 6] [0, 1, 2] [0, 2, 4] rfl rfl rfl rfl (ge (rg (sv (EV.mv rfl) rfl (sv (EV.sub rfl rfl) rfl (sv (EV.as rfl) rfl (re (wk [0, 2, 4, 6] [2, 0, 1] [⟨0, 2, 1, true⟩, ⟨2, 1, 2, true⟩, ⟨1, 0, 0, false⟩] (ih0 _ (by omega) _ ⟨wrap64 (x4_6 - 1), t11_1, t11_2, x4_2_0, Ax4_2_0, cx4_2_0, x4_2_1, x4_2_2, t12_0, At12_0, ct12_0, t12_1, t12_2, H, rfl⟩))))))))))))))
      ·
       exact ov (EV.ex rfl rfl) rfl (xs [] [0, 1, 2] rfl rfl rfl (one1 6 rfl rfl (ov (EV.ex rfl rfl) rfl (xs [] [0, 1, 2] rfl rfl rfl (one1 10 rfl rfl (op_st (cs' := [.slice At12_0 t12_0.length ct12_0, .int .i64 t12_1, .int .i64 t12_2]) 1 rfl rfl rfl rfl rfl rfl (xn rfl (xd (pr [0, 2, 4, 6] [0, 1, 2] [0, 2, 4] rfl rfl rfl rfl (ge (rg (sv (EV.mv rfl) rfl (sv (EV.sub rfl rfl) rfl (sv (EV.as rfl) rfl (re (wk [0, 2, 4, 6] [2, 0, 1] [⟨0, 2, 1, true⟩, ⟨2, 1, 2, true⟩, ⟨1, 0, 0, false⟩] (ih0 _ (by omega) _ ⟨wrap64 (x4_6 - 1), t11_1, t11_2, x4_2_0, Ax4_2_0, cx4_2_0, x4_2_1, x4_2_2, t12_0, At12_0, ct12_0, t12_1, t12_2, H, rfl⟩)))))))))))))))))
     ·
      refine ov (EV.ex rfl rfl) rfl (xs [] [0, 1, 2] rfl rfl rfl ?_)
      refine one2 6 8 rfl rfl rfl rfl ?_ ?_
      ·
       refine ov (EV.ex rfl rfl) rfl (xs [] [0, 1, 2] rfl rfl rfl ?_)
       refine one2 8 10 rfl rfl rfl rfl ?_ ?_
       ·
        exact ov (EV.ex rfl rfl) rfl (xs [] [0, 1, 2] rfl rfl rfl (one1 10 rfl rfl (op_st (cs' := [.slice At12_0 t12_0.length ct12_0, .int .i64 t12_1, .int .i64 t12_2]) 1 rfl rfl rfl rfl rfl rfl (xn rfl (xd (pr [0, 2, 4, 6] [0, 1, 2] [0, 2, 4] rfl rfl rfl rfl (ge (rg (sv (EV.mv rfl) rfl (sv (EV.sub rfl rfl) rfl (sv (EV.as rfl) rfl (re (wk [0, 2, 4, 6] [2, 0, 1] [⟨0, 2, 1, true⟩, ⟨2, 1, 2, true⟩, ⟨1, 0, 0, false⟩] (ih0 _ (by omega) _ ⟨wrap64 (x4_6 - 1), t11_1, t11_2, x4_2_0, Ax4_2_0, cx4_2_0, x4_2_1, x4_2_2, t12_0, At12_0, ct12_0, t12_1, t12_2, H, rfl⟩))))))))))))))
       ·
        exact op_st (cs' := [.slice At12_0 t12_0.length ct12_0, .int .i64 t12_1, .int .i64 t12_2]) 1 rfl rfl rfl rfl rfl rfl (xn rfl (one1 8 rfl rfl (ov (EV.ex rfl rfl) rfl (xs [] [0, 1, 2] rfl rfl rfl (xd (pr [0, 2, 4, 6] [0, 1, 2] [0, 2, 4] rfl rfl rfl rfl (ge (rg (sv (EV.mv rfl) rfl (sv (EV.sub rfl rfl) rfl (sv (EV.as rfl) rfl (re (wk [0, 2, 4, 6] [2, 0, 1] [⟨0, 2, 1, true⟩, ⟨2, 1, 2, true⟩, ⟨1, 0, 0, false⟩] (ih0 _ (by omega) _ ⟨wrap64 (x4_6 - 1), t11_1, t11_2, x4_2_0, Ax4_2_0, cx4_2_0, x4_2_1, x4_2_2, t12_0, At12_0, ct12_0, t12_1, t12_2, H, rfl⟩))))))))))))))
      ·
       exact ov (EV.ex rfl rfl) rfl (xs [] [0, 1, 2] rfl rfl rfl (one1 6 rfl rfl (ov (EV.ex rfl rfl) rfl (xs [] [0, 1, 2] rfl rfl rfl (one1 10 rfl rfl (op_st (cs' := [.slice At12_0 t12_0.length ct12_0, .int .i64 t12_1, .int .i64 t12_2]) 1 rfl rfl rfl rfl rfl rfl (xn rfl (xd (pr [0, 2, 4, 6] [0, 1, 2] [0, 2, 4] rfl rfl rfl rfl (ge (rg (sv (EV.mv rfl) rfl (sv (EV.sub rfl rfl) rfl (sv (EV.as rfl) rfl (re (wk [0, 2, 4, 6] [2, 0, 1] [⟨0, 2, 1, true⟩, ⟨2, 1, 2, true⟩, ⟨1, 0, 0, false⟩] (ih0 _ (by omega) _ ⟨wrap64 (x4_6 - 1), t11_1, t11_2, x4_2_0, Ax4_2_0, cx4_2_0, x4_2_1, x4_2_2, t12_0, At12_0, ct12_0, t12_1, t12_2, H, rfl⟩)))))))))))))))))
    ·
     refine ov (EV.ex rfl rfl) rfl (xs [] [0, 1, 2] rfl rfl rfl ?_)
     refine one3 6 7 9 rfl rfl rfl rfl rfl rfl ?_ ?_ ?_
     ·
      refine ov (EV.ex rfl rfl) rfl (xs [] [0, 1, 2] rfl rfl rfl ?_)
      refine one3 7 9 10 rfl rfl rfl rfl rfl rfl ?_ ?_ ?_
      ·
       refine ov (EV.ex rfl rfl) rfl (xs [] [0, 1, 2] rfl rfl rfl ?_)
       refine one2 9 10 rfl rfl rfl rfl ?_ ?_
       ·
        exact ov (EV.ex rfl rfl) rfl (xs [] [0, 1, 2] rfl rfl rfl (one1 10 rfl rfl (op_st (cs' := [.slice At12_0 t12_0.length ct12_0, .int .i64 t12_1, .int .i64 t12_2]) 1 rfl rfl rfl rfl rfl rfl (xn rfl (xd (pr [0, 2, 4, 6] [0, 1, 2] [0, 2, 4] rfl rfl rfl rfl (ge (rg (sv (EV.mv rfl) rfl (sv (EV.sub rfl rfl) rfl (sv (EV.as rfl) rfl (re (wk [0, 2, 4, 6] [2, 0, 1] [⟨0, 2, 1, true⟩, ⟨2, 1, 2, true⟩, ⟨1, 0, 0, false⟩] (ih0 _ (by omega) _ ⟨wrap64 (x4_6 - 1), t11_1, t11_2, x4_2_0, Ax4_2_0, cx4_2_0, x4_2_1, x4_2_2, t12_0, At12_0, ct12_0, t12_1, t12_2, H, rfl⟩))))))))))))))
       ·
        exact op_st (cs' := [.slice At12_0 t12_0.length ct12_0, .int .i64 t12_1, .int .i64 t12_2]) 1 rfl rfl rfl rfl rfl rfl (xn rfl (one1 9 rfl rfl (ov (EV.ex rfl rfl) rfl (xs [] [0, 1, 2] rfl rfl rfl (xd (pr [0, 2, 4, 6] [0, 1, 2] [0, 2, 4] rfl rfl rfl rfl (ge (rg (sv (EV.mv rfl) rfl (sv (EV.sub rfl rfl) rfl (sv (EV.as rfl) rfl (re (wk [0, 2, 4, 6] [2, 0, 1] [⟨0, 2, 1, true⟩, ⟨2, 1, 2, true⟩, ⟨1, 0, 0, false⟩] (ih0 _ (by omega) _ ⟨wrap64 (x4_6 - 1), t11_1, t11_2, x4_2_0, Ax4_2_0, cx4_2_0, x4_2_1, x4_2_2, t12_0, At12_0, ct12_0, t12_1, t12_2, H, rfl⟩))))))))))))))
      ·
       refine ov (EV.ex rfl rfl) rfl (xs [] [0, 1, 2] rfl rfl rfl ?_)
       refine one2 7 10 rfl rfl rfl rfl ?_ ?_
       ·
        exact ov (EV.ex rfl rfl) rfl (xs [] [0, 1, 2] rfl rfl rfl (one1 10 rfl rfl (op_st (cs' := [.slice At12_0 t12_0.length ct12_0, .int .i64 t12_1, .int .i64 t12_2]) 1 rfl rfl rfl rfl rfl rfl (xn rfl (xd (pr [0, 2, 4, 6] [0, 1, 2] [0, 2, 4] rfl rfl rfl rfl (ge (rg (sv (EV.mv rfl) rfl (sv (EV.sub rfl rfl) rfl (sv (EV.as rfl) rfl (re (wk [0, 2, 4, 6] [2, 0, 1] [⟨0, 2, 1, true⟩, ⟨2, 1, 2, true⟩, ⟨1, 0, 0, false⟩] (ih0 _ (by omega) _ ⟨wrap64 (x4_6 - 1), t11_1, t11_2, x4_2_0, Ax4_2_0, cx4_2_0, x4_2_1, x4_2_2, t12_0, At12_0, ct12_0, t12_1, t12_2, H, rfl⟩))))))))))))))
       ·
        exact op_st (cs' := [.slice At12_0 t12_0.length ct12_0, .int .i64 t12_1, .int .i64 t12_2]) 1 rfl rfl rfl rfl rfl rfl (xn rfl (one1 7 rfl rfl (ov (EV.ex rfl rfl) rfl (xs [] [0, 1, 2] rfl rfl rfl (xd (pr [0, 2, 4, 6] [0, 1, 2] [0, 2, 4] rfl rfl rfl rfl (ge (rg (sv (EV.mv rfl) rfl (sv (EV.sub rfl rfl) rfl (sv (EV.as rfl) rfl (re (wk [0, 2, 4, 6] [2, 0, 1] [⟨0, 2, 1, true⟩, ⟨2, 1, 2, true⟩, ⟨1, 0, 0, false⟩] (ih0 _ (by omega) _ ⟨wrap64 (x4_6 - 1), t11_1, t11_2, x4_2_0, Ax4_2_0, cx4_2_0, x4_2_1, x4_2_2, t12_0, At12_0, ct12_0, t12_1, t12_2, H, rfl⟩))))))))))))))
      ·
       refine op_st (cs' := [.slice At12_0 t12_0.length ct12_0, .int .i64 t12_1, .int .i64 t12_2]) 1 rfl rfl rfl rfl rfl rfl (xn rfl ?_)
       refine one2 7 9 rfl rfl rfl rfl ?_ ?_
       ·
        exact ov (EV.ex rfl rfl) rfl (xs [] [0, 1, 2] rfl rfl rfl (one1 9 rfl rfl (ov (EV.ex rfl rfl) rfl (xs [] [0, 1, 2] rfl rfl rfl (xd (pr [0, 2, 4, 6] [0, 1, 2] [0, 2, 4] rfl rfl rfl rfl (ge (rg (sv (EV.mv rfl) rfl (sv (EV.sub rfl rfl) rfl (sv (EV.as rfl) rfl (re (wk [0, 2, 4, 6] [2, 0, 1] [⟨0, 2, 1, true⟩, ⟨2, 1, 2, true⟩, ⟨1, 0, 0, false⟩] (ih0 _ (by omega) _ ⟨wrap64 (x4_6 - 1), t11_1, t11_2, x4_2_0, Ax4_2_0, cx4_2_0, x4_2_1, x4_2_2, t12_0, At12_0, ct12_0, t12_1, t12_2, H, rfl⟩))))))))))))))
       ·
        exact ov (EV.ex rfl rfl) rfl (xs [] [0, 1, 2] rfl rfl rfl (one1 7 rfl rfl (ov (EV.ex rfl rfl) rfl (xs [] [0, 1, 2] rfl rfl rfl (xd (pr [0, 2, 4, 6] [0, 1, 2] [0, 2, 4] rfl rfl rfl rfl (ge (rg (sv (EV.mv rfl) rfl (sv (EV.sub rfl rfl) rfl (sv (EV.as rfl) rfl (re (wk [0, 2, 4, 6] [2, 0, 1] [⟨0, 2, 1, true⟩, ⟨2, 1, 2, true⟩, ⟨1, 0, 0, false⟩] (ih0 _ (by omega) _ ⟨wrap64 (x4_6 - 1), t11_1, t11_2, x4_2_0, Ax4_2_0, cx4_2_0, x4_2_1, x4_2_2, t12_0, At12_0, ct12_0, t12_1, t12_2, H, rfl⟩))))))))))))))
     ·
      refine ov (EV.ex rfl rfl) rfl (xs [] [0, 1, 2] rfl rfl rfl ?_)
      refine one2 6 9 rfl rfl rfl rfl ?_ ?_
      ·
       refine ov (EV.ex rfl rfl) rfl (xs [] [0, 1, 2] rfl rfl rfl ?_)
       refine one2 9 10 rfl rfl rfl rfl ?_ ?_
       ·
        exact ov (EV.ex rfl rfl) rfl (xs [] [0, 1, 2] rfl rfl rfl (one1 10 rfl rfl (op_st (cs' := [.slice At12_0 t12_0.length ct12_0, .int .i64 t12_1, .int .i64 t12_2]) 1 rfl rfl rfl rfl rfl rfl (xn rfl (xd (pr [0, 2, 4, 6] [0, 1, 2] [0, 2, 4] rfl rfl rfl rfl (ge (rg (sv (EV.mv rfl) rfl (sv (EV.sub rfl rfl) rfl (sv (EV.as rfl) rfl (re (wk [0, 2, 4, 6] [2, 0, 1] [⟨0, 2, 1, true⟩, ⟨2, 1, 2, true⟩, ⟨1, 0, 0, false⟩] (ih0 _ (by omega) _ ⟨wrap64 (x4_6 - 1), t11_1, t11_2, x4_2_0, Ax4_2_0, cx4_2_0, x4_2_1, x4_2_2, t12_0, At12_0, ct12_0, t12_1, t12_2, H, rfl⟩))))))))))))))
       ·
        exact op_st (cs' := [.slice At12_0 t12_0.length ct12_0, .int .i64 t12_1, .int .i64 t12_2]) 1 rfl rfl rfl rfl rfl rfl (xn rfl (one1 9 rfl rfl (ov (EV.ex rfl rfl) rfl (xs [] [0, 1, 2] rfl rfl rfl (xd (pr [0, 2, 4, 6] [0, 1, 2] [0, 2, 4] rfl rfl rfl rfl (ge (rg (sv (EV.mv rfl) rfl (sv (EV.sub rfl rfl) rfl (sv (EV.as rfl) rfl (re (wk [0, 2, 4, 6] [2, 0, 1] [⟨0, 2, 1, true⟩, ⟨2, 1, 2, true⟩, ⟨1, 0, 0, false⟩] (ih0 _ (by omega) _ ⟨wrap64 (x4_6 - 1), t11_1, t11_2, x4_2_0, Ax4_2_0, cx4_2_0, x4_2_1, x4_2_2, t12_0, At12_0, ct12_0, t12_1, t12_2, H, rfl⟩))))))))))))))
      ·
       exact ov (EV.ex rfl rfl) rfl (xs [] [0, 1, 2] rfl rfl rfl (one1 6 rfl rfl (ov (EV.ex rfl rfl) rfl (xs [] [0, 1, 2] rfl rfl rfl (one1 10 rfl rfl (op_st (cs' := [.slice At12_0 t12_0.length ct12_0, .int .i64 t12_1, .int .i64 t12_2]) 1 rfl rfl rfl rfl rfl rfl (xn rfl (xd (pr [0, 2, 4, 6] [0, 1, 2] [0, 2, 4] rfl rfl rfl rfl (ge (rg (sv (EV.mv rfl) rfl (sv (EV.sub rfl rfl) rfl (sv (EV.as rfl) rfl (re (wk [0, 2, 4, 6] [2, 0, 1] [⟨0, 2, 1, true⟩, ⟨2, 1, 2, true⟩, ⟨1, 0, 0, false⟩] (ih0 _ (by omega) _ ⟨wrap64 (x4_6 - 1), t11_1, t11_2, x4_2_0, Ax4_2_0, cx4_2_0, x4_2_1, x4_2_2, t12_0, At12_0, ct12_0, t12_1, t12_2, H, rfl⟩)))))))))))))))))
     ·
      refine ov (EV.ex rfl rfl) rfl (xs [] [0, 1, 2] rfl rfl rfl ?_)
      refine one2 6 7 rfl rfl rfl rfl ?_ ?_
      ·
       refine ov (EV.ex rfl rfl) rfl (xs [] [0, 1, 2] rfl rfl rfl ?_)
       refine one2 7 10 rfl rfl rfl rfl ?_ ?_
       ·
        exact ov (EV.ex rfl rfl) rfl (xs [] [0, 1, 2] rfl rfl rfl (one1 10 rfl rfl (op_st (cs' := [.slice At12_0 t12_0.length ct12_0, .int .i64 t12_1, .int .i64 t12_2]) 1 rfl rfl rfl rfl rfl rfl (xn rfl (xd (pr [0, 2, 4, 6] [0, 1, 2] [0, 2, 4] rfl rfl rfl rfl (ge (rg (sv (EV.mv rfl) rfl (sv (EV.sub rfl rfl) rfl (sv (EV.as rfl) rfl (re (wk [0, 2, 4, 6] [2, 0, 1] [⟨0, 2, 1, true⟩, ⟨2, 1, 2, true⟩, ⟨1, 0, 0, false⟩] (ih0 _ (by omega) _ ⟨wrap64 (x4_6 - 1), t11_1, t11_2, x4_2_0, Ax4_2_0, cx4_2_0, x4_2_1, x4_2_2, t12_0, At12_0, ct12_0, t12_1, t12_2, H, rfl⟩))))))))))))))
       ·
        exact op_st (cs' := [.slice At12_0 t12_0.length ct12_0, .int .i64 t12_1, .int .i64 t12_2]) 1 rfl rfl rfl rfl rfl rfl (xn rfl (one1 7 rfl rfl (ov (EV.ex rfl rfl) rfl (xs [] [0, 1, 2] rfl rfl rfl (xd (pr [0, 2, 4, 6] [0, 1, 2] [0, 2, 4] rfl rfl rfl rfl (ge (rg (sv (EV.mv rfl) rfl (sv (EV.sub rfl rfl) rfl (sv (EV.as rfl) rfl (re (wk [0, 2, 4, 6] [2, 0, 1] [⟨0, 2, 1, true⟩, ⟨2, 1, 2, true⟩, ⟨1, 0, 0, false⟩] (ih0 _ (by omega) _ ⟨wrap64 (x4_6 - 1), t11_1, t11_2, x4_2_0, Ax4_2_0, cx4_2_0, x4_2_1, x4_2_2, t12_0, At12_0, ct12_0, t12_1, t12_2, H, rfl⟩))))))))))))))
      ·
       exact ov (EV.ex rfl rfl) rfl (xs [] [0, 1, 2] rfl rfl rfl (one1 6 rfl rfl (ov (EV.ex rfl rfl) rfl (xs [] [0, 1, 2] rfl rfl rfl (one1 10 rfl rfl (op_st (cs' := [.slice At12_0 t12_0.length ct12_0, .int .i64 t12_1, .int .i64 t12_2]) 1 rfl rfl rfl rfl rfl rfl (xn rfl (xd (pr [0, 2, 4, 6] [0, 1, 2] [0, 2, 4] rfl rfl rfl rfl (ge (rg (sv (EV.mv rfl) rfl (sv (EV.sub rfl rfl) rfl (sv (EV.as rfl) rfl (re (wk [0, 2, 4, 6] [2, 0, 1] [⟨0, 2, 1, true⟩, ⟨2, 1, 2, true⟩, ⟨1, 0, 0, false⟩] (ih0 _ (by omega) _ ⟨wrap64 (x4_6 - 1), t11_1, t11_2, x4_2_0, Ax4_2_0, cx4_2_0, x4_2_1, x4_2_2, t12_0, At12_0, ct12_0, t12_1, t12_2, H, rfl⟩)))))))))))))))))
    ·
     refine ov (EV.ex rfl rfl) rfl (xs [] [0, 1, 2] rfl rfl rfl ?_)
     refine one3 6 7 8 rfl rfl rfl rfl rfl rfl ?_ ?_ ?_
     ·
      refine ov (EV.ex rfl rfl) rfl (xs [] [0, 1, 2] rfl rfl rfl ?_)
      refine one3 7 8 10 rfl rfl rfl rfl rfl rfl ?_ ?_ ?_
      ·
       refine ov (EV.ex rfl rfl) rfl (xs [] [0, 1, 2] rfl rfl rfl ?_)
       refine one2 8 10 rfl rfl rfl rfl ?_ ?_
       ·
        exact ov (EV.ex rfl rfl) rfl (xs [] [0, 1, 2] rfl rfl rfl (one1 10 rfl rfl (op_st (cs' := [.slice At12_0 t12_0.length ct12_0, .int .i64 t12_1, .int .i64 t12_2]) 1 rfl rfl rfl rfl rfl rfl (xn rfl (xd (pr [0, 2, 4, 6] [0, 1, 2] [0, 2, 4] rfl rfl rfl rfl (ge (rg (sv (EV.mv rfl) rfl (sv (EV.sub rfl rfl) rfl (sv (EV.as rfl) rfl (re (wk [0, 2, 4, 6] [2, 0, 1] [⟨0, 2, 1, true⟩, ⟨2, 1, 2, true⟩, ⟨1, 0, 0, false⟩] (ih0 _ (by omega) _ ⟨wrap64 (x4_6 - 1), t11_1, t11_2, x4_2_0, Ax4_2_0, cx4_2_0, x4_2_1, x4_2_2, t12_0, At12_0, ct12_0, t12_1, t12_2, H, rfl⟩))))))))))))))
       ·
        exact op_st (cs' := [.slice At12_0 t12_0.length ct12_0, .int .i64 t12_1, .int .i64 t12_2]) 1 rfl rfl rfl rfl rfl rfl (xn rfl (one1 8 rfl rfl (ov (EV.ex rfl rfl) rfl (xs [] [0, 1, 2] rfl rfl rfl (xd (pr [0, 2, 4, 6] [0, 1, 2] [0, 2, 4] rfl rfl rfl rfl (ge (rg (sv (EV.mv rfl) rfl (sv (EV.sub rfl rfl) rfl (sv (EV.as rfl) rfl (re (wk [0, 2, 4, 6] [2, 0, 1] [⟨0, 2, 1, true⟩, ⟨2, 1, 2, true⟩, ⟨1, 0, 0, false⟩] (ih0 _ (by omega) _ ⟨wrap64 (x4_6 - 1), t11_1, t11_2, x4_2_0, Ax4_2_0, cx4_2_0, x4_2_1, x4_2_2, t12_0, At12_0, ct12_0, t12_1, t12_2, H, rfl⟩))))))))))))))
      ·
       refine ov (EV.ex rfl rfl) rfl (xs [] [0, 1, 2] rfl rfl rfl ?_)
       refine one2 7 10 rfl rfl rfl rfl ?_ ?_
       ·
        exact ov (EV.ex rfl rfl) rfl (xs [] [0, 1, 2] rfl rfl rfl (one1 10 rfl rfl (op_st (cs' := [.slice At12_0 t12_0.length ct12_0, .int .i64 t12_1, .int .i64 t12_2]) 1 rfl rfl rfl rfl rfl rfl (xn rfl (xd (pr [0, 2, 4, 6] [0, 1, 2] [0, 2, 4] rfl rfl rfl rfl (ge (rg (sv (EV.mv rfl) rfl (sv (EV.sub rfl rfl) rfl (sv (EV.as rfl) rfl (re (wk [0, 2, 4, 6] [2, 0, 1] [⟨0, 2, 1, true⟩, ⟨2, 1, 2, true⟩, ⟨1, 0, 0, false⟩] (ih0 _ (by omega) _ ⟨wrap64 (x4_6 - 1), t11_1, t11_2, x4_2_0, Ax4_2_0, cx4_2_0, x4_2_1, x4_2_2, t12_0, At12_0, ct12_0, t12_1, t12_2, H, rfl⟩))))))))))))))
       ·
        exact op_st (cs' := [.slice At12_0 t12_0.length ct12_0, .int .i64 t12_1, .int .i64 t12_2]) 1 rfl rfl rfl rfl rfl rfl (xn rfl (one1 7 rfl rfl (ov (EV.ex rfl rfl) rfl (xs [] [0, 1, 2] rfl rfl rfl (xd (pr [0, 2, 4, 6] [0, 1, 2] [0, 2, 4] rfl rfl rfl rfl (ge (rg (sv (EV.mv rfl) rfl (sv (EV.sub rfl rfl) rfl (sv (EV.as rfl) rfl (re (wk [0, 2, 4, 6] [2, 0, 1] [⟨0, 2, 1, true⟩, ⟨2, 1, 2, true⟩, ⟨1, 0, 0, false⟩] (ih0 _ (by omega) _ ⟨wrap64 (x4_6 - 1), t11_1, t11_2, x4_2_0, Ax4_2_0, cx4_2_0, x4_2_1, x4_2_2, t12_0, At12_0, ct12_0, t12_1, t12_2, H, rfl⟩))))))))))))))
      ·
       refine op_st (cs' := [.slice At12_0 t12_0.length ct12_0, .int .i64 t12_1, .int .i64 t12_2]) 1 rfl rfl rfl rfl rfl rfl (xn rfl ?_)
       refine one2 7 8 rfl rfl rfl rfl ?_ ?_
       ·
        exact ov (EV.ex rfl rfl) rfl (xs [] [0, 1, 2] rfl rfl rfl (one1 8 rfl rfl (ov (EV.ex rfl rfl) rfl (xs [] [0, 1, 2] rfl rfl rfl (xd (pr [0, 2, 4, 6] [0, 1, 2] [0, 2, 4] rfl rfl rfl rfl (ge (rg (sv (EV.mv rfl) rfl (sv (EV.sub rfl rfl) rfl (sv (EV.as rfl) rfl (re (wk [0, 2, 4, 6] [2, 0, 1] [⟨0, 2, 1, true⟩, ⟨2, 1, 2, true⟩, ⟨1, 0, 0, false⟩] (ih0 _ (by omega) _ ⟨wrap64 (x4_6 - 1), t11_1, t11_2, x4_2_0, Ax4_2_0, cx4_2_0, x4_2_1, x4_2_2, t12_0, At12_0, ct12_0, t12_1, t12_2, H, rfl⟩))))))))))))))
       ·
        exact ov (EV.ex rfl rfl) rfl (xs [] [0, 1, 2] rfl rfl rfl (one1 7 rfl rfl (ov (EV.ex rfl rfl) rfl (xs [] [0, 1, 2] rfl rfl rfl (xd (pr [0, 2, 4, 6] [0, 1, 2] [0, 2, 4] rfl rfl rfl rfl (ge (rg (sv (EV.mv rfl) rfl (sv (EV.sub rfl rfl) rfl (sv (EV.as rfl) rfl (re (wk [0, 2, 4, 6] [2, 0, 1] [⟨0, 2, 1, true⟩, ⟨2, 1, 2, true⟩, ⟨1, 0, 0, false⟩] (ih0 _ (by omega) _ ⟨wrap64 (x4_6 - 1), t11_1, t11_2, x4_2_0, Ax4_2_0, cx4_2_0, x4_2_1, x4_2_2, t12_0, At12_0, ct12_0, t12_1, t12_2, H, rfl⟩))))))))))))))
     ·
      refine ov (EV.ex rfl rfl) rfl (xs [] [0, 1, 2] rfl rfl rfl ?_)
      refine one2 6 8 rfl rfl rfl rfl ?_ ?_
      ·
       refine ov (EV.ex rfl rfl) rfl (xs [] [0, 1, 2] rfl rfl rfl ?_)
       refine one2 8 10 rfl rfl rfl rfl ?_ ?_
       ·
        exact ov (EV.ex rfl rfl) rfl (xs [] [0, 1, 2] rfl rfl rfl (one1 10 rfl rfl (op_st (cs' := [.slice At12_0 t12_0.length ct12_0, .int .i64 t12_1, .int .i64 t12_2]) 1 rfl rfl rfl rfl rfl rfl (xn rfl (xd (pr [0, 2, 4, 6] [0, 1, 2] [0, 2, 4] rfl rfl rfl rfl (ge (rg (sv (EV.mv rfl) rfl (sv (EV.sub rfl rfl) rfl (sv (EV.as rfl) rfl (re (wk [0, 2, 4, 6] [2, 0, 1] [⟨0, 2, 1, true⟩, ⟨2, 1, 2, true⟩, ⟨1, 0, 0, false⟩] (ih0 _ (by omega) _ ⟨wrap64 (x4_6 - 1), t11_1, t11_2, x4_2_0, Ax4_2_0, cx4_2_0, x4_2_1, x4_2_2, t12_0, At12_0, ct12_0, t12_1, t12_2, H, rfl⟩))))))))))))))
       ·
        exact op_st (cs' := [.slice At12_0 t12_0.length ct12_0, .int .i64 t12_1, .int .i64 t12_2]) 1 rfl rfl rfl rfl rfl rfl (xn rfl (one1 8 rfl rfl (ov (EV.ex rfl rfl) rfl (xs [] [0, 1, 2] rfl rfl rfl (xd (pr [0, 2, 4, 6] [0, 1, 2] [0, 2, 4] rfl rfl rfl rfl (ge (rg (sv (EV.mv rfl) rfl (sv (EV.sub rfl rfl) rfl (sv (EV.as rfl) rfl (re (wk [0, 2, 4, 6] [2, 0, 1] [⟨0, 2, 1, true⟩, ⟨2, 1, 2, true⟩, ⟨1, 0, 0, false⟩] (ih0 _ (by omega) _ ⟨wrap64 (x4_6 - 1), t11_1, t11_2, x4_2_0, Ax4_2_0, cx4_2_0, x4_2_1, x4_2_2, t12_0, At12_0, ct12_0, t12_1, t12_2, H, rfl⟩))))))))))))))
      ·
       exact ov (EV.ex rfl rfl) rfl (xs [] [0, 1, 2] rfl rfl rfl (one1 6 rfl rfl (ov (EV.ex rfl rfl) rfl (xs [] [0, 1, 2] rfl rfl rfl (one1 10 rfl rfl (op_st (cs' := [.slice At12_0 t12_0.length ct12_0, .int .i64 t12_1, .int .i64 t12_2]) 1 rfl rfl rfl rfl rfl rfl (xn rfl (xd (pr [0, 2, 4, 6] [0, 1, 2] [0, 2, 4] rfl rfl rfl rfl (ge (rg (sv (EV.mv rfl) rfl (sv (EV.sub rfl rfl) rfl (sv (EV.as rfl) rfl (re (wk [0, 2, 4, 6] [2, 0, 1] [⟨0, 2, 1, true⟩, ⟨2, 1, 2, true⟩, ⟨1, 0, 0, false⟩] (ih0 _ (by omega) _ ⟨wrap64 (x4_6 - 1), t11_1, t11_2, x4_2_0, Ax4_2_0, cx4_2_0, x4_2_1, x4_2_2, t12_0, At12_0, ct12_0, t12_1, t12_2, H, rfl⟩)))))))))))))))))
     ·
      refine ov (EV.ex rfl rfl) rfl (xs [] [0, 1, 2] rfl rfl rfl ?_)
      refine one2 6 7 rfl rfl rfl rfl ?_ ?_
      ·
       refine ov (EV.ex rfl rfl) rfl (xs [] [0, 1, 2] rfl rfl rfl ?_)
       refine one2 7 10 rfl rfl rfl rfl ?_ ?_
       ·
        exact ov (EV.ex rfl rfl) rfl (xs [] [0, 1, 2] rfl rfl rfl (one1 10 rfl rfl (op_st (cs' := [.slice At12_0 t12_0.length ct12_0, .int .i64 t12_1, .int .i64 t12_2]) 1 rfl rfl rfl rfl rfl rfl (xn rfl (xd (pr [0, 2, 4, 6] [0, 1, 2] [0, 2, 4] rfl rfl rfl rfl (ge (rg (sv (EV.mv rfl) rfl (sv (EV.sub rfl rfl) rfl (sv (EV.as rfl) rfl (re (wk [0, 2, 4, 6] [2, 0, 1] [⟨0, 2, 1, true⟩, ⟨2, 1, 2, true⟩, ⟨1, 0, 0, false⟩] (ih0 _ (by omega) _ ⟨wrap64 (x4_6 - 1), t11_1, t11_2, x4_2_0, Ax4_2_0, cx4_2_0, x4_2_1, x4_2_2, t12_0, At12_0, ct12_0, t12_1, t12_2, H, rfl⟩))))))))))))))
       ·
        exact op_st (cs' := [.slice At12_0 t12_0.length ct12_0, .int .i64 t12_1, .int .i64 t12_2]) 1 rfl rfl rfl rfl rfl rfl (xn rfl (one1 7 rfl rfl (ov (EV.ex rfl rfl) rfl (xs [] [0, 1, 2] rfl rfl rfl (xd (pr [0, 2, 4, 6] [0, 1, 2] [0, 2, 4] rfl rfl rfl rfl (ge (rg (sv (EV.mv rfl) rfl (sv (EV.sub rfl rfl) rfl (sv (EV.as rfl) rfl (re (wk [0, 2, 4, 6] [2, 0, 1] [⟨0, 2, 1, true⟩, ⟨2, 1, 2, true⟩, ⟨1, 0, 0, false⟩] (ih0 _ (by omega) _ ⟨wrap64 (x4_6 - 1), t11_1, t11_2, x4_2_0, Ax4_2_0, cx4_2_0, x4_2_1, x4_2_2, t12_0, At12_0, ct12_0, t12_1, t12_2, H, rfl⟩))))))))))))))
      ·
       exact ov (EV.ex rfl rfl) rfl (xs [] [0, 1, 2] rfl rfl rfl (one1 6 rfl rfl (ov (EV.ex rfl rfl) rfl (xs [] [0, 1, 2] rfl rfl rfl (one1 10 rfl rfl (op_st (cs' := [.slice At12_0 t12_0.length ct12_0, .int .i64 t12_1, .int .i64 t12_2]) 1 rfl rfl rfl rfl rfl rfl (xn rfl (xd (pr [0, 2, 4, 6] [0, 1, 2] [0, 2, 4] rfl rfl rfl rfl (ge (rg (sv (EV.mv rfl) rfl (sv (EV.sub rfl rfl) rfl (sv (EV.as rfl) rfl (re (wk [0, 2, 4, 6] [2, 0, 1] [⟨0, 2, 1, true⟩, ⟨2, 1, 2, true⟩, ⟨1, 0, 0, false⟩] (ih0 _ (by omega) _ ⟨wrap64 (x4_6 - 1), t11_1, t11_2, x4_2_0, Ax4_2_0, cx4_2_0, x4_2_1, x4_2_2, t12_0, At12_0, ct12_0, t12_1, t12_2, H, rfl⟩)))))))))))))))))
   ·
    revert H; refine bdI ?_; rintro ⟨t13_0, t13_1, t13_2⟩ A13 H
    refine op_callM (spec_l1PickInt.ok b1000 l0_0 Al0_0 cl0_0 x4_1000_1 x4_1000_2 ([8, 9, 12] : List Int) A28_10 c28_10 _ _ _ A13) [⟨2, 0, 0, false⟩, ⟨3, 0, 0, false⟩] [0] [1, 2] 4 rfl rfl rfl rfl rfl rfl rfl rfl ?_
    rintro _ _ _ ⟨rfl, rfl, rfl⟩
    refine nmE (en := [.sl 2 k27 Ax4_2_0 cx4_2_0 x4_2_0 1 true, .sl 1 k27 Ax4_4_0 cx4_4_0 x4_4_0 2 true, .sl 0 (.int .u8) Al0_0 cl0_0 l0_0 0 false, .sl 2 (.int .i64) A28_10 c28_10 ([8, 9, 12] : List Int) 3 true]) (by kernel_rfl) (xs [] [0, 1, 2] rfl rfl rfl (one1 0 rfl rfl (ov (EV.ld (v := .agg #[.slice Ax4_4_0 x4_4_0.length cx4_4_0, .int .i64 x4_4_1, .int .i64 x4_4_2]) 1 (some 3) rfl rfl rfl) rfl (xs [] [0, 1, 2] rfl rfl rfl (one1 4 rfl rfl ?_)))))
    revert H; refine bdI ?_; rintro ⟨t14_0, t14_1, t14_2, t14_3, t14_4, t14_5⟩ A14 H
    refine op_call (spec_StepJoiner.ok n0 x4_4_0 Ax4_4_0 cx4_4_0 x4_4_1 x4_4_2 t13_0 _ _ _ _ _ _ A14) [⟨1, 0, 0, false⟩] 4 rfl rfl rfl rfl rfl ?_
    rintro _ _ _ ⟨At14_0, ct14_0, At14_3, ct14_3, rfl, rfl, rfl⟩
    refine xs [] [0, 1, 2] rfl rfl rfl (one1 5 rfl rfl (ov (EV.mv rfl) rfl (xs [] [0, 1, 2] rfl rfl rfl ?_)))
    refine one4 6 7 8 9 rfl rfl rfl rfl rfl rfl rfl rfl ?_ ?_ ?_ ?_
    ·
     refine ov (EV.ex rfl rfl) rfl (xs [] [0, 1, 2] rfl rfl rfl ?_)
     refine one4 7 8 9 10 rfl rfl rfl rfl rfl rfl rfl rfl ?_ ?_ ?_ ?_
     ·
      refine ov (EV.ex rfl rfl) rfl (xs [] [0, 1, 2] rfl rfl rfl ?_)
      refine one3 8 9 10 rfl rfl rfl rfl rfl rfl ?_ ?_ ?_
      ·
       refine ov (EV.ex rfl rfl) rfl (xs [] [0, 1, 2] rfl rfl rfl ?_)
       refine one2 9 10 rfl rfl rfl rfl ?_ ?_
       ·
        exact ov (EV.ex rfl rfl) rfl (xs [] [0, 1, 2] rfl rfl rfl (one1 10 rfl rfl (op_st (cs' := [.slice At14_0 t14_0.length ct14_0, .int .i64 t14_1, .int .i64 t14_2]) 1 rfl rfl rfl rfl rfl rfl (xn rfl (xd (pr [0, 2, 4, 6] [0, 1, 2] [0, 2, 4] rfl rfl rfl rfl (ge (rg (sv (EV.mv rfl) rfl (sv (EV.sub rfl rfl) rfl (sv (EV.as rfl) rfl (re (wk [0, 2, 4, 6] [2, 0, 1] [⟨0, 2, 1, true⟩, ⟨2, 1, 2, true⟩, ⟨1, 0, 0, false⟩] (ih0 _ (by omega) _ ⟨wrap64 (x4_6 - 1), t13_1, t13_2, x4_2_0, Ax4_2_0, cx4_2_0, x4_2_1, x4_2_2, t14_0, At14_0, ct14_0, t14_1, t14_2, H, rfl⟩))))))))))))))
       ·
        exact op_st (cs' := [.slice At14_0 t14_0.length ct14_0, .int .i64 t14_1, .int .i64 t14_2]) 1 rfl rfl rfl rfl rfl rfl (xn rfl (one1 9 rfl rfl (ov (EV.ex rfl rfl) rfl (xs [] [0, 1, 2] rfl rfl rfl (xd (pr [0, 2, 4, 6] [0, 1, 2] [0, 2, 4] rfl rfl rfl rfl (ge (rg (sv (EV.mv rfl) rfl (sv (EV.sub rfl rfl) rfl (sv (EV.as rfl) rfl (re (wk [0, 2, 4, 6] [2, 0, 1] [⟨0, 2, 1, true⟩, ⟨2, 1, 2, true⟩, ⟨1, 0, 0, false⟩] (ih0 _ (by omega) _ ⟨wrap64 (x4_6 - 1), t13_1, t13_2, x4_2_0, Ax4_2_0, cx4_2_0, x4_2_1, x4_2_2, t14_0, At14_0, ct14_0, t14_1, t14_2, H, rfl⟩))))))))))))))
      ·
       refine ov (EV.ex rfl rfl) rfl (xs [] [0, 1, 2] rfl rfl rfl ?_)
       refine one2 8 10 rfl rfl rfl rfl ?_ ?_
       ·
        exact ov (EV.ex rfl rfl) rfl (xs [] [0, 1, 2] rfl rfl rfl (one1 10 rfl rfl (op_st (cs' := [.slice At14_0 t14_0.length ct14_0, .int .i64 t14_1, .int .i64 t14_2]) 1 rfl rfl rfl rfl rfl rfl (xn rfl (xd (pr [0, 2, 4, 6] [0, 1, 2] [0, 2, 4] rfl rfl rfl rfl (ge (rg (sv (EV.mv rfl) rfl (sv (EV.sub rfl rfl) rfl (sv (EV.as rfl) rfl (re (wk [0, 2, 4, 6] [2, 0, 1] [⟨0, 2, 1, true⟩, ⟨2, 1, 2, true⟩, ⟨1, 0, 0, false⟩] (ih0 _ (by omega) _ ⟨wrap64 (x4_6 - 1), t13_1, t13_2, x4_2_0, Ax4_2_0, cx4_2_0, x4_2_1, x4_2_2, t14_0, At14_0, ct14_0, t14_1, t14_2, H, rfl⟩))))))))))))))
       ·
        exact op_st (cs' := [.slice At14_0 t14_0.length ct14_0, .int .i64 t14_1, .int .i64 t14_2]) 1 rfl rfl rfl rfl rfl rfl (xn rfl (one1 8 rfl rfl (ov (EV.ex rfl rfl) rfl (xs [] [0, 1, 2] rfl rfl rfl (xd (pr [0, 2, 4, 6] [0, 1, 2] [0, 2, 4] rfl rfl rfl rfl (ge (rg (sv (EV.mv rfl) rfl (sv (EV.sub rfl rfl) rfl (sv (EV.as rfl) rfl (re (wk [0, 2, 4, 6] [2, 0, 1] [⟨0, 2, 1, true⟩, ⟨2, 1, 2, true⟩, ⟨1, 0, 0, false⟩] (ih0 _ (by omega) _ ⟨wrap64 (x4_6 - 1), t13_1, t13_2, x4_2_0, Ax4_2_0, cx4_2_0, x4_2_1, x4_2_2, t14_0, At14_0, ct14_0, t14_1, t14_2, H, rfl⟩))))))))))))))
      ·
       refine op_st (cs' := [.slice At14_0 t14_0.length ct14_0, .int .i64 t14_1, .int .i64 t14_2]) 1 rfl rfl rfl rfl rfl rfl (xn rfl ?_)
       refine one2 8 9 rfl rfl rfl rfl ?_ ?_
       ·
        exact ov (EV.ex rfl rfl) rfl (xs [] [0, 1, 2] rfl rfl rfl (one1 9 rfl rfl (ov (EV.ex rfl rfl) rfl (xs [] [0, 1, 2] rfl rfl rfl (xd (pr [0, 2, 4, 6] [0, 1, 2] [0, 2, 4] rfl rfl rfl rfl (ge (rg (sv (EV.mv rfl) rfl (sv (EV.sub rfl rfl) rfl (sv (EV.as rfl) rfl (re (wk [0, 2, 4, 6] [2, 0, 1] [⟨0, 2, 1, true⟩, ⟨2, 1, 2, true⟩, ⟨1, 0, 0, false⟩] (ih0 _ (by omega) _ ⟨wrap64 (x4_6 - 1), t13_1, t13_2, x4_2_0, Ax4_2_0, cx4_2_0, x4_2_1, x4_2_2, t14_0, At14_0, ct14_0, t14_1, t14_2, H, rfl⟩))))))))))))))
       ·
        exact ov (EV.ex rfl rfl) rfl (xs [] [0, 1, 2] rfl rfl rfl (one1 8 rfl rfl (ov (EV.ex rfl rfl) rfl (xs [] [0, 1, 2] rfl rfl rfl (xd (pr [0, 2, 4, 6] [0, 1, 2] [0, 2, 4] rfl rfl rfl rfl (ge (rg (sv (EV.mv rfl) rfl (sv (EV.sub rfl rfl) rfl (sv (EV.as rfl) rfl (re (wk [0, 2, 4, 6] [2, 0, 1] [⟨0, 2, 1, true⟩, ⟨2, 1, 2, true⟩, ⟨1, 0, 0, false⟩] (ih0 _ (by omega) _ ⟨wrap64 (x4_6 - 1), t13_1, t13_2, x4_2_0, Ax4_2_0, cx4_2_0, x4_2_1, x4_2_2, t14_0, At14_0, ct14_0, t14_1, t14_2, H, rfl⟩))))))))))))))
     ·
      refine ov (EV.ex rfl rfl) rfl (xs [] [0, 1, 2] rfl rfl rfl ?_)
      refine one3 7 9 10 rfl rfl rfl rfl rfl rfl ?_ ?_ ?_
      ·
       refine ov (EV.ex rfl rfl) rfl (xs [] [0, 1, 2] rfl rfl rfl ?_)
       refine one2 9 10 rfl rfl rfl rfl ?_ ?_
       ·
        exact ov (EV.ex rfl rfl) rfl (xs [] [0, 1, 2] rfl rfl rfl (one1 10 rfl rfl (op_st (cs' := [.slice At14_0 t14_0.length ct14_0, .int .i64 t14_1, .int .i64 t14_2]) 1 rfl rfl rfl rfl rfl rfl (xn rfl (xd (pr [0, 2, 4, 6] [0, 1, 2] [0, 2, 4] rfl rfl rfl rfl (ge (rg (sv (EV.mv rfl) rfl (sv (EV.sub rfl rfl) rfl (sv (EV.as rfl) rfl (re (wk [0, 2, 4, 6] [2, 0, 1] [⟨0, 2, 1, true⟩, ⟨2, 1, 2, true⟩, ⟨1, 0, 0, false⟩] (ih0 _ (by omega) _ ⟨wrap64 (x4_6 - 1), t13_1, t13_2, x4_2_0, Ax4_2_0, cx4_2_0, x4_2_1, x4_2_2, t14_0, At14_0, ct14_0, t14_1, t14_2, H, rfl⟩))))))))))))))
       ·
        exact op_st (cs' := [.slice At14_0 t14_0.length ct14_0, .int .i64 t14_1, .int .i64 t14_2]) 1 rfl rfl rfl rfl rfl rfl (xn rfl (one1 9 rfl rfl (ov (EV.ex rfl rfl) rfl (xs [] [0, 1, 2] rfl rfl rfl (xd (pr [0, 2, 4, 6] [0, 1, 2] [0, 2, 4] rfl rfl rfl rfl (ge (rg (sv (EV.mv rfl) rfl (sv (EV.sub rfl rfl) rfl (sv (EV.as rfl) rfl (re (wk [0, 2, 4, 6] [2, 0, 1] [⟨0, 2, 1, true⟩, ⟨2, 1, 2, true⟩, ⟨1, 0, 0, false⟩] (ih0 _ (by omega) _ ⟨wrap64 (x4_6 - 1), t13_1, t13_2, x4_2_0, Ax4_2_0, cx4_2_0, x4_2_1, x4_2_2, t14_0, At14_0, ct14_0, t14_1, t14_2, H, rfl⟩))))))))))))))
      ·
       refine ov (EV.ex rfl rfl) rfl (xs [] [0, 1, 2] rfl rfl rfl ?_)
       refine one2 7 10 rfl rfl rfl rfl ?_ ?_
       ·
        exact ov (EV.ex rfl rfl) rfl (xs [] [0, 1, 2] rfl rfl rfl (one1 10 rfl rfl (op_st (cs' := [.slice At14_0 t14_0.length ct14_0, .int .i64 t14_1, .int .i64 t14_2]) 1 rfl rfl rfl rfl rfl rfl (xn rfl (xd (pr [0, 2, 4, 6] [0, 1, 2] [0, 2, 4] rfl rfl rfl rfl (ge (rg (sv (EV.mv rfl) rfl (sv (EV.sub rfl rfl) rfl (sv (EV.as rfl) rfl (re (wk [0, 2, 4, 6] [2, 0, 1] [⟨0, 2, 1, true⟩, ⟨2, 1, 2, true⟩, ⟨1, 0, 0, false⟩] (ih0 _ (by omega) _ ⟨wrap64 (x4_6 - 1), t13_1, t13_2, x4_2_0, Ax4_2_0, cx4_2_0, x4_2_1, x4_2_2, t14_0, At14_0, ct14_0, t14_1, t14_2, H, rfl⟩))))))))))))))
       ·
        exact op_st (cs' := [.slice At14_0 t14_0.length ct14_0, .int .i64 t14_1, .int .i64 t14_2]) 1 rfl rfl rfl rfl rfl rfl (xn rfl (one1 7 rfl rfl (ov (EV.ex rfl rfl) rfl (xs [] [0, 1, 2] rfl rfl rfl (xd (pr [0, 2, 4, 6] [0, 1, 2] [0, 2, 4] rfl rfl rfl rfl (ge (rg (sv (EV.mv rfl) rfl (sv (EV.sub rfl rfl) rfl (sv (EV.as rfl) rfl (re (wk [0, 2, 4, 6] [2, 0, 1] [⟨0, 2, 1, true⟩, ⟨2, 1, 2, true⟩, ⟨1, 0, 0, false⟩] (ih0 _ (by omega) _ ⟨wrap64 (x4_6 - 1), t13_1, t13_2, x4_2_0, Ax4_2_0, cx4_2_0, x4_2_1, x4_2_2, t14_0, At14_0, ct14_0, t14_1, t14_2, H, rfl⟩))))))))))))))
      ·
       refine op_st (cs' := [.slice At14_0 t14_0.length ct14_0, .int .i64 t14_1, .int .i64 t14_2]) 1 rfl rfl rfl rfl rfl rfl (xn rfl ?_)
       refine one2 7 9 rfl rfl rfl rfl ?_ ?_
       ·
        exact ov (EV.ex rfl rfl) rfl (xs [] [0, 1, 2] rfl rfl rfl (one1 9 rfl rfl (ov (EV.ex rfl rfl) rfl (xs [] [0, 1, 2] rfl rfl rfl (xd (pr [0, 2, 4, 6] [0, 1, 2] [0, 2, 4] rfl rfl rfl rfl (ge (rg (sv (EV.mv rfl) rfl (sv (EV.sub rfl rfl) rfl (sv (EV.as rfl) rfl (re (wk [0, 2, 4, 6] [2, 0, 1] [⟨0, 2, 1, true⟩, ⟨2, 1, 2, true⟩, ⟨1, 0, 0, false⟩] (ih0 _ (by omega) _ ⟨wrap64 (x4_6 - 1), t13_1, t13_2, x4_2_0, Ax4_2_0, cx4_2_0, x4_2_1, x4_2_2, t14_0, At14_0, ct14_0, t14_1, t14_2, H, rfl⟩))))))))))))))
       ·
        exact ov (EV.ex rfl rfl) rfl (xs [] [0, 1, 2] rfl rfl rfl (one1 7 rfl rfl (ov (EV.ex rfl rfl) rfl (xs [] [0, 1, 2] rfl rfl rfl (xd (pr [0, 2, 4, 6] [0, 1, 2] [0, 2, 4] rfl rfl rfl rfl (ge (rg (sv (EV.mv rfl) rfl (sv (EV.sub rfl rfl) rfl (sv (EV.as rfl) rfl (re (wk [0, 2, 4, 6] [2, 0, 1] [⟨0, 2, 1, true⟩, ⟨2, 1, 2, true⟩, ⟨1, 0, 0, false⟩] (ih0 _ (by omega) _ ⟨wrap64 (x4_6 - 1), t13_1, t13_2, x4_2_0, Ax4_2_0, cx4_2_0, x4_2_1, x4_2_2, t14_0, At14_0, ct14_0, t14_1, t14_2, H, rfl⟩))))))))))))))
     ·
      refine ov (EV.ex rfl rfl) rfl (xs [] [0, 1, 2] rfl rfl rfl ?_)
      refine one3 7 8 10 rfl rfl rfl rfl rfl rfl ?_ ?_ ?_
      ·
       refine ov (EV.ex rfl rfl) rfl (xs [] [0, 1, 2] rfl rfl rfl ?_)
       refine one2 8 10 rfl rfl rfl rfl ?_ ?_
       ·
        exact ov (EV.ex rfl rfl) rfl (xs [] [0, 1, 2] rfl rfl rfl (one1 10 rfl rfl (op_st (cs' := [.slice At14_0 t14_0.length ct14_0, .int .i64 t14_1, .int .i64 t14_2]) 1 rfl rfl rfl rfl rfl rfl (xn rfl (xd (pr [0, 2, 4, 6] [0, 1, 2] [0, 2, 4] rfl rfl rfl rfl (ge (rg (sv (EV.mv rfl) rfl (sv (EV.sub rfl rfl) rfl (sv (EV.as rfl) rfl (re (wk [0, 2, 4, 6] [2, 0, 1] [⟨0, 2, 1, true⟩, ⟨2, 1, 2, true⟩, ⟨1, 0, 0, false⟩] (ih0 _ (by omega) _ ⟨wrap64 (x4_6 - 1), t13_1, t13_2, x4_2_0, Ax4_2_0, cx4_2_0, x4_2_1, x4_2_2, t14_0, At14_0, ct14_0, t14_1, t14_2, H, rfl⟩))))))))))))))
       ·
        exact op_st (cs' := [.slice At14_0 t14_0.length ct14_0, .int .i64 t14_1, .int .i64 t14_2]) 1 rfl rfl rfl rfl rfl rfl (xn rfl (one1 8 rfl rfl (ov (EV.ex rfl rfl) rfl (xs [] [0, 1, 2] rfl rfl rfl (xd (pr [0, 2, 4, 6] [0, 1, 2] [0, 2, 4] rfl rfl rfl rfl (ge (rg (sv (EV.mv rfl) rfl (sv (EV.sub rfl rfl) rfl (sv (EV.as rfl) rfl (re (wk [0, 2, 4, 6] [2, 0, 1] [⟨0, 2, 1, true⟩, ⟨2, 1, 2, true⟩, ⟨1, 0, 0, false⟩] (ih0 _ (by omega) _ ⟨wrap64 (x4_6 - 1), t13_1, t13_2, x4_2_0, Ax4_2_0, cx4_2_0, x4_2_1, x4_2_2, t14_0, At14_0, ct14_0, t14_1, t14_2, H, rfl⟩))))))))))))))
      ·
       refine ov (EV.ex rfl rfl) rfl (xs [] [0, 1, 2] rfl rfl rfl ?_)
       refine one2 7 10 rfl rfl rfl rfl ?_ ?_
       ·
        exact ov (EV.ex rfl rfl) rfl (xs [] [0, 1, 2] rfl rfl rfl (one1 10 rfl rfl (op_st (cs' := [.slice At14_0 t14_0.length ct14_0, .int .i64 t14_1, .int .i64 t14_2]) 1 rfl rfl rfl rfl rfl rfl (xn rfl (xd (pr [0, 2, 4, 6] [0, 1, 2] [0, 2, 4] rfl rfl rfl rfl (ge (rg (sv (EV.mv rfl) rfl (sv (EV.sub rfl rfl) rfl (sv (EV.as rfl) rfl (re (wk [0, 2, 4, 6] [2, 0, 1] [⟨0, 2, 1, true⟩, ⟨2, 1, 2, true⟩, ⟨1, 0, 0, false⟩] (ih0 _ (by omega) _ ⟨wrap64 (x4_6 - 1), t13_1, t13_2, x4_2_0, Ax4_2_0, cx4_2_0, x4_2_1, x4_2_2, t14_0, At14_0, ct14_0, t14_1, t14_2, H, rfl⟩))))))))))))))
       ·
        exact op_st (cs' := [.slice At14_0 t14_0.length ct14_0, .int .i64 t14_1, .int .i64 t14_2]) 1 rfl rfl rfl rfl rfl rfl (xn rfl (one1 7 rfl rfl (ov (EV.ex rfl rfl) rfl (xs [] [0, 1, 2] rfl rfl rfl (xd (pr [0, 2, 4, 6] [0, 1, 2] [0, 2, 4] rfl rfl rfl rfl (ge (rg (sv (EV.mv rfl) rfl (sv (EV.sub rfl rfl) rfl (sv (EV.as rfl) rfl (re (wk [0, 2, 4, 6] [2, 0, 1] [⟨0, 2, 1, true⟩, ⟨2, 1, 2, true⟩, ⟨1, 0, 0, false⟩] (ih0 _ (by omega) _ ⟨wrap64 (x4_6 - 1), t13_1, t13_2, x4_2_0, Ax4_2_0, cx4_2_0, x4_2_1, x4_2_2, t14_0, At14_0, ct14_0, t14_1, t14_2, H, rfl⟩))))))))))))))
      ·
       refine op_st (cs' := [.slice At14_0 t14_0.length ct14_0, .int .i64 t14_1, .int .i64 t14_2]) 1 rfl rfl rfl rfl rfl rfl (xn rfl ?_)
       refine one2 7 8 rfl rfl rfl rfl ?_ ?_
       ·
        exact ov (EV.ex rfl rfl) rfl (xs [] [0, 1, 2] rfl rfl rfl (one1 8 rfl rfl (ov (EV.ex rfl rfl) rfl (xs [] [0, 1, 2] rfl rfl rfl (xd (pr [0, 2, 4, 6] [0, 1, 2] [0, 2, 4] rfl rfl rfl rfl (ge (rg (sv (EV.mv rfl) rfl (sv (EV.sub rfl rfl) rfl (sv (EV.as rfl) rfl (re (wk [0, 2, 4, 6] [2, 0, 1] [⟨0, 2, 1, true⟩, ⟨2, 1, 2, true⟩, ⟨1, 0, 0, false⟩] (ih0 _ (by omega) _ ⟨wrap64 (x4_6 - 1), t13_1, t13_2, x4_2_0, Ax4_2_0, cx4_2_0, x4_2_1, x4_2_2, t14_0, At14_0, ct14_0, t14_1, t14_2, H, rfl⟩))))))))))))))
       ·
        exact ov (EV.ex rfl rfl) rfl (xs [] [0, 1, 2] rfl rfl rfl (one1 7 rfl rfl (ov (EV.ex rfl rfl) rfl (xs [] [0, 1, 2] rfl rfl rfl (xd (pr [0, 2, 4, 6] [0, 1, 2] [0, 2, 4] rfl rfl rfl rfl (ge (rg (sv (EV.mv rfl) rfl (sv (EV.sub rfl rfl) rfl (sv (EV.as rfl) rfl (re (wk [0, 2, 4, 6] [2, 0, 1] [⟨0, 2, 1, true⟩, ⟨2, 1, 2, true⟩, ⟨1, 0, 0, false⟩] (ih0 _ (by omega) _ ⟨wrap64 (x4_6 - 1), t13_1, t13_2, x4_2_0, Ax4_2_0, cx4_2_0, x4_2_1, x4_2_2, t14_0, At14_0, ct14_0, t14_1, t14_2, H, rfl⟩))))))))))))))
     ·
      refine op_st (cs' := [.slice At14_0 t14_0.length ct14_0, .int .i64 t14_1, .int .i64 t14_2]) 1 rfl rfl rfl rfl rfl rfl (xn rfl ?_)
      refine one3 7 8 9 rfl rfl rfl rfl rfl rfl ?_ ?_ ?_
      ·
       refine ov (EV.ex rfl rfl) rfl (xs [] [0, 1, 2] rfl rfl rfl ?_)
       refine one2 8 9 rfl rfl rfl rfl ?_ ?_
       ·
        exact ov (EV.ex rfl rfl) rfl (xs [] [0, 1, 2] rfl rfl rfl (one1 9 rfl rfl (ov (EV.ex rfl rfl) rfl (xs [] [0, 1, 2] rfl rfl rfl (xd (pr [0, 2, 4, 6] [0, 1, 2] [0, 2, 4] rfl rfl rfl rfl (ge (rg (sv (EV.mv rfl) rfl (sv (EV.sub rfl rfl) rfl (sv (EV.as rfl) rfl (re (wk [0, 2, 4, 6] [2, 0, 1] [⟨0, 2, 1, true⟩, ⟨2, 1, 2, true⟩, ⟨1, 0, 0, false⟩] (ih0 _ (by omega) _ ⟨wrap64 (x4_6 - 1), t13_1, t13_2, x4_2_0, Ax4_2_0, cx4_2_0, x4_2_1, x4_2_2, t14_0, At14_0, ct14_0, t14_1, t14_2, H, rfl⟩))))))))))))))
       ·
        exact ov (EV.ex rfl rfl) rfl (xs [] [0, 1, 2] rfl rfl rfl (one1 8 rfl rfl (ov (EV.ex rfl rfl) rfl (xs [] [0, 1, 2] rfl rfl rfl (xd (pr [0, 2, 4, 6] [0, 1, 2] [0, 2, 4] rfl rfl rfl rfl (ge (rg (sv (EV.mv rfl) rfl (sv (EV.sub rfl rfl) rfl (sv (EV.as rfl) rfl (re (wk [0, 2, 4, 6] [2, 0, 1] [⟨0, 2, 1, true⟩, ⟨2, 1, 2, true⟩, ⟨1, 0, 0, false⟩] (ih0 _ (by omega) _ ⟨wrap64 (x4_6 - 1), t13_1, t13_2, x4_2_0, Ax4_2_0, cx4_2_0, x4_2_1, x4_2_2, t14_0, At14_0, ct14_0, t14_1, t14_2, H, rfl⟩))))))))))))))
      ·
       refine ov (EV.ex rfl rfl) rfl (xs [] [0, 1, 2] rfl rfl rfl ?_)
       refine one2 7 9 rfl rfl rfl rfl ?_ ?_
       ·
        exact ov (EV.ex rfl rfl) rfl (xs [] [0, 1, 2] rfl rfl rfl (one1 9 rfl rfl (ov (EV.ex rfl rfl) rfl (xs [] [0, 1, 2] rfl rfl rfl (xd (pr [0, 2, 4, 6] [0, 1, 2] [0, 2, 4] rfl rfl rfl rfl (ge (rg (sv (EV.mv rfl) rfl (sv (EV.sub rfl rfl) rfl (sv (EV.as rfl) rfl (re (wk [0, 2, 4, 6] [2, 0, 1] [⟨0, 2, 1, true⟩, ⟨2, 1, 2, true⟩, ⟨1, 0, 0, false⟩] (ih0 _ (by omega) _ ⟨wrap64 (x4_6 - 1), t13_1, t13_2, x4_2_0, Ax4_2_0, cx4_2_0, x4_2_1, x4_2_2, t14_0, At14_0, ct14_0, t14_1, t14_2, H, rfl⟩))))))))))))))
       ·
        exact ov (EV.ex rfl rfl) rfl (xs [] [0, 1, 2] rfl rfl rfl (one1 7 rfl rfl (ov (EV.ex rfl rfl) rfl (xs [] [0, 1, 2] rfl rfl rfl (xd (pr [0, 2, 4, 6] [0, 1, 2] [0, 2, 4] rfl rfl rfl rfl (ge (rg (sv (EV.mv rfl) rfl (sv (EV.sub rfl rfl) rfl (sv (EV.as rfl) rfl (re (wk [0, 2, 4, 6] [2, 0, 1] [⟨0, 2, 1, true⟩, ⟨2, 1, 2, true⟩, ⟨1, 0, 0, false⟩] (ih0 _ (by omega) _ ⟨wrap64 (x4_6 - 1), t13_1, t13_2, x4_2_0, Ax4_2_0, cx4_2_0, x4_2_1, x4_2_2, t14_0, At14_0, ct14_0, t14_1, t14_2, H, rfl⟩))))))))))))))
      ·
       refine ov (EV.ex rfl rfl) rfl (xs [] [0, 1, 2] rfl rfl rfl ?_)
       refine one2 7 8 rfl rfl rfl rfl ?_ ?_
       ·
        exact ov (EV.ex rfl rfl) rfl (xs [] [0, 1, 2] rfl rfl rfl (one1 8 rfl rfl (ov (EV.ex rfl rfl) rfl (xs [] [0, 1, 2] rfl rfl rfl (xd (pr [0, 2, 4, 6] [0, 1, 2] [0, 2, 4] rfl rfl rfl rfl (ge (rg (sv (EV.mv rfl) rfl (sv (EV.sub rfl rfl) rfl (sv (EV.as rfl) rfl (re (wk [0, 2, 4, 6] [2, 0, 1] [⟨0, 2, 1, true⟩, ⟨2, 1, 2, true⟩, ⟨1, 0, 0, false⟩] (ih0 _ (by omega) _ ⟨wrap64 (x4_6 - 1), t13_1, t13_2, x4_2_0, Ax4_2_0, cx4_2_0, x4_2_1, x4_2_2, t14_0, At14_0, ct14_0, t14_1, t14_2, H, rfl⟩))))))))))))))
       ·
        exact ov (EV.ex rfl rfl) rfl (xs [] [0, 1, 2] rfl rfl rfl (one1 7 rfl rfl (ov (EV.ex rfl rfl) rfl (xs [] [0, 1, 2] rfl rfl rfl (xd (pr [0, 2, 4, 6] [0, 1, 2] [0, 2, 4] rfl rfl rfl rfl (ge (rg (sv (EV.mv rfl) rfl (sv (EV.sub rfl rfl) rfl (sv (EV.as rfl) rfl (re (wk [0, 2, 4, 6] [2, 0, 1] [⟨0, 2, 1, true⟩, ⟨2, 1, 2, true⟩, ⟨1, 0, 0, false⟩] (ih0 _ (by omega) _ ⟨wrap64 (x4_6 - 1), t13_1, t13_2, x4_2_0, Ax4_2_0, cx4_2_0, x4_2_1, x4_2_2, t14_0, At14_0, ct14_0, t14_1, t14_2, H, rfl⟩))))))))))))))
    ·
     refine ov (EV.ex rfl rfl) rfl (xs [] [0, 1, 2] rfl rfl rfl ?_)
     refine one3 6 8 9 rfl rfl rfl rfl rfl rfl ?_ ?_ ?_
     ·
      refine ov (EV.ex rfl rfl) rfl (xs [] [0, 1, 2] rfl rfl rfl ?_)
      refine one3 8 9 10 rfl rfl rfl rfl rfl rfl ?_ ?_ ?_
      ·
       refine ov (EV.ex rfl rfl) rfl (xs [] [0, 1, 2] rfl rfl rfl ?_)
       refine one2 9 10 rfl rfl rfl rfl ?_ ?_
       ·
        exact ov (EV.ex rfl rfl) rfl (xs [] [0, 1, 2] rfl rfl rfl (one1 10 rfl rfl (op_st (cs' := [.slice At14_0 t14_0.length ct14_0, .int .i64 t14_1, .int .i64 t14_2]) 1 rfl rfl rfl rfl rfl rfl (xn rfl (xd (pr [0, 2, 4, 6] [0, 1, 2] [0, 2, 4] rfl rfl rfl rfl (ge (rg (sv (EV.mv rfl) rfl (sv (EV.sub rfl rfl) rfl (sv (EV.as rfl) rfl (re (wk [0, 2, 4, 6] [2, 0, 1] [⟨0, 2, 1, true⟩, ⟨2, 1, 2, true⟩, ⟨1, 0, 0, false⟩] (ih0 _ (by omega) _ ⟨wrap64 (x4_6 - 1), t13_1, t13_2, x4_2_0, Ax4_2_0, cx4_2_0, x4_2_1, x4_2_2, t14_0, At14_0, ct14_0, t14_1, t14_2, H, rfl⟩))))))))))))))
       ·
        exact op_st (cs' := [.slice At14_0 t14_0.length ct14_0, .int .i64 t14_1, .int .i64 t14_2]) 1 rfl rfl rfl rfl rfl rfl (xn rfl (one1 9 rfl rfl (ov (EV.ex rfl rfl) rfl (xs [] [0, 1, 2] rfl rfl rfl (xd (pr [0, 2, 4, 6] [0, 1, 2] [0, 2, 4] rfl rfl rfl rfl (ge (rg (sv (EV.mv rfl) rfl (sv (EV.sub rfl rfl) rfl (sv (EV.as rfl) rfl (re (wk [0, 2, 4, 6] [2, 0, 1] [⟨0, 2, 1, true⟩, ⟨2, 1, 2, true⟩, ⟨1, 0, 0, false⟩] (ih0 _ (by omega) _ ⟨wrap64 (x4_6 - 1), t13_1, t13_2, x4_2_0, Ax4_2_0, cx4_2_0, x4_2_1, x4_2_2, t14_0, At14_0, ct14_0, t14_1, t14_2, H, rfl⟩))))))))))))))
      ·
       refine ov (EV.ex rfl rfl) rfl (xs [] [0, 1, 2] rfl rfl rfl ?_)
       refine one2 8 10 rfl rfl rfl rfl ?_ ?_
       ·
        exact ov (EV.ex rfl rfl) rfl (xs [] [0, 1, 2] rfl rfl rfl (one1 10 rfl rfl (op_st (cs' := [.slice At14_0 t14_0.length ct14_0, .int .i64 t14_1, .int .i64 t14_2]) 1 rfl rfl rfl rfl rfl rfl (xn rfl (xd (pr [0, 2, 4, 6] [0, 1, 2] [0, 2, 4] rfl rfl rfl rfl (ge (rg (sv (EV.mv rfl) rfl (sv (EV.sub rfl rfl) rfl (sv (EV.as rfl) rfl (re (wk [0, 2, 4, 6] [2, 0, 1] [⟨0, 2, 1, true⟩, ⟨2, 1, 2, true⟩, ⟨1, 0, 0, false⟩] (ih0 _ (by omega) _ ⟨wrap64 (x4_6 - 1), t13_1, t13_2, x4_2_0, Ax4_2_0, cx4_2_0, x4_2_1, x4_2_2, t14_0, At14_0, ct14_0, t14_1, t14_2, H, rfl⟩))))))))))))))
       ·
        exact op_st (cs' := [.slice At14_0 t14_0.length ct14_0, .int .i64 t14_1, .int .i64 t14_2]) 1 rfl rfl rfl rfl rfl rfl (xn rfl (one1 8 rfl rfl (ov (EV.ex rfl rfl) rfl (xs [] [0, 1, 2] rfl rfl rfl (xd (pr [0, 2, 4, 6] [0, 1, 2] [0, 2, 4] rfl rfl rfl rfl (ge (rg (sv (EV.mv rfl) rfl (sv (EV.sub rfl rfl) rfl (sv (EV.as rfl) rfl (re (wk [0, 2, 4, 6] [2, 0, 1] [⟨0, 2, 1, true⟩, ⟨2, 1, 2, true⟩, ⟨1, 0, 0, false⟩] (ih0 _ (by omega) _ ⟨wrap64 (x4_6 - 1), t13_1, t13_2, x4_2_0, Ax4_2_0, cx4_2_0, x4_2_1, x4_2_2, t14_0, At14_0, ct14_0, t14_1, t14_2, H, rfl⟩))))))))))))))
      ·
       refine op_st (cs' := [.slice At14_0 t14_0.length ct14_0, .int .i64 t14_1, .int .i64 t14_2]) 1 rfl rfl rfl rfl rfl rfl (xn rfl ?_)
       refine one2 8 9 rfl rfl rfl rfl ?_ ?_
       ·
        exact ov (EV.ex rfl rfl) rfl (xs [] [0, 1, 2] rfl rfl rfl (one1 9 rfl rfl (ov (EV.ex rfl rfl) rfl (xs [] [0, 1, 2] rfl rfl rfl (xd (pr [0, 2, 4, 6] [0, 1, 2] [0, 2, 4] rfl rfl rfl rfl (ge (rg (sv (EV.mv rfl) rfl (sv (EV.sub rfl rfl) rfl (sv (EV.as rfl) rfl (re (wk [0, 2, 4, 6] [2, 0, 1] [⟨0, 2, 1, true⟩, ⟨2, 1, 2, true⟩, ⟨1, 0, 0, false⟩] (ih0 _ (by omega) _ ⟨wrap64 (x4_6 - 1), t13_1, t13_2, x4_2_0, Ax4_2_0, cx4_2_0, x4_2_1, x4_2_2, t14_0, At14_0, ct14_0, t14_1, t14_2, H, rfl⟩))))))))))))))
       ·
        exact ov (EV.ex rfl rfl) rfl (xs [] [0, 1, 2] rfl rfl rfl (one1 8 rfl rfl (ov (EV.ex rfl rfl) rfl (xs [] [0, 1, 2] rfl rfl rfl (xd (pr [0, 2, 4, 6] [0, 1, 2] [0, 2, 4] rfl rfl rfl rfl (ge (rg (sv (EV.mv rfl) rfl (sv (EV.sub rfl rfl) rfl (sv (EV.as rfl) rfl (re (wk [0, 2, 4, 6] [2, 0, 1] [⟨0, 2, 1, true⟩, ⟨2, 1, 2, true⟩, ⟨1, 0, 0, false⟩] (ih0 _ (by omega) _ ⟨wrap64 (x4_6 - 1), t13_1, t13_2, x4_2_0, Ax4_2_0, cx4_2_0, x4_2_1, x4_2_2, t14_0, At14_0, ct14_0, t14_1, t14_2, H, rfl⟩))))))))))))))
     ·
      refine ov (EV.ex rfl rfl) rfl (xs [] [0, 1, 2] rfl rfl rfl ?_)
      refine one2 6 9 rfl rfl rfl rfl ?_ ?_
      ·
       refine ov (EV.ex rfl rfl) rfl (xs [] [0, 1, 2] rfl rfl rfl ?_)
       refine one2 9 10 rfl rfl rfl rfl ?_ ?_
       ·
        exact ov (EV.ex rfl rfl) rfl (xs [] [0, 1, 2] rfl rfl rfl (one1 10 rfl rfl (op_st (cs' := [.slice At14_0 t14_0.length ct14_0, .int .i64 t14_1, .int .i64 t14_2]) 1 rfl rfl rfl rfl rfl rfl (xn rfl (xd (pr [0, 2, 4, 6] [0, 1, 2] [0, 2, 4] rfl rfl rfl rfl (ge (rg (sv (EV.mv rfl) rfl (sv (EV.sub rfl rfl) rfl (sv (EV.as rfl) rfl (re (wk [0, 2, 4, 6] [2, 0, 1] [⟨0, 2, 1, true⟩, ⟨2, 1, 2, true⟩, ⟨1, 0, 0, false⟩] (ih0 _ (by omega) _ ⟨wrap64 (x4_6 - 1), t13_1, t13_2, x4_2_0, Ax4_2_0, cx4_2_0, x4_2_1, x4_2_2, t14_0, At14_0, ct14_0, t14_1, t14_2, H, rfl⟩))))))))))))))
       ·
        exact op_st (cs' := [.slice At14_0 t14_0.length ct14_0, .int .i64 t14_1, .int .i64 t14_2]) 1 rfl rfl rfl rfl rfl rfl (xn rfl (one1 9 rfl rfl (ov (EV.ex rfl rfl) rfl (xs [] [0, 1, 2] rfl rfl rfl (xd (pr [0, 2, 4, 6] [0, 1, 2] [0, 2, 4] rfl rfl rfl rfl (ge (rg (sv (EV.mv rfl) rfl (sv (EV.sub rfl rfl) rfl (sv (EV.as rfl) rfl (re (wk [0, 2, 4, 6] [2, 0, 1] [⟨0, 2, 1, true⟩, ⟨2, 1, 2, true⟩, ⟨1, 0, 0, false⟩] (ih0 _ (by omega) _ ⟨wrap64 (x4_6 - 1), t13_1, t13_2, x4_2_0, Ax4_2_0, cx4_2_0, x4_2_1, x4_2_2, t14_0, At14_0, ct14_0, t14_1, t14_2, H, rfl⟩))))))))))))))
      ·
       exact ov (EV.ex rfl rfl) rfl (xs [] [0, 1, 2] rfl rfl rfl (one1 6 rfl rfl (ov (EV.ex rfl rfl) rfl (xs [] [0, 1, 2] rfl rfl rfl (one1 10 rfl rfl (op_st (cs' := [.slice At14_0 t14_0.length ct14_0, .int .i64 t14_1, .int .i64 t14_2]) 1 rfl rfl rfl rfl rfl rfl (xn rfl (xd (pr [0, 2, 4, 6] [0, 1, 2] [0, 2, 4] rfl rfl rfl rfl (ge (rg (sv (EV.mv rfl) rfl (sv (EV.sub rfl rfl) rfl (sv (EV.as rfl) rfl (re (wk [0, 2, 4, 6] [2, 0, 1] [⟨0, 2, 1, true⟩, ⟨2, 1, 2, true⟩, ⟨1, 0, 0, false⟩] (ih0 _ (by omega) _ ⟨wrap64 (x4_6 - 1), t13_1, t13_2, x4_2_0, Ax4_2_0, cx4_2_0, x4_2_1, x4_2_2, t14_0, At14_0, ct14_0, t14_1, t14_2, H, rfl⟩)))))))))))))))))
     ·
      refine ov (EV.ex rfl rfl) rfl (xs [] [0, 1, 2] rfl rfl rfl ?_)
      refine one2 6 8 rfl rfl rfl rfl ?_ ?_
      ·
       refine ov (EV.ex rfl rfl) rfl (xs [] [0, 1, 2] rfl rfl rfl ?_)
       refine one2 8 10 rfl rfl rfl rfl ?_ ?_
       ·
        exact ov (EV.ex rfl rfl) rfl (xs [] [0, 1, 2] rfl rfl rfl (one1 10 rfl rfl (op_st (cs' := [.slice At14_0 t14_0.length ct14_0, .int .i64 t14_1, .int .i64 t14_2]) 1 rfl rfl rfl rfl rfl rfl (xn rfl (xd (pr [0, 2, 4, 6] [0, 1, 2] [0, 2, 4] rfl rfl rfl rfl (ge (rg (sv (EV.mv rfl) rfl (sv (EV.sub rfl rfl) rfl (sv (EV.as rfl) rfl (re (wk [0, 2, 4, 6] [2, 0, 1] [⟨0, 2, 1, true⟩, ⟨2, 1, 2, true⟩, ⟨1, 0, 0, false⟩] (ih0 _ (by omega) _ ⟨wrap64 (x4_6 - 1), t13_1, t13_2, x4_2_0, Ax4_2_0, cx4_2_0, x4_2_1, x4_2_2, t14_0, At14_0, ct14_0, t14_1, t14_2, H, rfl⟩))))))))))))))
       ·
        exact op_st (cs' := [.slice At14_0 t14_0.length ct14_0, .int .i64 t14_1, .int .i64 t14_2]) 1 rfl rfl rfl rfl rfl rfl (xn rfl (one1 8 rfl rfl (ov (EV.ex rfl rfl) rfl (xs [] [0, 1, 2] rfl rfl rfl (xd (pr [0, 2, 4, 6] [0, 1, 2] [0, 2, 4] rfl rfl rfl rfl (ge (rg (sv (EV.mv rfl) rfl (sv (EV.sub rfl rfl) rfl (sv (EV.as rfl) rfl (re (wk [0, 2, 4, 6] [2, 0, 1] [⟨0, 2, 1, true⟩, ⟨2, 1, 2, true⟩, ⟨1, 0, 0, false⟩] (ih0 _ (by omega) _ ⟨wrap64 (x4_6 - 1), t13_1, t13_2, x4_2_0, Ax4_2_0, cx4_2_0, x4_2_1, x4_2_2, t14_0, At14_0, ct14_0, t14_1, t14_2, H, rfl⟩))))))))))))))
      ·
       exact ov (EV.ex rfl rfl) rfl (xs [] [0, 1, 2] rfl rfl rfl (one1 6 rfl rfl (ov (EV.ex rfl rfl) rfl (xs [] [0, 1, 2] rfl rfl rfl (one1 10 rfl rfl (op_st (cs' := [.slice At14_0 t14_0.length ct14_0, .int .i64 t14_1, .int .i64 t14_2]) 1 rfl rfl rfl rfl rfl rfl (xn rfl (xd (pr [0, 2, 4, 6] [0, 1, 2] [0, 2, 4] rfl rfl rfl rfl (ge (rg (sv (EV.mv rfl) rfl (sv (EV.sub rfl rfl) rfl (sv (EV.as rfl) rfl (re (wk [0, 2, 4, 6] [2, 0, 1] [⟨0, 2, 1, true⟩, ⟨2, 1, 2, true⟩, ⟨1, 0, 0, false⟩] (ih0 _ (by omega) _ ⟨wrap64 (x4_6 - 1), t13_1, t13_2, x4_2_0, Ax4_2_0, cx4_2_0, x4_2_1, x4_2_2, t14_0, At14_0, ct14_0, t14_1, t14_2, H, rfl⟩)))))))))))))))))
    ·
     refine ov (EV.ex rfl rfl) rfl (xs [] [0, 1, 2] rfl rfl rfl ?_)
     refine one3 6 7 9 rfl rfl rfl rfl rfl rfl ?_ ?_ ?_
     ·
      refine ov (EV.ex rfl rfl) rfl (xs [] [0, 1, 2] rfl rfl rfl ?_)
      refine one3 7 9 10 rfl rfl rfl rfl rfl rfl ?_ ?_ ?_
      ·
       refine ov (EV.ex rfl rfl) rfl (xs [] [0, 1, 2] rfl rfl rfl ?_)
       refine one2 9 10 rfl rfl rfl rfl ?_ ?_
       ·
        exact ov (EV.ex rfl rfl) rfl (xs [] [0, 1, 2] rfl rfl rfl (one1 10 rfl rfl (op_st (cs' := [.slice At14_0 t14_0.length ct14_0, .int .i64 t14_1, .int .i64 t14_2]) 1 rfl rfl rfl rfl rfl rfl (xn rfl (xd (pr [0, 2, 4, 6] [0, 1, 2] [0, 2, 4] rfl rfl rfl rfl (ge (rg (sv (EV.mv rfl) rfl (sv (EV.sub rfl rfl) rfl (sv (EV.as rfl) rfl (re (wk [0, 2, 4, 6] [2, 0, 1] [⟨0, 2, 1, true⟩, ⟨2, 1, 2, true⟩, ⟨1, 0, 0, false⟩] (ih0 _ (by omega) _ ⟨wrap64 (x4_6 - 1), t13_1, t13_2, x4_2_0, Ax4_2_0, cx4_2_0, x4_2_1, x4_2_2, t14_0, At14_0, ct14_0, t14_1, t14_2, H, rfl⟩))))))))))))))
       ·
        exact op_st (cs' := [.slice At14_0 t14_0.length ct14_0, .int .i64 t14_1, .int .i64 t14_2]) 1 rfl rfl rfl rfl rfl rfl (xn rfl (one1 9 rfl rfl (ov (EV.ex rfl rfl) rfl (xs [] [0, 1, 2] rfl rfl rfl (xd (pr [0, 2, 4, 6] [0, 1, 2] [0, 2, 4] rfl rfl rfl rfl (ge (rg (sv (EV.mv rfl) rfl (sv (EV.sub rfl rfl) rfl (sv (EV.as rfl) rfl (re (wk [0, 2, 4, 6] [2, 0, 1] [⟨0, 2, 1, true⟩, ⟨2, 1, 2, true⟩, ⟨1, 0, 0, false⟩] (ih0 _ (by omega) _ ⟨wrap64 (x4_6 - 1), t13_1, t13_2, x4_2_0, Ax4_2_0, cx4_2_0, x4_2_1, x4_2_2, t14_0, At14_0, ct14_0, t14_1, t14_2, H, rfl⟩))))))))))))))
      ·
       refine ov (EV.ex rfl rfl) rfl (xs [] [0, 1, 2] rfl rfl rfl ?_)
       refine one2 7 10 rfl rfl rfl rfl ?_ ?_
       ·
        exact ov (EV.ex rfl rfl) rfl (xs [] [0, 1, 2] rfl rfl rfl (one1 10 rfl rfl (op_st (cs' := [.slice At14_0 t14_0.length ct14_0, .int .i64 t14_1, .int .i64 t14_2]) 1 rfl rfl rfl rfl rfl rfl (xn rfl (xd (pr [0, 2, 4, 6] [0, 1, 2] [0, 2, 4] rfl rfl rfl rfl (ge (rg (sv (EV.mv rfl) rfl (sv (EV.sub rfl rfl) rfl (sv (EV.as rfl) rfl (re (wk [0, 2, 4, 6] [2, 0, 1] [⟨0, 2, 1, true⟩, ⟨2, 1, 2, true⟩, ⟨1, 0, 0, false⟩] (ih0 _ (by omega) _ ⟨wrap64 (x4_6 - 1), t13_1, t13_2, x4_2_0, Ax4_2_0, cx4_2_0, x4_2_1, x4_2_2, t14_0, At14_0, ct14_0, t14_1, t14_2, H, rfl⟩))))))))))))))
       ·
        exact op_st (cs' := [.slice At14_0 t14_0.length ct14_0, .int .i64 t14_1, .int .i64 t14_2]) 1 rfl rfl rfl rfl rfl rfl (xn rfl (one1 7 rfl rfl (ov (EV.ex rfl rfl) rfl (xs [] [0, 1, 2] rfl rfl rfl (xd (pr [0, 2, 4, 6] [0, 1, 2] [0, 2, 4] rfl rfl rfl rfl (ge (rg (sv (EV.mv rfl) rfl (sv (EV.sub rfl rfl) rfl (sv (EV.as rfl) rfl (re (wk [0, 2, 4, 6] [2, 0, 1] [⟨0, 2, 1, true⟩, ⟨2, 1, 2, true⟩, ⟨1, 0, 0, false⟩] (ih0 _ (by omega) _ ⟨wrap64 (x4_6 - 1), t13_1, t13_2, x4_2_0, Ax4_2_0, cx4_2_0, x4_2_1, x4_2_2, t14_0, At14_0, ct14_0, t14_1, t14_2, H, rfl⟩))))))))))))))
      ·
       refine op_st (cs' := [.slice At14_0 t14_0.length ct14_0, .int .i64 t14_1, .int .i64 t14_2]) 1 rfl rfl rfl rfl rfl rfl (xn rfl ?_)
       refine one2 7 9 rfl rfl rfl rfl ?_ ?_
       ·
        exact ov (EV.ex rfl rfl) rfl (xs [] [0, 1, 2] rfl rfl rfl (one1 9 rfl rfl (ov (EV.ex rfl rfl) rfl (xs [] [0, 1, 2] rfl rfl rfl (xd (pr [0, 2, 4, 6] [0, 1, 2] [0, 2, 4] rfl rfl rfl rfl (ge (rg (sv (EV.mv rfl) rfl (sv (EV.sub rfl rfl) rfl (sv (EV.as rfl) rfl (re (wk [0, 2, 4, 6] [2, 0, 1] [⟨0, 2, 1, true⟩, ⟨2, 1, 2, true⟩, ⟨1, 0, 0, false⟩] (ih0 _ (by omega) _ ⟨wrap64 (x4_6 - 1), t13_1, t13_2, x4_2_0, Ax4_2_0, cx4_2_0, x4_2_1, x4_2_2, t14_0, At14_0, ct14_0, t14_1, t14_2, H, rfl⟩))))))))))))))
       ·
        exact ov (EV.ex rfl rfl) rfl (xs [] [0, 1, 2] rfl rfl rfl (one1 7 rfl rfl (ov (EV.ex rfl rfl) rfl (xs [] [0, 1, 2] rfl rfl rfl (xd (pr [0, 2, 4, 6] [0, 1, 2] [0, 2, 4] rfl rfl rfl rfl (ge (rg (sv (EV.mv rfl) rfl (sv (EV.sub rfl rfl) rfl (sv (EV.as rfl) rfl (re (wk [0, 2, 4, 6] [2, 0, 1] [⟨0, 2, 1, true⟩, ⟨2, 1, 2, true⟩, ⟨1, 0, 0, false⟩] (ih0 _ (by omega) _ ⟨wrap64 (x4_6 - 1), t13_1, t13_2, x4_2_0, Ax4_2_0, cx4_2_0, x4_2_1, x4_2_2, t14_0, At14_0, ct14_0, t14_1, t14_2, H, rfl⟩))))))))))))))
     ·
      refine ov (EV.ex rfl rfl) rfl (xs [] [0, 1, 2] rfl rfl rfl ?_)
      refine one2 6 9 rfl rfl rfl rfl ?_ ?_
      ·
       refine ov (EV.ex rfl rfl) rfl (xs [] [0, 1, 2] rfl rfl rfl ?_)
       refine one2 9 10 rfl rfl rfl rfl ?_ ?_
       ·
        exact ov (EV.ex rfl rfl) rfl (xs [] [0, 1, 2] rfl rfl rfl (one1 10 rfl rfl (op_st (cs' := [.slice At14_0 t14_0.length ct14_0, .int .i64 t14_1, .int .i64 t14_2]) 1 rfl rfl rfl rfl rfl rfl (xn rfl (xd (pr [0, 2, 4, 6] [0, 1, 2] [0, 2, 4] rfl rfl rfl rfl (ge (rg (sv (EV.mv rfl) rfl (sv (EV.sub rfl rfl) rfl (sv (EV.as rfl) rfl (re (wk [0, 2, 4, 6] [2, 0, 1] [⟨0, 2, 1, true⟩, ⟨2, 1, 2, true⟩, ⟨1, 0, 0, false⟩] (ih0 _ (by omega) _ ⟨wrap64 (x4_6 - 1), t13_1, t13_2, x4_2_0, Ax4_2_0, cx4_2_0, x4_2_1, x4_2_2, t14_0, At14_0, ct14_0, t14_1, t14_2, H, rfl⟩))))))))))))))
       ·
        exact op_st (cs' := [.slice At14_0 t14_0.length ct14_0, .int .i64 t14_1, .int .i64 t14_2]) 1 rfl rfl rfl rfl rfl rfl (xn rfl (one1 9 rfl rfl (ov (EV.ex rfl rfl) rfl (xs [] [0, 1, 2] rfl rfl rfl (xd (pr [0, 2, 4, 6] [0, 1, 2] [0, 2, 4] rfl rfl rfl rfl (ge (rg (sv (EV.mv rfl) rfl (sv (EV.sub rfl rfl) rfl (sv (EV.as rfl) rfl (re (wk [0, 2, 4, 6] [2, 0, 1] [⟨0, 2, 1, true⟩, ⟨2, 1, 2, true⟩, ⟨1, 0, 0, false⟩] (ih0 _ (by omega) _ ⟨wrap64 (x4_6 - 1), t13_1, t13_2, x4_2_0, Ax4_2_0, cx4_2_0, x4_2_1, x4_2_2, t14_0, At14_0, ct14_0, t14_1, t14_2, H, rfl⟩))))))))))))))
      ·
       exact ov (EV.ex rfl rfl) rfl (xs [] [0, 1, 2] rfl rfl rfl (one1 6 rfl rfl (ov (EV.ex rfl rfl) rfl (xs [] [0, 1, 2] rfl rfl rfl (one1 10 rfl rfl (op_st (cs' := [.slice At14_0 t14_0.length ct14_0, .int .i64 t14_1, .int .i64 t14_2]) 1 rfl rfl rfl rfl rfl rfl (xn rfl (xd (pr [0, 2, 4, 6] [0, 1, 2] [0, 2, 4] rfl rfl rfl rfl (ge (rg (sv (EV.mv rfl) rfl (sv (EV.sub rfl rfl) rfl (sv (EV.as rfl) rfl (re (wk [0, 2, 4, 6] [2, 0, 1] [⟨0, 2, 1, true⟩, ⟨2, 1, 2, true⟩, ⟨1, 0, 0, false⟩] (ih0 _ (by omega) _ ⟨wrap64 (x4_6 - 1), t13_1, t13_2, x4_2_0, Ax4_2_0, cx4_2_0, x4_2_1, x4_2_2, t14_0, At14_0, ct14_0, t14_1, t14_2, H, rfl⟩)))))))))))))))))
     ·
      refine ov (EV.ex rfl rfl) rfl (xs [] [0, 1, 2] rfl rfl rfl ?_)
      refine one2 6 7 rfl rfl rfl rfl ?_ ?_
      ·
       refine ov (EV.ex rfl rfl) rfl (xs [] [0, 1, 2] rfl rfl rfl ?_)
       refine one2 7 10 rfl rfl rfl rfl ?_ ?_
       ·
        exact ov (EV.ex rfl rfl) rfl (xs [] [0, 1, 2] rfl rfl rfl (one1 10 rfl rfl (op_st (cs' := [.slice At14_0 t14_0.length ct14_0, .int .i64 t14_1, .int .i64 t14_2]) 1 rfl rfl rfl rfl rfl rfl (xn rfl (xd (pr [0, 2, 4, 6] [0, 1, 2] [0, 2, 4] rfl rfl rfl rfl (ge (rg (sv (EV.mv rfl) rfl (sv (EV.sub rfl rfl) rfl (sv (EV.as rfl) rfl (re (wk [0, 2, 4, 6] [2, 0, 1] [⟨0, 2, 1, true⟩, ⟨2, 1, 2, true⟩, ⟨1, 0, 0, false⟩] (ih0 _ (by omega) _ ⟨wrap64 (x4_6 - 1), t13_1, t13_2, x4_2_0, Ax4_2_0, cx4_2_0, x4_2_1, x4_2_2, t14_0, At14_0, ct14_0, t14_1, t14_2, H, rfl⟩))))))))))))))
       ·
        exact op_st (cs' := [.slice At14_0 t14_0.length ct14_0, .int .i64 t14_1, .int .i64 t14_2]) 1 rfl rfl rfl rfl rfl rfl (xn rfl (one1 7 rfl rfl (ov (EV.ex rfl rfl) rfl (xs [] [0, 1, 2] rfl rfl rfl (xd (pr [0, 2, 4, 6] [0, 1, 2] [0, 2, 4] rfl rfl rfl rfl (ge (rg (sv (EV.mv rfl) rfl (sv (EV.sub rfl rfl) rfl (sv (EV.as rfl) rfl (re (wk [0, 2, 4, 6] [2, 0, 1] [⟨0, 2, 1, true⟩, ⟨2, 1, 2, true⟩, ⟨1, 0, 0, false⟩] (ih0 _ (by omega) _ ⟨wrap64 (x4_6 - 1), t13_1, t13_2, x4_2_0, Ax4_2_0, cx4_2_0, x4_2_1, x4_2_2, t14_0, At14_0, ct14_0, t14_1, t14_2, H, rfl⟩))))))))))))))
      ·
       exact ov (EV.ex rfl rfl) rfl (xs [] [0, 1, 2] rfl rfl rfl (one1 6 rfl rfl (ov (EV.ex rfl rfl) rfl (xs [] [0, 1, 2] rfl rfl rfl (one1 10 rfl rfl (op_st (cs' := [.slice At14_0 t14_0.length ct14_0, .int .i64 t14_1, .int .i64 t14_2]) 1 rfl rfl rfl rfl rfl rfl (xn rfl (xd (pr [0, 2, 4, 6] [0, 1, 2] [0, 2, 4] rfl rfl rfl rfl (ge (rg (sv (EV.mv rfl) rfl (sv (EV.sub rfl rfl) rfl (sv (EV.as rfl) rfl (re (wk [0, 2, 4, 6] [2, 0, 1] [⟨0, 2, 1, true⟩, ⟨2, 1, 2, true⟩, ⟨1, 0, 0, false⟩] (ih0 _ (by omega) _ ⟨wrap64 (x4_6 - 1), t13_1, t13_2, x4_2_0, Ax4_2_0, cx4_2_0, x4_2_1, x4_2_2, t14_0, At14_0, ct14_0, t14_1, t14_2, H, rfl⟩)))))))))))))))))
    ·
     refine ov (EV.ex rfl rfl) rfl (xs [] [0, 1, 2] rfl rfl rfl ?_)
     refine one3 6 7 8 rfl rfl rfl rfl rfl rfl ?_ ?_ ?_
     ·
      refine ov (EV.ex rfl rfl) rfl (xs [] [0, 1, 2] rfl rfl rfl ?_)
      refine one3 7 8 10 rfl rfl rfl rfl rfl rfl ?_ ?_ ?_
      ·
       refine ov (EV.ex rfl rfl) rfl (xs [] [0, 1, 2] rfl rfl rfl ?_)
       refine one2 8 10 rfl rfl rfl rfl ?_ ?_
       ·
        exact ov (EV.ex rfl rfl) rfl (xs [] [0, 1, 2] rfl rfl rfl (one1 10 rfl rfl (op_st (cs' := [.slice At14_0 t14_0.length ct14_0, .int .i64 t14_1, .int .i64 t14_2]) 1 rfl rfl rfl rfl rfl rfl (xn rfl (xd (pr [0, 2, 4, 6] [0, 1, 2] [0, 2, 4] rfl rfl rfl rfl (ge (rg (sv (EV.mv rfl) rfl (sv (EV.sub rfl rfl) rfl (sv (EV.as rfl) rfl (re (wk [0, 2, 4, 6] [2, 0, 1] [⟨0, 2, 1, true⟩, ⟨2, 1, 2, true⟩, ⟨1, 0, 0, false⟩] (ih0 _ (by omega) _ ⟨wrap64 (x4_6 - 1), t13_1, t13_2, x4_2_0, Ax4_2_0, cx4_2_0, x4_2_1, x4_2_2, t14_0, At14_0, ct14_0, t14_1, t14_2, H, rfl⟩))))))))))))))
       ·
        exact op_st (cs' := [.slice At14_0 t14_0.length ct14_0, .int .i64 t14_1, .int .i64 t14_2]) 1 rfl rfl rfl rfl rfl rfl (xn rfl (one1 8 rfl rfl (ov (EV.ex rfl rfl) rfl (xs [] [0, 1, 2] rfl rfl rfl (xd (pr [0, 2, 4, 6] [0, 1, 2] [0, 2, 4] rfl rfl rfl rfl (ge (rg (sv (EV.mv rfl) rfl (sv (EV.sub rfl rfl) rfl (sv (EV.as rfl) rfl (re (wk [0, 2, 4, 6] [2, 0, 1] [⟨0, 2, 1, true⟩, ⟨2, 1, 2, true⟩, ⟨1, 0, 0, false⟩] (ih0 _ (by omega) _ ⟨wrap64 (x4_6 - 1), t13_1, t13_2, x4_2_0, Ax4_2_0, cx4_2_0, x4_2_1, x4_2_2, t14_0, At14_0, ct14_0, t14_1, t14_2, H, rfl⟩))))))))))))))
      ·
       refine ov (EV.ex rfl rfl) rfl (xs [] [0, 1, 2] rfl rfl rfl ?_)
       refine one2 7 10 rfl rfl rfl rfl ?_ ?_
       ·
        exact ov (EV.ex rfl rfl) rfl (xs [] [0, 1, 2] rfl rfl rfl (one1 10 rfl rfl (op_st (cs' := [.slice At14_0 t14_0.length ct14_0, .int .i64 t14_1, .int .i64 t14_2]) 1 rfl rfl rfl rfl rfl rfl (xn rfl (xd (pr [0, 2, 4, 6] [0, 1, 2] [0, 2, 4] rfl rfl rfl rfl (ge (rg (sv (EV.mv rfl) rfl (sv (EV.sub rfl rfl) rfl (sv (EV.as rfl) rfl (re (wk [0, 2, 4, 6] [2, 0, 1] [⟨0, 2, 1, true⟩, ⟨2, 1, 2, true⟩, ⟨1, 0, 0, false⟩] (ih0 _ (by omega) _ ⟨wrap64 (x4_6 - 1), t13_1, t13_2, x4_2_0, Ax4_2_0, cx4_2_0, x4_2_1, x4_2_2, t14_0, At14_0, ct14_0, t14_1, t14_2, H, rfl⟩))))))))))))))
       ·
        exact op_st (cs' := [.slice At14_0 t14_0.length ct14_0, .int .i64 t14_1, .int .i64 t14_2]) 1 rfl rfl rfl rfl rfl rfl (xn rfl (one1 7 rfl rfl (ov (EV.ex rfl rfl) rfl (xs [] [0, 1, 2] rfl rfl rfl (xd (pr [0, 2, 4, 6] [0, 1, 2] [0, 2, 4] rfl rfl rfl rfl (ge (rg (sv (EV.mv rfl) rfl (sv (EV.sub rfl rfl) rfl (sv (EV.as rfl) rfl (re (wk [0, 2, 4, 6] [2, 0, 1] [⟨0, 2, 1, true⟩, ⟨2, 1, 2, true⟩, ⟨1, 0, 0, false⟩] (ih0 _ (by omega) _ ⟨wrap64 (x4_6 - 1), t13_1, t13_2, x4_2_0, Ax4_2_0, cx4_2_0, x4_2_1, x4_2_2, t14_0, At14_0, ct14_0, t14_1, t14_2, H, rfl⟩))))))))))))))
      ·
       refine op_st (cs' := [.slice At14_0 t14_0.length ct14_0, .int .i64 t14_1, .int .i64 t14_2]) 1 rfl rfl rfl rfl rfl rfl (xn rfl ?_)
       refine one2 7 8 rfl rfl rfl rfl ?_ ?_
       ·
        exact ov (EV.ex rfl rfl) rfl (xs [] [0, 1, 2] rfl rfl rfl (one1 8 rfl rfl (ov (EV.ex rfl rfl) rfl (xs [] [0, 1, 2] rfl rfl rfl (xd (pr [0, 2, 4, 6] [0, 1, 2] [0, 2, 4] rfl rfl rfl rfl (ge (rg (sv (EV.mv rfl) rfl (sv (EV.sub rfl rfl) rfl (sv (EV.as rfl) rfl (re (wk [0, 2, 4, 6] [2, 0, 1] [⟨0, 2, 1, true⟩, ⟨2, 1, 2, true⟩, ⟨1, 0, 0, false⟩] (ih0 _ (by omega) _ ⟨wrap64 (x4_6 - 1), t13_1, t13_2, x4_2_0, Ax4_2_0, cx4_2_0, x4_2_1, x4_2_2, t14_0, At14_0, ct14_0, t14_1, t14_2, H, rfl⟩))))))))))))))
       ·
        exact ov (EV.ex rfl rfl) rfl (xs [] [0, 1, 2] rfl rfl rfl (one1 7 rfl rfl (ov (EV.ex rfl rfl) rfl (xs [] [0, 1, 2] rfl rfl rfl (xd (pr [0, 2, 4, 6] [0, 1, 2] [0, 2, 4] rfl rfl rfl rfl (ge (rg (sv (EV.mv rfl) rfl (sv (EV.sub rfl rfl) rfl (sv (EV.as rfl) rfl (re (wk [0, 2, 4, 6] [2, 0, 1] [⟨0, 2, 1, true⟩, ⟨2, 1, 2, true⟩, ⟨1, 0, 0, false⟩] (ih0 _ (by omega) _ ⟨wrap64 (x4_6 - 1), t13_1, t13_2, x4_2_0, Ax4_2_0, cx4_2_0, x4_2_1, x4_2_2, t14_0, At14_0, ct14_0, t14_1, t14_2, H, rfl⟩))))))))))))))
     ·
      refine ov (EV.ex rfl rfl) rfl (xs [] [0, 1, 2] rfl rfl rfl ?_)
      refine one2 6 8 rfl rfl rfl rfl ?_ ?_
      ·
       refine ov (EV.ex rfl rfl) rfl (xs [] [0, 1, 2] rfl rfl rfl ?_)
       refine one2 8 10 rfl rfl rfl rfl ?_ ?_
       ·
        exact ov (EV.ex rfl rfl) rfl (xs [] [0, 1, 2] rfl rfl rfl (one1 10 rfl rfl (op_st (cs' := [.slice At14_0 t14_0.length ct14_0, .int .i64 t14_1, .int .i64 t14_2]) 1 rfl rfl rfl rfl rfl rfl (xn rfl (xd (pr [0, 2, 4, 6] [0, 1, 2] [0, 2, 4] rfl rfl rfl rfl (ge (rg (sv (EV.mv rfl) rfl (sv (EV.sub rfl rfl) rfl (sv (EV.as rfl) rfl (re (wk [0, 2, 4, 6] [2, 0, 1] [⟨0, 2, 1, true⟩, ⟨2, 1, 2, true⟩, ⟨1, 0, 0, false⟩] (ih0 _ (by omega) _ ⟨wrap64 (x4_6 - 1), t13_1, t13_2, x4_2_0, Ax4_2_0, cx4_2_0, x4_2_1, x4_2_2, t14_0, At14_0, ct14_0, t14_1, t14_2, H, rfl⟩))))))))))))))
       ·
        exact op_st (cs' := [.slice At14_0 t14_0.length ct14_0, .int .i64 t14_1, .int .i64 t14_2]) 1 rfl rfl rfl rfl rfl rfl (xn rfl (one1 8 rfl rfl (ov (EV.ex rfl rfl) rfl (xs [] [0, 1, 2] rfl rfl rfl (xd (pr [0, 2, 4, 6] [0, 1, 2] [0, 2, 4] rfl rfl rfl rfl (ge (rg (sv (EV.mv rfl) rfl (sv (EV.sub rfl rfl) rfl (sv (EV.as rfl) rfl (re (wk [0, 2, 4, 6] [2, 0, 1] [⟨0, 2, 1, true⟩, ⟨2, 1, 2, true⟩, ⟨1, 0, 0, false⟩] (ih0 _ (by omega) _ ⟨wrap64 (x4_6 - 1), t13_1, t13_2, x4_2_0, Ax4_2_0, cx4_2_0, x4_2_1, x4_2_2, t14_0, At14_0, ct14_0, t14_1, t14_2, H, rfl⟩))))))))))))))
      ·
       exact ov (EV.ex rfl rfl) rfl (xs [] [0, 1, 2] rfl rfl rfl (one1 6 rfl rfl (ov (EV.ex rfl rfl) rfl (xs [] [0, 1, 2] rfl rfl rfl (one1 10 rfl rfl (op_st (cs' := [.slice At14_0 t14_0.length ct14_0, .int .i64 t14_1, .int .i64 t14_2]) 1 rfl rfl rfl rfl rfl rfl (xn rfl (xd (pr [0, 2, 4, 6] [0, 1, 2] [0, 2, 4] rfl rfl rfl rfl (ge (rg (sv (EV.mv rfl) rfl (sv (EV.sub rfl rfl) rfl (sv (EV.as rfl) rfl (re (wk [0, 2, 4, 6] [2, 0, 1] [⟨0, 2, 1, true⟩, ⟨2, 1, 2, true⟩, ⟨1, 0, 0, false⟩] (ih0 _ (by omega) _ ⟨wrap64 (x4_6 - 1), t13_1, t13_2, x4_2_0, Ax4_2_0, cx4_2_0, x4_2_1, x4_2_2, t14_0, At14_0, ct14_0, t14_1, t14_2, H, rfl⟩)))))))))))))))))
     ·
      refine ov (EV.ex rfl rfl) rfl (xs [] [0, 1, 2] rfl rfl rfl ?_)
      refine one2 6 7 rfl rfl rfl rfl ?_ ?_
      ·
       refine ov (EV.ex rfl rfl) rfl (xs [] [0, 1, 2] rfl rfl rfl ?_)
       refine one2 7 10 rfl rfl rfl rfl ?_ ?_
       ·
        exact ov (EV.ex rfl rfl) rfl (xs [] [0, 1, 2] rfl rfl rfl (one1 10 rfl rfl (op_st (cs' := [.slice At14_0 t14_0.length ct14_0, .int .i64 t14_1, .int .i64 t14_2]) 1 rfl rfl rfl rfl rfl rfl (xn rfl (xd (pr [0, 2, 4, 6] [0, 1, 2] [0, 2, 4] rfl rfl rfl rfl (ge (rg (sv (EV.mv rfl) rfl (sv (EV.sub rfl rfl) rfl (sv (EV.as rfl) rfl (re (wk [0, 2, 4, 6] [2, 0, 1] [⟨0, 2, 1, true⟩, ⟨2, 1, 2, true⟩, ⟨1, 0, 0, false⟩] (ih0 _ (by omega) _ ⟨wrap64 (x4_6 - 1), t13_1, t13_2, x4_2_0, Ax4_2_0, cx4_2_0, x4_2_1, x4_2_2, t14_0, At14_0, ct14_0, t14_1, t14_2, H, rfl⟩))))))))))))))
       ·
        exact op_st (cs' := [.slice At14_0 t14_0.length ct14_0, .int .i64 t14_1, .int .i64 t14_2]) 1 rfl rfl rfl rfl rfl rfl (xn rfl (one1 7 rfl rfl (ov (EV.ex rfl rfl) rfl (xs [] [0, 1, 2] rfl rfl rfl (xd (pr [0, 2, 4, 6] [0, 1, 2] [0, 2, 4] rfl rfl rfl rfl (ge (rg (sv (EV.mv rfl) rfl (sv (EV.sub rfl rfl) rfl (sv (EV.as rfl) rfl (re (wk [0, 2, 4, 6] [2, 0, 1] [⟨0, 2, 1, true⟩, ⟨2, 1, 2, true⟩, ⟨1, 0, 0, false⟩] (ih0 _ (by omega) _ ⟨wrap64 (x4_6 - 1), t13_1, t13_2, x4_2_0, Ax4_2_0, cx4_2_0, x4_2_1, x4_2_2, t14_0, At14_0, ct14_0, t14_1, t14_2, H, rfl⟩))))))))))))))
      ·
       exact ov (EV.ex rfl rfl) rfl (xs [] [0, 1, 2] rfl rfl rfl (one1 6 rfl rfl (ov (EV.ex rfl rfl) rfl (xs [] [0, 1, 2] rfl rfl rfl (one1 10 rfl rfl (op_st (cs' := [.slice At14_0 t14_0.length ct14_0, .int .i64 t14_1, .int .i64 t14_2]) 1 rfl rfl rfl rfl rfl rfl (xn rfl (xd (pr [0, 2, 4, 6] [0, 1, 2] [0, 2, 4] rfl rfl rfl rfl (ge (rg (sv (EV.mv rfl) rfl (sv (EV.sub rfl rfl) rfl (sv (EV.as rfl) rfl (re (wk [0, 2, 4, 6] [2, 0, 1] [⟨0, 2, 1, true⟩, ⟨2, 1, 2, true⟩, ⟨1, 0, 0, false⟩] (ih0 _ (by omega) _ ⟨wrap64 (x4_6 - 1), t13_1, t13_2, x4_2_0, Ax4_2_0, cx4_2_0, x4_2_1, x4_2_2, t14_0, At14_0, ct14_0, t14_1, t14_2, H, rfl⟩)))))))))))))))))
 ·
  refine gf rfl (dF c6) (gx rfl (gs (gs (rg (sv (EV.mv rfl) rfl ?_)))))
  revert H; refine bdI ?_; rintro ⟨t15_0, t15_1, t15_2⟩ A15 H
  refine so rfl (op_callM (spec_l1Below.ok b1000 l0_0 Al0_0 cl0_0 x4_1000_1 x4_1000_2 16 _ _ _ A15) [⟨2, 0, 0, false⟩] [0] [1, 2] 3 rfl rfl rfl rfl rfl rfl rfl rfl ?_)
  rintro _ _ _ ⟨rfl, rfl, rfl⟩
  refine nmE (en := [.sl 2 k27 Ax4_2_0 cx4_2_0 x4_2_0 1 true, .sl 1 k27 Ax4_4_0 cx4_4_0 x4_4_0 2 true, .sl 0 (.int .u8) Al0_0 cl0_0 l0_0 0 false]) (by kernel_rfl) (re (gb (gs (rg (sv (EV.eql rfl rfl) rfl (sv (EV.as rfl) rfl (re ?_)))))))
  revert H; refine ifsI ?_ ?_ <;> intro c16 H
  ·
   refine gt rfl (dT c16) ?_
   revert H; refine ggI ?_; intro g17 H
   refine dr [0, 1] [0, 2] [6, 7] 8 rfl rfl rfl rfl (xv 0 [0, 1] [0, 2] rfl (EV.fa 0 rfl) rfl rfl rfl rfl (xv 1 [0, 1] [0, 2] rfl (EV.ld 1 none rfl rfl rfl) rfl rfl rfl rfl (xv 2 [0, 1] [0, 2] rfl (EV.mv rfl) rfl rfl rfl rfl (one1 3 rfl rfl ?_))))
   revert H; refine bdI ?_; rintro ⟨t18_0, t18_1, t18_2, t18_3, t18_4, t18_5, t18_6⟩ A18 H
   refine op_callM (spec_l16Any.ok n0 b1000 l0_0 Al0_0 cl0_0 t15_1 t15_2 3 _ _ _ _ _ _ _ A18) [⟨2, 0, 0, false⟩] [2] [0, 1] 3 rfl rfl rfl rfl rfl rfl rfl rfl ?_
   rintro _ _ _ ⟨At18_1, ct18_1, At18_2, ct18_2, At18_3, ct18_3, rfl, rfl, rfl⟩
   refine nmE (en := [.sl 2 k27 Ax4_2_0 cx4_2_0 x4_2_0 1 true, .sl 1 k27 Ax4_4_0 cx4_4_0 x4_4_0 2 true, .sl 0 (.int .u8) Al0_0 cl0_0 l0_0 0 false, .sl 2 k99 At18_1 ct18_1 t18_1 4 true, .sl 2 k99 At18_2 ct18_2 t18_2 5 true, .sl 2 .bool At18_3 ct18_3 t18_3 6 true]) (by kernel_rfl) (xs [0, 1] [0, 2] rfl rfl rfl (one1 4 rfl rfl (op_lit (s := 5) (by_ := 88) k27 ([(⟨t18_0, t18_1, t18_2, t18_3, t18_4⟩ : S27)] : List S27) [[(At18_1, ct18_1), (At18_2, ct18_2), (At18_3, ct18_3)]] [3, 4, 5] 7 [.tmp 42] rfl rfl rfl rfl rfl rfl rfl rfl rfl rfl rfl rfl rfl dq rfl fun A43_19 c43_19 => (nmE (en := [.sl 2 k27 Ax4_2_0 cx4_2_0 x4_2_0 1 true, .sl 1 k27 Ax4_4_0 cx4_4_0 x4_4_0 2 true, .sl 0 (.int .u8) Al0_0 cl0_0 l0_0 0 false, .sl 2 k99 At18_1 ct18_1 t18_1 7 true, .sl 2 k99 At18_2 ct18_2 t18_2 7 true, .sl 2 .bool At18_3 ct18_3 t18_3 7 true, .sl 2 k27 A43_19 c43_19 ([(⟨t18_0, t18_1, t18_2, t18_3, t18_4⟩ : S27)] : List S27) 7 true]) (by kernel_rfl) (xs [0, 1] [0, 2] rfl rfl rfl (one1 5 rfl rfl (op_app (k := k27) (s := 5) (by_ := 88) 1 6 rfl rfl rfl rfl (ap1 g17 dq) (ap1n g17 dq) (.inr ⟨dq, dq, rfl, dq⟩) true (fun _ => .inr ⟨rfl, rfl, dq⟩) rfl rfl fun A44_20 c44_20 => (nmE (en := [.sl 2 k27 Ax4_2_0 cx4_2_0 x4_2_0 1 true, .sl 0 (.int .u8) Al0_0 cl0_0 l0_0 0 false, .sl 2 k99 At18_1 ct18_1 t18_1 2 true, .sl 2 k99 At18_2 ct18_2 t18_2 2 true, .sl 2 .bool At18_3 ct18_3 t18_3 2 true, .sl 2 k27 A43_19 c43_19 ([(⟨t18_0, t18_1, t18_2, t18_3, t18_4⟩ : S27)] : List S27) 2 true, .sl 1 k27 A44_20 c44_20 (x4_4_0 ++ ([(⟨t18_0, t18_1, t18_2, t18_3, t18_4⟩ : S27)] : List S27)) 2 true]) (by kernel_rfl) (xs [0, 1] [0, 1] rfl rfl rfl (one1 6 rfl rfl (ov (EV.fa 0 rfl) rfl (xn rfl (one1 7 rfl rfl (op_st (cs' := [.slice A44_20 (x4_4_0 ++ ([(⟨t18_0, t18_1, t18_2, t18_3, t18_4⟩ : S27)] : List S27)).length c44_20, .int .i64 x4_4_1, .int .i64 x4_4_2]) 1 rfl rfl rfl rfl rfl rfl (xn rfl (xd (pr [2, 4] [0, 1, 2] [0, 1, 6] rfl rfl rfl rfl (ge (gs (rg (sv (EV.ld (v := .agg #[.slice A44_20 (x4_4_0 ++ ([(⟨t18_0, t18_1, t18_2, t18_3, t18_4⟩ : S27)] : List S27)).length c44_20, .int .i64 x4_4_1, .int .i64 x4_4_2]) 1 (some 3) rfl rfl rfl) rfl (so rfl (op_st (cs' := [.slice A44_20 (x4_4_0 ++ ([(⟨t18_0, t18_1, t18_2, t18_3, t18_4⟩ : S27)] : List S27)).length c44_20, .int .i64 x4_4_1, .int .i64 x4_4_2]) 0 rfl rfl rfl rfl rfl rfl (re ?_))))))))))))))))))))))))
   cases H
   exact rt Try.func89 rfl (.cell 0 (some 3) rfl rfl rfl .nil) rfl [2] [⟨2, 1, 1, true⟩] rfl rfl rfl rfl rfl ⟨_, _, rfl, rfl, rfl⟩
  ·
   refine gf rfl (dF c16) (gs (rg (sv (EV.eql rfl rfl) rfl (sv (EV.as rfl) rfl (re (pr [0, 2, 4, 36, 46] [0, 1, 2] [0, 1, 2] rfl rfl rfl rfl ?_))))))
   revert H; refine ifsI ?_ ?_ <;> intro c21 H
   ·
    refine gt rfl (dT c21) (rg (sv (EV.mv rfl) rfl (so rfl (op_lit (s := 1) (by_ := 8) (.int .i64) ([(-1), 100001] : List Int) [[], []] [] 3 [.const (.int .i64 (-1)), .const (.int .i64 100001)] rfl rfl rfl rfl rfl rfl rfl rfl rfl rfl rfl rfl rfl dq rfl fun A49_22 c49_22 => ?_))))
    revert H; refine bdI ?_; rintro ⟨t23_0, t23_1, t23_2⟩ A23 H
    refine so rfl (op_callM (spec_l1PickInt.ok b1000 l0_0 Al0_0 cl0_0 t15_1 t15_2 ([(-1), 100001] : List Int) A49_22 c49_22 _ _ _ A23) [⟨2, 0, 0, false⟩, ⟨3, 0, 0, false⟩] [2] [0, 1] 4 rfl rfl rfl rfl rfl rfl rfl rfl ?_)
    rintro _ _ _ ⟨rfl, rfl, rfl⟩
    refine nmE (en := [.sl 2 k27 Ax4_2_0 cx4_2_0 x4_2_0 1 true, .sl 1 k27 Ax4_4_0 cx4_4_0 x4_4_0 2 true, .sl 0 (.int .u8) Al0_0 cl0_0 l0_0 0 false, .sl 2 (.int .i64) A49_22 c49_22 ([(-1), 100001] : List Int) 3 true]) (by kernel_rfl) (sv (EV.fa 1 rfl) rfl (so rfl (op_st (cs' := [.slice Ax4_4_0 x4_4_0.length cx4_4_0, .int .i64 t23_0, .int .i64 x4_4_2]) 1 rfl rfl rfl rfl rfl rfl (re (pr [2, 4] [0, 1, 2] [0, 1, 2] rfl rfl rfl rfl (ge (gs (rg (sv (EV.ld (v := .agg #[.slice Ax4_4_0 x4_4_0.length cx4_4_0, .int .i64 t23_0, .int .i64 x4_4_2]) 1 (some 3) rfl rfl rfl) rfl (so rfl (op_st (cs' := [.slice Ax4_4_0 x4_4_0.length cx4_4_0, .int .i64 t23_0, .int .i64 x4_4_2]) 0 rfl rfl rfl rfl rfl rfl (re ?_))))))))))))
    cases H
    exact rt Try.func89 rfl (.cell 0 (some 3) rfl rfl rfl .nil) rfl [2] [⟨1, 1, 1, true⟩] rfl rfl rfl rfl rfl ⟨_, _, rfl, rfl, rfl⟩
   ·
    refine gf rfl (dF c21) (gs (rg (sv (EV.eql rfl rfl) rfl (sv (EV.as rfl) rfl (re ?_)))))
    revert H; refine ifsI ?_ ?_ <;> intro c24 H
    ·
     refine gt rfl (dT c24) (rg (sv (EV.fa 2 rfl) rfl (so rfl (op_st (cs' := [.slice Ax4_4_0 x4_4_0.length cx4_4_0, .int .i64 x4_4_1, .int .i64 (-1)]) 1 rfl rfl rfl rfl rfl rfl (re (pr [2, 4] [0, 1, 2] [0, 1, 2] rfl rfl rfl rfl (ge (gs (rg (sv (EV.ld (v := .agg #[.slice Ax4_4_0 x4_4_0.length cx4_4_0, .int .i64 x4_4_1, .int .i64 (-1)]) 1 (some 3) rfl rfl rfl) rfl (so rfl (op_st (cs' := [.slice Ax4_4_0 x4_4_0.length cx4_4_0, .int .i64 x4_4_1, .int .i64 (-1)]) 0 rfl rfl rfl rfl rfl rfl (re ?_)))))))))))))
     cases H
     exact rt Try.func89 rfl (.cell 0 (some 3) rfl rfl rfl .nil) rfl [2] [⟨1, 1, 1, true⟩] rfl rfl rfl rfl rfl ⟨_, _, rfl, rfl, rfl⟩
    ·
     refine gf rfl (dF c24) (gk (ge (gs (rg (sv (EV.ld (v := .agg #[.slice Ax4_4_0 x4_4_0.length cx4_4_0, .int .i64 x4_4_1, .int .i64 x4_4_2]) 1 (some 3) rfl rfl rfl) rfl (so rfl (op_st (cs' := [.slice Ax4_4_0 x4_4_0.length cx4_4_0, .int .i64 x4_4_1, .int .i64 x4_4_2]) 0 rfl rfl rfl rfl rfl rfl (re (pr [2] [0, 2] [1, 2] rfl rfl rfl rfl ?_)))))))))
     cases H
     exact rt Try.func89 rfl (.cell 0 (some 3) rfl rfl rfl .nil) rfl [1] [⟨0, 1, 1, true⟩] rfl rfl rfl rfl rfl ⟨_, _, rfl, rfl, rfl⟩
def spec_l14List.l0 : Nat → (List Int) → Int → Int → Int → (List Int) → Option ((List Int) × Int × Int)
 | 0, _, _, _, _, _ => none
 | k + 1, x2_3, x2_4, x2_1000_1, x2_1000_2, l0_0 => if x2_4 > 0 then ((spec_l1PickInt.f l0_0 x2_1000_1 x2_1000_2 ([0, 0, 1, 4, 12, 40] : List Int)).bind fun bt5 => (if x2_3.length < 17592186044416 then (spec_l14List.l0 k (x2_3 ++ ([wrap64 (8 + bt5.1)] : List Int)) (wrap64 (x2_4 - 1)) bt5.2.1 bt5.2.2 l0_0) else none)) else ((spec_l1Once.f l0_0 x2_1000_1 x2_1000_2 14).bind fun bt9 => (if bt9.1 = true then ((spec_l1PickInt.f l0_0 bt9.2.1 bt9.2.2 ([7, 61] : List Int)).bind fun bt12 => (if 0 < (x2_3.length : Int) then (some (x2_3.set (0 : Int).toNat bt12.1, bt12.2.1, bt12.2.2)) else none)) else (some (x2_3, bt9.2.1, bt9.2.2))))
def spec_l14List.f (k : Nat) (l0_0 : List Int) (a0_1 : Int) (a0_2 : Int) : Option ((List Int) × Int × Int) := (spec_l1Below.f l0_0 a0_1 a0_2 4).bind fun bt2 => (spec_l14List.l0 k [] (wrap64 (1 + bt2.1)) bt2.2.1 bt2.2.2 l0_0)
set_option maxHeartbeats 4000000 in
set_option maxRecDepth 100000 in
theorem spec_l14List.ok (k : Nat) (b1000 : Nat) (l0_0 : List Int) (Al0_0 : Option Addr) (cl0_0 : Nat) (a0_1 : Int) (a0_2 : Int) (r0 : List Int) (r1 : Int) (r2 : Int) (H : spec_l14List.f k l0_0 a0_1 a0_2 = some (r0, r1, r2)) : Fn Try.prog 90 [.pointer (some ⟨b1000, 0, none⟩)] [⟨b1000, 119, [.slice Al0_0 l0_0.length cl0_0, .int .i64 a0_1, .int .i64 a0_2]⟩] [.sl 0 (.int .u8) Al0_0 cl0_0 l0_0 0 false] (fun v bx en => ∃ A0 c0, v = .slice A0 r0.length c0 ∧ bx = [⟨b1000, 119, [.slice Al0_0 l0_0.length cl0_0, .int .i64 r1, .int .i64 r2]⟩] ∧ en = [.sl 2 (.int .i64) A0 c0 r0 1 true]) := by
 refine fn_ 28 Try.func90 rfl rfl rfl (fun base T w0 => ?_)
 rw [spec_l14List.f] at H
 refine gs (rg (sv (EV.as rfl) rfl (re (gs (rg (so rfl (op_lit (s := 1) (by_ := 8) (.int .i64) ([] : List Int) [] [] 1 [] rfl rfl rfl rfl rfl rfl rfl rfl rfl rfl rfl rfl rfl dq rfl fun A5_1 c5_1 => (sv (EV.as rfl) rfl (re (gs (gs (rg (sv (EV.mv rfl) rfl ?_)))))))))))))
 revert H; refine bdI ?_; rintro ⟨t2_0, t2_1, t2_2⟩ A2 H
 refine so rfl (op_callM (spec_l1Below.ok b1000 l0_0 Al0_0 cl0_0 a0_1 a0_2 4 _ _ _ A2) [⟨0, 0, 0, false⟩] [0] [] 2 rfl rfl rfl rfl rfl rfl rfl rfl ?_)
 rintro _ _ _ ⟨rfl, rfl, rfl⟩
 refine nmE (en := [.sl 0 (.int .u8) Al0_0 cl0_0 l0_0 0 false, .sl 2 (.int .i64) A5_1 c5_1 [] 1 true]) (by kernel_rfl) (sv (EV.add rfl rfl) rfl (sv (EV.as rfl) rfl (re (gb ?_))))
 refine lo (fun kk S => ∃ (x2_3 : List Int) (Ax2_3 : Option Addr) (cx2_3 : Nat) (x2_4 : Int) (x2_1000_1 : Int) (x2_1000_2 : Int), spec_l14List.l0 kk x2_3 x2_4 x2_1000_1 x2_1000_2 l0_0 = some (r0, r1, r2) ∧ S = ⟨[(0, .pointer (some ⟨b1000, 0, none⟩)), (3, .slice Ax2_3 x2_3.length cx2_3), (4, .int .i64 x2_4)], [⟨b1000, 119, [.slice Al0_0 l0_0.length cl0_0, .int .i64 x2_1000_1, .int .i64 x2_1000_2]⟩], [.sl 2 (.int .i64) Ax2_3 cx2_3 x2_3 1 true, .sl 0 (.int .u8) Al0_0 cl0_0 l0_0 0 false]⟩) (fun S hS => ?_) (fun n0 ih0 S hS => ?_) ⟨[], A5_1, c5_1, wrap64 (1 + t2_0), t2_1, t2_2, H, rfl⟩ (fun h => wk [0, 3, 4] [0] [⟨1, 2, 1, true⟩, ⟨0, 0, 0, false⟩] h)
 · clear H; obtain ⟨_, _, _, _, _, _, H, _⟩ := hS; rw [spec_l14List.l0] at H; cases H
 clear H
 obtain ⟨x2_3, Ax2_3, cx2_3, x2_4, x2_1000_1, x2_1000_2, H, rfl⟩ := hS
 rw [spec_l14List.l0] at H
 refine gs (gs (rg (sv (EV.mv rfl) rfl (sv (EV.gtr rfl rfl) rfl (re ?_)))))
 revert H; refine ifsI ?_ ?_ <;> intro c3 H
 ·
  refine gt rfl (dT c3) (gk (gs (gb (rg (sv (EV.mv rfl) rfl (sv (EV.mv rfl) rfl (so rfl (op_lit (s := 1) (by_ := 8) (.int .i64) ([0, 0, 1, 4, 12, 40] : List Int) [[], [], [], [], [], []] [] 2 [.const (.int .i64 0), .const (.int .i64 0), .const (.int .i64 1), .const (.int .i64 4), .const (.int .i64 12), .const (.int .i64 40)] rfl rfl rfl rfl rfl rfl rfl rfl rfl rfl rfl rfl rfl dq rfl fun A15_4 c15_4 => ?_))))))))
  revert H; refine bdI ?_; rintro ⟨t5_0, t5_1, t5_2⟩ A5 H
  refine so rfl (op_callM (spec_l1PickInt.ok b1000 l0_0 Al0_0 cl0_0 x2_1000_1 x2_1000_2 ([0, 0, 1, 4, 12, 40] : List Int) A15_4 c15_4 _ _ _ A5) [⟨1, 0, 0, false⟩, ⟨2, 0, 0, false⟩] [0] [] 3 rfl rfl rfl rfl rfl rfl rfl rfl ?_)
  rintro _ _ _ ⟨rfl, rfl, rfl⟩
  refine nmE (en := [.sl 2 (.int .i64) Ax2_3 cx2_3 x2_3 1 true, .sl 0 (.int .u8) Al0_0 cl0_0 l0_0 0 false, .sl 2 (.int .i64) A15_4 c15_4 ([0, 0, 1, 4, 12, 40] : List Int) 2 true]) (by kernel_rfl) (sv (EV.add rfl rfl) rfl (so rfl (op_lit (s := 1) (by_ := 8) (.int .i64) ([wrap64 (8 + t5_0)] : List Int) [[]] [] 3 [.tmp 17] rfl rfl rfl rfl rfl rfl rfl rfl rfl rfl rfl rfl rfl dq rfl fun A18_6 c18_6 => ?_)))
  revert H; refine ggI ?_; intro g7 H
  exact so rfl (op_app (k := (.int .i64)) (s := 1) (by_ := 8) 0 3 rfl rfl rfl rfl (ap1 g7 dq) (ap1n g7 dq) (.inl rfl) true (fun _ => .inl rfl) rfl rfl fun A19_8 c19_8 => (nmE (en := [.sl 0 (.int .u8) Al0_0 cl0_0 l0_0 0 false, .sl 2 (.int .i64) A15_4 c15_4 ([0, 0, 1, 4, 12, 40] : List Int) 2 true, .sl 2 (.int .i64) A18_6 c18_6 ([wrap64 (8 + t5_0)] : List Int) 3 true, .sl 2 (.int .i64) A19_8 c19_8 (x2_3 ++ ([wrap64 (8 + t5_0)] : List Int)) 1 true]) (by kernel_rfl) (sv (EV.as rfl) rfl (re (pr [0, 3, 4] [0] [0, 3] rfl rfl rfl rfl (ge (rg (sv (EV.mv rfl) rfl (sv (EV.sub rfl rfl) rfl (sv (EV.as rfl) rfl (re (wk [0, 3, 4] [0] [⟨1, 2, 1, true⟩, ⟨0, 0, 0, false⟩] (ih0 _ (by omega) _ ⟨x2_3 ++ ([wrap64 (8 + t5_0)] : List Int), A19_8, c19_8, wrap64 (x2_4 - 1), t5_1, t5_2, H, rfl⟩)))))))))))))
 ·
  refine gf rfl (dF c3) (gx rfl (gs (gs (rg (sv (EV.mv rfl) rfl ?_)))))
  revert H; refine bdI ?_; rintro ⟨t9_0, t9_1, t9_2⟩ A9 H
  refine so rfl (op_callM (spec_l1Once.ok b1000 l0_0 Al0_0 cl0_0 x2_1000_1 x2_1000_2 14 _ _ _ A9) [⟨1, 0, 0, false⟩] [0] [] 2 rfl rfl rfl rfl rfl rfl rfl rfl ?_)
  rintro _ _ _ ⟨rfl, rfl, rfl⟩
  refine nmE (en := [.sl 2 (.int .i64) Ax2_3 cx2_3 x2_3 1 true, .sl 0 (.int .u8) Al0_0 cl0_0 l0_0 0 false]) (by kernel_rfl) (re ?_)
  revert H; refine ifsI ?_ ?_ <;> intro c10 H
  ·
   subst c10
   refine gt rfl rfl (rg (sv (EV.mv rfl) rfl (sv (EV.mv rfl) rfl (so rfl (op_lit (s := 1) (by_ := 8) (.int .i64) ([7, 61] : List Int) [[], []] [] 2 [.const (.int .i64 7), .const (.int .i64 61)] rfl rfl rfl rfl rfl rfl rfl rfl rfl rfl rfl rfl rfl dq rfl fun A24_11 c24_11 => ?_)))))
   revert H; refine bdI ?_; rintro ⟨t12_0, t12_1, t12_2⟩ A12 H
   refine so rfl (op_callM (spec_l1PickInt.ok b1000 l0_0 Al0_0 cl0_0 t9_1 t9_2 ([7, 61] : List Int) A24_11 c24_11 _ _ _ A12) [⟨1, 0, 0, false⟩, ⟨2, 0, 0, false⟩] [0] [] 3 rfl rfl rfl rfl rfl rfl rfl rfl ?_)
   rintro _ _ _ ⟨rfl, rfl, rfl⟩
   refine nmE (en := [.sl 2 (.int .i64) Ax2_3 cx2_3 x2_3 1 true, .sl 0 (.int .u8) Al0_0 cl0_0 l0_0 0 false, .sl 2 (.int .i64) A24_11 c24_11 ([7, 61] : List Int) 2 true]) (by kernel_rfl) ?_
   revert H; refine ggI ?_; intro g13 H
   refine sv (EV.ix 0 rfl rfl rfl dq g13 rfl) rfl (so rfl (op_stf 0 0 0 0 t12_0 rfl rfl rfl rfl dq g13 rfl rfl rfl rfl dq rfl (rlT 3 (v' := .slice Ax2_3 (x2_3.set (0 : Int).toNat t12_0).length cx2_3) rfl (sle _ _ _ _ _) (rlT 22 (v' := .slice Ax2_3 (x2_3.set (0 : Int).toNat t12_0).length cx2_3) rfl (sle _ _ _ _ _) (nmE (en := [.sl 0 (.int .u8) Al0_0 cl0_0 l0_0 0 false, .sl 2 (.int .i64) A24_11 c24_11 ([7, 61] : List Int) 2 true, .sl 2 (.int .i64) Ax2_3 cx2_3 (x2_3.set (0 : Int).toNat t12_0) 1 true]) (by kernel_rfl) (re (pr [3] [0] [0, 2] rfl rfl rfl rfl (gs (rg (sv (EV.mv rfl) rfl (sv (EV.as rfl) rfl (re ?_))))))))))))
   cases H
   exact rt Try.func90 rfl (.tmp rfl .nil) rfl [0] [⟨1, 2, 1, true⟩] rfl rfl rfl rfl rfl ⟨_, _, rfl, rfl, rfl⟩
  ·
   obtain rfl := bF c10
   refine gf rfl rfl (gk (gs (rg (sv (EV.mv rfl) rfl (sv (EV.as rfl) rfl (re (pr [2] [0] [0, 1] rfl rfl rfl rfl ?_)))))))
   cases H
   exact rt Try.func90 rfl (.tmp rfl .nil) rfl [0] [⟨0, 2, 1, true⟩] rfl rfl rfl rfl rfl ⟨_, _, rfl, rfl, rfl⟩
def spec_DrawStepsToFinish.f (k : Nat) (l0 : List Int) : Option ((List S27) × Int × Int × (List Int)) := (spec_l1New.f k l0).bind fun bt1 => ((spec_l19Joiner.f k l0 bt1.1 bt1.2).bind fun bt2 => ((spec_l14List.f k l0 bt2.2.2.2.1 bt2.2.2.2.2).bind fun bt3 => (some (bt2.1, bt2.2.1, bt2.2.2.1, bt3.1))))
set_option maxHeartbeats 4000000 in
set_option maxRecDepth 100000 in
theorem spec_DrawStepsToFinish.ok (k : Nat) (l0 : List Int) (Al0 : Option Addr) (cl0 : Nat) (r0 : List S27) (r1 : Int) (r2 : Int) (r3 : List Int) (H : spec_DrawStepsToFinish.f k l0 = some (r0, r1, r2, r3)) : Fn Try.prog 37 [.slice Al0 l0.length cl0] [] [.sl 0 (.int .u8) Al0 cl0 l0 0 false] (fun v bx en => ∃ A0 c0 A3 c3, v = .tuple #[.agg #[.slice A0 r0.length c0, .int .i64 r1, .int .i64 r2], .slice A3 r3.length c3] ∧ bx = [] ∧ en = [.sl 1 k27 A0 c0 r0 1 true, .sl 2 (.int .i64) A3 c3 r3 2 true]) := by
 refine fn_ 11 Try.func37 rfl rfl rfl (fun base T w0 => ?_)
 rw [spec_DrawStepsToFinish.f] at H
 refine gs (rg (so rfl (op_alloc (cs := [.slice none 0 0, .int .i64 0, .int .i64 0]) (by kernel_rfl) rfl fun b2 => (sv (EV.as rfl) rfl (re (gs (rg (sv (EV.mv rfl) rfl ?_))))))))
 revert H; refine bdI ?_; rintro ⟨t1_0, t1_1⟩ A1 H
 refine so rfl (op_callM (spec_l1New.ok k l0 Al0 cl0 _ _ A1) [⟨0, 0, 0, false⟩] [] [0] 1 rfl rfl rfl rfl rfl rfl rfl rfl ?_)
 rintro _ _ _ ⟨b2001, rfl, rfl, rfl⟩
 refine nmE (en := [.sl 0 (.int .u8) Al0 cl0 l0 0 false]) (by kernel_rfl) (sv (EV.as rfl) rfl (re (gs (rg (sv (EV.mv rfl) rfl ?_)))))
 revert H; refine bdI ?_; rintro ⟨t2_0, t2_1, t2_2, t2_3, t2_4⟩ A2 H
 refine so rfl (op_callM (spec_l19Joiner.ok k b2001 l0 Al0 cl0 t1_0 t1_1 _ _ _ _ _ A2) [⟨0, 0, 0, false⟩] [1] [0] 1 rfl rfl rfl rfl rfl rfl rfl rfl ?_)
 rintro _ _ _ ⟨At2_0, ct2_0, rfl, rfl, rfl⟩
 refine nmE (en := [.sl 0 (.int .u8) Al0 cl0 l0 0 false, .sl 1 k27 At2_0 ct2_0 t2_0 2 true]) (by kernel_rfl) (sv (EV.mv rfl) rfl ?_)
 revert H; refine bdI ?_; rintro ⟨t3_0, t3_1, t3_2⟩ A3 H
 refine so rfl (op_callM (spec_l14List.ok k b2001 l0 Al0 cl0 t2_3 t2_4 _ _ _ A3) [⟨0, 0, 0, false⟩] [1] [0] 3 rfl rfl rfl rfl rfl rfl rfl rfl ?_)
 rintro _ _ _ ⟨At3_0, ct3_0, rfl, rfl, rfl⟩
 refine nmE (en := [.sl 0 (.int .u8) Al0 cl0 l0 0 false, .sl 1 k27 At2_0 ct2_0 t2_0 2 true, .sl 2 (.int .i64) At3_0 ct3_0 t3_0 4 true]) (by kernel_rfl) (so rfl (op_st (cs' := [.slice At2_0 t2_0.length ct2_0, .int .i64 t2_1, .int .i64 t2_2]) 0 rfl rfl rfl rfl rfl rfl (sv (EV.as rfl) rfl (re (pr [2, 3] [0] [1, 2] rfl rfl rfl rfl ?_)))))
 cases H
 exact rt Try.func37 rfl (.cell 0 (some 3) rfl rfl rfl (.tmp rfl .nil)) rfl [] [⟨0, 1, 1, true⟩, ⟨1, 2, 2, true⟩] rfl rfl rfl rfl rfl ⟨_, _, _, _, rfl, rfl, rfl⟩
def impl_within.f (a0 : Int) (a1 : Int) (a2 : Int) : Option (Bool) := if a0 ≥ a1 then (some (decide (a0 ≤ a2))) else (some false)
set_option maxHeartbeats 4000000 in
set_option maxRecDepth 100000 in
theorem impl_within.ok (a0 : Int) (a1 : Int) (a2 : Int) (r0 : Bool) (H : impl_within.f a0 a1 a2 = some r0) : Fn Try.prog 82 [.int .i64 a0, .int .i64 a1, .int .i64 a2] [] [] (fun v bx en => v = .bool r0 ∧ bx = [] ∧ en = []) := by
 refine fn_ 15 Try.func82 rfl rfl rfl (fun base T w0 => ?_)
 rw [impl_within.f] at H
 refine gs (rg (sv (EV.as rfl) rfl (re (gs (rg (sv (EV.mv rfl) rfl (sv (EV.mv rfl) rfl (sv (EV.geq rfl rfl) rfl (sv (EV.mv rfl) rfl ?_)))))))))
 revert H; refine ifsI ?_ ?_ <;> intro c1 H
 ·
  refine ts 10 rfl (dT c1) (sv (EV.mv rfl) rfl (sv (EV.mv rfl) rfl (sv (EV.leq rfl rfl) rfl (sv (EV.pt rfl rfl rfl) rfl (sv (EV.as rfl) rfl (re (pr [6] [] [] rfl rfl rfl rfl ?_)))))))
  cases H
  exact rt Try.func82 rfl (.tmp rfl .nil) rfl [] [] rfl rfl rfl rfl rfl ⟨rfl, rfl, rfl⟩
 ·
  refine ts 10 rfl (dF c1) (sk rfl (sk rfl (sk rfl (sv (EV.pf rfl rfl rfl) rfl (sv (EV.as rfl) rfl (re (pr [6] [] [] rfl rfl rfl rfl ?_)))))))
  cases H
  exact rt Try.func82 rfl (.tmp rfl .nil) rfl [] [] rfl rfl rfl rfl rfl ⟨rfl, rfl, rfl⟩
def impl_IsValidJoinKind.f (a0 : Int) : Option (Bool) := (impl_within.f a0 1 4).bind fun t1 => (some t1)
set_option maxHeartbeats 4000000 in
set_option maxRecDepth 100000 in
theorem impl_IsValidJoinKind.ok (a0 : Int) (r0 : Bool) (H : impl_IsValidJoinKind.f a0 = some r0) : Fn Try.prog 73 [.int .i64 a0] [] [] (fun v bx en => v = .bool r0 ∧ bx = [] ∧ en = []) := by
 refine fn_ 5 Try.func73 rfl rfl rfl (fun base T w0 => ?_)
 rw [impl_IsValidJoinKind.f] at H
 refine gs (rg (sv (EV.as rfl) rfl (re (gs (rg (sv (EV.mv rfl) rfl ?_))))))
 revert H; refine bdI ?_; rintro t1 A1 H
 refine so rfl (op_call (impl_within.ok a0 1 4 _ A1) [] 1 rfl rfl rfl rfl rfl ?_)
 rintro _ _ _ ⟨rfl, rfl, rfl⟩
 refine sv (EV.as rfl) rfl (re ?_)
 cases H
 exact rt Try.func73 rfl (.tmp rfl .nil) rfl [] [] rfl rfl rfl rfl rfl ⟨rfl, rfl, rfl⟩
def impl_IsValidRow.f (a0_0 : Int) (a0_1 : Int) (a0_2 : Int) : Option (Bool) := (impl_within.f a0_0 0 9).bind fun t1 => (if t1 = true then ((impl_within.f a0_1 0 99).bind fun t3 => (if t3 = true then ((impl_within.f a0_2 0 3).bind fun t5 => (some t5)) else (some false))) else (some false))
set_option maxHeartbeats 4000000 in
set_option maxRecDepth 100000 in
theorem impl_IsValidRow.ok (a0_0 : Int) (a0_1 : Int) (a0_2 : Int) (r0 : Bool) (H : impl_IsValidRow.f a0_0 a0_1 a0_2 = some r0) : Fn Try.prog 121 [.agg #[.int .i64 a0_0, .int .i64 a0_1, .int .i64 a0_2]] [] [] (fun v bx en => v = .bool r0 ∧ bx = [] ∧ en = []) := by
 refine fn_ 16 Try.func121 rfl rfl rfl (fun base T w0 => ?_)
 rw [impl_IsValidRow.f] at H
 refine gs (rg (so rfl (op_box (cs := [.int .i64 a0_0, .int .i64 a0_1, .int .i64 a0_2]) rfl rfl rfl fun b1 => (sv (EV.as rfl) rfl (re (gs (rg (sv (EV.fa 0 rfl) rfl (sv (EV.ld 0 none rfl rfl rfl) rfl ?_)))))))))
 revert H; refine bdI ?_; rintro t1 A1 H
 refine so rfl (op_call (impl_within.ok a0_0 0 9 _ A1) [] 1 rfl rfl rfl rfl rfl ?_)
 rintro _ _ _ ⟨rfl, rfl, rfl⟩
 refine sv (EV.mv rfl) rfl ?_
 revert H; refine ifsI ?_ ?_ <;> intro c2 H
 ·
  subst c2
  refine ts 6 rfl rfl (sv (EV.fa 1 rfl) rfl (sv (EV.ld 0 none rfl rfl rfl) rfl ?_))
  revert H; refine bdI ?_; rintro t3 A3 H
  refine so rfl (op_call (impl_within.ok a0_1 0 99 _ A3) [] 1 rfl rfl rfl rfl rfl ?_)
  rintro _ _ _ ⟨rfl, rfl, rfl⟩
  refine sv (EV.pt rfl rfl rfl) rfl (sv (EV.mv rfl) rfl ?_)
  revert H; refine ifsI ?_ ?_ <;> intro c4 H
  ·
   subst c4
   refine ts 11 rfl rfl (sv (EV.fa 2 rfl) rfl (sv (EV.ld 0 none rfl rfl rfl) rfl ?_))
   revert H; refine bdI ?_; rintro t5 A5 H
   refine so rfl (op_call (impl_within.ok a0_2 0 3 _ A5) [] 1 rfl rfl rfl rfl rfl ?_)
   rintro _ _ _ ⟨rfl, rfl, rfl⟩
   refine sv (EV.pt rfl rfl rfl) rfl (sv (EV.as rfl) rfl (re (pr [2] [] [] rfl rfl rfl rfl ?_)))
   cases H
   exact rt Try.func121 rfl (.tmp rfl .nil) rfl [] [] rfl rfl rfl rfl rfl ⟨rfl, rfl, rfl⟩
  ·
   obtain rfl := bF c4
   refine ts 11 rfl rfl (sk rfl (sk rfl (sk rfl (sv (EV.pf rfl rfl rfl) rfl (sv (EV.as rfl) rfl (re (pr [2] [] [] rfl rfl rfl rfl ?_)))))))
   cases H
   exact rt Try.func121 rfl (.tmp rfl .nil) rfl [] [] rfl rfl rfl rfl rfl ⟨rfl, rfl, rfl⟩
 ·
  obtain rfl := bF c2
  refine ts 6 rfl rfl (sk rfl (sk rfl (sk rfl (sv (EV.pf rfl rfl rfl) rfl (sv (EV.mv rfl) rfl (sk rfl (sk rfl (sk rfl (sv (EV.pf rfl rfl rfl) rfl (sv (EV.as rfl) rfl (re (pr [2] [] [] rfl rfl rfl rfl ?_))))))))))))
  cases H
  exact rt Try.func121 rfl (.tmp rfl .nil) rfl [] [] rfl rfl rfl rfl rfl ⟨rfl, rfl, rfl⟩
def impl_allValid.l0 : Nat → Int → Int → (List S99) → Option (Bool)
 | 0, _, _, _ => none
 | k + 1, x2_6, x2_7, l0 => if x2_7 < x2_6 then (if 0 ≤ x2_7 then (if x2_7 < (l0.length : Int) then ((impl_IsValidRow.f ((rd_T99 l0 x2_7).f0) ((rd_T99 l0 x2_7).f1) ((rd_T99 l0 x2_7).f2)).bind fun t4 => (if t4 = true then (impl_allValid.l0 k x2_6 (wrap64 (x2_7 + 1)) l0) else (some false))) else none) else none) else (some true)
def impl_allValid.f (k : Nat) (l0 : List S99) : Option (Bool) := impl_allValid.l0 k (l0.length : Int) 0 l0
set_option maxHeartbeats 4000000 in
set_option maxRecDepth 100000 in
theorem impl_allValid.ok (k : Nat) (l0 : List S99) (Al0 : Option Addr) (cl0 : Nat) (r0 : Bool) (H : impl_allValid.f k l0 = some r0) : Fn Try.prog 113 [.slice Al0 l0.length cl0] [] [.sl 0 k99 Al0 cl0 l0 0 false] (fun v bx en => v = .bool r0 ∧ bx = [] ∧ en = []) := by
 refine fn_ 15 Try.func113 rfl rfl rfl (fun base T w0 => ?_)
 rw [impl_allValid.f] at H
 refine gs (rg (sv (EV.as rfl) rfl (re (gs (gs (rg (sv (EV.mv rfl) rfl (sv (EV.ln rfl) rfl (sv (EV.mv rfl) rfl (re (gb ?_)))))))))))
 refine lo (fun kk S => ∃ (x2_6 : Int) (x2_7 : Int), impl_allValid.l0 kk x2_6 x2_7 l0 = some r0 ∧ S = ⟨[(5, .slice Al0 l0.length cl0), (6, .int .i64 x2_6), (7, .int .i64 x2_7)], [], [.sl 0 k99 Al0 cl0 l0 0 false]⟩) (fun S hS => ?_) (fun n0 ih0 S hS => ?_) ⟨(l0.length : Int), 0, H, rfl⟩ (fun h => wk [5, 6, 7] [] [⟨0, 0, 0, false⟩] h)
 · clear H; obtain ⟨_, _, H, _⟩ := hS; rw [impl_allValid.l0] at H; cases H
 clear H
 obtain ⟨x2_6, x2_7, H, rfl⟩ := hS
 rw [impl_allValid.l0] at H
 refine gs (rg (sv (EV.lss rfl rfl) rfl (re (gs ?_))))
 revert H; refine ifsI ?_ ?_ <;> intro c1 H
 ·
  refine gt rfl (dT c1) (gk (gs (gb (gs (rg ?_)))))
  revert H; refine ggI ?_; intro g2 H
  revert H; refine ggI ?_; intro g3 H
  refine sv (EV.ix 0 rfl rfl rfl g2 g3 rfl) rfl (sv (EV.le (v := .agg #[.int .i64 ((rd_T99 l0 x2_7).f0), .int .i64 ((rd_T99 l0 x2_7).f1), .int .i64 ((rd_T99 l0 x2_7).f2)]) x2_7 0 (some 3) 0 z99 rfl rfl rfl g2 g3 rfl rfl rfl) rfl (so rfl (op_alloc (cs := [.int .i64 0, .int .i64 0, .int .i64 0]) (by kernel_rfl) rfl fun b4 => (so rfl (op_st (cs' := [.int .i64 ((rd_T99 l0 x2_7).f0), .int .i64 ((rd_T99 l0 x2_7).f1), .int .i64 ((rd_T99 l0 x2_7).f2)]) 0 rfl rfl rfl rfl rfl rfl (re (gs (rg (sv (EV.ld (v := .agg #[.int .i64 ((rd_T99 l0 x2_7).f0), .int .i64 ((rd_T99 l0 x2_7).f1), .int .i64 ((rd_T99 l0 x2_7).f2)]) 0 (some 3) rfl rfl rfl) rfl ?_)))))))))
  revert H; refine bdI ?_; rintro t4 A4 H
  refine so rfl (op_call (impl_IsValidRow.ok ((rd_T99 l0 x2_7).f0) ((rd_T99 l0 x2_7).f1) ((rd_T99 l0 x2_7).f2) _ A4) [] 1 rfl rfl rfl rfl rfl ?_)
  rintro _ _ _ ⟨rfl, rfl, rfl⟩
  refine sv (EV.nt rfl) rfl (re (pr [5, 6, 7, 13] [] [0] rfl rfl rfl rfl ?_))
  revert H; refine ifsI ?_ ?_ <;> intro c5 H
  ·
   subst c5
   exact gf rfl rfl (gk (ge (rg (sv (EV.add rfl rfl) rfl (sv (EV.mv rfl) rfl (re (wk [5, 6, 7] [] [⟨0, 0, 0, false⟩] (ih0 _ (by omega) _ ⟨x2_6, wrap64 (x2_7 + 1), H, rfl⟩))))))))
  ·
   obtain rfl := bF c5
   refine gt rfl rfl (gs (rg (sv (EV.as rfl) rfl (re ?_))))
   cases H
   exact rt Try.func113 rfl (.tmp rfl .nil) rfl [] [] rfl rfl rfl rfl rfl ⟨rfl, rfl, rfl⟩
 ·
  refine gf rfl (dF c1) (gx rfl (gs (rg (sv (EV.as rfl) rfl (re ?_)))))
  cases H
  exact rt Try.func113 rfl (.tmp rfl .nil) rfl [] [] rfl rfl rfl rfl rfl ⟨rfl, rfl, rfl⟩
def impl_AreValidRows.f (k : Nat) (l0 : List S99) : Option (Bool) := if (l0.length : Int) ≤ 24 then ((impl_allValid.f k l0).bind fun t2 => (some t2)) else (some false)
set_option maxHeartbeats 4000000 in
set_option maxRecDepth 100000 in
theorem impl_AreValidRows.ok (k : Nat) (l0 : List S99) (Al0 : Option Addr) (cl0 : Nat) (r0 : Bool) (H : impl_AreValidRows.f k l0 = some r0) : Fn Try.prog 74 [.slice Al0 l0.length cl0] [] [.sl 0 k99 Al0 cl0 l0 0 false] (fun v bx en => v = .bool r0 ∧ bx = [] ∧ en = []) := by
 refine fn_ 10 Try.func74 rfl rfl rfl (fun base T w0 => ?_)
 rw [impl_AreValidRows.f] at H
 refine gs (rg (sv (EV.as rfl) rfl (re (gs (rg (sv (EV.mv rfl) rfl (sv (EV.ln rfl) rfl (sv (EV.leq rfl rfl) rfl (sv (EV.mv rfl) rfl ?_)))))))))
 revert H; refine ifsI ?_ ?_ <;> intro c1 H
 ·
  refine ts 6 rfl (dT c1) (sv (EV.mv rfl) rfl ?_)
  revert H; refine bdI ?_; rintro t2 A2 H
  refine so rfl (op_call (impl_allValid.ok k l0 Al0 cl0 _ A2) [⟨0, 0, 0, false⟩] 1 rfl rfl rfl rfl rfl ?_)
  rintro _ _ _ ⟨rfl, rfl, rfl⟩
  refine sv (EV.pt rfl rfl rfl) rfl (sv (EV.as rfl) rfl (re (pr [2] [] [] rfl rfl rfl rfl ?_)))
  cases H
  exact rt Try.func74 rfl (.tmp rfl .nil) rfl [] [] rfl rfl rfl rfl rfl ⟨rfl, rfl, rfl⟩
 ·
  refine ts 6 rfl (dF c1) (sk rfl (sk rfl (sv (EV.pf rfl rfl rfl) rfl (sv (EV.as rfl) rfl (re (pr [2] [] [] rfl rfl rfl rfl ?_))))))
  cases H
  exact rt Try.func74 rfl (.tmp rfl .nil) rfl [] [] rfl rfl rfl rfl rfl ⟨rfl, rfl, rfl⟩
def impl_IsValidTask.f (k : Nat) (a0_0 : Int) (l0_1 : List S99) (l0_2 : List S99) (l0_3 : List Bool) (a0_4 : Int) : Option (Bool) := (impl_IsValidJoinKind.f a0_0).bind fun t1 => (if t1 = true then ((impl_AreValidRows.f k l0_1).bind fun t3 => (if t3 = true then ((impl_AreValidRows.f k l0_2).bind fun t5 => (if t5 = true then (if (l0_3.length : Int) = (l0_1.length : Int) then ((impl_within.f a0_4 0 4).bind fun t8 => (some t8)) else (some false)) else (some false))) else (some false))) else (some false))
set_option maxHeartbeats 4000000 in
set_option maxRecDepth 100000 in
theorem impl_IsValidTask.ok (k : Nat) (a0_0 : Int) (l0_1 : List S99) (Al0_1 : Option Addr) (cl0_1 : Nat) (l0_2 : List S99) (Al0_2 : Option Addr) (cl0_2 : Nat) (l0_3 : List Bool) (Al0_3 : Option Addr) (cl0_3 : Nat) (a0_4 : Int) (r0 : Bool) (H : impl_IsValidTask.f k a0_0 l0_1 l0_2 l0_3 a0_4 = some r0) : Fn Try.prog 23 [.agg #[.int .i64 a0_0, .slice Al0_1 l0_1.length cl0_1, .slice Al0_2 l0_2.length cl0_2, .slice Al0_3 l0_3.length cl0_3, .int .i64 a0_4]] [] [.sl 0 k99 Al0_1 cl0_1 l0_1 0 false, .sl 0 k99 Al0_2 cl0_2 l0_2 0 false, .sl 0 .bool Al0_3 cl0_3 l0_3 0 false] (fun v bx en => v = .bool r0 ∧ bx = [] ∧ en = []) := by
 refine fn_ 30 Try.func23 rfl rfl rfl (fun base T w0 => ?_)
 rw [impl_IsValidTask.f] at H
 refine gs (rg (so rfl (op_box (cs := [.int .i64 a0_0, .slice Al0_1 l0_1.length cl0_1, .slice Al0_2 l0_2.length cl0_2, .slice Al0_3 l0_3.length cl0_3, .int .i64 a0_4]) rfl rfl rfl fun b1 => (sv (EV.as rfl) rfl (re (gs (rg (sv (EV.fa 0 rfl) rfl (sv (EV.ld 0 none rfl rfl rfl) rfl ?_)))))))))
 revert H; refine bdI ?_; rintro t1 A1 H
 refine so rfl (op_call (impl_IsValidJoinKind.ok a0_0 _ A1) [] 1 rfl rfl rfl rfl rfl ?_)
 rintro _ _ _ ⟨rfl, rfl, rfl⟩
 refine sv (EV.mv rfl) rfl ?_
 revert H; refine ifsI ?_ ?_ <;> intro c2 H
 ·
  subst c2
  refine ts 6 rfl rfl (sv (EV.fa 1 rfl) rfl (sv (EV.ld 0 none rfl rfl rfl) rfl ?_))
  revert H; refine bdI ?_; rintro t3 A3 H
  refine so rfl (op_call (impl_AreValidRows.ok k l0_1 Al0_1 cl0_1 _ A3) [⟨0, 0, 0, false⟩] 1 rfl rfl rfl rfl rfl ?_)
  rintro _ _ _ ⟨rfl, rfl, rfl⟩
  refine sv (EV.pt rfl rfl rfl) rfl (sv (EV.mv rfl) rfl ?_)
  revert H; refine ifsI ?_ ?_ <;> intro c4 H
  ·
   subst c4
   refine ts 11 rfl rfl (sv (EV.fa 2 rfl) rfl (sv (EV.ld 0 none rfl rfl rfl) rfl ?_))
   revert H; refine bdI ?_; rintro t5 A5 H
   refine so rfl (op_call (impl_AreValidRows.ok k l0_2 Al0_2 cl0_2 _ A5) [⟨1, 0, 0, false⟩] 1 rfl rfl rfl rfl rfl ?_)
   rintro _ _ _ ⟨rfl, rfl, rfl⟩
   refine sv (EV.pt rfl rfl rfl) rfl (sv (EV.mv rfl) rfl ?_)
   revert H; refine ifsI ?_ ?_ <;> intro c6 H
   ·
    subst c6
    refine ts 16 rfl rfl (sv (EV.fa 3 rfl) rfl (sv (EV.ld 0 none rfl rfl rfl) rfl (sv (EV.ln rfl) rfl (sv (EV.fa 1 rfl) rfl (sv (EV.ld 0 none rfl rfl rfl) rfl (sv (EV.ln rfl) rfl (sv (EV.eql rfl rfl) rfl (sv (EV.pt rfl rfl rfl) rfl (sv (EV.mv rfl) rfl ?_)))))))))
    revert H; refine ifsI ?_ ?_ <;> intro c7 H
    ·
     refine ts 25 rfl (dT c7) (sv (EV.fa 4 rfl) rfl (sv (EV.ld 0 none rfl rfl rfl) rfl ?_))
     revert H; refine bdI ?_; rintro t8 A8 H
     refine so rfl (op_call (impl_within.ok a0_4 0 4 _ A8) [] 1 rfl rfl rfl rfl rfl ?_)
     rintro _ _ _ ⟨rfl, rfl, rfl⟩
     refine sv (EV.pt rfl rfl rfl) rfl (sv (EV.as rfl) rfl (re (pr [2] [] [] rfl rfl rfl rfl ?_)))
     cases H
     exact rt Try.func23 rfl (.tmp rfl .nil) rfl [] [] rfl rfl rfl rfl rfl ⟨rfl, rfl, rfl⟩
    ·
     refine ts 25 rfl (dF c7) (sk rfl (sk rfl (sk rfl (sv (EV.pf rfl rfl rfl) rfl (sv (EV.as rfl) rfl (re (pr [2] [] [] rfl rfl rfl rfl ?_)))))))
     cases H
     exact rt Try.func23 rfl (.tmp rfl .nil) rfl [] [] rfl rfl rfl rfl rfl ⟨rfl, rfl, rfl⟩
   ·
    obtain rfl := bF c6
    refine ts 16 rfl rfl (sk rfl (sk rfl (sk rfl (sk rfl (sk rfl (sk rfl (sk rfl (sv (EV.pf rfl rfl rfl) rfl (sv (EV.mv rfl) rfl (sk rfl (sk rfl (sk rfl (sv (EV.pf rfl rfl rfl) rfl (sv (EV.as rfl) rfl (re (pr [2] [] [] rfl rfl rfl rfl ?_))))))))))))))))
    cases H
    exact rt Try.func23 rfl (.tmp rfl .nil) rfl [] [] rfl rfl rfl rfl rfl ⟨rfl, rfl, rfl⟩
  ·
   obtain rfl := bF c4
   refine ts 11 rfl rfl (sk rfl (sk rfl (sk rfl (sv (EV.pf rfl rfl rfl) rfl (sv (EV.mv rfl) rfl (sk rfl (sk rfl (sk rfl (sk rfl (sk rfl (sk rfl (sk rfl (sv (EV.pf rfl rfl rfl) rfl (sv (EV.mv rfl) rfl (sk rfl (sk rfl (sk rfl (sv (EV.pf rfl rfl rfl) rfl (sv (EV.as rfl) rfl (re (pr [2] [] [] rfl rfl rfl rfl ?_)))))))))))))))))))))
   cases H
   exact rt Try.func23 rfl (.tmp rfl .nil) rfl [] [] rfl rfl rfl rfl rfl ⟨rfl, rfl, rfl⟩
 ·
  obtain rfl := bF c2
  refine ts 6 rfl rfl (sk rfl (sk rfl (sk rfl (sv (EV.pf rfl rfl rfl) rfl (sv (EV.mv rfl) rfl (sk rfl (sk rfl (sk rfl (sv (EV.pf rfl rfl rfl) rfl (sv (EV.mv rfl) rfl (sk rfl (sk rfl (sk rfl (sk rfl (sk rfl (sk rfl (sk rfl (sv (EV.pf rfl rfl rfl) rfl (sv (EV.mv rfl) rfl (sk rfl (sk rfl (sk rfl (sv (EV.pf rfl rfl rfl) rfl (sv (EV.as rfl) rfl (re (pr [2] [] [] rfl rfl rfl rfl ?_))))))))))))))))))))))))))
  cases H
  exact rt Try.func23 rfl (.tmp rfl .nil) rfl [] [] rfl rfl rfl rfl rfl ⟨rfl, rfl, rfl⟩
def impl_IsValidJoiner.l0 : Nat → Int → Int → Int → Int → Int → Int → (List S27) → Option (Bool)
 | 0, _, _, _, _, _, _, _ => none
 | k + 1, x2_3, x2_4, x2_25, x2_26, x2_1_1, x2_1_2, l0_0 => if x2_26 < x2_25 then (if 0 ≤ x2_26 then (if x2_26 < (l0_0.length : Int) then ((impl_IsValidTask.f k ((rd_T27 l0_0 x2_26).f0) ((rd_T27 l0_0 x2_26).f1) ((rd_T27 l0_0 x2_26).f2) ((rd_T27 l0_0 x2_26).f3) ((rd_T27 l0_0 x2_26).f4)).bind fun t12 => (if t12 = true then (if 0 < (l0_0.length : Int) then (if ((rd_T27 l0_0 x2_26).f0) = ((rd_T27 l0_0 0).f0) then (impl_IsValidJoiner.l0 k (wrap64 (x2_3 + (((rd_T27 l0_0 x2_26).f1).length : Int))) (wrap64 (x2_4 + (((rd_T27 l0_0 x2_26).f2).length : Int))) x2_25 (wrap64 (x2_26 + 1)) x2_1_1 x2_1_2 l0_0) else (some false)) else none) else (some false))) else none) else none) else (if x2_3 ≤ 24 then (some (decide (x2_4 ≤ 24))) else (some false))
def impl_IsValidJoiner.f (k : Nat) (l0_0 : List S27) (a0_1 : Int) (a0_2 : Int) : Option (Bool) := if (l0_0.length : Int) > 40 then (some false) else ((impl_within.f a0_1 0 100000).bind fun t2 => (if t2 = true then ((impl_within.f a0_2 0 1000).bind fun t4 => (if t4 = true then (impl_IsValidJoiner.l0 k 0 0 (l0_0.length : Int) 0 a0_1 a0_2 l0_0) else (some false))) else (some false)))
set_option maxHeartbeats 4000000 in
set_option maxRecDepth 100000 in
theorem impl_IsValidJoiner.ok (k : Nat) (l0_0 : List S27) (Al0_0 : Option Addr) (cl0_0 : Nat) (a0_1 : Int) (a0_2 : Int) (r0 : Bool) (H : impl_IsValidJoiner.f k l0_0 a0_1 a0_2 = some r0) : Fn Try.prog 91 [.agg #[.slice Al0_0 l0_0.length cl0_0, .int .i64 a0_1, .int .i64 a0_2]] [] [.sl 0 k27 Al0_0 cl0_0 l0_0 0 false] (fun v bx en => v = .bool r0 ∧ bx = [] ∧ en = []) := by
 refine fn_ 60 Try.func91 rfl rfl rfl (fun base T w0 => ?_)
 rw [impl_IsValidJoiner.f] at H
 refine gs (rg (so rfl (op_box (cs := [.slice Al0_0 l0_0.length cl0_0, .int .i64 a0_1, .int .i64 a0_2]) rfl rfl rfl fun b1 => (sv (EV.as rfl) rfl (re (gs (gs (rg (sv (EV.fa 0 rfl) rfl (sv (EV.ld 0 none rfl rfl rfl) rfl (sv (EV.ln rfl) rfl (sv (EV.gtr rfl rfl) rfl (sv (EV.mv rfl) rfl ?_)))))))))))))
 revert H; refine ifsI ?_ ?_ <;> intro c1 H
 ·
  refine ts 11 rfl (dT c1) (sk rfl (sk rfl (sk rfl (sk rfl (sv (EV.pt rfl rfl rfl) rfl (sv (EV.mv rfl) rfl (sk rfl (sk rfl (sk rfl (sk rfl (sv (EV.pt rfl rfl rfl) rfl (re (pr [1, 22] [0] [0] rfl rfl rfl rfl (gt rfl rfl (gs (rg (sv (EV.as rfl) rfl (re ?_))))))))))))))))))
  cases H
  exact rt Try.func91 rfl (.tmp rfl .nil) rfl [] [] rfl rfl rfl rfl rfl ⟨rfl, rfl, rfl⟩
 ·
  refine ts 11 rfl (dF c1) (sv (EV.fa 1 rfl) rfl (sv (EV.ld 0 none rfl rfl rfl) rfl ?_))
  revert H; refine bdI ?_; rintro t2 A2 H
  refine so rfl (op_call (impl_within.ok a0_1 0 100000 _ A2) [] 1 rfl rfl rfl rfl rfl ?_)
  rintro _ _ _ ⟨rfl, rfl, rfl⟩
  refine sv (EV.nt rfl) rfl (sv (EV.pf rfl rfl rfl) rfl (sv (EV.mv rfl) rfl ?_))
  revert H; refine ifsI ?_ ?_ <;> intro c3 H
  ·
   subst c3
   refine ts 17 rfl rfl (sv (EV.fa 2 rfl) rfl (sv (EV.ld 0 none rfl rfl rfl) rfl ?_))
   revert H; refine bdI ?_; rintro t4 A4 H
   refine so rfl (op_call (impl_within.ok a0_2 0 1000 _ A4) [] 1 rfl rfl rfl rfl rfl ?_)
   rintro _ _ _ ⟨rfl, rfl, rfl⟩
   refine sv (EV.nt rfl) rfl (sv (EV.pf rfl rfl rfl) rfl (re (pr [1, 22] [0] [0] rfl rfl rfl rfl ?_)))
   revert H; refine ifsI ?_ ?_ <;> intro c5 H
   ·
    subst c5
    refine gf rfl rfl (gk (gs (rg (sv (EV.as rfl) rfl (sv (EV.as rfl) rfl (re (gs (gs (rg (sv (EV.fa 0 rfl) rfl (sv (EV.ld 0 none rfl rfl rfl) rfl (sv (EV.ln rfl) rfl (sv (EV.mv rfl) rfl (re (gb ?_)))))))))))))))
    refine lo (fun kk S => ∃ (x2_3 : Int) (x2_4 : Int) (x2_25 : Int) (x2_26 : Int) (x2_1_1 : Int) (x2_1_2 : Int), impl_IsValidJoiner.l0 kk x2_3 x2_4 x2_25 x2_26 x2_1_1 x2_1_2 l0_0 = some r0 ∧ S = ⟨[(1, .pointer (some ⟨b1, 0, none⟩)), (3, .int .i64 x2_3), (4, .int .i64 x2_4), (24, .slice Al0_0 l0_0.length cl0_0), (25, .int .i64 x2_25), (26, .int .i64 x2_26)], [⟨b1, 60, [.slice Al0_0 l0_0.length cl0_0, .int .i64 x2_1_1, .int .i64 x2_1_2]⟩], [.sl 0 k27 Al0_0 cl0_0 l0_0 0 false]⟩) (fun S hS => ?_) (fun n0 ih0 S hS => ?_) ⟨0, 0, (l0_0.length : Int), 0, a0_1, a0_2, H, rfl⟩ (fun h => wk [1, 3, 4, 24, 25, 26] [0] [⟨0, 0, 0, false⟩] h)
    · clear H; obtain ⟨_, _, _, _, _, _, H, _⟩ := hS; rw [impl_IsValidJoiner.l0] at H; cases H
    clear H
    obtain ⟨x2_3, x2_4, x2_25, x2_26, x2_1_1, x2_1_2, H, rfl⟩ := hS
    rw [impl_IsValidJoiner.l0] at H
    refine gs (rg (sv (EV.lss rfl rfl) rfl (re (gs ?_))))
    revert H; refine ifsI ?_ ?_ <;> intro c6 H
    ·
     refine gt rfl (dT c6) (gk (gs (gb (gs (rg ?_)))))
     revert H; refine ggI ?_; intro g7 H
     revert H; refine ggI ?_; intro g8 H
     refine sv (EV.ix 0 rfl rfl rfl g7 g8 rfl) rfl (opn (i := x2_26) 0 z27 rfl g7 g8 fun A_9 c_9 A_10 c_10 A_11 c_11 => (sv (EV.lc (v := .agg #[.int .i64 ((rd_T27 l0_0 x2_26).f0), .slice A_9 ((rd_T27 l0_0 x2_26).f1).length c_9, .slice A_10 ((rd_T27 l0_0 x2_26).f2).length c_10, .slice A_11 ((rd_T27 l0_0 x2_26).f3).length c_11, .int .i64 ((rd_T27 l0_0 x2_26).f4)]) 0 (some 5) 1 rfl rfl rfl rfl) rfl (so rfl (op_alloc (cs := [.int .i64 0, .slice none 0 0, .slice none 0 0, .slice none 0 0, .int .i64 0]) (by kernel_rfl) rfl fun b6 => (so rfl (op_st (cs' := [.int .i64 ((rd_T27 l0_0 x2_26).f0), .slice A_9 ((rd_T27 l0_0 x2_26).f1).length c_9, .slice A_10 ((rd_T27 l0_0 x2_26).f2).length c_10, .slice A_11 ((rd_T27 l0_0 x2_26).f3).length c_11, .int .i64 ((rd_T27 l0_0 x2_26).f4)]) 1 rfl rfl rfl rfl rfl rfl (re (gs (gs (dr [0, 1] [0, 1, 2, 3, 4] [1] 13 rfl rfl rfl rfl (xv 0 [0, 1] [0, 1, 2, 3, 4] rfl (EV.ld (v := .agg #[.int .i64 ((rd_T27 l0_0 x2_26).f0), .slice A_9 ((rd_T27 l0_0 x2_26).f1).length c_9, .slice A_10 ((rd_T27 l0_0 x2_26).f2).length c_10, .slice A_11 ((rd_T27 l0_0 x2_26).f3).length c_11, .int .i64 ((rd_T27 l0_0 x2_26).f4)]) 1 (some 5) rfl rfl rfl) rfl rfl rfl rfl (one1 1 rfl rfl ?_))))))))))))
     revert H; refine bdI ?_; rintro t12 A12 H
     refine op_call (impl_IsValidTask.ok n0 ((rd_T27 l0_0 x2_26).f0) ((rd_T27 l0_0 x2_26).f1) A_9 c_9 ((rd_T27 l0_0 x2_26).f2) A_10 c_10 ((rd_T27 l0_0 x2_26).f3) A_11 c_11 ((rd_T27 l0_0 x2_26).f4) _ A12) [⟨2, 0, 0, false⟩, ⟨3, 0, 0, false⟩, ⟨4, 0, 0, false⟩] 1 rfl rfl rfl rfl rfl ?_
     rintro _ _ _ ⟨rfl, rfl, rfl⟩
     refine xn rfl (xv 2 [0, 1] [0, 1, 2, 3, 4] rfl (EV.nt rfl) rfl rfl rfl rfl (xv 3 [0, 1] [0, 1, 2, 3, 4] rfl (EV.mv rfl) rfl rfl rfl rfl ?_))
     revert H; refine ifsI ?_ ?_ <;> intro c13 H
     ·
      subst c13
      refine ts 33 rfl rfl (xv 4 [0, 1] [0, 1, 2, 3, 4] rfl (EV.fa 0 rfl) rfl rfl rfl rfl (xv 5 [0, 1] [0, 1, 2, 3, 4] rfl (EV.ld 1 none rfl rfl rfl) rfl rfl rfl rfl (xv 6 [0, 1] [0, 1, 2, 3, 4] rfl (EV.fa 0 rfl) rfl rfl rfl rfl (xv 7 [0, 1] [0, 1, 2, 3, 4] rfl (EV.ld 0 none rfl rfl rfl) rfl rfl rfl rfl ?_))))
      revert H; refine ggI ?_; intro g14 H
      refine xv 8 [0, 1] [0, 1, 2, 3, 4] rfl (EV.ix 0 rfl rfl rfl dq g14 rfl) rfl rfl rfl rfl (xv 9 [0, 1] [0, 1, 2, 3, 4] rfl (EV.fa 0 rfl) rfl rfl rfl rfl (xv 10 [0, 1] [0, 1, 2, 3, 4] rfl (EV.lf (v := .int .i64 ((rd_T27 l0_0 0).f0)) 0 0 none 0 z27 rfl rfl rfl dq g14 rfl (fun _ _ _ _ _ _ => rfl)) rfl rfl rfl rfl (xv 11 [0, 1] [0, 1, 2, 3, 4] rfl (EV.neq rfl rfl) rfl rfl rfl rfl (xv 12 [0, 1] [0, 1, 2, 3, 4] rfl (EV.pf rfl rfl rfl) rfl rfl rfl rfl (xd (pr [1, 3, 4, 6, 24, 25, 26, 34, 35, 36, 37, 38, 39, 40, 41, 42] [0, 1] [0, 1, 2, 3, 4] rfl rfl rfl rfl ?_))))))
      revert H; refine ifsI ?_ ?_ <;> intro c15 H
      ·
       exact gf rfl (nF c15) (gk (gs (rg (sv (EV.mv rfl) rfl (sv (EV.fa 1 rfl) rfl (sv (EV.ld 1 none rfl rfl rfl) rfl (sv (EV.ln rfl) rfl (sv (EV.add rfl rfl) rfl (sv (EV.as rfl) rfl (re (pr [1, 3, 4, 6, 24, 25, 26, 34, 35, 36, 37, 38, 39, 40, 41] [0, 1] [0, 1, 2, 3, 4] rfl rfl rfl rfl (rg (sv (EV.mv rfl) rfl (sv (EV.fa 2 rfl) rfl (sv (EV.ld 1 none rfl rfl rfl) rfl (sv (EV.ln rfl) rfl (sv (EV.add rfl rfl) rfl (sv (EV.as rfl) rfl (re (pr [1, 3, 4, 24, 25, 26, 34, 35, 36, 37, 38, 39, 40, 41] [0, 1] [0, 1, 2, 3, 4] rfl rfl rfl rfl (ge (rg (sv (EV.add rfl rfl) rfl (sv (EV.mv rfl) rfl (re (wk [1, 3, 4, 24, 25, 26] [0] [⟨0, 0, 0, false⟩] (ih0 _ (by omega) _ ⟨wrap64 (x2_3 + (((rd_T27 l0_0 x2_26).f1).length : Int)), wrap64 (x2_4 + (((rd_T27 l0_0 x2_26).f2).length : Int)), x2_25, wrap64 (x2_26 + 1), x2_1_1, x2_1_2, H, rfl⟩)))))))))))))))))))))))))))
      ·
       refine gt rfl (nT c15) (gs (rg (sv (EV.as rfl) rfl (re (pr [2] [] [] rfl rfl rfl rfl ?_)))))
       cases H
       exact rt Try.func91 rfl (.tmp rfl .nil) rfl [] [] rfl rfl rfl rfl rfl ⟨rfl, rfl, rfl⟩
     ·
      obtain rfl := bF c13
      refine ts 33 rfl rfl (xk 4 [0, 1] [0, 1, 2, 3, 4] rfl rfl rfl rfl rfl (xk 5 [0, 1] [0, 1, 2, 3, 4] rfl rfl rfl rfl rfl (xk 6 [0, 1] [0, 1, 2, 3, 4] rfl rfl rfl rfl rfl (xk 7 [0, 1] [0, 1, 2, 3, 4] rfl rfl rfl rfl rfl (xk 8 [0, 1] [0, 1, 2, 3, 4] rfl rfl rfl rfl rfl (xk 9 [0, 1] [0, 1, 2, 3, 4] rfl rfl rfl rfl rfl (xk 10 [0, 1] [0, 1, 2, 3, 4] rfl rfl rfl rfl rfl (xk 11 [0, 1] [0, 1, 2, 3, 4] rfl rfl rfl rfl rfl (xv 12 [0, 1] [0, 1, 2, 3, 4] rfl (EV.pt rfl rfl rfl) rfl rfl rfl rfl (xd (pr [1, 3, 4, 6, 24, 25, 26, 42] [0, 1] [0, 1, 2, 3, 4] rfl rfl rfl rfl (gt rfl rfl (gs (rg (sv (EV.as rfl) rfl (re (pr [2] [] [] rfl rfl rfl rfl ?_)))))))))))))))))
      cases H
      exact rt Try.func91 rfl (.tmp rfl .nil) rfl [] [] rfl rfl rfl rfl rfl ⟨rfl, rfl, rfl⟩
    ·
     refine gf rfl (dF c6) (gx rfl (gs (rg (sv (EV.mv rfl) rfl (sv (EV.leq rfl rfl) rfl (sv (EV.mv rfl) rfl ?_))))))
     revert H; refine ifsI ?_ ?_ <;> intro c16 H
     ·
      refine ts 56 rfl (dT c16) (sv (EV.mv rfl) rfl (sv (EV.leq rfl rfl) rfl (sv (EV.pt rfl rfl rfl) rfl (sv (EV.as rfl) rfl (re (pr [2] [] [] rfl rfl rfl rfl ?_))))))
      cases H
      exact rt Try.func91 rfl (.tmp rfl .nil) rfl [] [] rfl rfl rfl rfl rfl ⟨rfl, rfl, rfl⟩
     ·
      refine ts 56 rfl (dF c16) (sk rfl (sk rfl (sv (EV.pf rfl rfl rfl) rfl (sv (EV.as rfl) rfl (re (pr [2] [] [] rfl rfl rfl rfl ?_))))))
      cases H
      exact rt Try.func91 rfl (.tmp rfl .nil) rfl [] [] rfl rfl rfl rfl rfl ⟨rfl, rfl, rfl⟩
   ·
    obtain rfl := bF c5
    refine gt rfl rfl (gs (rg (sv (EV.as rfl) rfl (re ?_))))
    cases H
    exact rt Try.func91 rfl (.tmp rfl .nil) rfl [] [] rfl rfl rfl rfl rfl ⟨rfl, rfl, rfl⟩
  ·
   obtain rfl := bF c3
   refine ts 17 rfl rfl (sk rfl (sk rfl (sk rfl (sk rfl (sv (EV.pt rfl rfl rfl) rfl (re (pr [1, 22] [0] [0] rfl rfl rfl rfl (gt rfl rfl (gs (rg (sv (EV.as rfl) rfl (re ?_))))))))))))
   cases H
   exact rt Try.func91 rfl (.tmp rfl .nil) rfl [] [] rfl rfl rfl rfl rfl ⟨rfl, rfl, rfl⟩
def impl_isGrant.f (a0 : Int) : Option (Bool) := (impl_within.f a0 8 60).bind fun t1 => (some t1)
set_option maxHeartbeats 4000000 in
set_option maxRecDepth 100000 in
theorem impl_isGrant.ok (a0 : Int) (r0 : Bool) (H : impl_isGrant.f a0 = some r0) : Fn Try.prog 117 [.int .i64 a0] [] [] (fun v bx en => v = .bool r0 ∧ bx = [] ∧ en = []) := by
 refine fn_ 5 Try.func117 rfl rfl rfl (fun base T w0 => ?_)
 rw [impl_isGrant.f] at H
 refine gs (rg (sv (EV.as rfl) rfl (re (gs (rg (sv (EV.mv rfl) rfl ?_))))))
 revert H; refine bdI ?_; rintro t1 A1 H
 refine so rfl (op_call (impl_within.ok a0 8 60 _ A1) [] 1 rfl rfl rfl rfl rfl ?_)
 rintro _ _ _ ⟨rfl, rfl, rfl⟩
 refine sv (EV.as rfl) rfl (re ?_)
 cases H
 exact rt Try.func117 rfl (.tmp rfl .nil) rfl [] [] rfl rfl rfl rfl rfl ⟨rfl, rfl, rfl⟩
def impl_areGrants.l0 : Nat → Int → Int → (List Int) → Option (Bool)
 | 0, _, _, _ => none
 | k + 1, x2_6, x2_7, l0 => if x2_7 < x2_6 then (if 0 ≤ x2_7 then (if x2_7 < (l0.length : Int) then ((impl_isGrant.f (rdOf 0 l0 x2_7)).bind fun t4 => (if t4 = true then (impl_areGrants.l0 k x2_6 (wrap64 (x2_7 + 1)) l0) else (some false))) else none) else none) else (some (decide ((l0.length : Int) > 0)))
def impl_areGrants.f (k : Nat) (l0 : List Int) : Option (Bool) := impl_areGrants.l0 k (l0.length : Int) 0 l0
set_option maxHeartbeats 4000000 in
set_option maxRecDepth 100000 in
theorem impl_areGrants.ok (k : Nat) (l0 : List Int) (Al0 : Option Addr) (cl0 : Nat) (r0 : Bool) (H : impl_areGrants.f k l0 = some r0) : Fn Try.prog 92 [.slice Al0 l0.length cl0] [] [.sl 0 (.int .i64) Al0 cl0 l0 0 false] (fun v bx en => v = .bool r0 ∧ bx = [] ∧ en = []) := by
 refine fn_ 18 Try.func92 rfl rfl rfl (fun base T w0 => ?_)
 rw [impl_areGrants.f] at H
 refine gs (rg (sv (EV.as rfl) rfl (re (gs (gs (rg (sv (EV.mv rfl) rfl (sv (EV.ln rfl) rfl (sv (EV.mv rfl) rfl (re (gb ?_)))))))))))
 refine lo (fun kk S => ∃ (x2_6 : Int) (x2_7 : Int), impl_areGrants.l0 kk x2_6 x2_7 l0 = some r0 ∧ S = ⟨[(0, .slice Al0 l0.length cl0), (5, .slice Al0 l0.length cl0), (6, .int .i64 x2_6), (7, .int .i64 x2_7)], [], [.sl 0 (.int .i64) Al0 cl0 l0 0 false]⟩) (fun S hS => ?_) (fun n0 ih0 S hS => ?_) ⟨(l0.length : Int), 0, H, rfl⟩ (fun h => wk [0, 5, 6, 7] [] [⟨0, 0, 0, false⟩] h)
 · clear H; obtain ⟨_, _, H, _⟩ := hS; rw [impl_areGrants.l0] at H; cases H
 clear H
 obtain ⟨x2_6, x2_7, H, rfl⟩ := hS
 rw [impl_areGrants.l0] at H
 refine gs (rg (sv (EV.lss rfl rfl) rfl (re (gs ?_))))
 revert H; refine ifsI ?_ ?_ <;> intro c1 H
 ·
  refine gt rfl (dT c1) (gk (gs (gb (gs (rg ?_)))))
  revert H; refine ggI ?_; intro g2 H
  revert H; refine ggI ?_; intro g3 H
  refine sv (EV.ix 0 rfl rfl rfl g2 g3 rfl) rfl (sv (EV.le (v := .int .i64 (rdOf 0 l0 x2_7)) x2_7 0 none 0 0 rfl rfl rfl g2 g3 rfl rfl rfl) rfl (sv (EV.as rfl) rfl (re (gs (rg (sv (EV.mv rfl) rfl ?_))))))
  revert H; refine bdI ?_; rintro t4 A4 H
  refine so rfl (op_call (impl_isGrant.ok (rdOf 0 l0 x2_7) _ A4) [] 1 rfl rfl rfl rfl rfl ?_)
  rintro _ _ _ ⟨rfl, rfl, rfl⟩
  refine sv (EV.nt rfl) rfl (re (pr [0, 5, 6, 7, 13] [] [0] rfl rfl rfl rfl ?_))
  revert H; refine ifsI ?_ ?_ <;> intro c5 H
  ·
   subst c5
   exact gf rfl rfl (gk (ge (rg (sv (EV.add rfl rfl) rfl (sv (EV.mv rfl) rfl (re (wk [0, 5, 6, 7] [] [⟨0, 0, 0, false⟩] (ih0 _ (by omega) _ ⟨x2_6, wrap64 (x2_7 + 1), H, rfl⟩))))))))
  ·
   obtain rfl := bF c5
   refine gt rfl rfl (gs (rg (sv (EV.as rfl) rfl (re ?_))))
   cases H
   exact rt Try.func92 rfl (.tmp rfl .nil) rfl [] [] rfl rfl rfl rfl rfl ⟨rfl, rfl, rfl⟩
 ·
  refine gf rfl (dF c1) (gx rfl (gs (rg (sv (EV.mv rfl) rfl (sv (EV.ln rfl) rfl (sv (EV.gtr rfl rfl) rfl (sv (EV.as rfl) rfl (re (pr [2] [] [] rfl rfl rfl rfl ?_)))))))))
  cases H
  exact rt Try.func92 rfl (.tmp rfl .nil) rfl [] [] rfl rfl rfl rfl rfl ⟨rfl, rfl, rfl⟩
mutual
def impl_UnmatchedRows.l0 : Nat → (List S151) → Int → Int → Int → Int → (List S99) → (List S99) → (List Bool) → Option ((List S151))
 | 0, _, _, _, _, _, _, _, _ => none
 | k + 1, x3_3, x3_22, x3_23, x3_1_0, x3_1_4, l0_1, l0_2, l0_3 => if x3_23 < x3_22 then (if 0 ≤ x3_23 then (if x3_23 < (l0_1.length : Int) then (if x3_23 < (l0_3.length : Int) then (if (rdOf false l0_3 x3_23) = true then (impl_UnmatchedRows.l0 k x3_3 x3_22 (wrap64 (x3_23 + 1)) x3_1_0 x3_1_4 l0_1 l0_2 l0_3) else (if x3_3.length < 2513169434916 then (impl_UnmatchedRows.l0 k (x3_3 ++ ([(⟨(⟨(rd_T99 l0_1 x3_23).f0, (rd_T99 l0_1 x3_23).f1, (rd_T99 l0_1 x3_23).f2⟩ : S99), (⟨0, 0, 0⟩ : S99), false⟩ : S151)] : List S151)) x3_22 (wrap64 (x3_23 + 1)) x3_1_0 x3_1_4 l0_1 l0_2 l0_3) else none)) else none) else none) else none) else (some x3_3)
def impl_UnmatchedRows.j0 : Nat → Int → Int → (List S99) → (List S99) → (List Bool) → Option ((List S151))
 | 0, _, _, _, _, _ => none
 | k + 1, x1_1_0, x1_1_4, l0_1, l0_2, l0_3 => impl_UnmatchedRows.l0 k [] (l0_1.length : Int) 0 x1_1_0 x1_1_4 l0_1 l0_2 l0_3
end
def impl_UnmatchedRows.f (k : Nat) (a0_0 : Int) (l0_1 : List S99) (l0_2 : List S99) (l0_3 : List Bool) (a0_4 : Int) : Option ((List S151)) := (impl_IsValidTask.f k a0_0 l0_1 l0_2 l0_3 a0_4).bind fun t11 => (if t11 = true then (if a0_0 = 3 then (impl_UnmatchedRows.j0 k a0_0 a0_4 l0_1 l0_2 l0_3) else (if a0_0 = 4 then (impl_UnmatchedRows.j0 k a0_0 a0_4 l0_1 l0_2 l0_3) else (some []))) else (some []))
set_option maxHeartbeats 4000000 in
set_option maxRecDepth 100000 in
theorem impl_UnmatchedRows.ok (k : Nat) (a0_0 : Int) (l0_1 : List S99) (Al0_1 : Option Addr) (cl0_1 : Nat) (l0_2 : List S99) (Al0_2 : Option Addr) (cl0_2 : Nat) (l0_3 : List Bool) (Al0_3 : Option Addr) (cl0_3 : Nat) (a0_4 : Int) (r0 : List S151) (H : impl_UnmatchedRows.f k a0_0 l0_1 l0_2 l0_3 a0_4 = some r0) : Fn Try.prog 134 [.agg #[.int .i64 a0_0, .slice Al0_1 l0_1.length cl0_1, .slice Al0_2 l0_2.length cl0_2, .slice Al0_3 l0_3.length cl0_3, .int .i64 a0_4]] [] [.sl 0 k99 Al0_1 cl0_1 l0_1 0 false, .sl 0 k99 Al0_2 cl0_2 l0_2 0 false, .sl 0 .bool Al0_3 cl0_3 l0_3 0 false] (fun v bx en => ∃ A0 c0, v = .slice A0 r0.length c0 ∧ bx = [] ∧ en = [.sl 2 k151 A0 c0 r0 1 true]) := by
 refine fn_ 41 Try.func134 rfl rfl rfl (fun base T w0 => ?_)
 rw [impl_UnmatchedRows.f] at H
 refine gs (rg (so rfl (op_box (cs := [.int .i64 a0_0, .slice Al0_1 l0_1.length cl0_1, .slice Al0_2 l0_2.length cl0_2, .slice Al0_3 l0_3.length cl0_3, .int .i64 a0_4]) rfl rfl rfl fun b1 => (sv (EV.as rfl) rfl (re ?_)))))
 refine jo (fun S => ∃ (m : Nat) (x1_1_0 : Int) (x1_1_4 : Int), impl_UnmatchedRows.j0 m x1_1_0 x1_1_4 l0_1 l0_2 l0_3 = some r0 ∧ S = ⟨[(1, .pointer (some ⟨b1, 0, none⟩))], [⟨b1, 27, [.int .i64 x1_1_0, .slice Al0_1 l0_1.length cl0_1, .slice Al0_2 l0_2.length cl0_2, .slice Al0_3 l0_3.length cl0_3, .int .i64 x1_1_4]⟩], [.sl 0 k99 Al0_1 cl0_1 l0_1 0 false, .sl 0 k99 Al0_2 cl0_2 l0_2 0 false, .sl 0 .bool Al0_3 cl0_3 l0_3 0 false]⟩) (fun S hS => ?_) (fun jh0 => ?_)
 ·
  clear H
  obtain ⟨m1, x1_1_0, x1_1_4, H, rfl⟩ := hS
  rcases m1 with _ | m1
  · rw [impl_UnmatchedRows.j0] at H; cases H
  rw [impl_UnmatchedRows.j0] at H
  refine gs (rg (so rfl (op_lit (s := 7) (by_ := 56) k151 ([] : List S151) [] [] 1 [] rfl rfl rfl rfl rfl rfl rfl rfl rfl rfl rfl rfl rfl dq rfl fun A19_2 c19_2 => (sv (EV.as rfl) rfl (re (gs (gs (rg (sv (EV.fa 1 rfl) rfl (sv (EV.ld 0 none rfl rfl rfl) rfl (sv (EV.ln rfl) rfl (sv (EV.mv rfl) rfl (re (gb ?_))))))))))))))
  refine lo (fun kk S => ∃ (x3_3 : List S151) (Ax3_3 : Option Addr) (cx3_3 : Nat) (x3_22 : Int) (x3_23 : Int) (x3_1_0 : Int) (x3_1_4 : Int), kk ≤ m1 ∧ impl_UnmatchedRows.l0 kk x3_3 x3_22 x3_23 x3_1_0 x3_1_4 l0_1 l0_2 l0_3 = some r0 ∧ S = ⟨[(1, .pointer (some ⟨b1, 0, none⟩)), (3, .slice Ax3_3 x3_3.length cx3_3), (21, .slice Al0_1 l0_1.length cl0_1), (22, .int .i64 x3_22), (23, .int .i64 x3_23)], [⟨b1, 27, [.int .i64 x3_1_0, .slice Al0_1 l0_1.length cl0_1, .slice Al0_2 l0_2.length cl0_2, .slice Al0_3 l0_3.length cl0_3, .int .i64 x3_1_4]⟩], [.sl 2 k151 Ax3_3 cx3_3 x3_3 1 true, .sl 0 k99 Al0_1 cl0_1 l0_1 0 false, .sl 0 k99 Al0_2 cl0_2 l0_2 0 false, .sl 0 .bool Al0_3 cl0_3 l0_3 0 false]⟩) (fun S hS => ?_) (fun n0 ih0 S hS => ?_) ⟨[], A19_2, c19_2, (l0_1.length : Int), 0, x1_1_0, x1_1_4, by omega, H, rfl⟩ (fun h => wk [1, 3, 21, 22, 23] [0] [⟨3, 2, 1, true⟩, ⟨0, 0, 0, false⟩, ⟨1, 0, 0, false⟩, ⟨2, 0, 0, false⟩] h)
  · clear H; obtain ⟨_, _, _, _, _, _, _, _, H, _⟩ := hS; rw [impl_UnmatchedRows.l0] at H; cases H
  clear H
  obtain ⟨x3_3, Ax3_3, cx3_3, x3_22, x3_23, x3_1_0, x3_1_4, lk0, H, rfl⟩ := hS
  rw [impl_UnmatchedRows.l0] at H
  refine gs (rg (sv (EV.lss rfl rfl) rfl (re (gs ?_))))
  revert H; refine ifsI ?_ ?_ <;> intro c3 H
  ·
   refine gt rfl (dT c3) (gk (gs (gb (gs (rg (sv (EV.mv rfl) rfl ?_))))))
   revert H; refine ggI ?_; intro g4 H
   revert H; refine ggI ?_; intro g5 H
   refine sv (EV.ix 1 rfl rfl rfl g4 g5 rfl) rfl (sv (EV.le (v := .agg #[.int .i64 ((rd_T99 l0_1 x3_23).f0), .int .i64 ((rd_T99 l0_1 x3_23).f1), .int .i64 ((rd_T99 l0_1 x3_23).f2)]) x3_23 0 (some 3) 1 z99 rfl rfl rfl g4 g5 rfl rfl rfl) rfl (so rfl (op_alloc (cs := [.int .i64 0, .int .i64 0, .int .i64 0]) (by kernel_rfl) rfl fun b5 => (sv (EV.as rfl) rfl (so rfl (op_st (cs' := [.int .i64 ((rd_T99 l0_1 x3_23).f0), .int .i64 ((rd_T99 l0_1 x3_23).f1), .int .i64 ((rd_T99 l0_1 x3_23).f2)]) 1 rfl rfl rfl rfl rfl rfl (re (gs (rg (sv (EV.fa 3 rfl) rfl (sv (EV.ld 0 none rfl rfl rfl) rfl (sv (EV.mv rfl) rfl ?_))))))))))))
   revert H; refine ggI ?_; intro g6 H
   refine sv (EV.ix 3 rfl rfl rfl g4 g6 rfl) rfl (sv (EV.le (v := .bool (rdOf false l0_3 x3_23)) x3_23 0 none 3 false rfl rfl rfl g4 g6 rfl rfl rfl) rfl (sv (EV.nt rfl) rfl (re (pr [1, 3, 5, 21, 22, 23, 33] [0, 1] [0, 1, 2, 3] rfl rfl rfl rfl ?_))))
   revert H; refine ifsI ?_ ?_ <;> intro c7 H
   ·
    exact gf rfl (bN c7) (gk (ge (rg (sv (EV.add rfl rfl) rfl (sv (EV.mv rfl) rfl (re (wk [1, 3, 21, 22, 23] [0] [⟨0, 2, 1, true⟩, ⟨1, 0, 0, false⟩, ⟨2, 0, 0, false⟩, ⟨3, 0, 0, false⟩] (ih0 _ (by omega) _ ⟨x3_3, Ax3_3, cx3_3, x3_22, wrap64 (x3_23 + 1), x3_1_0, x3_1_4, by omega, H, rfl⟩))))))))
   ·
    refine gt rfl (bM c7) (rg (sv (EV.mv rfl) rfl (sv (EV.ld (v := .agg #[.int .i64 ((rd_T99 l0_1 x3_23).f0), .int .i64 ((rd_T99 l0_1 x3_23).f1), .int .i64 ((rd_T99 l0_1 x3_23).f2)]) 1 (some 3) rfl rfl rfl) rfl (sv (EV.bd (v := .agg #[.int .i64 ((rd_T99 l0_1 x3_23).f0), .int .i64 ((rd_T99 l0_1 x3_23).f1), .int .i64 ((rd_T99 l0_1 x3_23).f2), .int .i64 0, .int .i64 0, .int .i64 0, .bool false]) rfl (by kernel_rfl)) rfl (so rfl (op_lit (s := 7) (by_ := 56) k151 ([(⟨(⟨(rd_T99 l0_1 x3_23).f0, (rd_T99 l0_1 x3_23).f1, (rd_T99 l0_1 x3_23).f2⟩ : S99), (⟨0, 0, 0⟩ : S99), false⟩ : S151)] : List S151) [[]] [] 2 [.tmp 36] rfl rfl rfl rfl rfl rfl rfl rfl rfl rfl rfl rfl rfl dq rfl fun A37_8 c37_8 => ?_))))))
    revert H; refine ggI ?_; intro g9 H
    exact so rfl (op_app (k := k151) (s := 7) (by_ := 56) 0 4 rfl rfl rfl rfl (ap1 g9 dq) (ap1n g9 dq) (.inl rfl) true (fun _ => .inl rfl) rfl rfl fun A38_10 c38_10 => (nmE (en := [.sl 0 k99 Al0_1 cl0_1 l0_1 0 false, .sl 0 k99 Al0_2 cl0_2 l0_2 0 false, .sl 0 .bool Al0_3 cl0_3 l0_3 0 false, .sl 2 k151 A37_8 c37_8 ([(⟨(⟨(rd_T99 l0_1 x3_23).f0, (rd_T99 l0_1 x3_23).f1, (rd_T99 l0_1 x3_23).f2⟩ : S99), (⟨0, 0, 0⟩ : S99), false⟩ : S151)] : List S151) 2 true, .sl 2 k151 A38_10 c38_10 (x3_3 ++ ([(⟨(⟨(rd_T99 l0_1 x3_23).f0, (rd_T99 l0_1 x3_23).f1, (rd_T99 l0_1 x3_23).f2⟩ : S99), (⟨0, 0, 0⟩ : S99), false⟩ : S151)] : List S151)) 1 true]) (by kernel_rfl) (sv (EV.as rfl) rfl (re (pr [1, 3, 21, 22, 23] [0] [0, 1, 2, 4] rfl rfl rfl rfl (ge (rg (sv (EV.add rfl rfl) rfl (sv (EV.mv rfl) rfl (re (wk [1, 3, 21, 22, 23] [0] [⟨3, 2, 1, true⟩, ⟨0, 0, 0, false⟩, ⟨1, 0, 0, false⟩, ⟨2, 0, 0, false⟩] (ih0 _ (by omega) _ ⟨x3_3 ++ ([(⟨(⟨(rd_T99 l0_1 x3_23).f0, (rd_T99 l0_1 x3_23).f1, (rd_T99 l0_1 x3_23).f2⟩ : S99), (⟨0, 0, 0⟩ : S99), false⟩ : S151)] : List S151), A38_10, c38_10, x3_22, wrap64 (x3_23 + 1), x3_1_0, x3_1_4, by omega, H, rfl⟩))))))))))))
  ·
   refine gf rfl (dF c3) (gx rfl (gs (rg (sv (EV.mv rfl) rfl (sv (EV.as rfl) rfl (re (pr [2] [] [0] rfl rfl rfl rfl ?_)))))))
   cases H
   exact rt Try.func134 rfl (.tmp rfl .nil) rfl [] [⟨0, 2, 1, true⟩] rfl rfl rfl rfl rfl ⟨_, _, rfl, rfl, rfl⟩
 ·
  refine gs (rg (sv (EV.ld (v := .agg #[.int .i64 a0_0, .slice Al0_1 l0_1.length cl0_1, .slice Al0_2 l0_2.length cl0_2, .slice Al0_3 l0_3.length cl0_3, .int .i64 a0_4]) 0 (some 5) rfl rfl rfl) rfl ?_))
  revert H; refine bdI ?_; rintro t11 A11 H
  refine so rfl (op_call (impl_IsValidTask.ok k a0_0 l0_1 Al0_1 cl0_1 l0_2 Al0_2 cl0_2 l0_3 Al0_3 cl0_3 a0_4 _ A11) [⟨0, 0, 0, false⟩, ⟨1, 0, 0, false⟩, ⟨2, 0, 0, false⟩] 1 rfl rfl rfl rfl rfl ?_)
  rintro _ _ _ ⟨rfl, rfl, rfl⟩
  refine sv (EV.nt rfl) rfl (sv (EV.mv rfl) rfl ?_)
  revert H; refine ifsI ?_ ?_ <;> intro c12 H
  ·
   subst c12
   refine ts 9 rfl rfl (sv (EV.fa 0 rfl) rfl (sv (EV.ld 0 none rfl rfl rfl) rfl (sv (EV.neq rfl rfl) rfl (sv (EV.mv rfl) rfl ?_))))
   revert H; refine ifsI ?_ ?_ <;> intro c13 H
   ·
    exact ts 13 rfl (nF c13) (sk rfl (sk rfl (sk rfl (sv (EV.pf rfl rfl rfl) rfl (sv (EV.pf rfl rfl rfl) rfl (re (pr [1, 18] [0] [0, 1, 2] rfl rfl rfl rfl (gf rfl rfl (gk (wk [1] [0] [⟨0, 0, 0, false⟩, ⟨1, 0, 0, false⟩, ⟨2, 0, 0, false⟩] (jh0 _ ⟨_, a0_0, a0_4, H, rfl⟩)))))))))))
   ·
    refine ts 13 rfl (nT c13) (sv (EV.fa 0 rfl) rfl (sv (EV.ld 0 none rfl rfl rfl) rfl (sv (EV.neq rfl rfl) rfl (sv (EV.pt rfl rfl rfl) rfl (sv (EV.pf rfl rfl rfl) rfl (re (pr [1, 18] [0] [0, 1, 2] rfl rfl rfl rfl ?_)))))))
    revert H; refine ifsI ?_ ?_ <;> intro c14 H
    ·
     exact gf rfl (nF c14) (gk (wk [1] [0] [⟨0, 0, 0, false⟩, ⟨1, 0, 0, false⟩, ⟨2, 0, 0, false⟩] (jh0 _ ⟨_, a0_0, a0_4, H, rfl⟩)))
    ·
     refine gt rfl (nT c14) (gs (rg (sv (EV.as rfl) rfl (re (nil_ k151 1 dq ?_)))))
     cases H
     exact rt Try.func134 rfl (.tmp rfl .nil) rfl [] [⟨3, 2, 1, true⟩] rfl rfl rfl rfl rfl ⟨_, _, rfl, rfl, rfl⟩
  ·
   obtain rfl := bF c12
   refine ts 9 rfl rfl (sk rfl (sk rfl (sk rfl (sk rfl (sk rfl (sk rfl (sk rfl (sk rfl (sv (EV.pt rfl rfl rfl) rfl (re (pr [1, 18] [0] [0, 1, 2] rfl rfl rfl rfl (gt rfl rfl (gs (rg (sv (EV.as rfl) rfl (re (nil_ k151 1 dq ?_)))))))))))))))))
   cases H
   exact rt Try.func134 rfl (.tmp rfl .nil) rfl [] [⟨3, 2, 1, true⟩] rfl rfl rfl rfl rfl ⟨_, _, rfl, rfl, rfl⟩
def impl_clone.f (l0 : List S99) : Option ((List S99)) := if l0.length ≤ 5864062014805 then (some l0) else none
set_option maxHeartbeats 4000000 in
set_option maxRecDepth 100000 in
theorem impl_clone.ok (l0 : List S99) (Al0 : Option Addr) (cl0 : Nat) (r0 : List S99) (H : impl_clone.f l0 = some r0) : Fn Try.prog 75 [.slice Al0 l0.length cl0] [] [.sl 0 k99 Al0 cl0 l0 0 false] (fun v bx en => ∃ A0 c0, v = .slice A0 r0.length c0 ∧ bx = [] ∧ en = [.sl 2 k99 A0 c0 r0 1 true]) := by
 refine fn_ 5 Try.func75 rfl rfl rfl (fun base T w0 => ?_)
 rw [impl_clone.f] at H
 refine gs (rg (sv (EV.as rfl) rfl (re (gs (rg (sv (EV.mv rfl) rfl (nil_ k99 1 dq ?_)))))))
 revert H; refine ggI ?_; intro g1 H
 refine so rfl (op_app (k := k99) (s := 3) (by_ := 24) 1 0 rfl rfl rfl rfl (ap0 g1 dq) (ap0n g1 dq) (.inl rfl) true (fun _ => .inl rfl) rfl rfl fun A4_2 c4_2 => (nmE (en := [.sl 0 k99 Al0 cl0 l0 0 false, .sl 2 k99 A4_2 c4_2 l0 1 true]) (by kernel_rfl) (sv (EV.as rfl) rfl (re ?_))))
 cases H
 exact rt Try.func75 rfl (.tmp rfl .nil) rfl [] [⟨1, 2, 1, true⟩] rfl rfl rfl rfl rfl ⟨_, _, rfl, rfl, rfl⟩
def impl_cloneTask.f (a0_0 : Int) (l0_1 : List S99) (l0_2 : List S99) (l0_3 : List Bool) (a0_4 : Int) : Option (Int × (List S99) × (List S99) × (List Bool) × Int) := if l0_3.length ≤ 140737488355328 then ((impl_clone.f l0_1).bind fun t2 => ((impl_clone.f l0_2).bind fun t3 => (some (a0_0, t2, t3, l0_3, a0_4)))) else none
set_option maxHeartbeats 4000000 in
set_option maxRecDepth 100000 in
theorem impl_cloneTask.ok (a0_0 : Int) (l0_1 : List S99) (Al0_1 : Option Addr) (cl0_1 : Nat) (l0_2 : List S99) (Al0_2 : Option Addr) (cl0_2 : Nat) (l0_3 : List Bool) (Al0_3 : Option Addr) (cl0_3 : Nat) (a0_4 : Int) (r0 : Int) (r1 : List S99) (r2 : List S99) (r3 : List Bool) (r4 : Int) (H : impl_cloneTask.f a0_0 l0_1 l0_2 l0_3 a0_4 = some (r0, r1, r2, r3, r4)) : Fn Try.prog 140 [.agg #[.int .i64 a0_0, .slice Al0_1 l0_1.length cl0_1, .slice Al0_2 l0_2.length cl0_2, .slice Al0_3 l0_3.length cl0_3, .int .i64 a0_4]] [] [.sl 0 k99 Al0_1 cl0_1 l0_1 0 false, .sl 0 k99 Al0_2 cl0_2 l0_2 0 false, .sl 0 .bool Al0_3 cl0_3 l0_3 0 false] (fun v bx en => ∃ A1 c1 A2 c2 A3 c3, v = .agg #[.int .i64 r0, .slice A1 r1.length c1, .slice A2 r2.length c2, .slice A3 r3.length c3, .int .i64 r4] ∧ bx = [] ∧ en = [.sl 2 k99 A1 c1 r1 1 true, .sl 2 k99 A2 c2 r2 2 true, .sl 2 .bool A3 c3 r3 3 true]) := by
 refine fn_ 16 Try.func140 rfl rfl rfl (fun base T w0 => ?_)
 rw [impl_cloneTask.f] at H
 refine gs (rg (so rfl (op_box (cs := [.int .i64 a0_0, .slice Al0_1 l0_1.length cl0_1, .slice Al0_2 l0_2.length cl0_2, .slice Al0_3 l0_3.length cl0_3, .int .i64 a0_4]) rfl rfl rfl fun b1 => (so rfl (op_alloc (cs := [.int .i64 0, .slice none 0 0, .slice none 0 0, .slice none 0 0, .int .i64 0]) (by kernel_rfl) rfl fun b2 => (re (gs ?_)))))))
 revert H; refine ggI ?_; intro g1 H
 refine nil_ .bool 1 dq (dr [0, 1] [0, 1, 2] [10, 11, 12, 13, 14] 15 rfl rfl rfl rfl (xv 0 [0, 1] [0, 1, 2] rfl (EV.fa 1 rfl) rfl rfl rfl rfl (xv 1 [0, 1] [0, 1, 2] rfl (EV.ld 0 none rfl rfl rfl) rfl rfl rfl rfl (xv 3 [0, 1] [0, 1, 2] rfl (EV.fa 2 rfl) rfl rfl rfl rfl (xv 4 [0, 1] [0, 1, 2] rfl (EV.ld 0 none rfl rfl rfl) rfl rfl rfl rfl (xv 6 [0, 1] [0, 1, 2] rfl (EV.fa 3 rfl) rfl rfl rfl rfl (xv 7 [0, 1] [0, 1, 2] rfl (EV.ld 0 none rfl rfl rfl) rfl rfl rfl rfl (one1 2 rfl rfl ?_))))))))
 revert H; refine bdI ?_; rintro t2 A2 H
 refine op_call (impl_clone.ok l0_1 Al0_1 cl0_1 _ A2) [⟨0, 0, 0, false⟩] 2 rfl rfl rfl rfl rfl ?_
 rintro _ _ _ ⟨At2, ct2, rfl, rfl, rfl⟩
 refine xs [0, 1] [0, 1, 2] rfl rfl rfl (xv 9 [0, 1] [0, 1, 2] rfl (EV.fa 1 rfl) rfl rfl rfl rfl (one1 5 rfl rfl ?_))
 revert H; refine bdI ?_; rintro t3 A3 H
 refine op_call (impl_clone.ok l0_2 Al0_2 cl0_2 _ A3) [⟨1, 0, 0, false⟩] 4 rfl rfl rfl rfl rfl ?_
 rintro _ _ _ ⟨At3, ct3, rfl, rfl, rfl⟩
 refine xs [0, 1] [0, 1, 2] rfl rfl rfl (one1 8 rfl rfl (op_app (k := .bool) (s := 1) (by_ := 1) 3 2 rfl rfl rfl rfl (ap0 g1 dq) (ap0n g1 dq) (.inl rfl) true (fun _ => .inl rfl) rfl rfl fun A11_4 c11_4 => (nmE (en := [.sl 0 k99 Al0_1 cl0_1 l0_1 0 false, .sl 0 k99 Al0_2 cl0_2 l0_2 0 false, .sl 0 .bool Al0_3 cl0_3 l0_3 0 false, .sl 2 k99 At2 ct2 t2 3 true, .sl 2 k99 At3 ct3 t3 5 true, .sl 2 .bool A11_4 c11_4 l0_3 1 true]) (by kernel_rfl) (xs [0, 1] [0, 1, 2] rfl rfl rfl (one1 10 rfl rfl (op_st (cs' := [.int .i64 a0_0, .slice At2 t2.length ct2, .slice Al0_2 l0_2.length cl0_2, .slice Al0_3 l0_3.length cl0_3, .int .i64 a0_4]) 0 rfl rfl rfl rfl rfl rfl (xn rfl (one1 11 rfl rfl (ov (EV.fa 2 rfl) rfl (xn rfl (one1 12 rfl rfl (op_st (cs' := [.int .i64 a0_0, .slice At2 t2.length ct2, .slice At3 t3.length ct3, .slice Al0_3 l0_3.length cl0_3, .int .i64 a0_4]) 0 rfl rfl rfl rfl rfl rfl (xn rfl (one1 13 rfl rfl (ov (EV.fa 3 rfl) rfl (xn rfl (one1 14 rfl rfl (op_st (cs' := [.int .i64 a0_0, .slice At2 t2.length ct2, .slice At3 t3.length ct3, .slice A11_4 l0_3.length c11_4, .int .i64 a0_4]) 0 rfl rfl rfl rfl rfl rfl (xn rfl (xd (pr [1, 2] [0, 1] [3, 4, 5] rfl rfl rfl rfl (gs (rg (sv (EV.ld (v := .agg #[.int .i64 a0_0, .slice At2 t2.length ct2, .slice At3 t3.length ct3, .slice A11_4 l0_3.length c11_4, .int .i64 a0_4]) 0 (some 5) rfl rfl rfl) rfl (so rfl (op_st (cs' := [.int .i64 a0_0, .slice At2 t2.length ct2, .slice At3 t3.length ct3, .slice A11_4 l0_3.length c11_4, .int .i64 a0_4]) 1 rfl rfl rfl rfl rfl rfl (re ?_)))))))))))))))))))))))))))
 cases H
 exact rt Try.func140 rfl (.cell 1 (some 5) rfl rfl rfl .nil) rfl [] [⟨0, 2, 1, true⟩, ⟨1, 2, 2, true⟩, ⟨2, 2, 3, true⟩] rfl rfl rfl rfl rfl ⟨_, _, _, _, _, _, rfl, rfl, rfl⟩
def impl_CountMatches.l0 : Nat → Int → Int → Int → Int → Int → Int → (List S99) → Option (Int)
 | 0, _, _, _, _, _, _, _ => none
 | k + 1, x2_5, x2_9, x2_10, x2_2_0, x2_2_1, x2_2_2, l1 => if x2_10 < x2_9 then (if 0 ≤ x2_10 then (if x2_10 < (l1.length : Int) then (if ((rd_T99 l1 x2_10).f0) = x2_2_0 then (impl_CountMatches.l0 k (wrap64 (x2_5 + 1)) x2_9 (wrap64 (x2_10 + 1)) x2_2_0 x2_2_1 x2_2_2 l1) else (impl_CountMatches.l0 k x2_5 x2_9 (wrap64 (x2_10 + 1)) x2_2_0 x2_2_1 x2_2_2 l1)) else none) else none) else (some x2_5)
def impl_CountMatches.f (k : Nat) (a0_0 : Int) (a0_1 : Int) (a0_2 : Int) (l1 : List S99) : Option (Int) := impl_CountMatches.l0 k 0 (l1.length : Int) 0 a0_0 a0_1 a0_2 l1
set_option maxHeartbeats 4000000 in
set_option maxRecDepth 100000 in
theorem impl_CountMatches.ok (k : Nat) (a0_0 : Int) (a0_1 : Int) (a0_2 : Int) (l1 : List S99) (Al1 : Option Addr) (cl1 : Nat) (r0 : Int) (H : impl_CountMatches.f k a0_0 a0_1 a0_2 l1 = some r0) : Fn Try.prog 147 [.agg #[.int .i64 a0_0, .int .i64 a0_1, .int .i64 a0_2], .slice Al1 l1.length cl1] [] [.sl 0 k99 Al1 cl1 l1 0 false] (fun v bx en => v = .int .i64 r0 ∧ bx = [] ∧ en = []) := by
 refine fn_ 23 Try.func147 rfl rfl rfl (fun base T w0 => ?_)
 rw [impl_CountMatches.f] at H
 refine gs (rg (so rfl (op_box (cs := [.int .i64 a0_0, .int .i64 a0_1, .int .i64 a0_2]) rfl rfl rfl fun b2 => (sv (EV.as rfl) rfl (re (gs (rg (sv (EV.as rfl) rfl (re (gs (gs (rg (sv (EV.mv rfl) rfl (sv (EV.ln rfl) rfl (sv (EV.mv rfl) rfl (re (gb ?_)))))))))))))))))
 refine lo (fun kk S => ∃ (x2_5 : Int) (x2_9 : Int) (x2_10 : Int) (x2_2_0 : Int) (x2_2_1 : Int) (x2_2_2 : Int), impl_CountMatches.l0 kk x2_5 x2_9 x2_10 x2_2_0 x2_2_1 x2_2_2 l1 = some r0 ∧ S = ⟨[(2, .pointer (some ⟨b2, 0, none⟩)), (5, .int .i64 x2_5), (8, .slice Al1 l1.length cl1), (9, .int .i64 x2_9), (10, .int .i64 x2_10)], [⟨b2, 99, [.int .i64 x2_2_0, .int .i64 x2_2_1, .int .i64 x2_2_2]⟩], [.sl 0 k99 Al1 cl1 l1 0 false]⟩) (fun S hS => ?_) (fun n0 ih0 S hS => ?_) ⟨0, (l1.length : Int), 0, a0_0, a0_1, a0_2, H, rfl⟩ (fun h => wk [2, 5, 8, 9, 10] [0] [⟨0, 0, 0, false⟩] h)
 · clear H; obtain ⟨_, _, _, _, _, _, H, _⟩ := hS; rw [impl_CountMatches.l0] at H; cases H
 clear H
 obtain ⟨x2_5, x2_9, x2_10, x2_2_0, x2_2_1, x2_2_2, H, rfl⟩ := hS
 rw [impl_CountMatches.l0] at H
 refine gs (rg (sv (EV.lss rfl rfl) rfl (re (gs ?_))))
 revert H; refine ifsI ?_ ?_ <;> intro c1 H
 ·
  refine gt rfl (dT c1) (gk (gs (gb (gs (rg ?_)))))
  revert H; refine ggI ?_; intro g2 H
  revert H; refine ggI ?_; intro g3 H
  refine sv (EV.ix 0 rfl rfl rfl g2 g3 rfl) rfl (sv (EV.le (v := .agg #[.int .i64 ((rd_T99 l1 x2_10).f0), .int .i64 ((rd_T99 l1 x2_10).f1), .int .i64 ((rd_T99 l1 x2_10).f2)]) x2_10 0 (some 3) 0 z99 rfl rfl rfl g2 g3 rfl rfl rfl) rfl (so rfl (op_alloc (cs := [.int .i64 0, .int .i64 0, .int .i64 0]) (by kernel_rfl) rfl fun b7 => (so rfl (op_st (cs' := [.int .i64 ((rd_T99 l1 x2_10).f0), .int .i64 ((rd_T99 l1 x2_10).f1), .int .i64 ((rd_T99 l1 x2_10).f2)]) 1 rfl rfl rfl rfl rfl rfl (re (gs (rg (sv (EV.fa 0 rfl) rfl (sv (EV.ld 1 none rfl rfl rfl) rfl (sv (EV.fa 0 rfl) rfl (sv (EV.ld 0 none rfl rfl rfl) rfl (sv (EV.eql rfl rfl) rfl (re (pr [2, 5, 8, 9, 10, 18] [0] [0] rfl rfl rfl rfl ?_)))))))))))))))
  revert H; refine ifsI ?_ ?_ <;> intro c4 H
  ·
   exact gt rfl (dT c4) (rg (sv (EV.mv rfl) rfl (sv (EV.add rfl rfl) rfl (sv (EV.as rfl) rfl (re (ge (rg (sv (EV.add rfl rfl) rfl (sv (EV.mv rfl) rfl (re (wk [2, 5, 8, 9, 10] [0] [⟨0, 0, 0, false⟩] (ih0 _ (by omega) _ ⟨wrap64 (x2_5 + 1), x2_9, wrap64 (x2_10 + 1), x2_2_0, x2_2_1, x2_2_2, H, rfl⟩))))))))))))
  ·
   exact gf rfl (dF c4) (gk (ge (rg (sv (EV.add rfl rfl) rfl (sv (EV.mv rfl) rfl (re (wk [2, 5, 8, 9, 10] [0] [⟨0, 0, 0, false⟩] (ih0 _ (by omega) _ ⟨x2_5, x2_9, wrap64 (x2_10 + 1), x2_2_0, x2_2_1, x2_2_2, H, rfl⟩))))))))
 ·
  refine gf rfl (dF c1) (gx rfl (gs (rg (sv (EV.mv rfl) rfl (sv (EV.as rfl) rfl (re (pr [4] [] [] rfl rfl rfl rfl ?_)))))))
  cases H
  exact rt Try.func147 rfl (.tmp rfl .nil) rfl [] [] rfl rfl rfl rfl rfl ⟨rfl, rfl, rfl⟩
end Go.Proofs.Ytamjndlkompeeaa.K
