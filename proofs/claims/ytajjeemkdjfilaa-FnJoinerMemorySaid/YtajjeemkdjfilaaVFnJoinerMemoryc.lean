/- Walks: what the functions compute. Printed by gen.py; no condition. -/
import Derived.Test.YtajjeemkdjfilaaVFnJoinerMemoryb
namespace Go.Proofs.Ytajjeemkdjfilaa.K
open Go Go.RowKit
set_option linter.unusedVariables false
set_option linter.unusedSimpArgs false
def spec_l19Joiner.l0 : Nat → Int → Int → Int → (List S44) → Int → Int → (List S44) → Int → Int → (List Int) → Option ((List S44) × Int × Int × Int × Int)
 | 0, _, _, _, _, _, _, _, _, _, _ => none
 | k + 1, x4_6, x4_1000_1, x4_1000_2, x4_2_0, x4_2_1, x4_2_2, x4_4_0, x4_4_1, x4_4_2, l0_0 => if x4_6 > 0 then ((spec_l1PickInt.f l0_0 x4_1000_1 x4_1000_2 ([8, 9, 12] : List Int)).bind fun bt8 => ((spec_StepJoiner.f k x4_4_0 x4_4_1 x4_4_2 bt8.1).bind fun bt9 => (spec_l19Joiner.l0 k (wrap64 (x4_6 - 1)) bt8.2.1 bt8.2.2 x4_2_0 x4_2_1 x4_2_2 bt9.1 bt9.2.1 bt9.2.2.1 l0_0))) else ((spec_l1Below.f l0_0 x4_1000_1 x4_1000_2 16).bind fun bt15 => (if bt15.1 = 0 then (if x4_4_0.length < 1599289640401 then ((spec_l16Any.f k l0_0 bt15.2.1 bt15.2.2 3).bind fun bt18 => (some (x4_4_0 ++ ([(⟨bt18.1, bt18.2.1, bt18.2.2.1, bt18.2.2.2.1, bt18.2.2.2.2.1⟩ : S44)] : List S44), x4_4_1, x4_4_2, bt18.2.2.2.2.2.1, bt18.2.2.2.2.2.2))) else none) else (if bt15.1 = 1 then ((spec_l1PickInt.f l0_0 bt15.2.1 bt15.2.2 ([(-1), 100001] : List Int)).bind fun bt23 => (some (x4_4_0, bt23.1, x4_4_2, bt23.2.1, bt23.2.2))) else (if bt15.1 = 2 then (some (x4_4_0, x4_4_1, (-1), bt15.2.1, bt15.2.2)) else (some (x4_4_0, x4_4_1, x4_4_2, bt15.2.1, bt15.2.2))))))
def spec_l19Joiner.f (k : Nat) (l0_0 : List Int) (a0_1 : Int) (a0_2 : Int) : Option ((List S44) × Int × Int × Int × Int) := (spec_l2Rows.f k l0_0 a0_1 a0_2 8).bind fun bt1 => ((spec_l1Below.f l0_0 bt1.2.1 bt1.2.2 4).bind fun bt2 => ((spec_l2Rows.f k l0_0 bt2.2.1 bt2.2.2 12).bind fun bt3 => ((spec_NewJoiner.f k (wrap64 (1 + bt2.1)) bt1.1 bt3.1).bind fun bt4 => ((spec_l1Below.f l0_0 bt3.2.1 bt3.2.2 6).bind fun bt5 => (spec_l19Joiner.l0 k bt5.1 bt5.2.1 bt5.2.2 [] 0 0 bt4.1 bt4.2.1 bt4.2.2.1 l0_0)))))
set_option maxHeartbeats 4000000 in
set_option maxRecDepth 100000 in
theorem spec_l19Joiner.ok (k : Nat) (b1000 : Nat) (l0_0 : List Int) (Al0_0 : Option Addr) (cl0_0 : Nat) (a0_1 : Int) (a0_2 : Int) (r0 : List S44) (r1 : Int) (r2 : Int) (r3 : Int) (r4 : Int) (H : spec_l19Joiner.f k l0_0 a0_1 a0_2 = some (r0, r1, r2, r3, r4)) : Fn Try.prog 102 [.pointer (some ⟨b1000, 0, none⟩)] [⟨b1000, 111, [.slice Al0_0 l0_0.length cl0_0, .int .i64 a0_1, .int .i64 a0_2]⟩] [.sl 0 (.int .u8) Al0_0 cl0_0 l0_0 0 false] (fun v bx en => ∃ A0 c0, v = .agg #[.slice A0 r0.length c0, .int .i64 r1, .int .i64 r2] ∧ bx = [⟨b1000, 111, [.slice Al0_0 l0_0.length cl0_0, .int .i64 r3, .int .i64 r4]⟩] ∧ en = [.sl 1 k44 A0 c0 r0 1 true]) := by
 refine fn_ 56 Try.func102 rfl rfl rfl (fun base T w0 => ?_)
 rw [spec_l19Joiner.f] at H
 refine gs (rg (so rfl (op_alloc (cs := [.slice none 0 0, .int .i64 0, .int .i64 0]) (by kernel_rfl) rfl fun b2 => (re (gs (rg (sv (EV.mv rfl) rfl ?_)))))))
 revert H; refine bdI ?_; rintro ⟨t1_0, t1_1, t1_2⟩ A1 H
 refine so rfl (op_callM (spec_l2Rows.ok k b1000 l0_0 Al0_0 cl0_0 a0_1 a0_2 8 _ _ _ A1) [⟨0, 0, 0, false⟩] [0] [1] 1 rfl rfl rfl rfl rfl rfl rfl rfl ?_)
 rintro _ _ _ ⟨At1_0, ct1_0, rfl, rfl, rfl⟩
 refine nmE (en := [.sl 0 (.int .u8) Al0_0 cl0_0 l0_0 0 false, .sl 2 k70 At1_0 ct1_0 t1_0 2 true]) (by kernel_rfl) (sv (EV.as rfl) rfl (re (gs (rg (sv (EV.mv rfl) rfl ?_)))))
 revert H; refine bdI ?_; rintro ⟨t2_0, t2_1, t2_2⟩ A2 H
 refine so rfl (op_callM (spec_l1Below.ok b1000 l0_0 Al0_0 cl0_0 t1_1 t1_2 4 _ _ _ A2) [⟨0, 0, 0, false⟩] [1] [0] 3 rfl rfl rfl rfl rfl rfl rfl rfl ?_)
 rintro _ _ _ ⟨rfl, rfl, rfl⟩
 refine nmE (en := [.sl 0 (.int .u8) Al0_0 cl0_0 l0_0 0 false, .sl 2 k70 At1_0 ct1_0 t1_0 2 true]) (by kernel_rfl) (sv (EV.add rfl rfl) rfl (sv (EV.mv rfl) rfl (sv (EV.mv rfl) rfl ?_)))
 revert H; refine bdI ?_; rintro ⟨t3_0, t3_1, t3_2⟩ A3 H
 refine so rfl (op_callM (spec_l2Rows.ok k b1000 l0_0 Al0_0 cl0_0 t2_1 t2_2 12 _ _ _ A3) [⟨0, 0, 0, false⟩] [1] [0] 3 rfl rfl rfl rfl rfl rfl rfl rfl ?_)
 rintro _ _ _ ⟨At3_0, ct3_0, rfl, rfl, rfl⟩
 refine nmE (en := [.sl 0 (.int .u8) Al0_0 cl0_0 l0_0 0 false, .sl 2 k70 At1_0 ct1_0 t1_0 2 true, .sl 2 k70 At3_0 ct3_0 t3_0 4 true]) (by kernel_rfl) ?_
 revert H; refine bdI ?_; rintro ⟨t4_0, t4_1, t4_2, t4_3⟩ A4 H
 refine so rfl (op_call (spec_NewJoiner.ok k (wrap64 (1 + t2_0)) t1_0 At1_0 ct1_0 t3_0 At3_0 ct3_0 _ _ _ _ A4) [⟨1, 0, 0, false⟩, ⟨2, 0, 0, false⟩] 5 rfl rfl rfl rfl rfl ?_)
 rintro _ _ _ ⟨At4_0, ct4_0, rfl, rfl, rfl⟩
 refine sv (EV.mv rfl) rfl (sv (EV.ex rfl rfl) rfl (sv (EV.ex rfl rfl) rfl (so rfl (op_alloc (cs := [.slice none 0 0, .int .i64 0, .int .i64 0]) (by kernel_rfl) rfl fun b4 => (so rfl (op_st (cs' := [.slice At4_0 t4_0.length ct4_0, .int .i64 t4_1, .int .i64 t4_2]) 2 rfl rfl rfl rfl rfl rfl (sv (EV.as rfl) rfl (re (pr [0, 2, 4] [0, 1, 2] [0, 3] rfl rfl rfl rfl (gs (gs (rg (sv (EV.mv rfl) rfl ?_)))))))))))))
 revert H; refine bdI ?_; rintro ⟨t5_0, t5_1, t5_2⟩ A5 H
 refine so rfl (op_callM (spec_l1Below.ok b1000 l0_0 Al0_0 cl0_0 t3_1 t3_2 6 _ _ _ A5) [⟨0, 0, 0, false⟩] [1] [0, 2] 7 rfl rfl rfl rfl rfl rfl rfl rfl ?_)
 rintro _ _ _ ⟨rfl, rfl, rfl⟩
 refine nmE (en := [.sl 0 (.int .u8) Al0_0 cl0_0 l0_0 0 false, .sl 2 k44 At4_0 ct4_0 t4_0 6 true]) (by kernel_rfl) (sv (EV.as rfl) rfl (re (gb (nil_ k44 7 dq ?_))))
 refine lo (fun kk S => ∃ (x4_6 : Int) (x4_1000_1 : Int) (x4_1000_2 : Int) (x4_2_0 : List S44) (Ax4_2_0 : Option Addr) (cx4_2_0 : Nat) (x4_2_1 : Int) (x4_2_2 : Int) (x4_4_0 : List S44) (Ax4_4_0 : Option Addr) (cx4_4_0 : Nat) (x4_4_1 : Int) (x4_4_2 : Int), spec_l19Joiner.l0 kk x4_6 x4_1000_1 x4_1000_2 x4_2_0 x4_2_1 x4_2_2 x4_4_0 x4_4_1 x4_4_2 l0_0 = some (r0, r1, r2, r3, r4) ∧ S = ⟨[(0, .pointer (some ⟨b1000, 0, none⟩)), (2, .pointer (some ⟨b2, 0, none⟩)), (4, .pointer (some ⟨b4, 0, none⟩)), (6, .int .i64 x4_6)], [⟨b1000, 111, [.slice Al0_0 l0_0.length cl0_0, .int .i64 x4_1000_1, .int .i64 x4_1000_2]⟩, ⟨b2, 73, [.slice Ax4_2_0 x4_2_0.length cx4_2_0, .int .i64 x4_2_1, .int .i64 x4_2_2]⟩, ⟨b4, 73, [.slice Ax4_4_0 x4_4_0.length cx4_4_0, .int .i64 x4_4_1, .int .i64 x4_4_2]⟩], [.sl 2 k44 Ax4_2_0 cx4_2_0 x4_2_0 1 true, .sl 1 k44 Ax4_4_0 cx4_4_0 x4_4_0 2 true, .sl 0 (.int .u8) Al0_0 cl0_0 l0_0 0 false]⟩) (fun S hS => ?_) (fun n0 ih0 S hS => ?_) ⟨t5_0, t5_1, t5_2, [], none, 0, 0, 0, t4_0, At4_0, ct4_0, t4_1, t4_2, H, rfl⟩ (fun h => wk [0, 2, 4, 6] [2, 0, 1] [⟨2, 2, 1, true⟩, ⟨1, 1, 2, true⟩, ⟨0, 0, 0, false⟩] h)
 · clear H; obtain ⟨_, _, _, _, _, _, _, _, _, _, _, _, _, H, _⟩ := hS; rw [spec_l19Joiner.l0] at H; cases H
 clear H
 obtain ⟨x4_6, x4_1000_1, x4_1000_2, x4_2_0, Ax4_2_0, cx4_2_0, x4_2_1, x4_2_2, x4_4_0, Ax4_4_0, cx4_4_0, x4_4_1, x4_4_2, H, rfl⟩ := hS
 rw [spec_l19Joiner.l0] at H
 refine gs (gs (rg (sv (EV.mv rfl) rfl (sv (EV.gtr rfl rfl) rfl (re ?_)))))
 revert H; refine ifsI ?_ ?_ <;> intro c6 H
 ·
  refine gt rfl (dT c6) (gk (gs (gb (dr [] [0, 1, 2] [10] 11 rfl rfl rfl rfl (xv 1 [] [0, 1, 2] rfl (EV.mv rfl) rfl rfl rfl rfl ?_)))))
  refine one2 0 2 rfl rfl rfl rfl ?_ ?_
  ·
   refine ov (EV.ld (v := .agg #[.slice Ax4_4_0 x4_4_0.length cx4_4_0, .int .i64 x4_4_1, .int .i64 x4_4_2]) 2 (some 3) rfl rfl rfl) rfl (xs [] [0, 1, 2] rfl rfl rfl (one1 2 rfl rfl (op_lit (s := 1) (by_ := 8) (.int .i64) ([8, 9, 12] : List Int) [[], [], []] [] 3 [.const (.int .i64 8), .const (.int .i64 9), .const (.int .i64 12)] rfl rfl rfl rfl rfl rfl rfl rfl rfl rfl rfl rfl rfl dq rfl fun A28_7 c28_7 => (xs [] [0, 1, 2] rfl rfl rfl (one1 3 rfl rfl ?_)))))
   revert H; refine bdI ?_; rintro ⟨t8_0, t8_1, t8_2⟩ A8 H
   refine op_callM (spec_l1PickInt.ok b1000 l0_0 Al0_0 cl0_0 x4_1000_1 x4_1000_2 ([8, 9, 12] : List Int) A28_7 c28_7 _ _ _ A8) [⟨2, 0, 0, false⟩, ⟨3, 0, 0, false⟩] [0] [1, 2] 4 rfl rfl rfl rfl rfl rfl rfl rfl ?_
   rintro _ _ _ ⟨rfl, rfl, rfl⟩
   refine nmE (en := [.sl 2 k44 Ax4_2_0 cx4_2_0 x4_2_0 1 true, .sl 1 k44 Ax4_4_0 cx4_4_0 x4_4_0 2 true, .sl 0 (.int .u8) Al0_0 cl0_0 l0_0 0 false, .sl 2 (.int .i64) A28_7 c28_7 ([8, 9, 12] : List Int) 3 true]) (by kernel_rfl) (xs [] [0, 1, 2] rfl rfl rfl (one1 4 rfl rfl ?_))
   revert H; refine bdI ?_; rintro ⟨t9_0, t9_1, t9_2, t9_3, t9_4, t9_5⟩ A9 H
   refine op_call (spec_StepJoiner.ok n0 x4_4_0 Ax4_4_0 cx4_4_0 x4_4_1 x4_4_2 t8_0 _ _ _ _ _ _ A9) [⟨1, 0, 0, false⟩] 4 rfl rfl rfl rfl rfl ?_
   rintro _ _ _ ⟨At9_0, ct9_0, At9_3, ct9_3, rfl, rfl, rfl⟩
   refine xs [] [0, 1, 2] rfl rfl rfl (one1 5 rfl rfl (ov (EV.mv rfl) rfl (xs [] [0, 1, 2] rfl rfl rfl ?_)))
   refine one4 6 7 8 9 rfl rfl rfl rfl rfl rfl rfl rfl ?_ ?_ ?_ ?_
   ·
    refine ov (EV.ex rfl rfl) rfl (xs [] [0, 1, 2] rfl rfl rfl ?_)
    refine one4 7 8 9 10 rfl rfl rfl rfl rfl rfl rfl rfl ?_ ?_ ?_ ?_
    ·
     refine ov (EV.ex rfl rfl) rfl (xs [] [0, 1, 2] rfl rfl rfl ?_)
     refine one3 8 9 10 rfl rfl rfl rfl rfl rfl ?_ ?_ ?_
     ·
      refine ov (EV.ex rfl rfl) rfl (xs [] [0, 1, 2] rfl rfl rfl ?_)
      refine one2 9 10 rfl rfl rfl rfl ?_ ?_
      ·
       exact ov (EV.ex rfl rfl) rfl (xs [] [0, 1, 2] rfl rfl rfl (one1 10 rfl rfl (op_st (cs' := [.slice At9_0 t9_0.length ct9_0, .int .i64 t9_1, .int .i64 t9_2]) 1 rfl rfl rfl rfl rfl rfl (xn rfl (xd (pr [0, 2, 4, 6] [0, 1, 2] [0, 2, 4] rfl rfl rfl rfl (ge (rg (sv (EV.mv rfl) rfl (sv (EV.sub rfl rfl) rfl (sv (EV.as rfl) rfl (re (wk [0, 2, 4, 6] [2, 0, 1] [⟨0, 2, 1, true⟩, ⟨2, 1, 2, true⟩, ⟨1, 0, 0, false⟩] (ih0 _ (by omega) _ ⟨wrap64 (x4_6 - 1), t8_1, t8_2, x4_2_0, Ax4_2_0, cx4_2_0, x4_2_1, x4_2_2, t9_0, At9_0, ct9_0, t9_1, t9_2, H, rfl⟩))))))))))))))
      ·
       exact op_st (cs' := [.slice At9_0 t9_0.length ct9_0, .int .i64 t9_1, .int .i64 t9_2]) 1 rfl rfl rfl rfl rfl rfl (xn rfl (one1 9 rfl rfl (ov (EV.ex rfl rfl) rfl (xs [] [0, 1, 2] rfl rfl rfl (xd (pr [0, 2, 4, 6] [0, 1, 2] [0, 2, 4] rfl rfl rfl rfl (ge (rg (sv (EV.mv rfl) rfl (sv (EV.sub rfl rfl) rfl (sv (EV.as rfl) rfl (re (wk [0, 2, 4, 6] [2, 0, 1] [⟨0, 2, 1, true⟩, ⟨2, 1, 2, true⟩, ⟨1, 0, 0, false⟩] (ih0 _ (by omega) _ ⟨wrap64 (x4_6 - 1), t8_1, t8_2, x4_2_0, Ax4_2_0, cx4_2_0, x4_2_1, x4_2_2, t9_0, At9_0, ct9_0, t9_1, t9_2, H, rfl⟩))))))))))))))
     ·
      refine ov (EV.ex rfl rfl) rfl (xs [] [0, 1, 2] rfl rfl rfl ?_)
      refine one2 8 10 rfl rfl rfl rfl ?_ ?_
      ·
       exact ov (EV.ex rfl rfl) rfl (xs [] [0, 1, 2] rfl rfl rfl (one1 10 rfl rfl (op_st (cs' := [.slice At9_0 t9_0.length ct9_0, .int .i64 t9_1, .int .i64 t9_2]) 1 rfl rfl rfl rfl rfl rfl (xn rfl (xd (pr [0, 2, 4, 6] [0, 1, 2] [0, 2, 4] rfl rfl rfl rfl (ge (rg (sv (EV.mv rfl) rfl (sv (EV.sub rfl rfl) rfl (sv (EV.as rfl) rfl (re (wk [0, 2, 4, 6] [2, 0, 1] [⟨0, 2, 1, true⟩, ⟨2, 1, 2, true⟩, ⟨1, 0, 0, false⟩] (ih0 _ (by omega) _ ⟨wrap64 (x4_6 - 1), t8_1, t8_2, x4_2_0, Ax4_2_0, cx4_2_0, x4_2_1, x4_2_2, t9_0, At9_0, ct9_0, t9_1, t9_2, H, rfl⟩))))))))))))))
      ·
       exact op_st (cs' := [.slice At9_0 t9_0.length ct9_0, .int .i64 t9_1, .int .i64 t9_2]) 1 rfl rfl rfl rfl rfl rfl (xn rfl (one1 8 rfl rfl (ov (EV.ex rfl rfl) rfl (xs [] [0, 1, 2] rfl rfl rfl (xd (pr [0, 2, 4, 6] [0, 1, 2] [0, 2, 4] rfl rfl rfl rfl (ge (rg (sv (EV.mv rfl) rfl (sv (EV.sub rfl rfl) rfl (sv (EV.as rfl) rfl (re (wk [0, 2, 4, 6] [2, 0, 1] [⟨0, 2, 1, true⟩, ⟨2, 1, 2, true⟩, ⟨1, 0, 0, false⟩] (ih0 _ (by omega) _ ⟨wrap64 (x4_6 - 1), t8_1, t8_2, x4_2_0, Ax4_2_0, cx4_2_0, x4_2_1, x4_2_2, t9_0, At9_0, ct9_0, t9_1, t9_2, H, rfl⟩))))))))))))))
     ·
      refine op_st (cs' := [.slice At9_0 t9_0.length ct9_0, .int .i64 t9_1, .int .i64 t9_2]) 1 rfl rfl rfl rfl rfl rfl (xn rfl ?_)
      refine one2 8 9 rfl rfl rfl rfl ?_ ?_
      ·
       exact ov (EV.ex rfl rfl) rfl (xs [] [0, 1, 2] rfl rfl rfl (one1 9 rfl rfl (ov (EV.ex rfl rfl) rfl (xs [] [0, 1, 2] rfl rfl rfl (xd (pr [0, 2, 4, 6] [0, 1, 2] [0, 2, 4] rfl rfl rfl rfl (ge (rg (sv (EV.mv rfl) rfl (sv (EV.sub rfl rfl) rfl (sv (EV.as rfl) rfl (re (wk [0, 2, 4, 6] [2, 0, 1] [⟨0, 2, 1, true⟩, ⟨2, 1, 2, true⟩, ⟨1, 0, 0, false⟩] (ih0 _ (by omega) _ ⟨wrap64 (x4_6 - 1), t8_1, t8_2, x4_2_0, Ax4_2_0, cx4_2_0, x4_2_1, x4_2_2, t9_0, At9_0, ct9_0, t9_1, t9_2, H, rfl⟩))))))))))))))
      ·
       exact ov (EV.ex rfl rfl) rfl (xs [] [0, 1, 2] rfl rfl rfl (one1 8 rfl rfl (ov (EV.ex rfl rfl) rfl (xs [] [0, 1, 2] rfl rfl rfl (xd (pr [0, 2, 4, 6] [0, 1, 2] [0, 2, 4] rfl rfl rfl rfl (ge (rg (sv (EV.mv rfl) rfl (sv (EV.sub rfl rfl) rfl (sv (EV.as rfl) rfl (re (wk [0, 2, 4, 6] [2, 0, 1] [⟨0, 2, 1, true⟩, ⟨2, 1, 2, true⟩, ⟨1, 0, 0, false⟩] (ih0 _ (by omega) _ ⟨wrap64 (x4_6 - 1), t8_1, t8_2, x4_2_0, Ax4_2_0, cx4_2_0, x4_2_1, x4_2_2, t9_0, At9_0, ct9_0, t9_1, t9_2, H, rfl⟩))))))))))))))
    ·
     refine ov (EV.ex rfl rfl) rfl (xs [] [0, 1, 2] rfl rfl rfl ?_)
     refine one3 7 9 10 rfl rfl rfl rfl rfl rfl ?_ ?_ ?_
     ·
      refine ov (EV.ex rfl rfl) rfl (xs [] [0, 1, 2] rfl rfl rfl ?_)
      refine one2 9 10 rfl rfl rfl rfl ?_ ?_
      ·
       exact ov (EV.ex rfl rfl) rfl (xs [] [0, 1, 2] rfl rfl rfl (one1 10 rfl rfl (op_st (cs' := [.slice At9_0 t9_0.length ct9_0, .int .i64 t9_1, .int .i64 t9_2]) 1 rfl rfl rfl rfl rfl rfl (xn rfl (xd (pr [0, 2, 4, 6] [0, 1, 2] [0, 2, 4] rfl rfl rfl rfl (ge (rg (sv (EV.mv rfl) rfl (sv (EV.sub rfl rfl) rfl (sv (EV.as rfl) rfl (re (wk [0, 2, 4, 6] [2, 0, 1] [⟨0, 2, 1, true⟩, ⟨2, 1, 2, true⟩, ⟨1, 0, 0, false⟩] (ih0 _ (by omega) _ ⟨wrap64 (x4_6 - 1), t8_1, t8_2, x4_2_0, Ax4_2_0, cx4_2_0, x4_2_1, x4_2_2, t9_0, At9_0, ct9_0, t9_1, t9_2, H, rfl⟩))))))))))))))
      ·
       exact op_st (cs' := [.slice At9_0 t9_0.length ct9_0, .int .i64 t9_1, .int .i64 t9_2]) 1 rfl rfl rfl rfl rfl rfl (xn rfl (one1 9 rfl rfl (ov (EV.ex rfl rfl) rfl (xs [] [0, 1, 2] rfl rfl rfl (xd (pr [0, 2, 4, 6] [0, 1, 2] [0, 2, 4] rfl rfl rfl rfl (ge (rg (sv (EV.mv rfl) rfl (sv (EV.sub rfl rfl) rfl (sv (EV.as rfl) rfl (re (wk [0, 2, 4, 6] [2, 0, 1] [⟨0, 2, 1, true⟩, ⟨2, 1, 2, true⟩, ⟨1, 0, 0, false⟩] (ih0 _ (by omega) _ ⟨wrap64 (x4_6 - 1), t8_1, t8_2, x4_2_0, Ax4_2_0, cx4_2_0, x4_2_1, x4_2_2, t9_0, At9_0, ct9_0, t9_1, t9_2, H, rfl⟩))))))))))))))
     ·
      refine ov (EV.ex rfl rfl) rfl (xs [] [0, 1, 2] rfl rfl rfl ?_)
      refine one2 7 10 rfl rfl rfl rfl ?_ ?_
      ·
       exact ov (EV.ex rfl rfl) rfl (xs [] [0, 1, 2] rfl rfl rfl (one1 10 rfl rfl (op_st (cs' := [.slice At9_0 t9_0.length ct9_0, .int .i64 t9_1, .int .i64 t9_2]) 1 rfl rfl rfl rfl rfl rfl (xn rfl (xd (pr [0, 2, 4, 6] [0, 1, 2] [0, 2, 4] rfl rfl rfl rfl (ge (rg (sv (EV.mv rfl) rfl (sv (EV.sub rfl rfl) rfl (sv (EV.as rfl) rfl (re (wk [0, 2, 4, 6] [2, 0, 1] [⟨0, 2, 1, true⟩, ⟨2, 1, 2, true⟩, ⟨1, 0, 0, false⟩] (ih0 _ (by omega) _ ⟨wrap64 (x4_6 - 1), t8_1, t8_2, x4_2_0, Ax4_2_0, cx4_2_0, x4_2_1, x4_2_2, t9_0, At9_0, ct9_0, t9_1, t9_2, H, rfl⟩))))))))))))))
      ·
       exact op_st (cs' := [.slice At9_0 t9_0.length ct9_0, .int .i64 t9_1, .int .i64 t9_2]) 1 rfl rfl rfl rfl rfl rfl (xn rfl (one1 7 rfl rfl (ov (EV.ex rfl rfl) rfl (xs [] [0, 1, 2] rfl rfl rfl (xd (pr [0, 2, 4, 6] [0, 1, 2] [0, 2, 4] rfl rfl rfl rfl (ge (rg (sv (EV.mv rfl) rfl (sv (EV.sub rfl rfl) rfl (sv (EV.as rfl) rfl (re (wk [0, 2, 4, 6] [2, 0, 1] [⟨0, 2, 1, true⟩, ⟨2, 1, 2, true⟩, ⟨1, 0, 0, false⟩] (ih0 _ (by omega) _ ⟨wrap64 (x4_6 - 1), t8_1, t8_2, x4_2_0, Ax4_2_0, cx4_2_0, x4_2_1, x4_2_2, t9_0, At9_0, ct9_0, t9_1, t9_2, H, rfl⟩))))))))))))))
     ·
      refine op_st (cs' := [.slice At9_0 t9_0.length ct9_0, .int .i64 t9_1, .int .i64 t9_2]) 1 rfl rfl rfl rfl rfl rfl (xn rfl ?_)
      refine one2 7 9 rfl rfl rfl rfl ?_ ?_
      ·
       exact ov (EV.ex rfl rfl) rfl (xs [] [0, 1, 2] rfl rfl rfl (one1 9 rfl rfl (ov (EV.ex rfl rfl) rfl (xs [] [0, 1, 2] rfl rfl rfl (xd (pr [0, 2, 4, 6] [0, 1, 2] [0, 2, 4] rfl rfl rfl rfl (ge (rg (sv (EV.mv rfl) rfl (sv (EV.sub rfl rfl) rfl (sv (EV.as rfl) rfl (re (wk [0, 2, 4, 6] [2, 0, 1] [⟨0, 2, 1, true⟩, ⟨2, 1, 2, true⟩, ⟨1, 0, 0, false⟩] (ih0 _ (by omega) _ ⟨wrap64 (x4_6 - 1), t8_1, t8_2, x4_2_0, Ax4_2_0, cx4_2_0, x4_2_1, x4_2_2, t9_0, At9_0, ct9_0, t9_1, t9_2, H, rfl⟩))))))))))))))
      ·
       exact ov (EV.ex rfl rfl) rfl (xs [] [0, 1, 2] rfl rfl rfl (one1 7 rfl rfl (ov (EV.ex rfl rfl) rfl (xs [] [0, 1, 2] rfl rfl rfl (xd (pr [0, 2, 4, 6] [0, 1, 2] [0, 2, 4] rfl rfl rfl rfl (ge (rg (sv (EV.mv rfl) rfl (sv (EV.sub rfl rfl) rfl (sv (EV.as rfl) rfl (re (wk [0, 2, 4, 6] [2, 0, 1] [⟨0, 2, 1, true⟩, ⟨2, 1, 2, true⟩, ⟨1, 0, 0, false⟩] (ih0 _ (by omega) _ ⟨wrap64 (x4_6 - 1), t8_1, t8_2, x4_2_0, Ax4_2_0, cx4_2_0, x4_2_1, x4_2_2, t9_0, At9_0, ct9_0, t9_1, t9_2, H, rfl⟩))))))))))))))
    ·
     refine ov (EV.ex rfl rfl) rfl (xs [] [0, 1, 2] rfl rfl rfl ?_)
     refine one3 7 8 10 rfl rfl rfl rfl rfl rfl ?_ ?_ ?_
     ·
      refine ov (EV.ex rfl rfl) rfl (xs [] [0, 1, 2] rfl rfl rfl ?_)
      refine one2 8 10 rfl rfl rfl rfl ?_ ?_
      ·
       exact ov (EV.ex rfl rfl) rfl (xs [] [0, 1, 2] rfl rfl rfl (one1 10 rfl rfl (op_st (cs' := [.slice At9_0 t9_0.length ct9_0, .int .i64 t9_1, .int .i64 t9_2]) 1 rfl rfl rfl rfl rfl rfl (xn rfl (xd (pr [0, 2, 4, 6] [0, 1, 2] [0, 2, 4] rfl rfl rfl rfl (ge (rg (sv (EV.mv rfl) rfl (sv (EV.sub rfl rfl) rfl (sv (EV.as rfl) rfl (re (wk [0, 2, 4, 6] [2, 0, 1] [⟨0, 2, 1, true⟩, ⟨2, 1, 2, true⟩, ⟨1, 0, 0, false⟩] (ih0 _ (by omega) _ ⟨wrap64 (x4_6 - 1), t8_1, t8_2, x4_2_0, Ax4_2_0, cx4_2_0, x4_2_1, x4_2_2, t9_0, At9_0, ct9_0, t9_1, t9_2, H, rfl⟩))))))))))))))
      ·
       exact op_st (cs' := [.slice At9_0 t9_0.length ct9_0, .int .i64 t9_1, .int .i64 t9_2]) 1 rfl rfl rfl rfl rfl rfl (xn rfl (one1 8 rfl rfl (ov (EV.ex rfl rfl) rfl (xs [] [0, 1, 2] rfl rfl rfl (xd (pr [0, 2, 4, 6] [0, 1, 2] [0, 2, 4] rfl rfl rfl rfl (ge (rg (sv (EV.mv rfl) rfl (sv (EV.sub rfl rfl) rfl (sv (EV.as rfl) rfl (re (wk [0, 2, 4, 6] [2, 0, 1] [⟨0, 2, 1, true⟩, ⟨2, 1, 2, true⟩, ⟨1, 0, 0, false⟩] (ih0 _ (by omega) _ ⟨wrap64 (x4_6 - 1), t8_1, t8_2, x4_2_0, Ax4_2_0, cx4_2_0, x4_2_1, x4_2_2, t9_0, At9_0, ct9_0, t9_1, t9_2, H, rfl⟩))))))))))))))
     ·
      refine ov (EV.ex rfl rfl) rfl (xs [] [0, 1, 2] rfl rfl rfl ?_)
      refine one2 7 10 rfl rfl rfl rfl ?_ ?_
      ·
       exact ov (EV.ex rfl rfl) rfl (xs [] [0, 1, 2] rfl rfl rfl (one1 10 rfl rfl (op_st (cs' := [.slice At9_0 t9_0.length ct9_0, .int .i64 t9_1, .int .i64 t9_2]) 1 rfl rfl rfl rfl rfl rfl (xn rfl (xd (pr [0, 2, 4, 6] [0, 1, 2] [0, 2, 4] rfl rfl rfl rfl (ge (rg (sv (EV.mv rfl) rfl (sv (EV.sub rfl rfl) rfl (sv (EV.as rfl) rfl (re (wk [0, 2, 4, 6] [2, 0, 1] [⟨0, 2, 1, true⟩, ⟨2, 1, 2, true⟩, ⟨1, 0, 0, false⟩] (ih0 _ (by omega) _ ⟨wrap64 (x4_6 - 1), t8_1, t8_2, x4_2_0, Ax4_2_0, cx4_2_0, x4_2_1, x4_2_2, t9_0, At9_0, ct9_0, t9_1, t9_2, H, rfl⟩))))))))))))))
      ·
       exact op_st (cs' := [.slice At9_0 t9_0.length ct9_0, .int .i64 t9_1, .int .i64 t9_2]) 1 rfl rfl rfl rfl rfl rfl (xn rfl (one1 7 rfl rfl (ov (EV.ex rfl rfl) rfl (xs [] [0, 1, 2] rfl rfl rfl (xd (pr [0, 2, 4, 6] [0, 1, 2] [0, 2, 4] rfl rfl rfl rfl (ge (rg (sv (EV.mv rfl) rfl (sv (EV.sub rfl rfl) rfl (sv (EV.as rfl) rfl (re (wk [0, 2, 4, 6] [2, 0, 1] [⟨0, 2, 1, true⟩, ⟨2, 1, 2, true⟩, ⟨1, 0, 0, false⟩] (ih0 _ (by omega) _ ⟨wrap64 (x4_6 - 1), t8_1, t8_2, x4_2_0, Ax4_2_0, cx4_2_0, x4_2_1, x4_2_2, t9_0, At9_0, ct9_0, t9_1, t9_2, H, rfl⟩))))))))))))))
     ·
      refine op_st (cs' := [.slice At9_0 t9_0.length ct9_0, .int .i64 t9_1, .int .i64 t9_2]) 1 rfl rfl rfl rfl rfl rfl (xn rfl ?_)
      refine one2 7 8 rfl rfl rfl rfl ?_ ?_
      ·
       exact ov (EV.ex rfl rfl) rfl (xs [] [0, 1, 2] rfl rfl rfl (one1 8 rfl rfl (ov (EV.ex rfl rfl) rfl (xs [] [0, 1, 2] rfl rfl rfl (xd (pr [0, 2, 4, 6] [0, 1, 2] [0, 2, 4] rfl rfl rfl rfl (ge (rg (sv (EV.mv rfl) rfl (sv (EV.sub rfl rfl) rfl (sv (EV.as rfl) rfl (re (wk [0, 2, 4, 6] [2, 0, 1] [⟨0, 2, 1, true⟩, ⟨2, 1, 2, true⟩, ⟨1, 0, 0, false⟩] (ih0 _ (by omega) _ ⟨wrap64 (x4_6 - 1), t8_1, t8_2, x4_2_0, Ax4_2_0, cx4_2_0, x4_2_1, x4_2_2, t9_0, At9_0, ct9_0, t9_1, t9_2, H, rfl⟩))))))))))))))
      ·
       exact ov (EV.ex rfl rfl) rfl (xs [] [0, 1, 2] rfl rfl rfl (one1 7 rfl rfl (ov (EV.ex rfl rfl) rfl (xs [] [0, 1, 2] rfl rfl rfl (xd (pr [0, 2, 4, 6] [0, 1, 2] [0, 2, 4] rfl rfl rfl rfl (ge (rg (sv (EV.mv rfl) rfl (sv (EV.sub rfl rfl) rfl (sv (EV.as rfl) rfl (re (wk [0, 2, 4, 6] [2, 0, 1] [⟨0, 2, 1, true⟩, ⟨2, 1, 2, true⟩, ⟨1, 0, 0, false⟩] (ih0 _ (by omega) _ ⟨wrap64 (x4_6 - 1), t8_1, t8_2, x4_2_0, Ax4_2_0, cx4_2_0, x4_2_1, x4_2_2, t9_0, At9_0, ct9_0, t9_1, t9_2, H, rfl⟩))))))))))))))
    ·
     refine op_st (cs' := [.slice At9_0 t9_0.length ct9_0, .int .i64 t9_1, .int .i64 t9_2]) 1 rfl rfl rfl rfl rfl rfl (xn rfl ?_)
     refine one3 7 8 9 rfl rfl rfl rfl rfl rfl ?_ ?_ ?_
     ·
      refine ov (EV.ex rfl rfl) rfl (xs [] [0, 1, 2] rfl rfl rfl ?_)
      refine one2 8 9 rfl rfl rfl rfl ?_ ?_
      ·
       exact ov (EV.ex rfl rfl) rfl (xs [] [0, 1, 2] rfl rfl rfl (one1 9 rfl rfl (ov (EV.ex rfl rfl) rfl (xs [] [0, 1, 2] rfl rfl rfl (xd (pr [0, 2, 4, 6] [0, 1, 2] [0, 2, 4] rfl rfl rfl rfl (ge (rg (sv (EV.mv rfl) rfl (sv (EV.sub rfl rfl) rfl (sv (EV.as rfl) rfl (re (wk [0, 2, 4, 6] [2, 0, 1] [⟨0, 2, 1, true⟩, ⟨2, 1, 2, true⟩, ⟨1, 0, 0, false⟩] (ih0 _ (by omega) _ ⟨wrap64 (x4_6 - 1), t8_1, t8_2, x4_2_0, Ax4_2_0, cx4_2_0, x4_2_1, x4_2_2, t9_0, At9_0, ct9_0, t9_1, t9_2, H, rfl⟩))))))))))))))
      ·
       exact ov (EV.ex rfl rfl) rfl (xs [] [0, 1, 2] rfl rfl rfl (one1 8 rfl rfl (ov (EV.ex rfl rfl) rfl (xs [] [0, 1, 2] rfl rfl rfl (xd (pr [0, 2, 4, 6] [0, 1, 2] [0, 2, 4] rfl rfl rfl rfl (ge (rg (sv (EV.mv rfl) rfl (sv (EV.sub rfl rfl) rfl (sv (EV.as rfl) rfl (re (wk [0, 2, 4, 6] [2, 0, 1] [⟨0, 2, 1, true⟩, ⟨2, 1, 2, true⟩, ⟨1, 0, 0, false⟩] (ih0 _ (by omega) _ ⟨wrap64 (x4_6 - 1), t8_1, t8_2, x4_2_0, Ax4_2_0, cx4_2_0, x4_2_1, x4_2_2, t9_0, At9_0, ct9_0, t9_1, t9_2, H, rfl⟩))))))))))))))
     ·
      refine ov (EV.ex rfl rfl) rfl (xs [] [0, 1, 2] rfl rfl rfl ?_)
      refine one2 7 9 rfl rfl rfl rfl ?_ ?_
      ·
       exact ov (EV.ex rfl rfl) rfl (xs [] [0, 1, 2] rfl rfl rfl (one1 9 rfl rfl (ov (EV.ex rfl rfl) rfl (xs [] [0, 1, 2] rfl rfl rfl (xd (pr [0, 2, 4, 6] [0, 1, 2] [0, 2, 4] rfl rfl rfl rfl (ge (rg (sv (EV.mv rfl) rfl (sv (EV.sub rfl rfl) rfl (sv (EV.as rfl) rfl (re (wk [0, 2, 4, 6] [2, 0, 1] [⟨0, 2, 1, true⟩, ⟨2, 1, 2, true⟩, ⟨1, 0, 0, false⟩] (ih0 _ (by omega) _ ⟨wrap64 (x4_6 - 1), t8_1, t8_2, x4_2_0, Ax4_2_0, cx4_2_0, x4_2_1, x4_2_2, t9_0, At9_0, ct9_0, t9_1, t9_2, H, rfl⟩))))))))))))))
      ·
       exact ov (EV.ex rfl rfl) rfl (xs [] [0, 1, 2] rfl rfl rfl (one1 7 rfl rfl (ov (EV.ex rfl rfl) rfl (xs [] [0, 1, 2] rfl rfl rfl (xd (pr [0, 2, 4, 6] [0, 1, 2] [0, 2, 4] rfl rfl rfl rfl (ge (rg (sv (EV.mv rfl) rfl (sv (EV.sub rfl rfl) rfl (sv (EV.as rfl) rfl (re (wk [0, 2, 4, 6] [2, 0, 1] [⟨0, 2, 1, true⟩, ⟨2, 1, 2, true⟩, ⟨1, 0, 0, false⟩] (ih0 _ (by omega) _ ⟨wrap64 (x4_6 - 1), t8_1, t8_2, x4_2_0, Ax4_2_0, cx4_2_0, x4_2_1, x4_2_2, t9_0, At9_0, ct9_0, t9_1, t9_2, H, rfl⟩))))))))))))))
     ·
      refine ov (EV.ex rfl rfl) rfl (xs [] [0, 1, 2] rfl rfl rfl ?_)
      refine one2 7 8 rfl rfl rfl rfl ?_ ?_
      ·
       exact ov (EV.ex rfl rfl) rfl (xs [] [0, 1, 2] rfl rfl rfl (one1 8 rfl rfl (ov (EV.ex rfl rfl) rfl (xs [] [0, 1, 2] rfl rfl rfl (xd (pr [0, 2, 4, 6] [0, 1, 2] [0, 2, 4] rfl rfl rfl rfl (ge (rg (sv (EV.mv rfl) rfl (sv (EV.sub rfl rfl) rfl (sv (EV.as rfl) rfl (re (wk [0, 2, 4, 6] [2, 0, 1] [⟨0, 2, 1, true⟩, ⟨2, 1, 2, true⟩, ⟨1, 0, 0, false⟩] (ih0 _ (by omega) _ ⟨wrap64 (x4_6 - 1), t8_1, t8_2, x4_2_0, Ax4_2_0, cx4_2_0, x4_2_1, x4_2_2, t9_0, At9_0, ct9_0, t9_1, t9_2, H, rfl⟩))))))))))))))
      ·
       exact ov (EV.ex rfl rfl) rfl (xs [] [0, 1, 2] rfl rfl rfl (one1 7 rfl rfl (ov (EV.ex rfl rfl) rfl (xs [] [0, 1, 2] rfl rfl rfl (xd (pr [0, 2, 4, 6] [0, 1, 2] [0, 2, 4] rfl rfl rfl rfl (ge (rg (sv (EV.mv rfl) rfl (sv (EV.sub rfl rfl) rfl (sv (EV.as rfl) rfl (re (wk [0, 2, 4, 6] [2, 0, 1] [⟨0, 2, 1, true⟩, ⟨2, 1, 2, true⟩, ⟨1, 0, 0, false⟩] (ih0 _ (by omega) _ ⟨wrap64 (x4_6 - 1), t8_1, t8_2, x4_2_0, Ax4_2_0, cx4_2_0, x4_2_1, x4_2_2, t9_0, At9_0, ct9_0, t9_1, t9_2, H, rfl⟩))))))))))))))
   ·
    refine ov (EV.ex rfl rfl) rfl (xs [] [0, 1, 2] rfl rfl rfl ?_)
    refine one3 6 8 9 rfl rfl rfl rfl rfl rfl ?_ ?_ ?_
    ·
     refine ov (EV.ex rfl rfl) rfl (xs [] [0, 1, 2] rfl rfl rfl ?_)
     refine one3 8 9 10 rfl rfl rfl rfl rfl rfl ?_ ?_ ?_
     ·
      refine ov (EV.ex rfl rfl) rfl (xs [] [0, 1, 2] rfl rfl rfl ?_)
      refine one2 9 10 rfl rfl rfl rfl ?_ ?_
      ·
       exact ov (EV.ex rfl rfl) rfl (xs [] [0, 1, 2] rfl rfl rfl (one1 10 rfl rfl (op_st (cs' := [.slice At9_0 t9_0.length ct9_0, .int .i64 t9_1, .int .i64 t9_2]) 1 rfl rfl rfl rfl rfl rfl (xn rfl (xd (pr [0, 2, 4, 6] [0, 1, 2] [0, 2, 4] rfl rfl rfl rfl (ge (rg (sv (EV.mv rfl) rfl (sv (EV.sub rfl rfl) rfl (sv (EV.as rfl) rfl (re (wk [0, 2, 4, 6] [2, 0, 1] [⟨0, 2, 1, true⟩, ⟨2, 1, 2, true⟩, ⟨1, 0, 0, false⟩] (ih0 _ (by omega) _ ⟨wrap64 (x4_6 - 1), t8_1, t8_2, x4_2_0, Ax4_2_0, cx4_2_0, x4_2_1, x4_2_2, t9_0, At9_0, ct9_0, t9_1, t9_2, H, rfl⟩))))))))))))))
      ·
       exact op_st (cs' := [.slice At9_0 t9_0.length ct9_0, .int .i64 t9_1, .int .i64 t9_2]) 1 rfl rfl rfl rfl rfl rfl (xn rfl (one1 9 rfl rfl (ov (EV.ex rfl rfl) rfl (xs [] [0, 1, 2] rfl rfl rfl (xd (pr [0, 2, 4, 6] [0, 1, 2] [0, 2, 4] rfl rfl rfl rfl (ge (rg (sv (EV.mv rfl) rfl (sv (EV.sub rfl rfl) rfl (sv (EV.as rfl) rfl (re (wk [0, 2, 4, 6] [2, 0, 1] [⟨0, 2, 1, true⟩, ⟨2, 1, 2, true⟩, ⟨1, 0, 0, false⟩] (ih0 _ (by omega) _ ⟨wrap64 (x4_6 - 1), t8_1, t8_2, x4_2_0, Ax4_2_0, cx4_2_0, x4_2_1, x4_2_2, t9_0, At9_0, ct9_0, t9_1, t9_2, H, rfl⟩))))))))))))))
     ·
      refine ov (EV.ex rfl rfl) rfl (xs [] [0, 1, 2] rfl rfl rfl ?_)
      refine one2 8 10 rfl rfl rfl rfl ?_ ?_
      ·
       exact ov (EV.ex rfl rfl) rfl (xs [] [0, 1, 2] rfl rfl rfl (one1 10 rfl rfl (op_st (cs' := [.slice At9_0 t9_0.length ct9_0, .int .i64 t9_1, .int .i64 t9_2]) 1 rfl rfl rfl rfl rfl rfl (xn rfl (xd (pr [0, 2, 4, 6] [0, 1, 2] [0, 2, 4] rfl rfl rfl rfl (ge (rg (sv (EV.mv rfl) rfl (sv (EV.sub rfl rfl) rfl (sv (EV.as rfl) rfl (re (wk [0, 2, 4, 6] [2, 0, 1] [⟨0, 2, 1, true⟩, ⟨2, 1, 2, true⟩, ⟨1, 0, 0, false⟩] (ih0 _ (by omega) _ ⟨wrap64 (x4_6 - 1), t8_1, t8_2, x4_2_0, Ax4_2_0, cx4_2_0, x4_2_1, x4_2_2, t9_0, At9_0, ct9_0, t9_1, t9_2, H, rfl⟩))))))))))))))
      ·
       exact op_st (cs' := [.slice At9_0 t9_0.length ct9_0, .int .i64 t9_1, .int .i64 t9_2]) 1 rfl rfl rfl rfl rfl rfl (xn rfl (one1 8 rfl rfl (ov (EV.ex rfl rfl) rfl (xs [] [0, 1, 2] rfl rfl rfl (xd (pr [0, 2, 4, 6] [0, 1, 2] [0, 2, 4] rfl rfl rfl rfl (ge (rg (sv (EV.mv rfl) rfl (sv (EV.sub rfl rfl) rfl (sv (EV.as rfl) rfl (re (wk [0, 2, 4, 6] [2, 0, 1] [⟨0, 2, 1, true⟩, ⟨2, 1, 2, true⟩, ⟨1, 0, 0, false⟩] (ih0 _ (by omega) _ ⟨wrap64 (x4_6 - 1), t8_1, t8_2, x4_2_0, Ax4_2_0, cx4_2_0, x4_2_1, x4_2_2, t9_0, At9_0, ct9_0, t9_1, t9_2, H, rfl⟩))))))))))))))
     ·
      refine op_st (cs' := [.slice At9_0 t9_0.length ct9_0, .int .i64 t9_1, .int .i64 t9_2]) 1 rfl rfl rfl rfl rfl rfl (xn rfl ?_)
      refine one2 8 9 rfl rfl rfl rfl ?_ ?_
      ·
       exact ov (EV.ex rfl rfl) rfl (xs [] [0, 1, 2] rfl rfl rfl (one1 9 rfl rfl (ov (EV.ex rfl rfl) rfl (xs [] [0, 1, 2] rfl rfl rfl (xd (pr [0, 2, 4, 6] [0, 1, 2] [0, 2, 4] rfl rfl rfl rfl (ge (rg (sv (EV.mv rfl) rfl (sv (EV.sub rfl rfl) rfl (sv (EV.as rfl) rfl (re (wk [0, 2, 4, 6] [2, 0, 1] [⟨0, 2, 1, true⟩, ⟨2, 1, 2, true⟩, ⟨1, 0, 0, false⟩] (ih0 _ (by omega) _ ⟨wrap64 (x4_6 - 1), t8_1, t8_2, x4_2_0, Ax4_2_0, cx4_2_0, x4_2_1, x4_2_2, t9_0, At9_0, ct9_0, t9_1, t9_2, H, rfl⟩))))))))))))))
      ·
       exact ov (EV.ex rfl rfl) rfl (xs [] [0, 1, 2] rfl rfl rfl (one1 8 rfl rfl (ov (EV.ex rfl rfl) rfl (xs [] [0, 1, 2] rfl rfl rfl (xd (pr [0, 2, 4, 6] [0, 1, 2] [0, 2, 4] rfl rfl rfl rfl (ge (rg (sv (EV.mv rfl) rfl (sv (EV.sub rfl rfl) rfl (sv (EV.as rfl) rfl (re (wk [0, 2, 4, 6] [2, 0, 1] [⟨0, 2, 1, true⟩, ⟨2, 1, 2, true⟩, ⟨1, 0, 0, false⟩] (ih0 _ (by omega) _ ⟨wrap64 (x4_6 - 1), t8_1, t8_2, x4_2_0, Ax4_2_0, cx4_2_0, x4_2_1, x4_2_2, t9_0, At9_0, ct9_0, t9_1, t9_2, H, rfl⟩))))))))))))))
    ·
     refine ov (EV.ex rfl rfl) rfl (xs [] [0, 1, 2] rfl rfl rfl ?_)
     refine one2 6 9 rfl rfl rfl rfl ?_ ?_
     ·
      refine ov (EV.ex rfl rfl) rfl (xs [] [0, 1, 2] rfl rfl rfl ?_)
      refine one2 9 10 rfl rfl rfl rfl ?_ ?_
      ·
       exact ov (EV.ex rfl rfl) rfl (xs [] [0, 1, 2] rfl rfl rfl (one1 10 rfl rfl (op_st (cs' := [.slice At9_0 t9_0.length ct9_0, .int .i64 t9_1, .int .i64 t9_2]) 1 rfl rfl rfl rfl rfl rfl (xn rfl (xd (pr [0, 2, 4, 6] [0, 1, 2] [0, 2, 4] rfl rfl rfl rfl (ge (rg (sv (EV.mv rfl) rfl (sv (EV.sub rfl rfl) rfl (sv (EV.as rfl) rfl (re (wk [0, 2, 4, 6] [2, 0, 1] [⟨0, 2, 1, true⟩, ⟨2, 1, 2, true⟩, ⟨1, 0, 0, false⟩] (ih0 _ (by omega) _ ⟨wrap64 (x4_6 - 1), t8_1, t8_2, x4_2_0, Ax4_2_0, cx4_2_0, x4_2_1, x4_2_2, t9_0, At9_0, ct9_0, t9_1, t9_2, H, rfl⟩))))))))))))))
      ·
       exact op_st (cs' := [.slice At9_0 t9_0.length ct9_0, .int .i64 t9_1, .int .i64 t9_2]) 1 rfl rfl rfl rfl rfl rfl (xn rfl (one1 9 rfl rfl (ov (EV.ex rfl rfl) rfl (xs [] [0, 1, 2] rfl rfl rfl (xd (pr [0, 2, 4, 6] [0, 1, 2] [0, 2, 4] rfl rfl rfl rfl (ge (rg (sv (EV.mv rfl) rfl (sv (EV.sub rfl rfl) rfl (sv (EV.as rfl) rfl (re (wk [0, 2, 4, 6] [2, 0, 1] [⟨0, 2, 1, true⟩, ⟨2, 1, 2, true⟩, ⟨1, 0, 0, false⟩] (ih0 _ (by omega) _ ⟨wrap64 (x4_6 - 1), t8_1, t8_2, x4_2_0, Ax4_2_0, cx4_2_0, x4_2_1, x4_2_2, t9_0, At9_0, ct9_0, t9_1, t9_2, H, rfl⟩))))))))))))))
     ·
      exact ov (EV.ex rfl rfl) rfl (xs [] [0, 1, 2] rfl rfl rfl (one1 6 rfl rfl (ov (EV.ex rfl rfl) rfl (xs [] [0, 1, 2] rfl rfl rfl (one1 10 rfl rfl (op_st (cs' := [.slice At9_0 t9_0.length ct9_0, .int .i64 t9_1, .int .i64 t9_2]) 1 rfl rfl rfl rfl rfl rfl (xn rfl (xd (pr [0, 2, 4, 6] [0, 1, 2] [0, 2, 4] rfl rfl rfl rfl (ge (rg (sv (EV.mv rfl) rfl (sv (EV.sub rfl rfl) rfl (sv (EV.as rfl) rfl (re (wk [0, 2, 4, 6] [2, 0, 1] [⟨0, 2, 1, true⟩, ⟨2, 1, 2, true⟩, ⟨1, 0, 0, false⟩] (ih0 _ (by omega) _ ⟨wrap64 (x4_6 - 1), t8_1, t8_2, x4_2_0, Ax4_2_0, cx4_2_0, x4_2_1, x4_2_2, t9_0, At9_0, ct9_0, t9_1, t9_2, H, rfl⟩)))))))))))))))))
    ·
     refine ov (EV.ex rfl rfl) rfl (xs [] [0, 1, 2] rfl rfl rfl ?_)
     refine one2 6 8 rfl rfl rfl rfl ?_ ?_
     ·
      refine ov (EV.ex rfl rfl) rfl (xs [] [0, 1, 2] rfl rfl rfl ?_)
      refine one2 8 10 rfl rfl rfl rfl ?_ ?_
      ·
       exact ov (EV.ex rfl rfl) rfl (xs [] [0, 1, 2] rfl rfl rfl (one1 10 rfl rfl (op_st (cs' := [.slice At9_0 t9_0.length ct9_0, .int .i64 t9_1, .int .i64 t9_2]) 1 rfl rfl rfl rfl rfl rfl (xn rfl (xd (pr [0, 2, 4, 6] [0, 1, 2] [0, 2, 4] rfl rfl rfl rfl (ge (rg (sv (EV.mv rfl) rfl (sv (EV.sub rfl rfl) rfl (sv (EV.as rfl) rfl (re (wk [0, 2, 4, 6] [2, 0, 1] [⟨0, 2, 1, true⟩, ⟨2, 1, 2, true⟩, ⟨1, 0, 0, false⟩] (ih0 _ (by omega) _ ⟨wrap64 (x4_6 - 1), t8_1, t8_2, x4_2_0, Ax4_2_0, cx4_2_0, x4_2_1, x4_2_2, t9_0, At9_0, ct9_0, t9_1, t9_2, H, rfl⟩))))))))))))))
      ·
       exact op_st (cs' := [.slice At9_0 t9_0.length ct9_0, .int .i64 t9_1, .int .i64 t9_2]) 1 rfl rfl rfl rfl rfl rfl (xn rfl (one1 8 rfl rfl (ov (EV.ex rfl rfl) rfl (xs [] [0, 1, 2] rfl rfl rfl (xd (pr [0, 2, 4, 6] [0, 1, 2] [0, 2, 4] rfl rfl rfl rfl (ge (rg (sv (EV.mv rfl) rfl (sv (EV.sub rfl rfl) rfl (sv (EV.as rfl) rfl (re (wk [0, 2, 4, 6] [2, 0, 1] [⟨0, 2, 1, true⟩, ⟨2, 1, 2, true⟩, ⟨1, 0, 0, false⟩] (ih0 _ (by omega) _ ⟨wrap64 (x4_6 - 1), t8_1, t8_2, x4_2_0, Ax4_2_0, cx4_2_0, x4_2_1, x4_2_2, t9_0, At9_0, ct9_0, t9_1, t9_2, H, rfl⟩))))))))))))))
     ·
      exact ov (EV.ex rfl rfl) rfl (xs [] [0, 1, 2] rfl rfl rfl (one1 6 rfl rfl (ov (EV.ex rfl rfl) rfl (xs [] [0, 1, 2] rfl rfl rfl (one1 10 rfl rfl (op_st (cs' := [.slice At9_0 t9_0.length ct9_0, .int .i64 t9_1, .int .i64 t9_2]) 1 rfl rfl rfl rfl rfl rfl (xn rfl (xd (pr [0, 2, 4, 6] [0, 1, 2] [0, 2, 4] rfl rfl rfl rfl (ge (rg (sv (EV.mv rfl) rfl (sv (EV.sub rfl rfl) rfl (sv (EV.as rfl) rfl (re (wk [0, 2, 4, 6] [2, 0, 1] [⟨0, 2, 1, true⟩, ⟨2, 1, 2, true⟩, ⟨1, 0, 0, false⟩] (ih0 _ (by omega) _ ⟨wrap64 (x4_6 - 1), t8_1, t8_2, x4_2_0, Ax4_2_0, cx4_2_0, x4_2_1, x4_2_2, t9_0, At9_0, ct9_0, t9_1, t9_2, H, rfl⟩)))))))))))))))))
   ·
    refine ov (EV.ex rfl rfl) rfl (xs [] [0, 1, 2] rfl rfl rfl ?_)
    refine one3 6 7 9 rfl rfl rfl rfl rfl rfl ?_ ?_ ?_
    ·
     refine ov (EV.ex rfl rfl) rfl (xs [] [0, 1, 2] rfl rfl rfl ?_)
     refine one3 7 9 10 rfl rfl rfl rfl rfl rfl ?_ ?_ ?_
     ·
      refine ov (EV.ex rfl rfl) rfl (xs [] [0, 1, 2] rfl rfl rfl ?_)
      refine one2 9 10 rfl rfl rfl rfl ?_ ?_
      ·
       exact ov (EV.ex rfl rfl) rfl (xs [] [0, 1, 2] rfl rfl rfl (one1 10 rfl rfl (op_st (cs' := [.slice At9_0 t9_0.length ct9_0, .int .i64 t9_1, .int .i64 t9_2]) 1 rfl rfl rfl rfl rfl rfl (xn rfl (xd (pr [0, 2, 4, 6] [0, 1, 2] [0, 2, 4] rfl rfl rfl rfl (ge (rg (sv (EV.mv rfl) rfl (sv (EV.sub rfl rfl) rfl (sv (EV.as rfl) rfl (re (wk [0, 2, 4, 6] [2, 0, 1] [⟨0, 2, 1, true⟩, ⟨2, 1, 2, true⟩, ⟨1, 0, 0, false⟩] (ih0 _ (by omega) _ ⟨wrap64 (x4_6 - 1), t8_1, t8_2, x4_2_0, Ax4_2_0, cx4_2_0, x4_2_1, x4_2_2, t9_0, At9_0, ct9_0, t9_1, t9_2, H, rfl⟩))))))))))))))
      ·
       exact op_st (cs' := [.slice At9_0 t9_0.length ct9_0, .int .i64 t9_1, .int .i64 t9_2]) 1 rfl rfl rfl rfl rfl rfl (xn rfl (one1 9 rfl rfl (ov (EV.ex rfl rfl) rfl (xs [] [0, 1, 2] rfl rfl rfl (xd (pr [0, 2, 4, 6] [0, 1, 2] [0, 2, 4] rfl rfl rfl rfl (ge (rg (sv (EV.mv rfl) rfl (sv (EV.sub rfl rfl) rfl (sv (EV.as rfl) rfl (re (wk [0, 2, 4, 6] [2, 0, 1] [⟨0, 2, 1, true⟩, ⟨2, 1, 2, true⟩, ⟨1, 0, 0, false⟩] (ih0 _ (by omega) _ ⟨wrap64 (x4_6 - 1), t8_1, t8_2, x4_2_0, Ax4_2_0, cx4_2_0, x4_2_1, x4_2_2, t9_0, At9_0, ct9_0, t9_1, t9_2, H, rfl⟩))))))))))))))
     ·
      refine ov (EV.ex rfl rfl) rfl (xs [] [0, 1, 2] rfl rfl rfl ?_)
      refine one2 7 10 rfl rfl rfl rfl ?_ ?_
      ·
       exact ov (EV.ex rfl rfl) rfl (xs [] [0, 1, 2] rfl rfl rfl (one1 10 rfl rfl (op_st (cs' := [.slice At9_0 t9_0.length ct9_0, .int .i64 t9_1, .int .i64 t9_2]) 1 rfl rfl rfl rfl rfl rfl (xn rfl (xd (pr [0, 2, 4, 6] [0, 1, 2] [0, 2, 4] rfl rfl rfl rfl (ge (rg (sv (EV.mv rfl) rfl (sv (EV.sub rfl rfl) rfl (sv (EV.as rfl) rfl (re (wk [0, 2, 4, 6] [2, 0, 1] [⟨0, 2, 1, true⟩, ⟨2, 1, 2, true⟩, ⟨1, 0, 0, false⟩] (ih0 _ (by omega) _ ⟨wrap64 (x4_6 - 1), t8_1, t8_2, x4_2_0, Ax4_2_0, cx4_2_0, x4_2_1, x4_2_2, t9_0, At9_0, ct9_0, t9_1, t9_2, H, rfl⟩))))))))))))))
      ·
       exact op_st (cs' := [.slice At9_0 t9_0.length ct9_0, .int .i64 t9_1, .int .i64 t9_2]) 1 rfl rfl rfl rfl rfl rfl (xn rfl (one1 7 rfl rfl (ov (EV.ex rfl rfl) rfl (xs [] [0, 1, 2] rfl rfl rfl (xd (pr [0, 2, 4, 6] [0, 1, 2] [0, 2, 4] rfl rfl rfl rfl (ge (rg (sv (EV.mv rfl) rfl (sv (EV.sub rfl rfl) rfl (sv (EV.as rfl) rfl (re (wk [0, 2, 4, 6] [2, 0, 1] [⟨0, 2, 1, true⟩, ⟨2, 1, 2, true⟩, ⟨1, 0, 0, false⟩] (ih0 _ (by omega) _ ⟨wrap64 (x4_6 - 1), t8_1, t8_2, x4_2_0, Ax4_2_0, cx4_2_0, x4_2_1, x4_2_2, t9_0, At9_0, ct9_0, t9_1, t9_2, H, rfl⟩))))))))))))))
     ·
      refine op_st (cs' := [.slice At9_0 t9_0.length ct9_0, .int .i64 t9_1, .int .i64 t9_2]) 1 rfl rfl rfl rfl rfl rfl (xn rfl ?_)
      refine one2 7 9 rfl rfl rfl rfl ?_ ?_
      ·
       exact ov (EV.ex rfl rfl) rfl (xs [] [0, 1, 2] rfl rfl rfl (one1 9 rfl rfl (ov (EV.ex rfl rfl) rfl (xs [] [0, 1, 2] rfl rfl rfl (xd (pr [0, 2, 4, 6] [0, 1, 2] [0, 2, 4] rfl rfl rfl rfl (ge (rg (sv (EV.mv rfl) rfl (sv (EV.sub rfl rfl) rfl (sv (EV.as rfl) rfl (re (wk [0, 2, 4, 6] [2, 0, 1] [⟨0, 2, 1, true⟩, ⟨2, 1, 2, true⟩, ⟨1, 0, 0, false⟩] (ih0 _ (by omega) _ ⟨wrap64 (x4_6 - 1), t8_1, t8_2, x4_2_0, Ax4_2_0, cx4_2_0, x4_2_1, x4_2_2, t9_0, At9_0, ct9_0, t9_1, t9_2, H, rfl⟩))))))))))))))
      ·
       exact ov (EV.ex rfl rfl) rfl (xs [] [0, 1, 2] rfl rfl rfl (one1 7 rfl rfl (ov (EV.ex rfl rfl) rfl (xs [] [0, 1, 2] rfl rfl rfl (xd (pr [0, 2, 4, 6] [0, 1, 2] [0, 2, 4] rfl rfl rfl rfl (ge (rg (sv (EV.mv rfl) rfl (sv (EV.sub rfl rfl) rfl (sv (EV.as rfl) rfl (re (wk [0, 2, 4, 6] [2, 0, 1] [⟨0, 2, 1, true⟩, ⟨2, 1, 2, true⟩, ⟨1, 0, 0, false⟩] (ih0 _ (by omega) _ ⟨wrap64 (x4_6 - 1), t8_1, t8_2, x4_2_0, Ax4_2_0, cx4_2_0, x4_2_1, x4_2_2, t9_0, At9_0, ct9_0, t9_1, t9_2, H, rfl⟩))))))))))))))
    ·
     refine ov (EV.ex rfl rfl) rfl (xs [] [0, 1, 2] rfl rfl rfl ?_)
     refine one2 6 9 rfl rfl rfl rfl ?_ ?_
     ·
      refine ov (EV.ex rfl rfl) rfl (xs [] [0, 1, 2] rfl rfl rfl ?_)
      refine one2 9 10 rfl rfl rfl rfl ?_ ?_
      ·
       exact ov (EV.ex rfl rfl) rfl (xs [] [0, 1, 2] rfl rfl rfl (one1 10 rfl rfl (op_st (cs' := [.slice At9_0 t9_0.length ct9_0, .int .i64 t9_1, .int .i64 t9_2]) 1 rfl rfl rfl rfl rfl rfl (xn rfl (xd (pr [0, 2, 4, 6] [0, 1, 2] [0, 2, 4] rfl rfl rfl rfl (ge (rg (sv (EV.mv rfl) rfl (sv (EV.sub rfl rfl) rfl (sv (EV.as rfl) rfl (re (wk [0, 2, 4, 6] [2, 0, 1] [⟨0, 2, 1, true⟩, ⟨2, 1, 2, true⟩, ⟨1, 0, 0, false⟩] (ih0 _ (by omega) _ ⟨wrap64 (x4_6 - 1), t8_1, t8_2, x4_2_0, Ax4_2_0, cx4_2_0, x4_2_1, x4_2_2, t9_0, At9_0, ct9_0, t9_1, t9_2, H, rfl⟩))))))))))))))
      ·
       exact op_st (cs' := [.slice At9_0 t9_0.length ct9_0, .int .i64 t9_1, .int .i64 t9_2]) 1 rfl rfl rfl rfl rfl rfl (xn rfl (one1 9 rfl rfl (ov (EV.ex rfl rfl) rfl (xs [] [0, 1, 2] rfl rfl rfl (xd (pr [0, 2, 4, 6] [0, 1, 2] [0, 2, 4] rfl rfl rfl rfl (ge (rg (sv (EV.mv rfl) rfl (sv (EV.sub rfl rfl) rfl (sv (EV.as rfl) rfl (re (wk [0, 2, 4, 6] [2, 0, 1] [⟨0, 2, 1, true⟩, ⟨2, 1, 2, true⟩, ⟨1, 0, 0, false⟩] (ih0 _ (by omega) _ ⟨wrap64 (x4_6 - 1), t8_1, t8_2, x4_2_0, Ax4_2_0, cx4_2_0, x4_2_1, x4_2_2, t9_0, At9_0, ct9_0, t9_1, t9_2, H, rfl⟩))))))))))))))
     ·
      exact ov (EV.ex rfl rfl) rfl (xs [] [0, 1, 2] rfl rfl rfl (one1 6 rfl rfl (ov (EV.ex rfl rfl) rfl (xs [] [0, 1, 2] rfl rfl rfl (one1 10 rfl rfl (op_st (cs' := [.slice At9_0 t9_0.length ct9_0, .int .i64 t9_1, .int .i64 t9_2]) 1 rfl rfl rfl rfl rfl rfl (xn rfl (xd (pr [0, 2, 4, 6] [0, 1, 2] [0, 2, 4] rfl rfl rfl rfl (ge (rg (sv (EV.mv rfl) rfl (sv (EV.sub rfl rfl) rfl (sv (EV.as rfl) rfl (re (wk [0, 2, 4, 6] [2, 0, 1] [⟨0, 2, 1, true⟩, ⟨2, 1, 2, true⟩, ⟨1, 0, 0, false⟩] (ih0 _ (by omega) _ ⟨wrap64 (x4_6 - 1), t8_1, t8_2, x4_2_0, Ax4_2_0, cx4_2_0, x4_2_1, x4_2_2, t9_0, At9_0, ct9_0, t9_1, t9_2, H, rfl⟩)))))))))))))))))
    ·
     refine ov (EV.ex rfl rfl) rfl (xs [] [0, 1, 2] rfl rfl rfl ?_)
     refine one2 6 7 rfl rfl rfl rfl ?_ ?_
     ·
      refine ov (EV.ex rfl rfl) rfl (xs [] [0, 1, 2] rfl rfl rfl ?_)
      refine one2 7 10 rfl rfl rfl rfl ?_ ?_
      ·
       exact ov (EV.ex rfl rfl) rfl (xs [] [0, 1, 2] rfl rfl rfl (one1 10 rfl rfl (op_st (cs' := [.slice At9_0 t9_0.length ct9_0, .int .i64 t9_1, .int .i64 t9_2]) 1 rfl rfl rfl rfl rfl rfl (xn rfl (xd (pr [0, 2, 4, 6] [0, 1, 2] [0, 2, 4] rfl rfl rfl rfl (ge (rg (sv (EV.mv rfl) rfl (sv (EV.sub rfl rfl) rfl (sv (EV.as rfl) rfl (re (wk [0, 2, 4, 6] [2, 0, 1] [⟨0, 2, 1, true⟩, ⟨2, 1, 2, true⟩, ⟨1, 0, 0, false⟩] (ih0 _ (by omega) _ ⟨wrap64 (x4_6 - 1), t8_1, t8_2, x4_2_0, Ax4_2_0, cx4_2_0, x4_2_1, x4_2_2, t9_0, At9_0, ct9_0, t9_1, t9_2, H, rfl⟩))))))))))))))
      ·
       exact op_st (cs' := [.slice At9_0 t9_0.length ct9_0, .int .i64 t9_1, .int .i64 t9_2]) 1 rfl rfl rfl rfl rfl rfl (xn rfl (one1 7 rfl rfl (ov (EV.ex rfl rfl) rfl (xs [] [0, 1, 2] rfl rfl rfl (xd (pr [0, 2, 4, 6] [0, 1, 2] [0, 2, 4] rfl rfl rfl rfl (ge (rg (sv (EV.mv rfl) rfl (sv (EV.sub rfl rfl) rfl (sv (EV.as rfl) rfl (re (wk [0, 2, 4, 6] [2, 0, 1] [⟨0, 2, 1, true⟩, ⟨2, 1, 2, true⟩, ⟨1, 0, 0, false⟩] (ih0 _ (by omega) _ ⟨wrap64 (x4_6 - 1), t8_1, t8_2, x4_2_0, Ax4_2_0, cx4_2_0, x4_2_1, x4_2_2, t9_0, At9_0, ct9_0, t9_1, t9_2, H, rfl⟩))))))))))))))
     ·
      exact ov (EV.ex rfl rfl) rfl (xs [] [0, 1, 2] rfl rfl rfl (one1 6 rfl rfl (ov (EV.ex rfl rfl) rfl (xs [] [0, 1, 2] rfl rfl rfl (one1 10 rfl rfl (op_st (cs' := [.slice At9_0 t9_0.length ct9_0, .int .i64 t9_1, .int .i64 t9_2]) 1 rfl rfl rfl rfl rfl rfl (xn rfl (xd (pr [0, 2, 4, 6] [0, 1, 2] [0, 2, 4] rfl rfl rfl rfl (ge (rg (sv (EV.mv rfl) rfl (sv (EV.sub rfl rfl) rfl (sv (EV.as rfl) rfl (re (wk [0, 2, 4, 6] [2, 0, 1] [⟨0, 2, 1, true⟩, ⟨2, 1, 2, true⟩, ⟨1, 0, 0, false⟩] (ih0 _ (by omega) _ ⟨wrap64 (x4_6 - 1), t8_1, t8_2, x4_2_0, Ax4_2_0, cx4_2_0, x4_2_1, x4_2_2, t9_0, At9_0, ct9_0, t9_1, t9_2, H, rfl⟩)))))))))))))))))
   ·
    refine ov (EV.ex rfl rfl) rfl (xs [] [0, 1, 2] rfl rfl rfl ?_)
    refine one3 6 7 8 rfl rfl rfl rfl rfl rfl ?_ ?_ ?_
    ·
     refine ov (EV.ex rfl rfl) rfl (xs [] [0, 1, 2] rfl rfl rfl ?_)
     refine one3 7 8 10 rfl rfl rfl rfl rfl rfl ?_ ?_ ?_
     ·
      refine ov (EV.ex rfl rfl) rfl (xs [] [0, 1, 2] rfl rfl rfl ?_)
      refine one2 8 10 rfl rfl rfl rfl ?_ ?_
      ·
       exact ov (EV.ex rfl rfl) rfl (xs [] [0, 1, 2] rfl rfl rfl (one1 10 rfl rfl (op_st (cs' := [.slice At9_0 t9_0.length ct9_0, .int .i64 t9_1, .int .i64 t9_2]) 1 rfl rfl rfl rfl rfl rfl (xn rfl (xd (pr [0, 2, 4, 6] [0, 1, 2] [0, 2, 4] rfl rfl rfl rfl (ge (rg (sv (EV.mv rfl) rfl (sv (EV.sub rfl rfl) rfl (sv (EV.as rfl) rfl (re (wk [0, 2, 4, 6] [2, 0, 1] [⟨0, 2, 1, true⟩, ⟨2, 1, 2, true⟩, ⟨1, 0, 0, false⟩] (ih0 _ (by omega) _ ⟨wrap64 (x4_6 - 1), t8_1, t8_2, x4_2_0, Ax4_2_0, cx4_2_0, x4_2_1, x4_2_2, t9_0, At9_0, ct9_0, t9_1, t9_2, H, rfl⟩))))))))))))))
      ·
       exact op_st (cs' := [.slice At9_0 t9_0.length ct9_0, .int .i64 t9_1, .int .i64 t9_2]) 1 rfl rfl rfl rfl rfl rfl (xn rfl (one1 8 rfl rfl (ov (EV.ex rfl rfl) rfl (xs [] [0, 1, 2] rfl rfl rfl (xd (pr [0, 2, 4, 6] [0, 1, 2] [0, 2, 4] rfl rfl rfl rfl (ge (rg (sv (EV.mv rfl) rfl (sv (EV.sub rfl rfl) rfl (sv (EV.as rfl) rfl (re (wk [0, 2, 4, 6] [2, 0, 1] [⟨0, 2, 1, true⟩, ⟨2, 1, 2, true⟩, ⟨1, 0, 0, false⟩] (ih0 _ (by omega) _ ⟨wrap64 (x4_6 - 1), t8_1, t8_2, x4_2_0, Ax4_2_0, cx4_2_0, x4_2_1, x4_2_2, t9_0, At9_0, ct9_0, t9_1, t9_2, H, rfl⟩))))))))))))))
     ·
      refine ov (EV.ex rfl rfl) rfl (xs [] [0, 1, 2] rfl rfl rfl ?_)
      refine one2 7 10 rfl rfl rfl rfl ?_ ?_
      ·
       exact ov (EV.ex rfl rfl) rfl (xs [] [0, 1, 2] rfl rfl rfl (one1 10 rfl rfl (op_st (cs' := [.slice At9_0 t9_0.length ct9_0, .int .i64 t9_1, .int .i64 t9_2]) 1 rfl rfl rfl rfl rfl rfl (xn rfl (xd (pr [0, 2, 4, 6] [0, 1, 2] [0, 2, 4] rfl rfl rfl rfl (ge (rg (sv (EV.mv rfl) rfl (sv (EV.sub rfl rfl) rfl (sv (EV.as rfl) rfl (re (wk [0, 2, 4, 6] [2, 0, 1] [⟨0, 2, 1, true⟩, ⟨2, 1, 2, true⟩, ⟨1, 0, 0, false⟩] (ih0 _ (by omega) _ ⟨wrap64 (x4_6 - 1), t8_1, t8_2, x4_2_0, Ax4_2_0, cx4_2_0, x4_2_1, x4_2_2, t9_0, At9_0, ct9_0, t9_1, t9_2, H, rfl⟩))))))))))))))
      ·
       exact op_st (cs' := [.slice At9_0 t9_0.length ct9_0, .int .i64 t9_1, .int .i64 t9_2]) 1 rfl rfl rfl rfl rfl rfl (xn rfl (one1 7 rfl rfl (ov (EV.ex rfl rfl) rfl (xs [] [0, 1, 2] rfl rfl rfl (xd (pr [0, 2, 4, 6] [0, 1, 2] [0, 2, 4] rfl rfl rfl rfl (ge (rg (sv (EV.mv rfl) rfl (sv (EV.sub rfl rfl) rfl (sv (EV.as rfl) rfl (re (wk [0, 2, 4, 6] [2, 0, 1] [⟨0, 2, 1, true⟩, ⟨2, 1, 2, true⟩, ⟨1, 0, 0, false⟩] (ih0 _ (by omega) _ ⟨wrap64 (x4_6 - 1), t8_1, t8_2, x4_2_0, Ax4_2_0, cx4_2_0, x4_2_1, x4_2_2, t9_0, At9_0, ct9_0, t9_1, t9_2, H, rfl⟩))))))))))))))
     ·
      refine op_st (cs' := [.slice At9_0 t9_0.length ct9_0, .int .i64 t9_1, .int .i64 t9_2]) 1 rfl rfl rfl rfl rfl rfl (xn rfl ?_)
      refine one2 7 8 rfl rfl rfl rfl ?_ ?_
      ·
       exact ov (EV.ex rfl rfl) rfl (xs [] [0, 1, 2] rfl rfl rfl (one1 8 rfl rfl (ov (EV.ex rfl rfl) rfl (xs [] [0, 1, 2] rfl rfl rfl (xd (pr [0, 2, 4, 6] [0, 1, 2] [0, 2, 4] rfl rfl rfl rfl (ge (rg (sv (EV.mv rfl) rfl (sv (EV.sub rfl rfl) rfl (sv (EV.as rfl) rfl (re (wk [0, 2, 4, 6] [2, 0, 1] [⟨0, 2, 1, true⟩, ⟨2, 1, 2, true⟩, ⟨1, 0, 0, false⟩] (ih0 _ (by omega) _ ⟨wrap64 (x4_6 - 1), t8_1, t8_2, x4_2_0, Ax4_2_0, cx4_2_0, x4_2_1, x4_2_2, t9_0, At9_0, ct9_0, t9_1, t9_2, H, rfl⟩))))))))))))))
      ·
       exact ov (EV.ex rfl rfl) rfl (xs [] [0, 1, 2] rfl rfl rfl (one1 7 rfl rfl (ov (EV.ex rfl rfl) rfl (xs [] [0, 1, 2] rfl rfl rfl (xd (pr [0, 2, 4, 6] [0, 1, 2] [0, 2, 4] rfl rfl rfl rfl (ge (rg (sv (EV.mv rfl) rfl (sv (EV.sub rfl rfl) rfl (sv (EV.as rfl) rfl (re (wk [0, 2, 4, 6] [2, 0, 1] [⟨0, 2, 1, true⟩, ⟨2, 1, 2, true⟩, ⟨1, 0, 0, false⟩] (ih0 _ (by omega) _ ⟨wrap64 (x4_6 - 1), t8_1, t8_2, x4_2_0, Ax4_2_0, cx4_2_0, x4_2_1, x4_2_2, t9_0, At9_0, ct9_0, t9_1, t9_2, H, rfl⟩))))))))))))))
    ·
     refine ov (EV.ex rfl rfl) rfl (xs [] [0, 1, 2] rfl rfl rfl ?_)
     refine one2 6 8 rfl rfl rfl rfl ?_ ?_
     ·
      refine ov (EV.ex rfl rfl) rfl (xs [] [0, 1, 2] rfl rfl rfl ?_)
      refine one2 8 10 rfl rfl rfl rfl ?_ ?_
      ·
       exact ov (EV.ex rfl rfl) rfl (xs [] [0, 1, 2] rfl rfl rfl (one1 10 rfl rfl (op_st (cs' := [.slice At9_0 t9_0.length ct9_0, .int .i64 t9_1, .int .i64 t9_2]) 1 rfl rfl rfl rfl rfl rfl (xn rfl (xd (pr [0, 2, 4, 6] [0, 1, 2] [0, 2, 4] rfl rfl rfl rfl (ge (rg (sv (EV.mv rfl) rfl (sv (EV.sub rfl rfl) rfl (sv (EV.as rfl) rfl (re (wk [0, 2, 4, 6] [2, 0, 1] [⟨0, 2, 1, true⟩, ⟨2, 1, 2, true⟩, ⟨1, 0, 0, false⟩] (ih0 _ (by omega) _ ⟨wrap64 (x4_6 - 1), t8_1, t8_2, x4_2_0, Ax4_2_0, cx4_2_0, x4_2_1, x4_2_2, t9_0, At9_0, ct9_0, t9_1, t9_2, H, rfl⟩))))))))))))))
      ·
       exact op_st (cs' := [.slice At9_0 t9_0.length ct9_0, .int .i64 t9_1, .int .i64 t9_2]) 1 rfl rfl rfl rfl rfl rfl (xn rfl (one1 8 rfl rfl (ov (EV.ex rfl rfl) rfl (xs [] [0, 1, 2] rfl rfl rfl (xd (pr [0, 2, 4, 6] [0, 1, 2] [0, 2, 4] rfl rfl rfl rfl (ge (rg (sv (EV.mv rfl) rfl (sv (EV.sub rfl rfl) rfl (sv (EV.as rfl) rfl (re (wk [0, 2, 4, 6] [2, 0, 1] [⟨0, 2, 1, true⟩, ⟨2, 1, 2, true⟩, ⟨1, 0, 0, false⟩] (ih0 _ (by omega) _ ⟨wrap64 (x4_6 - 1), t8_1, t8_2, x4_2_0, Ax4_2_0, cx4_2_0, x4_2_1, x4_2_2, t9_0, At9_0, ct9_0, t9_1, t9_2, H, rfl⟩))))))))))))))
     ·
      exact ov (EV.ex rfl rfl) rfl (xs [] [0, 1, 2] rfl rfl rfl (one1 6 rfl rfl (ov (EV.ex rfl rfl) rfl (xs [] [0, 1, 2] rfl rfl rfl (one1 10 rfl rfl (op_st (cs' := [.slice At9_0 t9_0.length ct9_0, .int .i64 t9_1, .int .i64 t9_2]) 1 rfl rfl rfl rfl rfl rfl (xn rfl (xd (pr [0, 2, 4, 6] [0, 1, 2] [0, 2, 4] rfl rfl rfl rfl (ge (rg (sv (EV.mv rfl) rfl (sv (EV.sub rfl rfl) rfl (sv (EV.as rfl) rfl (re (wk [0, 2, 4, 6] [2, 0, 1] [⟨0, 2, 1, true⟩, ⟨2, 1, 2, true⟩, ⟨1, 0, 0, false⟩] (ih0 _ (by omega) _ ⟨wrap64 (x4_6 - 1), t8_1, t8_2, x4_2_0, Ax4_2_0, cx4_2_0, x4_2_1, x4_2_2, t9_0, At9_0, ct9_0, t9_1, t9_2, H, rfl⟩)))))))))))))))))
    ·
     refine ov (EV.ex rfl rfl) rfl (xs [] [0, 1, 2] rfl rfl rfl ?_)
     refine one2 6 7 rfl rfl rfl rfl ?_ ?_
     ·
      refine ov (EV.ex rfl rfl) rfl (xs [] [0, 1, 2] rfl rfl rfl ?_)
      refine one2 7 10 rfl rfl rfl rfl ?_ ?_
      ·
       exact ov (EV.ex rfl rfl) rfl (xs [] [0, 1, 2] rfl rfl rfl (one1 10 rfl rfl (op_st (cs' := [.slice At9_0 t9_0.length ct9_0, .int .i64 t9_1, .int .i64 t9_2]) 1 rfl rfl rfl rfl rfl rfl (xn rfl (xd (pr [0, 2, 4, 6] [0, 1, 2] [0, 2, 4] rfl rfl rfl rfl (ge (rg (sv (EV.mv rfl) rfl (sv (EV.sub rfl rfl) rfl (sv (EV.as rfl) rfl (re (wk [0, 2, 4, 6] [2, 0, 1] [⟨0, 2, 1, true⟩, ⟨2, 1, 2, true⟩, ⟨1, 0, 0, false⟩] (ih0 _ (by omega) _ ⟨wrap64 (x4_6 - 1), t8_1, t8_2, x4_2_0, Ax4_2_0, cx4_2_0, x4_2_1, x4_2_2, t9_0, At9_0, ct9_0, t9_1, t9_2, H, rfl⟩))))))))))))))
      ·
       exact op_st (cs' := [.slice At9_0 t9_0.length ct9_0, .int .i64 t9_1, .int .i64 t9_2]) 1 rfl rfl rfl rfl rfl rfl (xn rfl (one1 7 rfl rfl (ov (EV.ex rfl rfl) rfl (xs [] [0, 1, 2] rfl rfl rfl (xd (pr [0, 2, 4, 6] [0, 1, 2] [0, 2, 4] rfl rfl rfl rfl (ge (rg (sv (EV.mv rfl) rfl (sv (EV.sub rfl rfl) rfl (sv (EV.as rfl) rfl (re (wk [0, 2, 4, 6] [2, 0, 1] [⟨0, 2, 1, true⟩, ⟨2, 1, 2, true⟩, ⟨1, 0, 0, false⟩] (ih0 _ (by omega) _ ⟨wrap64 (x4_6 - 1), t8_1, t8_2, x4_2_0, Ax4_2_0, cx4_2_0, x4_2_1, x4_2_2, t9_0, At9_0, ct9_0, t9_1, t9_2, H, rfl⟩))))))))))))))
     ·
      exact ov (EV.ex rfl rfl) rfl (xs [] [0, 1, 2] rfl rfl rfl (one1 6 rfl rfl (ov (EV.ex rfl rfl) rfl (xs [] [0, 1, 2] rfl rfl rfl (one1 10 rfl rfl (op_st (cs' := [.slice At9_0 t9_0.length ct9_0, .int .i64 t9_1, .int .i64 t9_2]) 1 rfl rfl rfl rfl rfl rfl (xn rfl (xd (pr [0, 2, 4, 6] [0, 1, 2] [0, 2, 4] rfl rfl rfl rfl (ge (rg (sv (EV.mv rfl) rfl (sv (EV.sub rfl rfl) rfl (sv (EV.as rfl) rfl (re (wk [0, 2, 4, 6] [2, 0, 1] [⟨0, 2, 1, true⟩, ⟨2, 1, 2, true⟩, ⟨1, 0, 0, false⟩] (ih0 _ (by omega) _ ⟨wrap64 (x4_6 - 1), t8_1, t8_2, x4_2_0, Ax4_2_0, cx4_2_0, x4_2_1, x4_2_2, t9_0, At9_0, ct9_0, t9_1, t9_2, H, rfl⟩)))))))))))))))))
  ·
   refine op_lit (s := 1) (by_ := 8) (.int .i64) ([8, 9, 12] : List Int) [[], [], []] [] 3 [.const (.int .i64 8), .const (.int .i64 9), .const (.int .i64 12)] rfl rfl rfl rfl rfl rfl rfl rfl rfl rfl rfl rfl rfl dq rfl fun A28_10 c28_10 => (xs [] [0, 1, 2] rfl rfl rfl ?_)
   refine one2 0 3 rfl rfl rfl rfl ?_ ?_
   ·
    refine ov (EV.ld (v := .agg #[.slice Ax4_4_0 x4_4_0.length cx4_4_0, .int .i64 x4_4_1, .int .i64 x4_4_2]) 2 (some 3) rfl rfl rfl) rfl (xs [] [0, 1, 2] rfl rfl rfl (one1 3 rfl rfl ?_))
    revert H; refine bdI ?_; rintro ⟨t11_0, t11_1, t11_2⟩ A11 H
    refine op_callM (spec_l1PickInt.ok b1000 l0_0 Al0_0 cl0_0 x4_1000_1 x4_1000_2 ([8, 9, 12] : List Int) A28_10 c28_10 _ _ _ A11) [⟨2, 0, 0, false⟩, ⟨3, 0, 0, false⟩] [0] [1, 2] 4 rfl rfl rfl rfl rfl rfl rfl rfl ?_
    rintro _ _ _ ⟨rfl, rfl, rfl⟩
    refine nmE (en := [.sl 2 k44 Ax4_2_0 cx4_2_0 x4_2_0 1 true, .sl 1 k44 Ax4_4_0 cx4_4_0 x4_4_0 2 true, .sl 0 (.int .u8) Al0_0 cl0_0 l0_0 0 false, .sl 2 (.int .i64) A28_10 c28_10 ([8, 9, 12] : List Int) 3 true]) (by kernel_rfl) (xs [] [0, 1, 2] rfl rfl rfl (one1 4 rfl rfl ?_))
    revert H; refine bdI ?_; rintro ⟨t12_0, t12_1, t12_2, t12_3, t12_4, t12_5⟩ A12 H
    refine op_call (spec_StepJoiner.ok n0 x4_4_0 Ax4_4_0 cx4_4_0 x4_4_1 x4_4_2 t11_0 _ _ _ _ _ _ A12) [⟨1, 0, 0, false⟩] 4 rfl rfl rfl rfl rfl ?_
    rintro _ _ _ ⟨At12_0, ct12_0, At12_3, ct12_3, rfl, rfl, rfl⟩
    refine xs [] [0, 1, 2] rfl rfl rfl (one1 5 rfl rfl (ov (EV.mv rfl) rfl (xs [] [0, 1, 2] rfl rfl rfl ?_)))
    refine one4 6 7 8 9 rfl rfl rfl rfl rfl rfl rfl rfl ?_ ?_ ?_ ?_
    ·
     refine ov (EV.ex rfl rfl) rfl (xs [] [0, 1, 2] rfl rfl rfl ?_)
     refine one4 7 8 9 10 rfl rfl rfl rfl rfl rfl rfl rfl ?_ ?_ ?_ ?_
     ·
      refine ov (EV.ex rfl rfl) rfl (xs [] [0, 1, 2] rfl rfl rfl ?_)
      refine one3 8 9 10 rfl rfl rfl rfl rfl rfl ?_ ?_ ?_
      ·
       refine ov (EV.ex rfl rfl) rfl (xs [] [0, 1, 2] rfl rfl rfl ?_)
       refine one2 9 10 rfl rfl rfl rfl ?_ ?_
       ·
        exact ov (EV.ex rfl rfl) rfl (xs [] [0, 1, 2] rfl rfl rfl (one1 10 rfl rfl (op_st (cs' := [.slice At12_0 t12_0.length ct12_0, .int .i64 t12_1, .int .i64 t12_2]) 1 rfl rfl rfl rfl rfl rfl (xn rfl (xd (pr [0, 2, 4, 6] [0, 1, 2] [0, 2, 4] rfl rfl rfl rfl (ge (rg (sv (EV.mv rfl) rfl (sv (EV.sub rfl rfl) rfl (sv (EV.as rfl) rfl (re (wk [0, 2, 4, 6] [2, 0, 1] [⟨0, 2, 1, true⟩, ⟨2, 1, 2, true⟩, ⟨1, 0, 0, false⟩] (ih0 _ (by omega) _ ⟨wrap64 (x4_6 - 1), t11_1, t11_2, x4_2_0, Ax4_2_0, cx4_2_0, x4_2_1, x4_2_2, t12_0, At12_0, ct12_0, t12_1, t12_2, H, rfl⟩))))))))))))))
       ·
        exact op_st (cs' := [.slice At12_0 t12_0.length ct12_0, .int .i64 t12_1, .int .i64 t12_2]) 1 rfl rfl rfl rfl rfl rfl (xn rfl (one1 9 rfl rfl (ov (EV.ex rfl rfl) rfl (xs [] [0, 1, 2] rfl rfl rfl (xd (pr [0, 2, 4, 6] [0, 1, 2] [0, 2, 4] rfl rfl rfl rfl (ge (rg (sv (EV.mv rfl) rfl (sv (EV.sub rfl rfl) rfl (sv (EV.as rfl) rfl (re (wk [0, 2, 4, 6] [2, 0, 1] [⟨0, 2, 1, true⟩, ⟨2, 1, 2, true⟩, ⟨1, 0, 0, false⟩] (ih0 _ (by omega) _ ⟨wrap64 (x4_6 - 1), t11_1, t11_2, x4_2_0, Ax4_2_0, cx4_2_0, x4_2_1, x4_2_2, t12_0, At12_0, ct12_0, t12_1, t12_2, H, rfl⟩))))))))))))))
      ·
       refine ov (EV.ex rfl rfl) rfl (xs [] [0, 1, 2] rfl rfl rfl ?_)
       refine one2 8 10 rfl rfl rfl rfl ?_ ?_
       ·
        exact ov (EV.ex rfl rfl) rfl (xs [] [0, 1, 2] rfl rfl rfl (one1 10 rfl rfl (op_st (cs' := [.slice At12_0 t12_0.length ct12_0, .int .i64 t12_1, .int .i64 t12_2]) 1 rfl rfl rfl rfl rfl rfl (xn rfl (xd (pr [0, 2, 4, 6] [0, 1, 2] [0, 2, 4] rfl rfl rfl rfl (ge (rg (sv (EV.mv rfl) rfl (sv (EV.sub rfl rfl) rfl (sv (EV.as rfl) rfl (re (wk [0, 2, 4, 6] [2, 0, 1] [⟨0, 2, 1, true⟩, ⟨2, 1, 2, true⟩, ⟨1, 0, 0, false⟩] (ih0 _ (by omega) _ ⟨wrap64 (x4_6 - 1), t11_1, t11_2, x4_2_0, Ax4_2_0, cx4_2_0, x4_2_1, x4_2_2, t12_0, At12_0, ct12_0, t12_1, t12_2, H, rfl⟩))))))))))))))
       ·
        exact op_st (cs' := [.slice At12_0 t12_0.length ct12_0, .int .i64 t12_1, .int .i64 t12_2]) 1 rfl rfl rfl rfl rfl rfl (xn rfl (one1 8 rfl rfl (ov (EV.ex rfl rfl) rfl (xs [] [0, 1, 2] rfl rfl rfl (xd (pr [0, 2, 4, 6] [0, 1, 2] [0, 2, 4] rfl rfl rfl rfl (ge (rg (sv (EV.mv rfl) rfl (sv (EV.sub rfl rfl) rfl (sv (EV.as rfl) rfl (re (wk [0, 2, 4, 6] [2, 0, 1] [⟨0, 2, 1, true⟩, ⟨2, 1, 2, true⟩, ⟨1, 0, 0, false⟩] (ih0 _ (by omega) _ ⟨wrap64 (x4_6 - 1), t11_1, t11_2, x4_2_0, Ax4_2_0, cx4_2_0, x4_2_1, x4_2_2, t12_0, At12_0, ct12_0, t12_1, t12_2, H, rfl⟩))))))))))))))
      ·
       refine op_st (cs' := [.slice At12_0 t12_0.length ct12_0, .int .i64 t12_1, .int .i64 t12_2]) 1 rfl rfl rfl rfl rfl rfl (xn rfl ?_)
       refine one2 8 9 rfl rfl rfl rfl ?_ ?_
       ·
        exact ov (EV.ex rfl rfl) rfl (xs [] [0, 1, 2] rfl rfl rfl (one1 9 rfl rfl (ov (EV.ex rfl rfl) rfl (xs [] [0, 1, 2] rfl rfl rfl (xd (pr [0, 2, 4, 6] [0, 1, 2] [0, 2, 4] rfl rfl rfl rfl (ge (rg (sv (EV.mv rfl) rfl (sv (EV.sub rfl rfl) rfl (sv (EV.as rfl) rfl (re (wk [0, 2, 4, 6] [2, 0, 1] [⟨0, 2, 1, true⟩, ⟨2, 1, 2, true⟩, ⟨1, 0, 0, false⟩] (ih0 _ (by omega) _ ⟨wrap64 (x4_6 - 1), t11_1, t11_2, x4_2_0, Ax4_2_0, cx4_2_0, x4_2_1, x4_2_2, t12_0, At12_0, ct12_0, t12_1, t12_2, H, rfl⟩))))))))))))))
       ·
        exact ov (EV.ex rfl rfl) rfl (xs [] [0, 1, 2] rfl rfl rfl (one1 8 rfl rfl (ov (EV.ex rfl rfl) rfl (xs [] [0, 1, 2] rfl rfl rfl (xd (pr [0, 2, 4, 6] [0, 1, 2] [0, 2, 4] rfl rfl rfl rfl (ge (rg (sv (EV.mv rfl) rfl (sv (EV.sub rfl rfl) rfl (sv (EV.as rfl) rfl (re (wk [0, 2, 4, 6] [2, 0, 1] [⟨0, 2, 1, true⟩, ⟨2, 1, 2, true⟩, ⟨1, 0, 0, false⟩] (ih0 _ (by omega) _ ⟨wrap64 (x4_6 - 1), t11_1, t11_2, x4_2_0, Ax4_2_0, cx4_2_0, x4_2_1, x4_2_2, t12_0, At12_0, ct12_0, t12_1, t12_2, H, rfl⟩))))))))))))))
     ·
      refine ov (EV.ex rfl rfl) rfl (xs [] [0, 1, 2] rfl rfl rfl ?_)
      refine one3 7 9 10 rfl rfl rfl rfl rfl rfl ?_ ?_ ?_
      ·
       refine ov (EV.ex rfl rfl) rfl (xs [] [0, 1, 2] rfl rfl rfl ?_)
       refine one2 9 10 rfl rfl rfl rfl ?_ ?_
       ·
        exact ov (EV.ex rfl rfl) rfl (xs [] [0, 1, 2] rfl rfl rfl (one1 10 rfl rfl (op_st (cs' := [.slice At12_0 t12_0.length ct12_0, .int .i64 t12_1, .int .i64 t12_2]) 1 rfl rfl rfl rfl rfl rfl (xn rfl (xd (pr [0, 2, 4, 6] [0, 1, 2] [0, 2, 4] rfl rfl rfl rfl (ge (rg (sv (EV.mv rfl) rfl (sv (EV.sub rfl rfl) rfl (sv (EV.as rfl) rfl (re (wk [0, 2, 4, 6] [2, 0, 1] [⟨0, 2, 1, true⟩, ⟨2, 1, 2, true⟩, ⟨1, 0, 0, false⟩] (ih0 _ (by omega) _ ⟨wrap64 (x4_6 - 1), t11_1, t11_2, x4_2_0, Ax4_2_0, cx4_2_0, x4_2_1, x4_2_2, t12_0, At12_0, ct12_0, t12_1, t12_2, H, rfl⟩))))))))))))))
       ·
        exact op_st (cs' := [.slice At12_0 t12_0.length ct12_0, .int .i64 t12_1, .int .i64 t12_2]) 1 rfl rfl rfl rfl rfl rfl (xn rfl (one1 9 rfl rfl (ov (EV.ex rfl rfl) rfl (xs [] [0, 1, 2] rfl rfl rfl (xd (pr [0, 2, 4, 6] [0, 1, 2] [0, 2, 4] rfl rfl rfl rfl (ge (rg (sv (EV.mv rfl) rfl (sv (EV.sub rfl rfl) rfl (sv (EV.as rfl) rfl (re (wk [0, 2, 4, 6] [2, 0, 1] [⟨0, 2, 1, true⟩, ⟨2, 1, 2, true⟩, ⟨1, 0, 0, false⟩] (ih0 _ (by omega) _ ⟨wrap64 (x4_6 - 1), t11_1, t11_2, x4_2_0, Ax4_2_0, cx4_2_0, x4_2_1, x4_2_2, t12_0, At12_0, ct12_0, t12_1, t12_2, H, rfl⟩))))))))))))))
      ·
       refine ov (EV.ex rfl rfl) rfl (xs [] [0, 1, 2] rfl rfl rfl ?_)
       refine one2 7 10 rfl rfl rfl rfl ?_ ?_
       ·
        exact ov (EV.ex rfl rfl) rfl (xs [] [0, 1, 2] rfl rfl rfl (one1 10 rfl rfl (op_st (cs' := [.slice At12_0 t12_0.length ct12_0, .int .i64 t12_1, .int .i64 t12_2]) 1 rfl rfl rfl rfl rfl rfl (xn rfl (xd (pr [0, 2, 4, 6] [0, 1, 2] [0, 2, 4] rfl rfl rfl rfl (ge (rg (sv (EV.mv rfl) rfl (sv (EV.sub rfl rfl) rfl (sv (EV.as rfl) rfl (re (wk [0, 2, 4, 6] [2, 0, 1] [⟨0, 2, 1, true⟩, ⟨2, 1, 2, true⟩, ⟨1, 0, 0, false⟩] (ih0 _ (by omega) _ ⟨wrap64 (x4_6 - 1), t11_1, t11_2, x4_2_0, Ax4_2_0, cx4_2_0, x4_2_1, x4_2_2, t12_0, At12_0, ct12_0, t12_1, t12_2, H, rfl⟩))))))))))))))
       ·
        exact op_st (cs' := [.slice At12_0 t12_0.length ct12_0, .int .i64 t12_1, .int .i64 t12_2]) 1 rfl rfl rfl rfl rfl rfl (xn rfl (one1 7 rfl rfl (ov (EV.ex rfl rfl) rfl (xs [] [0, 1, 2] rfl rfl rfl (xd (pr [0, 2, 4, 6] [0, 1, 2] [0, 2, 4] rfl rfl rfl rfl (ge (rg (sv (EV.mv rfl) rfl (sv (EV.sub rfl rfl) rfl (sv (EV.as rfl) rfl (re (wk [0, 2, 4, 6] [2, 0, 1] [⟨0, 2, 1, true⟩, ⟨2, 1, 2, true⟩, ⟨1, 0, 0, false⟩] (ih0 _ (by omega) _ ⟨wrap64 (x4_6 - 1), t11_1, t11_2, x4_2_0, Ax4_2_0, cx4_2_0, x4_2_1, x4_2_2, t12_0, At12_0, ct12_0, t12_1, t12_2, H, rfl⟩))))))))))))))
      ·
       refine op_st (cs' := [.slice At12_0 t12_0.length ct12_0, .int .i64 t12_1, .int .i64 t12_2]) 1 rfl rfl rfl rfl rfl rfl (xn rfl ?_)
       refine one2 7 9 rfl rfl rfl rfl ?_ ?_
       ·
        exact ov (EV.ex rfl rfl) rfl (xs [] [0, 1, 2] rfl rfl rfl (one1 9 rfl rfl (ov (EV.ex rfl rfl) rfl (xs [] [0, 1, 2] rfl rfl rfl (xd (pr [0, 2, 4, 6] [0, 1, 2] [0, 2, 4] rfl rfl rfl rfl (ge (rg (sv (EV.mv rfl) rfl (sv (EV.sub rfl rfl) rfl (sv (EV.as rfl) rfl (re (wk [0, 2, 4, 6] [2, 0, 1] [⟨0, 2, 1, true⟩, ⟨2, 1, 2, true⟩, ⟨1, 0, 0, false⟩] (ih0 _ (by omega) _ ⟨wrap64 (x4_6 - 1), t11_1, t11_2, x4_2_0, Ax4_2_0, cx4_2_0, x4_2_1, x4_2_2, t12_0, At12_0, ct12_0, t12_1, t12_2, H, rfl⟩))))))))))))))
       ·
        exact ov (EV.ex rfl rfl) rfl (xs [] [0, 1, 2] rfl rfl rfl (one1 7 rfl rfl (ov (EV.ex rfl rfl) rfl (xs [] [0, 1, 2] rfl rfl rfl (xd (pr [0, 2, 4, 6] [0, 1, 2] [0, 2, 4] rfl rfl rfl rfl (ge (rg (sv (EV.mv rfl) rfl (sv (EV.sub rfl rfl) rfl (sv (EV.as rfl) rfl (re (wk [0, 2, 4, 6] [2, 0, 1] [⟨0, 2, 1, true⟩, ⟨2, 1, 2, true⟩, ⟨1, 0, 0, false⟩] (ih0 _ (by omega) _ ⟨wrap64 (x4_6 - 1), t11_1, t11_2, x4_2_0, Ax4_2_0, cx4_2_0, x4_2_1, x4_2_2, t12_0, At12_0, ct12_0, t12_1, t12_2, H, rfl⟩))))))))))))))
     ·
      refine ov (EV.ex rfl rfl) rfl (xs [] [0, 1, 2] rfl rfl rfl ?_)
      refine one3 7 8 10 rfl rfl rfl rfl rfl rfl ?_ ?_ ?_
      ·
       refine ov (EV.ex rfl rfl) rfl (xs [] [0, 1, 2] rfl rfl rfl ?_)
       refine one2 8 10 rfl rfl rfl rfl ?_ ?_
       ·
        exact ov (EV.ex rfl rfl) rfl (xs [] [0, 1, 2] rfl rfl rfl (one1 10 rfl rfl (op_st (cs' := [.slice At12_0 t12_0.length ct12_0, .int .i64 t12_1, .int .i64 t12_2]) 1 rfl rfl rfl rfl rfl rfl (xn rfl (xd (pr [0, 2, 4, 6] [0, 1, 2] [0, 2, 4] rfl rfl rfl rfl (ge (rg (sv (EV.mv rfl) rfl (sv (EV.sub rfl rfl) rfl (sv (EV.as rfl) rfl (re (wk [0, 2, 4, 6] [2, 0, 1] [⟨0, 2, 1, true⟩, ⟨2, 1, 2, true⟩, ⟨1, 0, 0, false⟩] (ih0 _ (by omega) _ ⟨wrap64 (x4_6 - 1), t11_1, t11_2, x4_2_0, Ax4_2_0, cx4_2_0, x4_2_1, x4_2_2, t12_0, At12_0, ct12_0, t12_1, t12_2, H, rfl⟩))))))))))))))
       ·
        exact op_st (cs' := [.slice At12_0 t12_0.length ct12_0, .int .i64 t12_1, .int .i64 t12_2]) 1 rfl rfl rfl rfl rfl rfl (xn rfl (one1 8 rfl rfl (ov (EV.ex rfl rfl) rfl (xs [] [0, 1, 2] rfl rfl rfl (xd (pr [0, 2, 4, 6] [0, 1, 2] [0, 2, 4] rfl rfl rfl rfl (ge (rg (sv (EV.mv rfl) rfl (sv (EV.sub rfl rfl) rfl (sv (EV.as rfl) rfl (re (wk [0, 2, 4, 6] [2, 0, 1] [⟨0, 2, 1, true⟩, ⟨2, 1, 2, true⟩, ⟨1, 0, 0, false⟩] (ih0 _ (by omega) _ ⟨wrap64 (x4_6 - 1), t11_1, t11_2, x4_2_0, Ax4_2_0, cx4_2_0, x4_2_1, x4_2_2, t12_0, At12_0, ct12_0, t12_1, t12_2, H, rfl⟩))))))))))))))
      ·
       refine ov (EV.ex rfl rfl) rfl (xs [] [0, 1, 2] rfl rfl rfl ?_)
       refine one2 7 10 rfl rfl rfl rfl ?_ ?_
       ·
        exact ov (EV.ex rfl rfl) rfl (xs [] [0, 1, 2] rfl rfl rfl (one1 10 rfl rfl (op_st (cs' := [.slice At12_0 t12_0.length ct12_0, .int .i64 t12_1, .int .i64 t12_2]) 1 rfl rfl rfl rfl rfl rfl (xn rfl (xd (pr [0, 2, 4, 6] [0, 1, 2] [0, 2, 4] rfl rfl rfl rfl (ge (rg (sv (EV.mv rfl) rfl (sv (EV.sub rfl rfl) rfl (sv (EV.as rfl) rfl (re (wk [0, 2, 4, 6] [2, 0, 1] [⟨0, 2, 1, true⟩, ⟨2, 1, 2, true⟩, ⟨1, 0, 0, false⟩] (ih0 _ (by omega) _ ⟨wrap64 (x4_6 - 1), t11_1, t11_2, x4_2_0, Ax4_2_0, cx4_2_0, x4_2_1, x4_2_2, t12_0, At12_0, ct12_0, t12_1, t12_2, H, rfl⟩))))))))))))))
       ·
        exact op_st (cs' := [.slice At12_0 t12_0.length ct12_0, .int .i64 t12_1, .int .i64 t12_2]) 1 rfl rfl rfl rfl rfl rfl (xn rfl (one1 7 rfl rfl (ov (EV.ex rfl rfl) rfl (xs [] [0, 1, 2] rfl rfl rfl (xd (pr [0, 2, 4, 6] [0, 1, 2] [0, 2, 4] rfl rfl rfl rfl (ge (rg (sv (EV.mv rfl) rfl (sv (EV.sub rfl rfl) rfl (sv (EV.as rfl) rfl (re (wk [0, 2, 4, 6] [2, 0, 1] [⟨0, 2, 1, true⟩, ⟨2, 1, 2, true⟩, ⟨1, 0, 0, false⟩] (ih0 _ (by omega) _ ⟨wrap64 (x4_6 - 1), t11_1, t11_2, x4_2_0, Ax4_2_0, cx4_2_0, x4_2_1, x4_2_2, t12_0, At12_0, ct12_0, t12_1, t12_2, H, rfl⟩))))))))))))))
      ·
       refine op_st (cs' := [.slice At12_0 t12_0.length ct12_0, .int .i64 t12_1, .int .i64 t12_2]) 1 rfl rfl rfl rfl rfl rfl (xn rfl ?_)
       refine one2 7 8 rfl rfl rfl rfl ?_ ?_
       ·
        exact ov (EV.ex rfl rfl) rfl (xs [] [0, 1, 2] rfl rfl rfl (one1 8 rfl rfl (ov (EV.ex rfl rfl) rfl (xs [] [0, 1, 2] rfl rfl rfl (xd (pr [0, 2, 4, 6] [0, 1, 2] [0, 2, 4] rfl rfl rfl rfl (ge (rg (sv (EV.mv rfl) rfl (sv (EV.sub rfl rfl) rfl (sv (EV.as rfl) rfl (re (wk [0, 2, 4, 6] [2, 0, 1] [⟨0, 2, 1, true⟩, ⟨2, 1, 2, true⟩, ⟨1, 0, 0, false⟩] (ih0 _ (by omega) _ ⟨wrap64 (x4_6 - 1), t11_1, t11_2, x4_2_0, Ax4_2_0, cx4_2_0, x4_2_1, x4_2_2, t12_0, At12_0, ct12_0, t12_1, t12_2, H, rfl⟩))))))))))))))
       ·
        exact ov (EV.ex rfl rfl) rfl (xs [] [0, 1, 2] rfl rfl rfl (one1 7 rfl rfl (ov (EV.ex rfl rfl) rfl (xs [] [0, 1, 2] rfl rfl rfl (xd (pr [0, 2, 4, 6] [0, 1, 2] [0, 2, 4] rfl rfl rfl rfl (ge (rg (sv (EV.mv rfl) rfl (sv (EV.sub rfl rfl) rfl (sv (EV.as rfl) rfl (re (wk [0, 2, 4, 6] [2, 0, 1] [⟨0, 2, 1, true⟩, ⟨2, 1, 2, true⟩, ⟨1, 0, 0, false⟩] (ih0 _ (by omega) _ ⟨wrap64 (x4_6 - 1), t11_1, t11_2, x4_2_0, Ax4_2_0, cx4_2_0, x4_2_1, x4_2_2, t12_0, At12_0, ct12_0, t12_1, t12_2, H, rfl⟩))))))))))))))
     ·
      refine op_st (cs' := [.slice At12_0 t12_0.length ct12_0, .int .i64 t12_1, .int .i64 t12_2]) 1 rfl rfl rfl rfl rfl rfl (xn rfl ?_)
      refine one3 7 8 9 rfl rfl rfl rfl rfl rfl ?_ ?_ ?_
      ·
       refine ov (EV.ex rfl rfl) rfl (xs [] [0, 1, 2] rfl rfl rfl ?_)
       refine one2 8 9 rfl rfl rfl rfl ?_ ?_
       ·
        exact ov (EV.ex rfl rfl) rfl (xs [] [0, 1, 2] rfl rfl rfl (one1 9 rfl rfl (ov (EV.ex rfl rfl) rfl (xs [] [0, 1, 2] rfl rfl rfl (xd (pr [0, 2, 4, 6] [0, 1, 2] [0, 2, 4] rfl rfl rfl rfl (ge (rg (sv (EV.mv rfl) rfl (sv (EV.sub rfl rfl) rfl (sv (EV.as rfl) rfl (re (wk [0, 2, 4, 6] [2, 0, 1] [⟨0, 2, 1, true⟩, ⟨2, 1, 2, true⟩, ⟨1, 0, 0, false⟩] (ih0 _ (by omega) _ ⟨wrap64 (x4_6 - 1), t11_1, t11_2, x4_2_0, Ax4_2_0, cx4_2_0, x4_2_1, x4_2_2, t12_0, At12_0, ct12_0, t12_1, t12_2, H, rfl⟩))))))))))))))
       ·
        exact ov (EV.ex rfl rfl) rfl (xs [] [0, 1, 2] rfl rfl rfl (one1 8 rfl rfl (ov (EV.ex rfl rfl) rfl (xs [] [0, 1, 2] rfl rfl rfl (xd (pr [0, 2, 4, 6] [0, 1, 2] [0, 2, 4] rfl rfl rfl rfl (ge (rg (sv (EV.mv rfl) rfl (sv (EV.sub rfl rfl) rfl (sv (EV.as rfl) rfl (re (wk [0, 2, 4, 6] [2, 0, 1] [⟨0, 2, 1, true⟩, ⟨2, 1, 2, true⟩, ⟨1, 0, 0, false⟩] (ih0 _ (by omega) _ ⟨wrap64 (x4_6 - 1), t11_1, t11_2, x4_2_0, Ax4_2_0, cx4_2_0, x4_2_1, x4_2_2, t12_0, At12_0, ct12_0, t12_1, t12_2, H, rfl⟩))))))))))))))
      ·
       refine ov (EV.ex rfl rfl) rfl (xs [] [0, 1, 2] rfl rfl rfl ?_)
       refine one2 7 9 rfl rfl rfl rfl ?_ ?_
       ·
        exact ov (EV.ex rfl rfl) rfl (xs [] [0, 1, 2] rfl rfl rfl (one1 9 rfl rfl (ov (EV.ex rfl rfl) rfl (xs [] [0, 1, 2] rfl rfl rfl (xd (pr [0, 2, 4, 6] [0, 1, 2] [0, 2, 4] rfl rfl rfl rfl (ge (rg (sv (EV.mv rfl) rfl (sv (EV.sub rfl rfl) rfl (sv (EV.as rfl) rfl (re (wk [0, 2, 4, 6] [2, 0, 1] [⟨0, 2, 1, true⟩, ⟨2, 1, 2, true⟩, ⟨1, 0, 0, false⟩] (ih0 _ (by omega) _ ⟨wrap64 (x4_6 - 1), t11_1, t11_2, x4_2_0, Ax4_2_0, cx4_2_0, x4_2_1, x4_2_2, t12_0, At12_0, ct12_0, t12_1, t12_2, H, rfl⟩))))))))))))))
       ·
        exact ov (EV.ex rfl rfl) rfl (xs [] [0, 1, 2] rfl rfl rfl (one1 7 rfl rfl (ov (EV.ex rfl rfl) rfl (xs [] [0, 1, 2] rfl rfl rfl (xd (pr [0, 2, 4, 6] [0, 1, 2] [0, 2, 4] rfl rfl rfl rfl (ge (rg (sv (EV.mv rfl) rfl (sv (EV.sub rfl rfl) rfl (sv (EV.as rfl) rfl (re (wk [0, 2, 4, 6] [2, 0, 1] [⟨0, 2, 1, true⟩, ⟨2, 1, 2, true⟩, ⟨1, 0, 0, false⟩] (ih0 _ (by omega) _ ⟨wrap64 (x4_6 - 1), t11_1, t11_2, x4_2_0, Ax4_2_0, cx4_2_0, x4_2_1, x4_2_2, t12_0, At12_0, ct12_0, t12_1, t12_2, H, rfl⟩))))))))))))))
      ·
       refine ov (EV.ex rfl rfl) rfl (xs [] [0, 1, 2] rfl rfl rfl ?_)
       refine one2 7 8 rfl rfl rfl rfl ?_ ?_
       ·
        exact ov (EV.ex rfl rfl) rfl (xs [] [0, 1, 2] rfl rfl rfl (one1 8 rfl rfl (ov (EV.ex rfl rfl) rfl (xs [] [0, 1, 2] rfl rfl rfl (xd (pr [0, 2, 4, 6] [0, 1, 2] [0, 2, 4] rfl rfl rfl rfl (ge (rg (sv (EV.mv rfl) rfl (sv (EV.sub rfl rfl) rfl (sv (EV.as rfl) rfl (re (wk [0, 2, 4, 6] [2, 0, 1] [⟨0, 2, 1, true⟩, ⟨2, 1, 2, true⟩, ⟨1, 0, 0, false⟩] (ih0 _ (by omega) _ ⟨wrap64 (x4_6 - 1), t11_1, t11_2, x4_2_0, Ax4_2_0, cx4_2_0, x4_2_1, x4_2_2, t12_0, At12_0, ct12_0, t12_1, t12_2, H, rfl⟩))))))))))))))
       ·
        exact ov (EV.ex rfl rfl) rfl (xs [] [0, 1, 2] rfl rfl rfl (one1 7 rfl rfl (ov (EV.ex rfl rfl) rfl (xs [] [0, 1, 2] rfl rfl rfl (xd (pr [0, 2, 4, 6] [0, 1, 2] [0, 2, 4] rfl rfl rfl rfl (ge (rg (sv (EV.mv rfl) rfl (sv (EV.sub rfl rfl) rfl (sv (EV.as rfl) rfl (re (wk [0, 2, 4, 6] [2, 0, 1] [⟨0, 2, 1, true⟩, ⟨2, 1, 2, true⟩, ⟨1, 0, 0, false⟩] (ih0 _ (by omega) _ ⟨wrap64 (x4_6 - 1), t11_1, t11_2, x4_2_0, Ax4_2_0, cx4_2_0, x4_2_1, x4_2_2, t12_0, At12_0, ct12_0, t12_1, t12_2, H, rfl⟩))))))))))))))
    ·
     refine ov (EV.ex rfl rfl) rfl (xs [] [0, 1, 2] rfl rfl rfl ?_)
     refine one3 6 8 9 rfl rfl rfl rfl rfl rfl ?_ ?_ ?_
     ·
      refine ov (EV.ex rfl rfl) rfl (xs [] [0, 1, 2] rfl rfl rfl ?_)
      refine one3 8 9 10 rfl rfl rfl rfl rfl rfl ?_ ?_ ?_
      ·
       refine ov (EV.ex rfl rfl) rfl (xs [] [0, 1, 2] rfl rfl rfl ?_)
       refine one2 9 10 rfl rfl rfl rfl ?_ ?_
       ·
        exact ov (EV.ex rfl rfl) rfl (xs [] [0, 1, 2] rfl rfl rfl (one1 10 rfl rfl (op_st (cs' := [.slice At12_0 t12_0.length ct12_0, .int .i64 t12_1, .int .i64 t12_2]) 1 rfl rfl rfl rfl rfl rfl (xn rfl (xd (pr [0, 2, 4, 6] [0, 1, 2] [0, 2, 4] rfl rfl rfl rfl (ge (rg (sv (EV.mv rfl) rfl (sv (EV.sub rfl rfl) rfl (sv (EV.as rfl) rfl (re (wk [0, 2, 4, 6] [2, 0, 1] [⟨0, 2, 1, true⟩, ⟨2, 1, 2, true⟩, ⟨1, 0, 0, false⟩] (ih0 _ (by omega) _ ⟨wrap64 (x4_6 - 1), t11_1, t11_2, x4_2_0, Ax4_2_0, cx4_2_0, x4_2_1, x4_2_2, t12_0, At12_0, ct12_0, t12_1, t12_2, H, rfl⟩))))))))))))))
       ·
        exact op_st (cs' := [.slice At12_0 t12_0.length ct12_0, .int .i64 t12_1, .int .i64 t12_2]) 1 rfl rfl rfl rfl rfl rfl (xn rfl (one1 9 rfl rfl (ov (EV.ex rfl rfl) rfl (xs [] [0, 1, 2] rfl rfl rfl (xd (pr [0, 2, 4, 6] [0, 1, 2] [0, 2, 4] rfl rfl rfl rfl (ge (rg (sv (EV.mv rfl) rfl (sv (EV.sub rfl rfl) rfl (sv (EV.as rfl) rfl (re (wk [0, 2, 4, 6] [2, 0, 1] [⟨0, 2, 1, true⟩, ⟨2, 1, 2, true⟩, ⟨1, 0, 0, false⟩] (ih0 _ (by omega) _ ⟨wrap64 (x4_6 - 1), t11_1, t11_2, x4_2_0, Ax4_2_0, cx4_2_0, x4_2_1, x4_2_2, t12_0, At12_0, ct12_0, t12_1, t12_2, H, rfl⟩))))))))))))))
      ·
       refine ov (EV.ex rfl rfl) rfl (xs [] [0, 1, 2] rfl rfl rfl ?_)
       refine one2 8 10 rfl rfl rfl rfl ?_ ?_
       ·
        exact ov (EV.ex rfl rfl) rfl (xs [] [0, 1, 2] rfl rfl rfl (one1 10 rfl rfl (op_st (cs' := [.slice At12_0 t12_0.length ct12_0, .int .i64 t12_1, .int .i64 t12_2]) 1 rfl rfl rfl rfl rfl rfl (xn rfl (xd (pr [0, 2, 4, 6] [0, 1, 2] [0, 2, 4] rfl rfl rfl rfl (ge (rg (sv (EV.mv rfl) rfl (sv (EV.sub rfl rfl) rfl (sv (EV.as rfl) rfl (re (wk [0, 2, 4, 6] [2, 0, 1] [⟨0, 2, 1, true⟩, ⟨2, 1, 2, true⟩, ⟨1, 0, 0, false⟩] (ih0 _ (by omega) _ ⟨wrap64 (x4_6 - 1), t11_1, t11_2, x4_2_0, Ax4_2_0, cx4_2_0, x4_2_1, x4_2_2, t12_0, At12_0, ct12_0, t12_1, t12_2, H, rfl⟩))))))))))))))
       ·
        exact op_st (cs' := [.slice At12_0 t12_0.length ct12_0, .int .i64 t12_1, .int .i64 t12_2]) 1 rfl rfl rfl rfl rfl rfl (xn rfl (one1 8 rfl rfl (ov (EV.ex rfl rfl) rfl (xs [] [0, 1, 2] rfl rfl rfl (xd (pr [0, 2, 4, 6] [0, 1, 2] [0, 2, 4] rfl rfl rfl rfl (ge (rg (sv (EV.mv rfl) rfl (sv (EV.sub rfl rfl) rfl (sv (EV.as rfl) rfl (re (wk [0, 2, 4, 6] [2, 0, 1] [⟨0, 2, 1, true⟩, ⟨2, 1, 2, true⟩, ⟨1, 0, 0, false⟩] (ih0 _ (by omega) _ ⟨wrap64 (x4_6 - 1), t11_1, t11_2, x4_2_0, Ax4_2_0, cx4_2_0, x4_2_1, x4_2_2, t12_0, At12_0, ct12_0, t12_1, t12_2, H, rfl⟩))))))))))))))
      ·
       refine op_st (cs' := [.slice At12_0 t12_0.length ct12_0, .int .i64 t12_1, .int .i64 t12_2]) 1 rfl rfl rfl rfl rfl rfl (xn rfl ?_)
       refine one2 8 9 rfl rfl rfl rfl ?_ ?_
       ·
        exact ov (EV.ex rfl rfl) rfl (xs [] [0, 1, 2] rfl rfl rfl (one1 9 rfl rfl (ov (EV.ex rfl rfl) rfl (xs [] [0, 1, 2] rfl rfl rfl (xd (pr [0, 2, 4, 6] [0, 1, 2] [0, 2, 4] rfl rfl rfl rfl (ge (rg (sv (EV.mv rfl) rfl (sv (EV.sub rfl rfl) rfl (sv (EV.as rfl) rfl (re (wk [0, 2, 4, 6] [2, 0, 1] [⟨0, 2, 1, true⟩, ⟨2, 1, 2, true⟩, ⟨1, 0, 0, false⟩] (ih0 _ (by omega) _ ⟨wrap64 (x4_6 - 1), t11_1, t11_2, x4_2_0, Ax4_2_0, cx4_2_0, x4_2_1, x4_2_2, t12_0, At12_0, ct12_0, t12_1, t12_2, H, rfl⟩))))))))))))))
       ·
        exact ov (EV.ex rfl rfl) rfl (xs [] [0, 1, 2] rfl rfl rfl (one1 8 rfl rfl (ov (EV.ex rfl rfl) rfl (xs [] [0, 1, 2] rfl rfl rfl (xd (pr [0, 2, 4, 6] [0, 1, 2] [0, 2, 4] rfl rfl rfl rfl (ge (rg (sv (EV.mv rfl) rfl (sv (EV.sub rfl rfl) rfl (sv (EV.as rfl) rfl (re (wk [0, 2, 4, 6] [2, 0, 1] [⟨0, 2, 1, true⟩, ⟨2, 1, 2, true⟩, ⟨1, 0, 0, false⟩] (ih0 _ (by omega) _ ⟨wrap64 (x4_6 - 1), t11_1, t11_2, x4_2_0, Ax4_2_0, cx4_2_0, x4_2_1, x4_2_2, t12_0, At12_0, ct12_0, t12_1, t12_2, H, rfl⟩))))))))))))))
     ·
      refine ov (EV.ex rfl rfl) rfl (xs [] [0, 1, 2] rfl rfl rfl ?_)
      refine one2 6 9 rfl rfl rfl rfl ?_ ?_
      ·
       refine ov (EV.ex rfl rfl) rfl (xs [] [0, 1, 2] rfl rfl rfl ?_)
       refine one2 9 10 rfl rfl rfl rfl ?_ ?_
       ·
        exact ov (EV.ex rfl rfl) rfl (xs [] [0, 1, 2] rfl rfl rfl (one1 10 rfl rfl (op_st (cs' := [.slice At12_0 t12_0.length ct12_0, .int .i64 t12_1, .int .i64 t12_2]) 1 rfl rfl rfl rfl rfl rfl (xn rfl (xd (pr [0, 2, 4, 6] [0, 1, 2] [0, 2, 4] rfl rfl rfl rfl (ge (rg (sv (EV.mv rfl) rfl (sv (EV.sub rfl rfl) rfl (sv (EV.as rfl) rfl (re (wk [0, 2, 4, 6] [2, 0, 1] [⟨0, 2, 1, true⟩, ⟨2, 1, 2, true⟩, ⟨1, 0, 0, false⟩] (ih0 _ (by omega) _ ⟨wrap64 (x4_6 - 1), t11_1, t11_2, x4_2_0, Ax4_2_0, cx4_2_0, x4_2_1, x4_2_2, t12_0, At12_0, ct12_0, t12_1, t12_2, H, rfl⟩))))))))))))))
       ·
        exact op_st (cs' := [.slice At12_0 t12_0.length ct12_0, .int .i64 t12_1, .int .i64 t12_2]) 1 rfl rfl rfl rfl rfl rfl (xn rfl (one1 9 rfl rfl (ov (EV.ex rfl rfl) rfl (xs [] [0, 1, 2] rfl rfl rfl (xd (pr [0, 2, 4, 6] [0, 1, 2] [0, 2, 4] rfl rfl rfl rfl (ge (rg (sv (EV.mv rfl) rfl (sv (EV.sub rfl rfl) rfl (sv (EV.as rfl) rfl (re (wk [0, 2, 4, 6] [2, 0, 1] [⟨0, 2, 1, true⟩, ⟨2, 1, 2, true⟩, ⟨1, 0, 0, false⟩] (ih0 _ (by omega) _ ⟨wrap64 (x4_6 - 1), t11_1, t11_2, x4_2_0, Ax4_2_0, cx4_2_0, x4_2_1, x4_2_2, t12_0, At12_0, ct12_0, t12_1, t12_2, H, rfl⟩))))))))))))))
      ·
       exact ov (EV.ex rfl rfl) rfl (xs [] [0, 1, 2] rfl rfl rfl (one1 6 rfl rfl (ov (EV.ex rfl rfl) rfl (xs [] [0, 1, 2] rfl rfl rfl (one1 10 rfl rfl (op_st (cs' := [.slice At12_0 t12_0.length ct12_0, .int .i64 t12_1, .int .i64 t12_2]) 1 rfl rfl rfl rfl rfl rfl (xn rfl (xd (pr [0, 2, 4, 6] [0, 1, 2] [0, 2, 4] rfl rfl rfl rfl (ge (rg (sv (EV.mv rfl) rfl (sv (EV.sub rfl rfl) rfl (sv (EV.as rfl) rfl (re (wk [0, 2, 4, 6] [2, 0, 1] [⟨0, 2, 1, true⟩, ⟨2, 1, 2, true⟩, ⟨1, 0, 0, false⟩] (ih0 _ (by omega) _ ⟨wrap64 (x4_6 - 1), t11_1, t11_2, x4_2_0, Ax4_2_0, cx4_2_0, x4_2_1, x4_2_2, t12_0, At12_0, ct12_0, t12_1, t12_2, H, rfl⟩)))))))))))))))))
     ·
      refine ov (EV.ex rfl rfl) rfl (xs [] [0, 1, 2] rfl rfl rfl ?_)
      refine one2 6 8 rfl rfl rfl rfl ?_ ?_
      ·
       refine ov (EV.ex rfl rfl) rfl (xs [] [0, 1, 2] rfl rfl rfl ?_)
       refine one2 8 10 rfl rfl rfl rfl ?_ ?_
       ·
        exact ov (EV.ex rfl rfl) rfl (xs [] [0, 1, 2] rfl rfl rfl (one1 10 rfl rfl (op_st (cs' := [.slice At12_0 t12_0.length ct12_0, .int .i64 t12_1, .int .i64 t12_2]) 1 rfl rfl rfl rfl rfl rfl (xn rfl (xd (pr [0, 2, 4, 6] [0, 1, 2] [0, 2, 4] rfl rfl rfl rfl (ge (rg (sv (EV.mv rfl) rfl (sv (EV.sub rfl rfl) rfl (sv (EV.as rfl) rfl (re (wk [0, 2, 4, 6] [2, 0, 1] [⟨0, 2, 1, true⟩, ⟨2, 1, 2, true⟩, ⟨1, 0, 0, false⟩] (ih0 _ (by omega) _ ⟨wrap64 (x4_6 - 1), t11_1, t11_2, x4_2_0, Ax4_2_0, cx4_2_0, x4_2_1, x4_2_2, t12_0, At12_0, ct12_0, t12_1, t12_2, H, rfl⟩))))))))))))))
       ·
        exact op_st (cs' := [.slice At12_0 t12_0.length ct12_0, .int .i64 t12_1, .int .i64 t12_2]) 1 rfl rfl rfl rfl rfl rfl (xn rfl (one1 8 rfl rfl (ov (EV.ex rfl rfl) rfl (xs [] [0, 1, 2] rfl rfl rfl (xd (pr [0, 2, 4, 6] [0, 1, 2] [0, 2, 4] rfl rfl rfl rfl (ge (rg (sv (EV.mv rfl) rfl (sv (EV.sub rfl rfl) rfl (sv (EV.as rfl) rfl (re (wk [0, 2, 4, 6] [2, 0, 1] [⟨0, 2, 1, true⟩, ⟨2, 1, 2, true⟩, ⟨1, 0, 0, false⟩] (ih0 _ (by omega) _ ⟨wrap64 (x4_6 - 1), t11_1, t11_2, x4_2_0, Ax4_2_0, cx4_2_0, x4_2_1, x4_2_2, t12_0, At12_0, ct12_0, t12_1, t12_2, H, rfl⟩))))))))))))))
      ·
       exact ov (EV.ex rfl rfl) rfl (xs [] [0, 1, 2] rfl rfl rfl (one1 6 rfl rfl (ov (EV.ex rfl rfl) rfl (xs [] [0, 1, 2] rfl rfl rfl (one1 10 rfl rfl (op_st (cs' := [.slice At12_0 t12_0.length ct12_0, .int .i64 t12_1, .int .i64 t12_2]) 1 rfl rfl rfl rfl rfl rfl (xn rfl (xd (pr [0, 2, 4, 6] [0, 1, 2] [0, 2, 4] rfl rfl rfl rfl (ge (rg (sv (EV.mv rfl) rfl (sv (EV.sub rfl rfl) rfl (sv (EV.as rfl) rfl (re (wk [0, 2, 4, 6] [2, 0, 1] [⟨0, 2, 1, true⟩, ⟨2, 1, 2, true⟩, ⟨1, 0, 0, false⟩] (ih0 _ (by omega) _ ⟨wrap64 (x4_6 - 1), t11_1, t11_2, x4_2_0, Ax4_2_0, cx4_2_0, x4_2_1, x4_2_2, t12_0, At12_0, ct12_0, t12_1, t12_2, H, rfl⟩)))))))))))))))))
    ·
     refine ov (EV.ex rfl rfl) rfl (xs [] [0, 1, 2] rfl rfl rfl ?_)
     refine one3 6 7 9 rfl rfl rfl rfl rfl rfl ?_ ?_ ?_
     ·
      refine ov (EV.ex rfl rfl) rfl (xs [] [0, 1, 2] rfl rfl rfl ?_)
      refine one3 7 9 10 rfl rfl rfl rfl rfl rfl ?_ ?_ ?_
      ·
       refine ov (EV.ex rfl rfl) rfl (xs [] [0, 1, 2] rfl rfl rfl ?_)
       refine one2 9 10 rfl rfl rfl rfl ?_ ?_
       ·
        exact ov (EV.ex rfl rfl) rfl (xs [] [0, 1, 2] rfl rfl rfl (one1 10 rfl rfl (op_st (cs' := [.slice At12_0 t12_0.length ct12_0, .int .i64 t12_1, .int .i64 t12_2]) 1 rfl rfl rfl rfl rfl rfl (xn rfl (xd (pr [0, 2, 4, 6] [0, 1, 2] [0, 2, 4] rfl rfl rfl rfl (ge (rg (sv (EV.mv rfl) rfl (sv (EV.sub rfl rfl) rfl (sv (EV.as rfl) rfl (re (wk [0, 2, 4, 6] [2, 0, 1] [⟨0, 2, 1, true⟩, ⟨2, 1, 2, true⟩, ⟨1, 0, 0, false⟩] (ih0 _ (by omega) _ ⟨wrap64 (x4_6 - 1), t11_1, t11_2, x4_2_0, Ax4_2_0, cx4_2_0, x4_2_1, x4_2_2, t12_0, At12_0, ct12_0, t12_1, t12_2, H, rfl⟩))))))))))))))
       ·
        exact op_st (cs' := [.slice At12_0 t12_0.length ct12_0, .int .i64 t12_1, .int .i64 t12_2]) 1 rfl rfl rfl rfl rfl rfl (xn rfl (one1 9 rfl rfl (ov (EV.ex rfl rfl) rfl (xs [] [0, 1, 2] rfl rfl rfl (xd (pr [0, 2, 4, 6] [0, 1, 2] [0, 2, 4] rfl rfl rfl rfl (ge (rg (sv (EV.mv rfl) rfl (sv (EV.sub rfl rfl) rfl (sv (EV.as rfl) rfl (re (wk [0, 2, 4, 6] [2, 0, 1] [⟨0, 2, 1, true⟩, ⟨2, 1, 2, true⟩, ⟨1, 0, 0, false⟩] (ih0 _ (by omega) _ ⟨wrap64 (x4_6 - 1), t11_1, t11_2, x4_2_0, Ax4_2_0, cx4_2_0, x4_2_1, x4_2_2, t12_0, At12_0, ct12_0, t12_1, t12_2, H, rfl⟩))))))))))))))
      ·
       refine ov (EV.ex rfl rfl) rfl (xs [] [0, 1, 2] rfl rfl rfl ?_)
       refine one2 7 10 rfl rfl rfl rfl ?_ ?_
       ·
        exact ov (EV.ex rfl rfl) rfl (xs [] [0, 1, 2] rfl rfl rfl (one1 10 rfl rfl (op_st (cs' := [.slice At12_0 t12_0.length ct12_0, .int .i64 t12_1, .int .i64 t12_2]) 1 rfl rfl rfl rfl rfl rfl (xn rfl (xd (pr [0, 2, 4, 6] [0, 1, 2] [0, 2, 4] rfl rfl rfl rfl (ge (rg (sv (EV.mv rfl) rfl (sv (EV.sub rfl rfl) rfl (sv (EV.as rfl) rfl (re (wk [0, 2, 4, 6] [2, 0, 1] [⟨0, 2, 1, true⟩, ⟨2, 1, 2, true⟩, ⟨1, 0, 0, false⟩] (ih0 _ (by omega) _ ⟨wrap64 (x4_6 - 1), t11_1, t11_2, x4_2_0, Ax4_2_0, cx4_2_0, x4_2_1, x4_2_2, t12_0, At12_0, ct12_0, t12_1, t12_2, H, rfl⟩))))))))))))))
       ·
        exact op_st (cs' := [.slice At12_0 t12_0.length ct12_0, .int .i64 t12_1, .int .i64 t12_2]) 1 rfl rfl rfl rfl rfl rfl (xn rfl (one1 7 rfl rfl (ov (EV.ex rfl rfl) rfl (xs [] [0, 1, 2] rfl rfl rfl (xd (pr [0, 2, 4, 6] [0, 1, 2] [0, 2, 4] rfl rfl rfl rfl (ge (rg (sv (EV.mv rfl) rfl (sv (EV.sub rfl rfl) rfl (sv (EV.as rfl) rfl (re (wk [0, 2, 4, 6] [2, 0, 1] [⟨0, 2, 1, true⟩, ⟨2, 1, 2, true⟩, ⟨1, 0, 0, false⟩] (ih0 _ (by omega) _ ⟨wrap64 (x4_6 - 1), t11_1, t11_2, x4_2_0, Ax4_2_0, cx4_2_0, x4_2_1, x4_2_2, t12_0, At12_0, ct12_0, t12_1, t12_2, H, rfl⟩))))))))))))))
      ·
       refine op_st (cs' := [.slice At12_0 t12_0.length ct12_0, .int .i64 t12_1, .int .i64 t12_2]) 1 rfl rfl rfl rfl rfl rfl (xn rfl ?_)
       refine one2 7 9 rfl rfl rfl rfl ?_ ?_
       ·
        exact ov (EV.ex rfl rfl) rfl (xs [] [0, 1, 2] rfl rfl rfl (one1 9 rfl rfl (ov (EV.ex rfl rfl) rfl (xs [] [0, 1, 2] rfl rfl rfl (xd (pr [0, 2, 4, 6] [0, 1, 2] [0, 2, 4] rfl rfl rfl rfl (ge (rg (sv (EV.mv rfl) rfl (sv (EV.sub rfl rfl) rfl (sv (EV.as rfl) rfl (re (wk [0, 2, 4, 6] [2, 0, 1] [⟨0, 2, 1, true⟩, ⟨2, 1, 2, true⟩, ⟨1, 0, 0, false⟩] (ih0 _ (by omega) _ ⟨wrap64 (x4_6 - 1), t11_1, t11_2, x4_2_0, Ax4_2_0, cx4_2_0, x4_2_1, x4_2_2, t12_0, At12_0, ct12_0, t12_1, t12_2, H, rfl⟩))))))))))))))
       ·
        exact ov (EV.ex rfl rfl) rfl (xs [] [0, 1, 2] rfl rfl rfl (one1 7 rfl rfl (ov (EV.ex rfl rfl) rfl (xs [] [0, 1, 2] rfl rfl rfl (xd (pr [0, 2, 4, 6] [0, 1, 2] [0, 2, 4] rfl rfl rfl rfl (ge (rg (sv (EV.mv rfl) rfl (sv (EV.sub rfl rfl) rfl (sv (EV.as rfl) rfl (re (wk [0, 2, 4, 6] [2, 0, 1] [⟨0, 2, 1, true⟩, ⟨2, 1, 2, true⟩, ⟨1, 0, 0, false⟩] (ih0 _ (by omega) _ ⟨wrap64 (x4_6 - 1), t11_1, t11_2, x4_2_0, Ax4_2_0, cx4_2_0, x4_2_1, x4_2_2, t12_0, At12_0, ct12_0, t12_1, t12_2, H, rfl⟩))))))))))))))
     ·
      refine ov (EV.ex rfl rfl) rfl (xs [] [0, 1, 2] rfl rfl rfl ?_)
      refine one2 6 9 rfl rfl rfl rfl ?_ ?_
      ·
       refine ov (EV.ex rfl rfl) rfl (xs [] [0, 1, 2] rfl rfl rfl ?_)
       refine one2 9 10 rfl rfl rfl rfl ?_ ?_
       ·
        exact ov (EV.ex rfl rfl) rfl (xs [] [0, 1, 2] rfl rfl rfl (one1 10 rfl rfl (op_st (cs' := [.slice At12_0 t12_0.length ct12_0, .int .i64 t12_1, .int .i64 t12_2]) 1 rfl rfl rfl rfl rfl rfl (xn rfl (xd (pr [0, 2, 4, 6] [0, 1, 2] [0, 2, 4] rfl rfl rfl rfl (ge (rg (sv (EV.mv rfl) rfl (sv (EV.sub rfl rfl) rfl (sv (EV.as rfl) rfl (re (wk [0, 2, 4, 6] [2, 0, 1] [⟨0, 2, 1, true⟩, ⟨2, 1, 2, true⟩, ⟨1, 0, 0, false⟩] (ih0 _ (by omega) _ ⟨wrap64 (x4_6 - 1), t11_1, t11_2, x4_2_0, Ax4_2_0, cx4_2_0, x4_2_1, x4_2_2, t12_0, At12_0, ct12_0, t12_1, t12_2, H, rfl⟩))))))))))))))
       ·
        exact op_st (cs' := [.slice At12_0 t12_0.length ct12_0, .int .i64 t12_1, .int .i64 t12_2]) 1 rfl rfl rfl rfl rfl rfl (xn rfl (one1 9 rfl rfl (ov (EV.ex rfl rfl) rfl (xs [] [0, 1, 2] rfl rfl rfl (xd (pr [0, 2, 4, 6] [0, 1, 2] [0, 2, 4] rfl rfl rfl rfl (ge (rg (sv (EV.mv rfl) rfl (sv (EV.sub rfl rfl) rfl (sv (EV.as rfl) rfl (re (wk [0, 2, 4, 6] [2, 0, 1] [⟨0, 2, 1, true⟩, ⟨2, 1, 2, true⟩, ⟨1, 0, 0, false⟩] (ih0 _ (by omega) _ ⟨wrap64 (x4_6 - 1), t11_1, t11_2, x4_2_0, Ax4_2_0, cx4_2_0, x4_2_1, x4_2_2, t12_0, At12_0, ct12_0, t12_1, t12_2, H, rfl⟩))))))))))))))
      ·
       exact ov (EV.ex rfl rfl) rfl (xs [] [0, 1, 2] rfl rfl rfl (one1 6 rfl rfl (ov (EV.ex rfl rfl) rfl (xs [] [0, 1, 2] rfl rfl rfl (one1 10 rfl rfl (op_st (cs' := [.slice At12_0 t12_0.length ct12_0, .int .i64 t12_1, .int .i64 t12_2]) 1 rfl rfl rfl rfl rfl rfl (xn rfl (xd (pr [0, 2, 4, 6] [0, 1, 2] [0, 2, 4] rfl rfl rfl rfl (ge (rg (sv (EV.mv rfl) rfl (sv (EV.sub rfl rfl) rfl (sv (EV.as rfl) rfl (re (wk [0, 2, 4, 6] [2, 0, 1] [⟨0, 2, 1, true⟩, ⟨2, 1, 2, true⟩, ⟨1, 0, 0, false⟩] (ih0 _ (by omega) _ ⟨wrap64 (x4_6 - 1), t11_1, t11_2, x4_2_0, Ax4_2_0, cx4_2_0, x4_2_1, x4_2_2, t12_0, At12_0, ct12_0, t12_1, t12_2, H, rfl⟩)))))))))))))))))
     ·
      refine ov (EV.ex rfl rfl) rfl (xs [] [0, 1, 2] rfl rfl rfl ?_)
      refine one2 6 7 rfl rfl rfl rfl ?_ ?_
      ·
       refine ov (EV.ex rfl rfl) rfl (xs [] [0, 1, 2] rfl rfl rfl ?_)
       refine one2 7 10 rfl rfl rfl rfl ?_ ?_
       ·
        exact ov (EV.ex rfl rfl) rfl (xs [] [0, 1, 2] rfl rfl rfl (one1 10 rfl rfl (op_st (cs' := [.slice At12_0 t12_0.length ct12_0, .int .i64 t12_1, .int .i64 t12_2]) 1 rfl rfl rfl rfl rfl rfl (xn rfl (xd (pr [0, 2, 4, 6] [0, 1, 2] [0, 2, 4] rfl rfl rfl rfl (ge (rg (sv (EV.mv rfl) rfl (sv (EV.sub rfl rfl) rfl (sv (EV.as rfl) rfl (re (wk [0, 2, 4, 6] [2, 0, 1] [⟨0, 2, 1, true⟩, ⟨2, 1, 2, true⟩, ⟨1, 0, 0, false⟩] (ih0 _ (by omega) _ ⟨wrap64 (x4_6 - 1), t11_1, t11_2, x4_2_0, Ax4_2_0, cx4_2_0, x4_2_1, x4_2_2, t12_0, At12_0, ct12_0, t12_1, t12_2, H, rfl⟩))))))))))))))
       ·
        exact op_st (cs' := [.slice At12_0 t12_0.length ct12_0, .int .i64 t12_1, .int .i64 t12_2]) 1 rfl rfl rfl rfl rfl rfl (xn rfl (one1 7 rfl rfl (ov (EV.ex rfl rfl) rfl (xs [] [0, 1, 2] rfl rfl rfl (xd (pr [0, 2, 4, 6] [0, 1, 2] [0, 2, 4] rfl rfl rfl rfl (ge (rg (sv (EV.mv rfl) rfl (sv (EV.sub rfl rfl) rfl (sv (EV.as rfl) rfl (re (wk [0, 2, 4, 6] [2, 0, 1] [⟨0, 2, 1, true⟩, ⟨2, 1, 2, true⟩, ⟨1, 0, 0, false⟩] (ih0 _ (by omega) _ ⟨wrap64 (x4_6 - 1), t11_1, t11_2, x4_2_0, Ax4_2_0, cx4_2_0, x4_2_1, x4_2_2, t12_0, At12_0, ct12_0, t12_1, t12_2, H, rfl⟩))))))))))))))
      ·
       exact ov (EV.ex rfl rfl) rfl (xs [] [0, 1, 2] rfl rfl rfl (one1 6 rfl rfl (ov (EV.ex rfl rfl) rfl (xs [] [0, 1, 2] rfl rfl rfl (one1 10 rfl rfl (op_st (cs' := [.slice At12_0 t12_0.length ct12_0, .int .i64 t12_1, .int .i64 t12_2]) 1 rfl rfl rfl rfl rfl rfl (xn rfl (xd (pr [0, 2, 4, 6] [0, 1, 2] [0, 2, 4] rfl rfl rfl rfl (ge (rg (sv (EV.mv rfl) rfl (sv (EV.sub rfl rfl) rfl (sv (EV.as rfl) rfl (re (wk [0, 2, 4, 6] [2, 0, 1] [⟨0, 2, 1, true⟩, ⟨2, 1, 2, true⟩, ⟨1, 0, 0, false⟩] (ih0 _ (by omega) _ ⟨wrap64 (x4_6 - 1), t11_1, t11_2, x4_2_0, Ax4_2_0, cx4_2_0, x4_2_1, x4_2_2, t12_0, At12_0, ct12_0, t12_1, t12_2, H, rfl⟩)))))))))))))))))
    ·
     refine ov (EV.ex rfl rfl) rfl (xs [] [0, 1, 2] rfl rfl rfl ?_)
     refine one3 6 7 8 rfl rfl rfl rfl rfl rfl ?_ ?_ ?_
     ·
      refine ov (EV.ex rfl rfl) rfl (xs [] [0, 1, 2] rfl rfl rfl ?_)
      refine one3 7 8 10 rfl rfl rfl rfl rfl rfl ?_ ?_ ?_
      ·
       refine ov (EV.ex rfl rfl) rfl (xs [] [0, 1, 2] rfl rfl rfl ?_)
       refine one2 8 10 rfl rfl rfl rfl ?_ ?_
       ·
        exact ov (EV.ex rfl rfl) rfl (xs [] [0, 1, 2] rfl rfl rfl (one1 10 rfl rfl (op_st (cs' := [.slice At12_0 t12_0.length ct12_0, .int .i64 t12_1, .int .i64 t12_2]) 1 rfl rfl rfl rfl rfl rfl (xn rfl (xd (pr [0, 2, 4, 6] [0, 1, 2] [0, 2, 4] rfl rfl rfl rfl (ge (rg (sv (EV.mv rfl) rfl (sv (EV.sub rfl rfl) rfl (sv (EV.as rfl) rfl (re (wk [0, 2, 4, 6] [2, 0, 1] [⟨0, 2, 1, true⟩, ⟨2, 1, 2, true⟩, ⟨1, 0, 0, false⟩] (ih0 _ (by omega) _ ⟨wrap64 (x4_6 - 1), t11_1, t11_2, x4_2_0, Ax4_2_0, cx4_2_0, x4_2_1, x4_2_2, t12_0, At12_0, ct12_0, t12_1, t12_2, H, rfl⟩))))))))))))))
       ·
        exact op_st (cs' := [.slice At12_0 t12_0.length ct12_0, .int .i64 t12_1, .int .i64 t12_2]) 1 rfl rfl rfl rfl rfl rfl (xn rfl (one1 8 rfl rfl (ov (EV.ex rfl rfl) rfl (xs [] [0, 1, 2] rfl rfl rfl (xd (pr [0, 2, 4, 6] [0, 1, 2] [0, 2, 4] rfl rfl rfl rfl (ge (rg (sv (EV.mv rfl) rfl (sv (EV.sub rfl rfl) rfl (sv (EV.as rfl) rfl (re (wk [0, 2, 4, 6] [2, 0, 1] [⟨0, 2, 1, true⟩, ⟨2, 1, 2, true⟩, ⟨1, 0, 0, false⟩] (ih0 _ (by omega) _ ⟨wrap64 (x4_6 - 1), t11_1, t11_2, x4_2_0, Ax4_2_0, cx4_2_0, x4_2_1, x4_2_2, t12_0, At12_0, ct12_0, t12_1, t12_2, H, rfl⟩))))))))))))))
      ·
       refine ov (EV.ex rfl rfl) rfl (xs [] [0, 1, 2] rfl rfl rfl ?_)
       refine one2 7 10 rfl rfl rfl rfl ?_ ?_
       ·
        exact ov (EV.ex rfl rfl) rfl (xs [] [0, 1, 2] rfl rfl rfl (one1 10 rfl rfl (op_st (cs' := [.slice At12_0 t12_0.length ct12_0, .int .i64 t12_1, .int .i64 t12_2]) 1 rfl rfl rfl rfl rfl rfl (xn rfl (xd (pr [0, 2, 4, 6] [0, 1, 2] [0, 2, 4] rfl rfl rfl rfl (ge (rg (sv (EV.mv rfl) rfl (sv (EV.sub rfl rfl) rfl (sv (EV.as rfl) rfl (re (wk [0, 2, 4, 6] [2, 0, 1] [⟨0, 2, 1, true⟩, ⟨2, 1, 2, true⟩, ⟨1, 0, 0, false⟩] (ih0 _ (by omega) _ ⟨wrap64 (x4_6 - 1), t11_1, t11_2, x4_2_0, Ax4_2_0, cx4_2_0, x4_2_1, x4_2_2, t12_0, At12_0, ct12_0, t12_1, t12_2, H, rfl⟩))))))))))))))
       ·
        exact op_st (cs' := [.slice At12_0 t12_0.length ct12_0, .int .i64 t12_1, .int .i64 t12_2]) 1 rfl rfl rfl rfl rfl rfl (xn rfl (one1 7 rfl rfl (ov (EV.ex rfl rfl) rfl (xs [] [0, 1, 2] rfl rfl rfl (xd (pr [0, 2, 4, 6] [0, 1, 2] [0, 2, 4] rfl rfl rfl rfl (ge (rg (sv (EV.mv rfl) rfl (sv (EV.sub rfl rfl) rfl (sv (EV.as rfl) rfl (re (wk [0, 2, 4, 6] [2, 0, 1] [⟨0, 2, 1, true⟩, ⟨2, 1, 2, true⟩, ⟨1, 0, 0, false⟩] (ih0 _ (by omega) _ ⟨wrap64 (x4_6 - 1), t11_1, t11_2, x4_2_0, Ax4_2_0, cx4_2_0, x4_2_1, x4_2_2, t12_0, At12_0, ct12_0, t12_1, t12_2, H, rfl⟩))))))))))))))
      ·
       refine op_st (cs' := [.slice At12_0 t12_0.length ct12_0, .int .i64 t12_1, .int .i64 t12_2]) 1 rfl rfl rfl rfl rfl rfl (xn rfl ?_)
       refine one2 7 8 rfl rfl rfl rfl ?_ ?_
       ·
        exact ov (EV.ex rfl rfl) rfl (xs [] [0, 1, 2] rfl rfl rfl (one1 8 rfl rfl (ov (EV.ex rfl rfl) rfl (xs [] [0, 1, 2] rfl rfl rfl (xd (pr [0, 2, 4, 6] [0, 1, 2] [0, 2, 4] rfl rfl rfl rfl (ge (rg (sv (EV.mv rfl) rfl (sv (EV.sub rfl rfl) rfl (sv (EV.as rfl) rfl (re (wk [0, 2, 4, 6] [2, 0, 1] [⟨0, 2, 1, true⟩, ⟨2, 1, 2, true⟩, ⟨1, 0, 0, false⟩] (ih0 _ (by omega) _ ⟨wrap64 (x4_6 - 1), t11_1, t11_2, x4_2_0, Ax4_2_0, cx4_2_0, x4_2_1, x4_2_2, t12_0, At12_0, ct12_0, t12_1, t12_2, H, rfl⟩))))))))))))))
       ·
        exact ov (EV.ex rfl rfl) rfl (xs [] [0, 1, 2] rfl rfl rfl (one1 7 rfl rfl (ov (EV.ex rfl rfl) rfl (xs [] [0, 1, 2] rfl rfl rfl (xd (pr [0, 2, 4, 6] [0, 1, 2] [0, 2, 4] rfl rfl rfl rfl (ge (rg (sv (EV.mv rfl) rfl (sv (EV.sub rfl rfl) rfl (sv (EV.as rfl) rfl (re (wk [0, 2, 4, 6] [2, 0, 1] [⟨0, 2, 1, true⟩, ⟨2, 1, 2, true⟩, ⟨1, 0, 0, false⟩] (ih0 _ (by omega) _ ⟨wrap64 (x4_6 - 1), t11_1, t11_2, x4_2_0, Ax4_2_0, cx4_2_0, x4_2_1, x4_2_2, t12_0, At12_0, ct12_0, t12_1, t12_2, H, rfl⟩))))))))))))))
     ·
      refine ov (EV.ex rfl rfl) rfl (xs [] [0, 1, 2] rfl rfl rfl ?_)
      refine one2 6 8 rfl rfl rfl rfl ?_ ?_
      ·
       refine ov (EV.ex rfl rfl) rfl (xs [] [0, 1, 2] rfl rfl rfl ?_)
       refine one2 8 10 rfl rfl rfl rfl ?_ ?_
       ·
        exact ov (EV.ex rfl rfl) rfl (xs [] [0, 1, 2] rfl rfl rfl (one1 10 rfl rfl (op_st (cs' := [.slice At12_0 t12_0.length ct12_0, .int .i64 t12_1, .int .i64 t12_2]) 1 rfl rfl rfl rfl rfl rfl (xn rfl (xd (pr [0, 2, 4, 6] [0, 1, 2] [0, 2, 4] rfl rfl rfl rfl (ge (rg (sv (EV.mv rfl) rfl (sv (EV.sub rfl rfl) rfl (sv (EV.as rfl) rfl (re (wk [0, 2, 4, 6] [2, 0, 1] [⟨0, 2, 1, true⟩, ⟨2, 1, 2, true⟩, ⟨1, 0, 0, false⟩] (ih0 _ (by omega) _ ⟨wrap64 (x4_6 - 1), t11_1, t11_2, x4_2_0, Ax4_2_0, cx4_2_0, x4_2_1, x4_2_2, t12_0, At12_0, ct12_0, t12_1, t12_2, H, rfl⟩))))))))))))))
       ·
        exact op_st (cs' := [.slice At12_0 t12_0.length ct12_0, .int .i64 t12_1, .int .i64 t12_2]) 1 rfl rfl rfl rfl rfl rfl (xn rfl (one1 8 rfl rfl (ov (EV.ex rfl rfl) rfl (xs [] [0, 1, 2] rfl rfl rfl (xd (pr [0, 2, 4, 6] [0, 1, 2] [0, 2, 4] rfl rfl rfl rfl (ge (rg (sv (EV.mv rfl) rfl (sv (EV.sub rfl rfl) rfl (sv (EV.as rfl) rfl (re (wk [0, 2, 4, 6] [2, 0, 1] [⟨0, 2, 1, true⟩, ⟨2, 1, 2, true⟩, ⟨1, 0, 0, false⟩] (ih0 _ (by omega) _ ⟨wrap64 (x4_6 - 1), t11_1, t11_2, x4_2_0, Ax4_2_0, cx4_2_0, x4_2_1, x4_2_2, t12_0, At12_0, ct12_0, t12_1, t12_2, H, rfl⟩))))))))))))))
      ·
       exact ov (EV.ex rfl rfl) rfl (xs [] [0, 1, 2] rfl rfl rfl (one1 6 rfl rfl (ov (EV.ex rfl rfl) rfl (xs [] [0, 1, 2] rfl rfl rfl (one1 10 rfl rfl (op_st (cs' := [.slice At12_0 t12_0.length ct12_0, .int .i64 t12_1, .int .i64 t12_2]) 1 rfl rfl rfl rfl rfl rfl (xn rfl (xd (pr [0, 2, 4, 6] [0, 1, 2] [0, 2, 4] rfl rfl rfl rfl (ge (rg (sv (EV.mv rfl) rfl (sv (EV.sub rfl rfl) rfl (sv (EV.as rfl) rfl (re (wk [0, 2, 4, 6] [2, 0, 1] [⟨0, 2, 1, true⟩, ⟨2, 1, 2, true⟩, ⟨1, 0, 0, false⟩] (ih0 _ (by omega) _ ⟨wrap64 (x4_6 - 1), t11_1, t11_2, x4_2_0, Ax4_2_0, cx4_2_0, x4_2_1, x4_2_2, t12_0, At12_0, ct12_0, t12_1, t12_2, H, rfl⟩)))))))))))))))))
     ·
      refine ov (EV.ex rfl rfl) rfl (xs [] [0, 1, 2] rfl rfl rfl ?_)
      refine one2 6 7 rfl rfl rfl rfl ?_ ?_
      ·
       refine ov (EV.ex rfl rfl) rfl (xs [] [0, 1, 2] rfl rfl rfl ?_)
       refine one2 7 10 rfl rfl rfl rfl ?_ ?_
       ·
        exact ov (EV.ex rfl rfl) rfl (xs [] [0, 1, 2] rfl rfl rfl (one1 10 rfl rfl (op_st (cs' := [.slice At12_0 t12_0.length ct12_0, .int .i64 t12_1, .int .i64 t12_2]) 1 rfl rfl rfl rfl rfl rfl (xn rfl (xd (pr [0, 2, 4, 6] [0, 1, 2] [0, 2, 4] rfl rfl rfl rfl (ge (rg (sv (EV.mv rfl) rfl (sv (EV.sub rfl rfl) rfl (sv (EV.as rfl) rfl (re (wk [0, 2, 4, 6] [2, 0, 1] [⟨0, 2, 1, true⟩, ⟨2, 1, 2, true⟩, ⟨1, 0, 0, false⟩] (ih0 _ (by omega) _ ⟨wrap64 (x4_6 - 1), t11_1, t11_2, x4_2_0, Ax4_2_0, cx4_2_0, x4_2_1, x4_2_2, t12_0, At12_0, ct12_0, t12_1, t12_2, H, rfl⟩))))))))))))))
       ·
        exact op_st (cs' := [.slice At12_0 t12_0.length ct12_0, .int .i64 t12_1, .int .i64 t12_2]) 1 rfl rfl rfl rfl rfl rfl (xn rfl (one1 7 rfl rfl (ov (EV.ex rfl rfl) rfl (xs [] [0, 1, 2] rfl rfl rfl (xd (pr [0, 2, 4, 6] [0, 1, 2] [0, 2, 4] rfl rfl rfl rfl (ge (rg (sv (EV.mv rfl) rfl (sv (EV.sub rfl rfl) rfl (sv (EV.as rfl) rfl (re (wk [0, 2, 4, 6] [2, 0, 1] [⟨0, 2, 1, true⟩, ⟨2, 1, 2, true⟩, ⟨1, 0, 0, false⟩] (ih0 _ (by omega) _ ⟨wrap64 (x4_6 - 1), t11_1, t11_2, x4_2_0, Ax4_2_0, cx4_2_0, x4_2_1, x4_2_2, t12_0, At12_0, ct12_0, t12_1, t12_2, H, rfl⟩))))))))))))))
      ·
       exact ov (EV.ex rfl rfl) rfl (xs [] [0, 1, 2] rfl rfl rfl (one1 6 rfl rfl (ov (EV.ex rfl rfl) rfl (xs [] [0, 1, 2] rfl rfl rfl (one1 10 rfl rfl (op_st (cs' := [.slice At12_0 t12_0.length ct12_0, .int .i64 t12_1, .int .i64 t12_2]) 1 rfl rfl rfl rfl rfl rfl (xn rfl (xd (pr [0, 2, 4, 6] [0, 1, 2] [0, 2, 4] rfl rfl rfl rfl (ge (rg (sv (EV.mv rfl) rfl (sv (EV.sub rfl rfl) rfl (sv (EV.as rfl) rfl (re (wk [0, 2, 4, 6] [2, 0, 1] [⟨0, 2, 1, true⟩, ⟨2, 1, 2, true⟩, ⟨1, 0, 0, false⟩] (ih0 _ (by omega) _ ⟨wrap64 (x4_6 - 1), t11_1, t11_2, x4_2_0, Ax4_2_0, cx4_2_0, x4_2_1, x4_2_2, t12_0, At12_0, ct12_0, t12_1, t12_2, H, rfl⟩)))))))))))))))))
   ·
    revert H; refine bdI ?_; rintro ⟨t13_0, t13_1, t13_2⟩ A13 H
    refine op_callM (spec_l1PickInt.ok b1000 l0_0 Al0_0 cl0_0 x4_1000_1 x4_1000_2 ([8, 9, 12] : List Int) A28_10 c28_10 _ _ _ A13) [⟨2, 0, 0, false⟩, ⟨3, 0, 0, false⟩] [0] [1, 2] 4 rfl rfl rfl rfl rfl rfl rfl rfl ?_
    rintro _ _ _ ⟨rfl, rfl, rfl⟩
    refine nmE (en := [.sl 2 k44 Ax4_2_0 cx4_2_0 x4_2_0 1 true, .sl 1 k44 Ax4_4_0 cx4_4_0 x4_4_0 2 true, .sl 0 (.int .u8) Al0_0 cl0_0 l0_0 0 false, .sl 2 (.int .i64) A28_10 c28_10 ([8, 9, 12] : List Int) 3 true]) (by kernel_rfl) (xs [] [0, 1, 2] rfl rfl rfl (one1 0 rfl rfl (ov (EV.ld (v := .agg #[.slice Ax4_4_0 x4_4_0.length cx4_4_0, .int .i64 x4_4_1, .int .i64 x4_4_2]) 1 (some 3) rfl rfl rfl) rfl (xs [] [0, 1, 2] rfl rfl rfl (one1 4 rfl rfl ?_)))))
    revert H; refine bdI ?_; rintro ⟨t14_0, t14_1, t14_2, t14_3, t14_4, t14_5⟩ A14 H
    refine op_call (spec_StepJoiner.ok n0 x4_4_0 Ax4_4_0 cx4_4_0 x4_4_1 x4_4_2 t13_0 _ _ _ _ _ _ A14) [⟨1, 0, 0, false⟩] 4 rfl rfl rfl rfl rfl ?_
    rintro _ _ _ ⟨At14_0, ct14_0, At14_3, ct14_3, rfl, rfl, rfl⟩
    refine xs [] [0, 1, 2] rfl rfl rfl (one1 5 rfl rfl (ov (EV.mv rfl) rfl (xs [] [0, 1, 2] rfl rfl rfl ?_)))
    refine one4 6 7 8 9 rfl rfl rfl rfl rfl rfl rfl rfl ?_ ?_ ?_ ?_
    ·
     refine ov (EV.ex rfl rfl) rfl (xs [] [0, 1, 2] rfl rfl rfl ?_)
     refine one4 7 8 9 10 rfl rfl rfl rfl rfl rfl rfl rfl ?_ ?_ ?_ ?_
     ·
      refine ov (EV.ex rfl rfl) rfl (xs [] [0, 1, 2] rfl rfl rfl ?_)
      refine one3 8 9 10 rfl rfl rfl rfl rfl rfl ?_ ?_ ?_
      ·
       refine ov (EV.ex rfl rfl) rfl (xs [] [0, 1, 2] rfl rfl rfl ?_)
       refine one2 9 10 rfl rfl rfl rfl ?_ ?_
       ·
        exact ov (EV.ex rfl rfl) rfl (xs [] [0, 1, 2] rfl rfl rfl (one1 10 rfl rfl (op_st (cs' := [.slice At14_0 t14_0.length ct14_0, .int .i64 t14_1, .int .i64 t14_2]) 1 rfl rfl rfl rfl rfl rfl (xn rfl (xd (pr [0, 2, 4, 6] [0, 1, 2] [0, 2, 4] rfl rfl rfl rfl (ge (rg (sv (EV.mv rfl) rfl (sv (EV.sub rfl rfl) rfl (sv (EV.as rfl) rfl (re (wk [0, 2, 4, 6] [2, 0, 1] [⟨0, 2, 1, true⟩, ⟨2, 1, 2, true⟩, ⟨1, 0, 0, false⟩] (ih0 _ (by omega) _ ⟨wrap64 (x4_6 - 1), t13_1, t13_2, x4_2_0, Ax4_2_0, cx4_2_0, x4_2_1, x4_2_2, t14_0, At14_0, ct14_0, t14_1, t14_2, H, rfl⟩))))))))))))))
       ·
        exact op_st (cs' := [.slice At14_0 t14_0.length ct14_0, .int .i64 t14_1, .int .i64 t14_2]) 1 rfl rfl rfl rfl rfl rfl (xn rfl (one1 9 rfl rfl (ov (EV.ex rfl rfl) rfl (xs [] [0, 1, 2] rfl rfl rfl (xd (pr [0, 2, 4, 6] [0, 1, 2] [0, 2, 4] rfl rfl rfl rfl (ge (rg (sv (EV.mv rfl) rfl (sv (EV.sub rfl rfl) rfl (sv (EV.as rfl) rfl (re (wk [0, 2, 4, 6] [2, 0, 1] [⟨0, 2, 1, true⟩, ⟨2, 1, 2, true⟩, ⟨1, 0, 0, false⟩] (ih0 _ (by omega) _ ⟨wrap64 (x4_6 - 1), t13_1, t13_2, x4_2_0, Ax4_2_0, cx4_2_0, x4_2_1, x4_2_2, t14_0, At14_0, ct14_0, t14_1, t14_2, H, rfl⟩))))))))))))))
      ·
       refine ov (EV.ex rfl rfl) rfl (xs [] [0, 1, 2] rfl rfl rfl ?_)
       refine one2 8 10 rfl rfl rfl rfl ?_ ?_
       ·
        exact ov (EV.ex rfl rfl) rfl (xs [] [0, 1, 2] rfl rfl rfl (one1 10 rfl rfl (op_st (cs' := [.slice At14_0 t14_0.length ct14_0, .int .i64 t14_1, .int .i64 t14_2]) 1 rfl rfl rfl rfl rfl rfl (xn rfl (xd (pr [0, 2, 4, 6] [0, 1, 2] [0, 2, 4] rfl rfl rfl rfl (ge (rg (sv (EV.mv rfl) rfl (sv (EV.sub rfl rfl) rfl (sv (EV.as rfl) rfl (re (wk [0, 2, 4, 6] [2, 0, 1] [⟨0, 2, 1, true⟩, ⟨2, 1, 2, true⟩, ⟨1, 0, 0, false⟩] (ih0 _ (by omega) _ ⟨wrap64 (x4_6 - 1), t13_1, t13_2, x4_2_0, Ax4_2_0, cx4_2_0, x4_2_1, x4_2_2, t14_0, At14_0, ct14_0, t14_1, t14_2, H, rfl⟩))))))))))))))
       ·
        exact op_st (cs' := [.slice At14_0 t14_0.length ct14_0, .int .i64 t14_1, .int .i64 t14_2]) 1 rfl rfl rfl rfl rfl rfl (xn rfl (one1 8 rfl rfl (ov (EV.ex rfl rfl) rfl (xs [] [0, 1, 2] rfl rfl rfl (xd (pr [0, 2, 4, 6] [0, 1, 2] [0, 2, 4] rfl rfl rfl rfl (ge (rg (sv (EV.mv rfl) rfl (sv (EV.sub rfl rfl) rfl (sv (EV.as rfl) rfl (re (wk [0, 2, 4, 6] [2, 0, 1] [⟨0, 2, 1, true⟩, ⟨2, 1, 2, true⟩, ⟨1, 0, 0, false⟩] (ih0 _ (by omega) _ ⟨wrap64 (x4_6 - 1), t13_1, t13_2, x4_2_0, Ax4_2_0, cx4_2_0, x4_2_1, x4_2_2, t14_0, At14_0, ct14_0, t14_1, t14_2, H, rfl⟩))))))))))))))
      ·
       refine op_st (cs' := [.slice At14_0 t14_0.length ct14_0, .int .i64 t14_1, .int .i64 t14_2]) 1 rfl rfl rfl rfl rfl rfl (xn rfl ?_)
       refine one2 8 9 rfl rfl rfl rfl ?_ ?_
       ·
        exact ov (EV.ex rfl rfl) rfl (xs [] [0, 1, 2] rfl rfl rfl (one1 9 rfl rfl (ov (EV.ex rfl rfl) rfl (xs [] [0, 1, 2] rfl rfl rfl (xd (pr [0, 2, 4, 6] [0, 1, 2] [0, 2, 4] rfl rfl rfl rfl (ge (rg (sv (EV.mv rfl) rfl (sv (EV.sub rfl rfl) rfl (sv (EV.as rfl) rfl (re (wk [0, 2, 4, 6] [2, 0, 1] [⟨0, 2, 1, true⟩, ⟨2, 1, 2, true⟩, ⟨1, 0, 0, false⟩] (ih0 _ (by omega) _ ⟨wrap64 (x4_6 - 1), t13_1, t13_2, x4_2_0, Ax4_2_0, cx4_2_0, x4_2_1, x4_2_2, t14_0, At14_0, ct14_0, t14_1, t14_2, H, rfl⟩))))))))))))))
       ·
        exact ov (EV.ex rfl rfl) rfl (xs [] [0, 1, 2] rfl rfl rfl (one1 8 rfl rfl (ov (EV.ex rfl rfl) rfl (xs [] [0, 1, 2] rfl rfl rfl (xd (pr [0, 2, 4, 6] [0, 1, 2] [0, 2, 4] rfl rfl rfl rfl (ge (rg (sv (EV.mv rfl) rfl (sv (EV.sub rfl rfl) rfl (sv (EV.as rfl) rfl (re (wk [0, 2, 4, 6] [2, 0, 1] [⟨0, 2, 1, true⟩, ⟨2, 1, 2, true⟩, ⟨1, 0, 0, false⟩] (ih0 _ (by omega) _ ⟨wrap64 (x4_6 - 1), t13_1, t13_2, x4_2_0, Ax4_2_0, cx4_2_0, x4_2_1, x4_2_2, t14_0, At14_0, ct14_0, t14_1, t14_2, H, rfl⟩))))))))))))))
     ·
      refine ov (EV.ex rfl rfl) rfl (xs [] [0, 1, 2] rfl rfl rfl ?_)
      refine one3 7 9 10 rfl rfl rfl rfl rfl rfl ?_ ?_ ?_
      ·
       refine ov (EV.ex rfl rfl) rfl (xs [] [0, 1, 2] rfl rfl rfl ?_)
       refine one2 9 10 rfl rfl rfl rfl ?_ ?_
       ·
        exact ov (EV.ex rfl rfl) rfl (xs [] [0, 1, 2] rfl rfl rfl (one1 10 rfl rfl (op_st (cs' := [.slice At14_0 t14_0.length ct14_0, .int .i64 t14_1, .int .i64 t14_2]) 1 rfl rfl rfl rfl rfl rfl (xn rfl (xd (pr [0, 2, 4, 6] [0, 1, 2] [0, 2, 4] rfl rfl rfl rfl (ge (rg (sv (EV.mv rfl) rfl (sv (EV.sub rfl rfl) rfl (sv (EV.as rfl) rfl (re (wk [0, 2, 4, 6] [2, 0, 1] [⟨0, 2, 1, true⟩, ⟨2, 1, 2, true⟩, ⟨1, 0, 0, false⟩] (ih0 _ (by omega) _ ⟨wrap64 (x4_6 - 1), t13_1, t13_2, x4_2_0, Ax4_2_0, cx4_2_0, x4_2_1, x4_2_2, t14_0, At14_0, ct14_0, t14_1, t14_2, H, rfl⟩))))))))))))))
       ·
        exact op_st (cs' := [.slice At14_0 t14_0.length ct14_0, .int .i64 t14_1, .int .i64 t14_2]) 1 rfl rfl rfl rfl rfl rfl (xn rfl (one1 9 rfl rfl (ov (EV.ex rfl rfl) rfl (xs [] [0, 1, 2] rfl rfl rfl (xd (pr [0, 2, 4, 6] [0, 1, 2] [0, 2, 4] rfl rfl rfl rfl (ge (rg (sv (EV.mv rfl) rfl (sv (EV.sub rfl rfl) rfl (sv (EV.as rfl) rfl (re (wk [0, 2, 4, 6] [2, 0, 1] [⟨0, 2, 1, true⟩, ⟨2, 1, 2, true⟩, ⟨1, 0, 0, false⟩] (ih0 _ (by omega) _ ⟨wrap64 (x4_6 - 1), t13_1, t13_2, x4_2_0, Ax4_2_0, cx4_2_0, x4_2_1, x4_2_2, t14_0, At14_0, ct14_0, t14_1, t14_2, H, rfl⟩))))))))))))))
      ·
       refine ov (EV.ex rfl rfl) rfl (xs [] [0, 1, 2] rfl rfl rfl ?_)
       refine one2 7 10 rfl rfl rfl rfl ?_ ?_
       ·
        exact ov (EV.ex rfl rfl) rfl (xs [] [0, 1, 2] rfl rfl rfl (one1 10 rfl rfl (op_st (cs' := [.slice At14_0 t14_0.length ct14_0, .int .i64 t14_1, .int .i64 t14_2]) 1 rfl rfl rfl rfl rfl rfl (xn rfl (xd (pr [0, 2, 4, 6] [0, 1, 2] [0, 2, 4] rfl rfl rfl rfl (ge (rg (sv (EV.mv rfl) rfl (sv (EV.sub rfl rfl) rfl (sv (EV.as rfl) rfl (re (wk [0, 2, 4, 6] [2, 0, 1] [⟨0, 2, 1, true⟩, ⟨2, 1, 2, true⟩, ⟨1, 0, 0, false⟩] (ih0 _ (by omega) _ ⟨wrap64 (x4_6 - 1), t13_1, t13_2, x4_2_0, Ax4_2_0, cx4_2_0, x4_2_1, x4_2_2, t14_0, At14_0, ct14_0, t14_1, t14_2, H, rfl⟩))))))))))))))
       ·
        exact op_st (cs' := [.slice At14_0 t14_0.length ct14_0, .int .i64 t14_1, .int .i64 t14_2]) 1 rfl rfl rfl rfl rfl rfl (xn rfl (one1 7 rfl rfl (ov (EV.ex rfl rfl) rfl (xs [] [0, 1, 2] rfl rfl rfl (xd (pr [0, 2, 4, 6] [0, 1, 2] [0, 2, 4] rfl rfl rfl rfl (ge (rg (sv (EV.mv rfl) rfl (sv (EV.sub rfl rfl) rfl (sv (EV.as rfl) rfl (re (wk [0, 2, 4, 6] [2, 0, 1] [⟨0, 2, 1, true⟩, ⟨2, 1, 2, true⟩, ⟨1, 0, 0, false⟩] (ih0 _ (by omega) _ ⟨wrap64 (x4_6 - 1), t13_1, t13_2, x4_2_0, Ax4_2_0, cx4_2_0, x4_2_1, x4_2_2, t14_0, At14_0, ct14_0, t14_1, t14_2, H, rfl⟩))))))))))))))
      ·
       refine op_st (cs' := [.slice At14_0 t14_0.length ct14_0, .int .i64 t14_1, .int .i64 t14_2]) 1 rfl rfl rfl rfl rfl rfl (xn rfl ?_)
       refine one2 7 9 rfl rfl rfl rfl ?_ ?_
       ·
        exact ov (EV.ex rfl rfl) rfl (xs [] [0, 1, 2] rfl rfl rfl (one1 9 rfl rfl (ov (EV.ex rfl rfl) rfl (xs [] [0, 1, 2] rfl rfl rfl (xd (pr [0, 2, 4, 6] [0, 1, 2] [0, 2, 4] rfl rfl rfl rfl (ge (rg (sv (EV.mv rfl) rfl (sv (EV.sub rfl rfl) rfl (sv (EV.as rfl) rfl (re (wk [0, 2, 4, 6] [2, 0, 1] [⟨0, 2, 1, true⟩, ⟨2, 1, 2, true⟩, ⟨1, 0, 0, false⟩] (ih0 _ (by omega) _ ⟨wrap64 (x4_6 - 1), t13_1, t13_2, x4_2_0, Ax4_2_0, cx4_2_0, x4_2_1, x4_2_2, t14_0, At14_0, ct14_0, t14_1, t14_2, H, rfl⟩))))))))))))))
       ·
        exact ov (EV.ex rfl rfl) rfl (xs [] [0, 1, 2] rfl rfl rfl (one1 7 rfl rfl (ov (EV.ex rfl rfl) rfl (xs [] [0, 1, 2] rfl rfl rfl (xd (pr [0, 2, 4, 6] [0, 1, 2] [0, 2, 4] rfl rfl rfl rfl (ge (rg (sv (EV.mv rfl) rfl (sv (EV.sub rfl rfl) rfl (sv (EV.as rfl) rfl (re (wk [0, 2, 4, 6] [2, 0, 1] [⟨0, 2, 1, true⟩, ⟨2, 1, 2, true⟩, ⟨1, 0, 0, false⟩] (ih0 _ (by omega) _ ⟨wrap64 (x4_6 - 1), t13_1, t13_2, x4_2_0, Ax4_2_0, cx4_2_0, x4_2_1, x4_2_2, t14_0, At14_0, ct14_0, t14_1, t14_2, H, rfl⟩))))))))))))))
     ·
      refine ov (EV.ex rfl rfl) rfl (xs [] [0, 1, 2] rfl rfl rfl ?_)
      refine one3 7 8 10 rfl rfl rfl rfl rfl rfl ?_ ?_ ?_
      ·
       refine ov (EV.ex rfl rfl) rfl (xs [] [0, 1, 2] rfl rfl rfl ?_)
       refine one2 8 10 rfl rfl rfl rfl ?_ ?_
       ·
        exact ov (EV.ex rfl rfl) rfl (xs [] [0, 1, 2] rfl rfl rfl (one1 10 rfl rfl (op_st (cs' := [.slice At14_0 t14_0.length ct14_0, .int .i64 t14_1, .int .i64 t14_2]) 1 rfl rfl rfl rfl rfl rfl (xn rfl (xd (pr [0, 2, 4, 6] [0, 1, 2] [0, 2, 4] rfl rfl rfl rfl (ge (rg (sv (EV.mv rfl) rfl (sv (EV.sub rfl rfl) rfl (sv (EV.as rfl) rfl (re (wk [0, 2, 4, 6] [2, 0, 1] [⟨0, 2, 1, true⟩, ⟨2, 1, 2, true⟩, ⟨1, 0, 0, false⟩] (ih0 _ (by omega) _ ⟨wrap64 (x4_6 - 1), t13_1, t13_2, x4_2_0, Ax4_2_0, cx4_2_0, x4_2_1, x4_2_2, t14_0, At14_0, ct14_0, t14_1, t14_2, H, rfl⟩))))))))))))))
       ·
        exact op_st (cs' := [.slice At14_0 t14_0.length ct14_0, .int .i64 t14_1, .int .i64 t14_2]) 1 rfl rfl rfl rfl rfl rfl (xn rfl (one1 8 rfl rfl (ov (EV.ex rfl rfl) rfl (xs [] [0, 1, 2] rfl rfl rfl (xd (pr [0, 2, 4, 6] [0, 1, 2] [0, 2, 4] rfl rfl rfl rfl (ge (rg (sv (EV.mv rfl) rfl (sv (EV.sub rfl rfl) rfl (sv (EV.as rfl) rfl (re (wk [0, 2, 4, 6] [2, 0, 1] [⟨0, 2, 1, true⟩, ⟨2, 1, 2, true⟩, ⟨1, 0, 0, false⟩] (ih0 _ (by omega) _ ⟨wrap64 (x4_6 - 1), t13_1, t13_2, x4_2_0, Ax4_2_0, cx4_2_0, x4_2_1, x4_2_2, t14_0, At14_0, ct14_0, t14_1, t14_2, H, rfl⟩))))))))))))))
      ·
       refine ov (EV.ex rfl rfl) rfl (xs [] [0, 1, 2] rfl rfl rfl ?_)
       refine one2 7 10 rfl rfl rfl rfl ?_ ?_
       ·
        exact ov (EV.ex rfl rfl) rfl (xs [] [0, 1, 2] rfl rfl rfl (one1 10 rfl rfl (op_st (cs' := [.slice At14_0 t14_0.length ct14_0, .int .i64 t14_1, .int .i64 t14_2]) 1 rfl rfl rfl rfl rfl rfl (xn rfl (xd (pr [0, 2, 4, 6] [0, 1, 2] [0, 2, 4] rfl rfl rfl rfl (ge (rg (sv (EV.mv rfl) rfl (sv (EV.sub rfl rfl) rfl (sv (EV.as rfl) rfl (re (wk [0, 2, 4, 6] [2, 0, 1] [⟨0, 2, 1, true⟩, ⟨2, 1, 2, true⟩, ⟨1, 0, 0, false⟩] (ih0 _ (by omega) _ ⟨wrap64 (x4_6 - 1), t13_1, t13_2, x4_2_0, Ax4_2_0, cx4_2_0, x4_2_1, x4_2_2, t14_0, At14_0, ct14_0, t14_1, t14_2, H, rfl⟩))))))))))))))
       ·
        exact op_st (cs' := [.slice At14_0 t14_0.length ct14_0, .int .i64 t14_1, .int .i64 t14_2]) 1 rfl rfl rfl rfl rfl rfl (xn rfl (one1 7 rfl rfl (ov (EV.ex rfl rfl) rfl (xs [] [0, 1, 2] rfl rfl rfl (xd (pr [0, 2, 4, 6] [0, 1, 2] [0, 2, 4] rfl rfl rfl rfl (ge (rg (sv (EV.mv rfl) rfl (sv (EV.sub rfl rfl) rfl (sv (EV.as rfl) rfl (re (wk [0, 2, 4, 6] [2, 0, 1] [⟨0, 2, 1, true⟩, ⟨2, 1, 2, true⟩, ⟨1, 0, 0, false⟩] (ih0 _ (by omega) _ ⟨wrap64 (x4_6 - 1), t13_1, t13_2, x4_2_0, Ax4_2_0, cx4_2_0, x4_2_1, x4_2_2, t14_0, At14_0, ct14_0, t14_1, t14_2, H, rfl⟩))))))))))))))
      ·
       refine op_st (cs' := [.slice At14_0 t14_0.length ct14_0, .int .i64 t14_1, .int .i64 t14_2]) 1 rfl rfl rfl rfl rfl rfl (xn rfl ?_)
       refine one2 7 8 rfl rfl rfl rfl ?_ ?_
       ·
        exact ov (EV.ex rfl rfl) rfl (xs [] [0, 1, 2] rfl rfl rfl (one1 8 rfl rfl (ov (EV.ex rfl rfl) rfl (xs [] [0, 1, 2] rfl rfl rfl (xd (pr [0, 2, 4, 6] [0, 1, 2] [0, 2, 4] rfl rfl rfl rfl (ge (rg (sv (EV.mv rfl) rfl (sv (EV.sub rfl rfl) rfl (sv (EV.as rfl) rfl (re (wk [0, 2, 4, 6] [2, 0, 1] [⟨0, 2, 1, true⟩, ⟨2, 1, 2, true⟩, ⟨1, 0, 0, false⟩] (ih0 _ (by omega) _ ⟨wrap64 (x4_6 - 1), t13_1, t13_2, x4_2_0, Ax4_2_0, cx4_2_0, x4_2_1, x4_2_2, t14_0, At14_0, ct14_0, t14_1, t14_2, H, rfl⟩))))))))))))))
       ·
        exact ov (EV.ex rfl rfl) rfl (xs [] [0, 1, 2] rfl rfl rfl (one1 7 rfl rfl (ov (EV.ex rfl rfl) rfl (xs [] [0, 1, 2] rfl rfl rfl (xd (pr [0, 2, 4, 6] [0, 1, 2] [0, 2, 4] rfl rfl rfl rfl (ge (rg (sv (EV.mv rfl) rfl (sv (EV.sub rfl rfl) rfl (sv (EV.as rfl) rfl (re (wk [0, 2, 4, 6] [2, 0, 1] [⟨0, 2, 1, true⟩, ⟨2, 1, 2, true⟩, ⟨1, 0, 0, false⟩] (ih0 _ (by omega) _ ⟨wrap64 (x4_6 - 1), t13_1, t13_2, x4_2_0, Ax4_2_0, cx4_2_0, x4_2_1, x4_2_2, t14_0, At14_0, ct14_0, t14_1, t14_2, H, rfl⟩))))))))))))))
     ·
      refine op_st (cs' := [.slice At14_0 t14_0.length ct14_0, .int .i64 t14_1, .int .i64 t14_2]) 1 rfl rfl rfl rfl rfl rfl (xn rfl ?_)
      refine one3 7 8 9 rfl rfl rfl rfl rfl rfl ?_ ?_ ?_
      ·
       refine ov (EV.ex rfl rfl) rfl (xs [] [0, 1, 2] rfl rfl rfl ?_)
       refine one2 8 9 rfl rfl rfl rfl ?_ ?_
       ·
        exact ov (EV.ex rfl rfl) rfl (xs [] [0, 1, 2] rfl rfl rfl (one1 9 rfl rfl (ov (EV.ex rfl rfl) rfl (xs [] [0, 1, 2] rfl rfl rfl (xd (pr [0, 2, 4, 6] [0, 1, 2] [0, 2, 4] rfl rfl rfl rfl (ge (rg (sv (EV.mv rfl) rfl (sv (EV.sub rfl rfl) rfl (sv (EV.as rfl) rfl (re (wk [0, 2, 4, 6] [2, 0, 1] [⟨0, 2, 1, true⟩, ⟨2, 1, 2, true⟩, ⟨1, 0, 0, false⟩] (ih0 _ (by omega) _ ⟨wrap64 (x4_6 - 1), t13_1, t13_2, x4_2_0, Ax4_2_0, cx4_2_0, x4_2_1, x4_2_2, t14_0, At14_0, ct14_0, t14_1, t14_2, H, rfl⟩))))))))))))))
       ·
        exact ov (EV.ex rfl rfl) rfl (xs [] [0, 1, 2] rfl rfl rfl (one1 8 rfl rfl (ov (EV.ex rfl rfl) rfl (xs [] [0, 1, 2] rfl rfl rfl (xd (pr [0, 2, 4, 6] [0, 1, 2] [0, 2, 4] rfl rfl rfl rfl (ge (rg (sv (EV.mv rfl) rfl (sv (EV.sub rfl rfl) rfl (sv (EV.as rfl) rfl (re (wk [0, 2, 4, 6] [2, 0, 1] [⟨0, 2, 1, true⟩, ⟨2, 1, 2, true⟩, ⟨1, 0, 0, false⟩] (ih0 _ (by omega) _ ⟨wrap64 (x4_6 - 1), t13_1, t13_2, x4_2_0, Ax4_2_0, cx4_2_0, x4_2_1, x4_2_2, t14_0, At14_0, ct14_0, t14_1, t14_2, H, rfl⟩))))))))))))))
      ·
       refine ov (EV.ex rfl rfl) rfl (xs [] [0, 1, 2] rfl rfl rfl ?_)
       refine one2 7 9 rfl rfl rfl rfl ?_ ?_
       ·
        exact ov (EV.ex rfl rfl) rfl (xs [] [0, 1, 2] rfl rfl rfl (one1 9 rfl rfl (ov (EV.ex rfl rfl) rfl (xs [] [0, 1, 2] rfl rfl rfl (xd (pr [0, 2, 4, 6] [0, 1, 2] [0, 2, 4] rfl rfl rfl rfl (ge (rg (sv (EV.mv rfl) rfl (sv (EV.sub rfl rfl) rfl (sv (EV.as rfl) rfl (re (wk [0, 2, 4, 6] [2, 0, 1] [⟨0, 2, 1, true⟩, ⟨2, 1, 2, true⟩, ⟨1, 0, 0, false⟩] (ih0 _ (by omega) _ ⟨wrap64 (x4_6 - 1), t13_1, t13_2, x4_2_0, Ax4_2_0, cx4_2_0, x4_2_1, x4_2_2, t14_0, At14_0, ct14_0, t14_1, t14_2, H, rfl⟩))))))))))))))
       ·
        exact ov (EV.ex rfl rfl) rfl (xs [] [0, 1, 2] rfl rfl rfl (one1 7 rfl rfl (ov (EV.ex rfl rfl) rfl (xs [] [0, 1, 2] rfl rfl rfl (xd (pr [0, 2, 4, 6] [0, 1, 2] [0, 2, 4] rfl rfl rfl rfl (ge (rg (sv (EV.mv rfl) rfl (sv (EV.sub rfl rfl) rfl (sv (EV.as rfl) rfl (re (wk [0, 2, 4, 6] [2, 0, 1] [⟨0, 2, 1, true⟩, ⟨2, 1, 2, true⟩, ⟨1, 0, 0, false⟩] (ih0 _ (by omega) _ ⟨wrap64 (x4_6 - 1), t13_1, t13_2, x4_2_0, Ax4_2_0, cx4_2_0, x4_2_1, x4_2_2, t14_0, At14_0, ct14_0, t14_1, t14_2, H, rfl⟩))))))))))))))
      ·
       refine ov (EV.ex rfl rfl) rfl (xs [] [0, 1, 2] rfl rfl rfl ?_)
       refine one2 7 8 rfl rfl rfl rfl ?_ ?_
       ·
        exact ov (EV.ex rfl rfl) rfl (xs [] [0, 1, 2] rfl rfl rfl (one1 8 rfl rfl (ov (EV.ex rfl rfl) rfl (xs [] [0, 1, 2] rfl rfl rfl (xd (pr [0, 2, 4, 6] [0, 1, 2] [0, 2, 4] rfl rfl rfl rfl (ge (rg (sv (EV.mv rfl) rfl (sv (EV.sub rfl rfl) rfl (sv (EV.as rfl) rfl (re (wk [0, 2, 4, 6] [2, 0, 1] [⟨0, 2, 1, true⟩, ⟨2, 1, 2, true⟩, ⟨1, 0, 0, false⟩] (ih0 _ (by omega) _ ⟨wrap64 (x4_6 - 1), t13_1, t13_2, x4_2_0, Ax4_2_0, cx4_2_0, x4_2_1, x4_2_2, t14_0, At14_0, ct14_0, t14_1, t14_2, H, rfl⟩))))))))))))))
       ·
        exact ov (EV.ex rfl rfl) rfl (xs [] [0, 1, 2] rfl rfl rfl (one1 7 rfl rfl (ov (EV.ex rfl rfl) rfl (xs [] [0, 1, 2] rfl rfl rfl (xd (pr [0, 2, 4, 6] [0, 1, 2] [0, 2, 4] rfl rfl rfl rfl (ge (rg (sv (EV.mv rfl) rfl (sv (EV.sub rfl rfl) rfl (sv (EV.as rfl) rfl (re (wk [0, 2, 4, 6] [2, 0, 1] [⟨0, 2, 1, true⟩, ⟨2, 1, 2, true⟩, ⟨1, 0, 0, false⟩] (ih0 _ (by omega) _ ⟨wrap64 (x4_6 - 1), t13_1, t13_2, x4_2_0, Ax4_2_0, cx4_2_0, x4_2_1, x4_2_2, t14_0, At14_0, ct14_0, t14_1, t14_2, H, rfl⟩))))))))))))))
    ·
     refine ov (EV.ex rfl rfl) rfl (xs [] [0, 1, 2] rfl rfl rfl ?_)
     refine one3 6 8 9 rfl rfl rfl rfl rfl rfl ?_ ?_ ?_
     ·
      refine ov (EV.ex rfl rfl) rfl (xs [] [0, 1, 2] rfl rfl rfl ?_)
      refine one3 8 9 10 rfl rfl rfl rfl rfl rfl ?_ ?_ ?_
      ·
       refine ov (EV.ex rfl rfl) rfl (xs [] [0, 1, 2] rfl rfl rfl ?_)
       refine one2 9 10 rfl rfl rfl rfl ?_ ?_
       ·
        exact ov (EV.ex rfl rfl) rfl (xs [] [0, 1, 2] rfl rfl rfl (one1 10 rfl rfl (op_st (cs' := [.slice At14_0 t14_0.length ct14_0, .int .i64 t14_1, .int .i64 t14_2]) 1 rfl rfl rfl rfl rfl rfl (xn rfl (xd (pr [0, 2, 4, 6] [0, 1, 2] [0, 2, 4] rfl rfl rfl rfl (ge (rg (sv (EV.mv rfl) rfl (sv (EV.sub rfl rfl) rfl (sv (EV.as rfl) rfl (re (wk [0, 2, 4, 6] [2, 0, 1] [⟨0, 2, 1, true⟩, ⟨2, 1, 2, true⟩, ⟨1, 0, 0, false⟩] (ih0 _ (by omega) _ ⟨wrap64 (x4_6 - 1), t13_1, t13_2, x4_2_0, Ax4_2_0, cx4_2_0, x4_2_1, x4_2_2, t14_0, At14_0, ct14_0, t14_1, t14_2, H, rfl⟩))))))))))))))
       ·
        exact op_st (cs' := [.slice At14_0 t14_0.length ct14_0, .int .i64 t14_1, .int .i64 t14_2]) 1 rfl rfl rfl rfl rfl rfl (xn rfl (one1 9 rfl rfl (ov (EV.ex rfl rfl) rfl (xs [] [0, 1, 2] rfl rfl rfl (xd (pr [0, 2, 4, 6] [0, 1, 2] [0, 2, 4] rfl rfl rfl rfl (ge (rg (sv (EV.mv rfl) rfl (sv (EV.sub rfl rfl) rfl (sv (EV.as rfl) rfl (re (wk [0, 2, 4, 6] [2, 0, 1] [⟨0, 2, 1, true⟩, ⟨2, 1, 2, true⟩, ⟨1, 0, 0, false⟩] (ih0 _ (by omega) _ ⟨wrap64 (x4_6 - 1), t13_1, t13_2, x4_2_0, Ax4_2_0, cx4_2_0, x4_2_1, x4_2_2, t14_0, At14_0, ct14_0, t14_1, t14_2, H, rfl⟩))))))))))))))
      ·
       refine ov (EV.ex rfl rfl) rfl (xs [] [0, 1, 2] rfl rfl rfl ?_)
       refine one2 8 10 rfl rfl rfl rfl ?_ ?_
       ·
        exact ov (EV.ex rfl rfl) rfl (xs [] [0, 1, 2] rfl rfl rfl (one1 10 rfl rfl (op_st (cs' := [.slice At14_0 t14_0.length ct14_0, .int .i64 t14_1, .int .i64 t14_2]) 1 rfl rfl rfl rfl rfl rfl (xn rfl (xd (pr [0, 2, 4, 6] [0, 1, 2] [0, 2, 4] rfl rfl rfl rfl (ge (rg (sv (EV.mv rfl) rfl (sv (EV.sub rfl rfl) rfl (sv (EV.as rfl) rfl (re (wk [0, 2, 4, 6] [2, 0, 1] [⟨0, 2, 1, true⟩, ⟨2, 1, 2, true⟩, ⟨1, 0, 0, false⟩] (ih0 _ (by omega) _ ⟨wrap64 (x4_6 - 1), t13_1, t13_2, x4_2_0, Ax4_2_0, cx4_2_0, x4_2_1, x4_2_2, t14_0, At14_0, ct14_0, t14_1, t14_2, H, rfl⟩))))))))))))))
       ·
        exact op_st (cs' := [.slice At14_0 t14_0.length ct14_0, .int .i64 t14_1, .int .i64 t14_2]) 1 rfl rfl rfl rfl rfl rfl (xn rfl (one1 8 rfl rfl (ov (EV.ex rfl rfl) rfl (xs [] [0, 1, 2] rfl rfl rfl (xd (pr [0, 2, 4, 6] [0, 1, 2] [0, 2, 4] rfl rfl rfl rfl (ge (rg (sv (EV.mv rfl) rfl (sv (EV.sub rfl rfl) rfl (sv (EV.as rfl) rfl (re (wk [0, 2, 4, 6] [2, 0, 1] [⟨0, 2, 1, true⟩, ⟨2, 1, 2, true⟩, ⟨1, 0, 0, false⟩] (ih0 _ (by omega) _ ⟨wrap64 (x4_6 - 1), t13_1, t13_2, x4_2_0, Ax4_2_0, cx4_2_0, x4_2_1, x4_2_2, t14_0, At14_0, ct14_0, t14_1, t14_2, H, rfl⟩))))))))))))))
      ·
       refine op_st (cs' := [.slice At14_0 t14_0.length ct14_0, .int .i64 t14_1, .int .i64 t14_2]) 1 rfl rfl rfl rfl rfl rfl (xn rfl ?_)
       refine one2 8 9 rfl rfl rfl rfl ?_ ?_
       ·
        exact ov (EV.ex rfl rfl) rfl (xs [] [0, 1, 2] rfl rfl rfl (one1 9 rfl rfl (ov (EV.ex rfl rfl) rfl (xs [] [0, 1, 2] rfl rfl rfl (xd (pr [0, 2, 4, 6] [0, 1, 2] [0, 2, 4] rfl rfl rfl rfl (ge (rg (sv (EV.mv rfl) rfl (sv (EV.sub rfl rfl) rfl (sv (EV.as rfl) rfl (re (wk [0, 2, 4, 6] [2, 0, 1] [⟨0, 2, 1, true⟩, ⟨2, 1, 2, true⟩, ⟨1, 0, 0, false⟩] (ih0 _ (by omega) _ ⟨wrap64 (x4_6 - 1), t13_1, t13_2, x4_2_0, Ax4_2_0, cx4_2_0, x4_2_1, x4_2_2, t14_0, At14_0, ct14_0, t14_1, t14_2, H, rfl⟩))))))))))))))
       ·
        exact ov (EV.ex rfl rfl) rfl (xs [] [0, 1, 2] rfl rfl rfl (one1 8 rfl rfl (ov (EV.ex rfl rfl) rfl (xs [] [0, 1, 2] rfl rfl rfl (xd (pr [0, 2, 4, 6] [0, 1, 2] [0, 2, 4] rfl rfl rfl rfl (ge (rg (sv (EV.mv rfl) rfl (sv (EV.sub rfl rfl) rfl (sv (EV.as rfl) rfl (re (wk [0, 2, 4, 6] [2, 0, 1] [⟨0, 2, 1, true⟩, ⟨2, 1, 2, true⟩, ⟨1, 0, 0, false⟩] (ih0 _ (by omega) _ ⟨wrap64 (x4_6 - 1), t13_1, t13_2, x4_2_0, Ax4_2_0, cx4_2_0, x4_2_1, x4_2_2, t14_0, At14_0, ct14_0, t14_1, t14_2, H, rfl⟩))))))))))))))
     ·
      refine ov (EV.ex rfl rfl) rfl (xs [] [0, 1, 2] rfl rfl rfl ?_)
      refine one2 6 9 rfl rfl rfl rfl ?_ ?_
      ·
       refine ov (EV.ex rfl rfl) rfl (xs [] [0, 1, 2] rfl rfl rfl ?_)
       refine one2 9 10 rfl rfl rfl rfl ?_ ?_
       ·
        exact ov (EV.ex rfl rfl) rfl (xs [] [0, 1, 2] rfl rfl rfl (one1 10 rfl rfl (op_st (cs' := [.slice At14_0 t14_0.length ct14_0, .int .i64 t14_1, .int .i64 t14_2]) 1 rfl rfl rfl rfl rfl rfl (xn rfl (xd (pr [0, 2, 4, 6] [0, 1, 2] [0, 2, 4] rfl rfl rfl rfl (ge (rg (sv (EV.mv rfl) rfl (sv (EV.sub rfl rfl) rfl (sv (EV.as rfl) rfl (re (wk [0, 2, 4, 6] [2, 0, 1] [⟨0, 2, 1, true⟩, ⟨2, 1, 2, true⟩, ⟨1, 0, 0, false⟩] (ih0 _ (by omega) _ ⟨wrap64 (x4_6 - 1), t13_1, t13_2, x4_2_0, Ax4_2_0, cx4_2_0, x4_2_1, x4_2_2, t14_0, At14_0, ct14_0, t14_1, t14_2, H, rfl⟩))))))))))))))
       ·
        exact op_st (cs' := [.slice At14_0 t14_0.length ct14_0, .int .i64 t14_1, .int .i64 t14_2]) 1 rfl rfl rfl rfl rfl rfl (xn rfl (one1 9 rfl rfl (ov (EV.ex rfl rfl) rfl (xs [] [0, 1, 2] rfl rfl rfl (xd (pr [0, 2, 4, 6] [0, 1, 2] [0, 2, 4] rfl rfl rfl rfl (ge (rg (sv (EV.mv rfl) rfl (sv (EV.sub rfl rfl) rfl (sv (EV.as rfl) rfl (re (wk [0, 2, 4, 6] [2, 0, 1] [⟨0, 2, 1, true⟩, ⟨2, 1, 2, true⟩, ⟨1, 0, 0, false⟩] (ih0 _ (by omega) _ ⟨wrap64 (x4_6 - 1), t13_1, t13_2, x4_2_0, Ax4_2_0, cx4_2_0, x4_2_1, x4_2_2, t14_0, At14_0, ct14_0, t14_1, t14_2, H, rfl⟩))))))))))))))
      ·
       exact ov (EV.ex rfl rfl) rfl (xs [] [0, 1, 2] rfl rfl rfl (one1 6 rfl rfl (ov (EV.ex rfl rfl) rfl (xs [] [0, 1, 2] rfl rfl rfl (one1 10 rfl rfl (op_st (cs' := [.slice At14_0 t14_0.length ct14_0, .int .i64 t14_1, .int .i64 t14_2]) 1 rfl rfl rfl rfl rfl rfl (xn rfl (xd (pr [0, 2, 4, 6] [0, 1, 2] [0, 2, 4] rfl rfl rfl rfl (ge (rg (sv (EV.mv rfl) rfl (sv (EV.sub rfl rfl) rfl (sv (EV.as rfl) rfl (re (wk [0, 2, 4, 6] [2, 0, 1] [⟨0, 2, 1, true⟩, ⟨2, 1, 2, true⟩, ⟨1, 0, 0, false⟩] (ih0 _ (by omega) _ ⟨wrap64 (x4_6 - 1), t13_1, t13_2, x4_2_0, Ax4_2_0, cx4_2_0, x4_2_1, x4_2_2, t14_0, At14_0, ct14_0, t14_1, t14_2, H, rfl⟩)))))))))))))))))
     ·
      refine ov (EV.ex rfl rfl) rfl (xs [] [0, 1, 2] rfl rfl rfl ?_)
      refine one2 6 8 rfl rfl rfl rfl ?_ ?_
      ·
       refine ov (EV.ex rfl rfl) rfl (xs [] [0, 1, 2] rfl rfl rfl ?_)
       refine one2 8 10 rfl rfl rfl rfl ?_ ?_
       ·
        exact ov (EV.ex rfl rfl) rfl (xs [] [0, 1, 2] rfl rfl rfl (one1 10 rfl rfl (op_st (cs' := [.slice At14_0 t14_0.length ct14_0, .int .i64 t14_1, .int .i64 t14_2]) 1 rfl rfl rfl rfl rfl rfl (xn rfl (xd (pr [0, 2, 4, 6] [0, 1, 2] [0, 2, 4] rfl rfl rfl rfl (ge (rg (sv (EV.mv rfl) rfl (sv (EV.sub rfl rfl) rfl (sv (EV.as rfl) rfl (re (wk [0, 2, 4, 6] [2, 0, 1] [⟨0, 2, 1, true⟩, ⟨2, 1, 2, true⟩, ⟨1, 0, 0, false⟩] (ih0 _ (by omega) _ ⟨wrap64 (x4_6 - 1), t13_1, t13_2, x4_2_0, Ax4_2_0, cx4_2_0, x4_2_1, x4_2_2, t14_0, At14_0, ct14_0, t14_1, t14_2, H, rfl⟩))))))))))))))
       ·
        exact op_st (cs' := [.slice At14_0 t14_0.length ct14_0, .int .i64 t14_1, .int .i64 t14_2]) 1 rfl rfl rfl rfl rfl rfl (xn rfl (one1 8 rfl rfl (ov (EV.ex rfl rfl) rfl (xs [] [0, 1, 2] rfl rfl rfl (xd (pr [0, 2, 4, 6] [0, 1, 2] [0, 2, 4] rfl rfl rfl rfl (ge (rg (sv (EV.mv rfl) rfl (sv (EV.sub rfl rfl) rfl (sv (EV.as rfl) rfl (re (wk [0, 2, 4, 6] [2, 0, 1] [⟨0, 2, 1, true⟩, ⟨2, 1, 2, true⟩, ⟨1, 0, 0, false⟩] (ih0 _ (by omega) _ ⟨wrap64 (x4_6 - 1), t13_1, t13_2, x4_2_0, Ax4_2_0, cx4_2_0, x4_2_1, x4_2_2, t14_0, At14_0, ct14_0, t14_1, t14_2, H, rfl⟩))))))))))))))
      ·
       exact ov (EV.ex rfl rfl) rfl (xs [] [0, 1, 2] rfl rfl rfl (one1 6 rfl rfl (ov (EV.ex rfl rfl) rfl (xs [] [0, 1, 2] rfl rfl rfl (one1 10 rfl rfl (op_st (cs' := [.slice At14_0 t14_0.length ct14_0, .int .i64 t14_1, .int .i64 t14_2]) 1 rfl rfl rfl rfl rfl rfl (xn rfl (xd (pr [0, 2, 4, 6] [0, 1, 2] [0, 2, 4] rfl rfl rfl rfl (ge (rg (sv (EV.mv rfl) rfl (sv (EV.sub rfl rfl) rfl (sv (EV.as rfl) rfl (re (wk [0, 2, 4, 6] [2, 0, 1] [⟨0, 2, 1, true⟩, ⟨2, 1, 2, true⟩, ⟨1, 0, 0, false⟩] (ih0 _ (by omega) _ ⟨wrap64 (x4_6 - 1), t13_1, t13_2, x4_2_0, Ax4_2_0, cx4_2_0, x4_2_1, x4_2_2, t14_0, At14_0, ct14_0, t14_1, t14_2, H, rfl⟩)))))))))))))))))
    ·
     refine ov (EV.ex rfl rfl) rfl (xs [] [0, 1, 2] rfl rfl rfl ?_)
     refine one3 6 7 9 rfl rfl rfl rfl rfl rfl ?_ ?_ ?_
     ·
      refine ov (EV.ex rfl rfl) rfl (xs [] [0, 1, 2] rfl rfl rfl ?_)
      refine one3 7 9 10 rfl rfl rfl rfl rfl rfl ?_ ?_ ?_
      ·
       refine ov (EV.ex rfl rfl) rfl (xs [] [0, 1, 2] rfl rfl rfl ?_)
       refine one2 9 10 rfl rfl rfl rfl ?_ ?_
       ·
        exact ov (EV.ex rfl rfl) rfl (xs [] [0, 1, 2] rfl rfl rfl (one1 10 rfl rfl (op_st (cs' := [.slice At14_0 t14_0.length ct14_0, .int .i64 t14_1, .int .i64 t14_2]) 1 rfl rfl rfl rfl rfl rfl (xn rfl (xd (pr [0, 2, 4, 6] [0, 1, 2] [0, 2, 4] rfl rfl rfl rfl (ge (rg (sv (EV.mv rfl) rfl (sv (EV.sub rfl rfl) rfl (sv (EV.as rfl) rfl (re (wk [0, 2, 4, 6] [2, 0, 1] [⟨0, 2, 1, true⟩, ⟨2, 1, 2, true⟩, ⟨1, 0, 0, false⟩] (ih0 _ (by omega) _ ⟨wrap64 (x4_6 - 1), t13_1, t13_2, x4_2_0, Ax4_2_0, cx4_2_0, x4_2_1, x4_2_2, t14_0, At14_0, ct14_0, t14_1, t14_2, H, rfl⟩))))))))))))))
       ·
        exact op_st (cs' := [.slice At14_0 t14_0.length ct14_0, .int .i64 t14_1, .int .i64 t14_2]) 1 rfl rfl rfl rfl rfl rfl (xn rfl (one1 9 rfl rfl (ov (EV.ex rfl rfl) rfl (xs [] [0, 1, 2] rfl rfl rfl (xd (pr [0, 2, 4, 6] [0, 1, 2] [0, 2, 4] rfl rfl rfl rfl (ge (rg (sv (EV.mv rfl) rfl (sv (EV.sub rfl rfl) rfl (sv (EV.as rfl) rfl (re (wk [0, 2, 4, 6] [2, 0, 1] [⟨0, 2, 1, true⟩, ⟨2, 1, 2, true⟩, ⟨1, 0, 0, false⟩] (ih0 _ (by omega) _ ⟨wrap64 (x4_6 - 1), t13_1, t13_2, x4_2_0, Ax4_2_0, cx4_2_0, x4_2_1, x4_2_2, t14_0, At14_0, ct14_0, t14_1, t14_2, H, rfl⟩))))))))))))))
      ·
       refine ov (EV.ex rfl rfl) rfl (xs [] [0, 1, 2] rfl rfl rfl ?_)
       refine one2 7 10 rfl rfl rfl rfl ?_ ?_
       ·
        exact ov (EV.ex rfl rfl) rfl (xs [] [0, 1, 2] rfl rfl rfl (one1 10 rfl rfl (op_st (cs' := [.slice At14_0 t14_0.length ct14_0, .int .i64 t14_1, .int .i64 t14_2]) 1 rfl rfl rfl rfl rfl rfl (xn rfl (xd (pr [0, 2, 4, 6] [0, 1, 2] [0, 2, 4] rfl rfl rfl rfl (ge (rg (sv (EV.mv rfl) rfl (sv (EV.sub rfl rfl) rfl (sv (EV.as rfl) rfl (re (wk [0, 2, 4, 6] [2, 0, 1] [⟨0, 2, 1, true⟩, ⟨2, 1, 2, true⟩, ⟨1, 0, 0, false⟩] (ih0 _ (by omega) _ ⟨wrap64 (x4_6 - 1), t13_1, t13_2, x4_2_0, Ax4_2_0, cx4_2_0, x4_2_1, x4_2_2, t14_0, At14_0, ct14_0, t14_1, t14_2, H, rfl⟩))))))))))))))
       ·
        exact op_st (cs' := [.slice At14_0 t14_0.length ct14_0, .int .i64 t14_1, .int .i64 t14_2]) 1 rfl rfl rfl rfl rfl rfl (xn rfl (one1 7 rfl rfl (ov (EV.ex rfl rfl) rfl (xs [] [0, 1, 2] rfl rfl rfl (xd (pr [0, 2, 4, 6] [0, 1, 2] [0, 2, 4] rfl rfl rfl rfl (ge (rg (sv (EV.mv rfl) rfl (sv (EV.sub rfl rfl) rfl (sv (EV.as rfl) rfl (re (wk [0, 2, 4, 6] [2, 0, 1] [⟨0, 2, 1, true⟩, ⟨2, 1, 2, true⟩, ⟨1, 0, 0, false⟩] (ih0 _ (by omega) _ ⟨wrap64 (x4_6 - 1), t13_1, t13_2, x4_2_0, Ax4_2_0, cx4_2_0, x4_2_1, x4_2_2, t14_0, At14_0, ct14_0, t14_1, t14_2, H, rfl⟩))))))))))))))
      ·
       refine op_st (cs' := [.slice At14_0 t14_0.length ct14_0, .int .i64 t14_1, .int .i64 t14_2]) 1 rfl rfl rfl rfl rfl rfl (xn rfl ?_)
       refine one2 7 9 rfl rfl rfl rfl ?_ ?_
       ·
        exact ov (EV.ex rfl rfl) rfl (xs [] [0, 1, 2] rfl rfl rfl (one1 9 rfl rfl (ov (EV.ex rfl rfl) rfl (xs [] [0, 1, 2] rfl rfl rfl (xd (pr [0, 2, 4, 6] [0, 1, 2] [0, 2, 4] rfl rfl rfl rfl (ge (rg (sv (EV.mv rfl) rfl (sv (EV.sub rfl rfl) rfl (sv (EV.as rfl) rfl (re (wk [0, 2, 4, 6] [2, 0, 1] [⟨0, 2, 1, true⟩, ⟨2, 1, 2, true⟩, ⟨1, 0, 0, false⟩] (ih0 _ (by omega) _ ⟨wrap64 (x4_6 - 1), t13_1, t13_2, x4_2_0, Ax4_2_0, cx4_2_0, x4_2_1, x4_2_2, t14_0, At14_0, ct14_0, t14_1, t14_2, H, rfl⟩))))))))))))))
       ·
        exact ov (EV.ex rfl rfl) rfl (xs [] [0, 1, 2] rfl rfl rfl (one1 7 rfl rfl (ov (EV.ex rfl rfl) rfl (xs [] [0, 1, 2] rfl rfl rfl (xd (pr [0, 2, 4, 6] [0, 1, 2] [0, 2, 4] rfl rfl rfl rfl (ge (rg (sv (EV.mv rfl) rfl (sv (EV.sub rfl rfl) rfl (sv (EV.as rfl) rfl (re (wk [0, 2, 4, 6] [2, 0, 1] [⟨0, 2, 1, true⟩, ⟨2, 1, 2, true⟩, ⟨1, 0, 0, false⟩] (ih0 _ (by omega) _ ⟨wrap64 (x4_6 - 1), t13_1, t13_2, x4_2_0, Ax4_2_0, cx4_2_0, x4_2_1, x4_2_2, t14_0, At14_0, ct14_0, t14_1, t14_2, H, rfl⟩))))))))))))))
     ·
      refine ov (EV.ex rfl rfl) rfl (xs [] [0, 1, 2] rfl rfl rfl ?_)
      refine one2 6 9 rfl rfl rfl rfl ?_ ?_
      ·
       refine ov (EV.ex rfl rfl) rfl (xs [] [0, 1, 2] rfl rfl rfl ?_)
       refine one2 9 10 rfl rfl rfl rfl ?_ ?_
       ·
        exact ov (EV.ex rfl rfl) rfl (xs [] [0, 1, 2] rfl rfl rfl (one1 10 rfl rfl (op_st (cs' := [.slice At14_0 t14_0.length ct14_0, .int .i64 t14_1, .int .i64 t14_2]) 1 rfl rfl rfl rfl rfl rfl (xn rfl (xd (pr [0, 2, 4, 6] [0, 1, 2] [0, 2, 4] rfl rfl rfl rfl (ge (rg (sv (EV.mv rfl) rfl (sv (EV.sub rfl rfl) rfl (sv (EV.as rfl) rfl (re (wk [0, 2, 4, 6] [2, 0, 1] [⟨0, 2, 1, true⟩, ⟨2, 1, 2, true⟩, ⟨1, 0, 0, false⟩] (ih0 _ (by omega) _ ⟨wrap64 (x4_6 - 1), t13_1, t13_2, x4_2_0, Ax4_2_0, cx4_2_0, x4_2_1, x4_2_2, t14_0, At14_0, ct14_0, t14_1, t14_2, H, rfl⟩))))))))))))))
       ·
        exact op_st (cs' := [.slice At14_0 t14_0.length ct14_0, .int .i64 t14_1, .int .i64 t14_2]) 1 rfl rfl rfl rfl rfl rfl (xn rfl (one1 9 rfl rfl (ov (EV.ex rfl rfl) rfl (xs [] [0, 1, 2] rfl rfl rfl (xd (pr [0, 2, 4, 6] [0, 1, 2] [0, 2, 4] rfl rfl rfl rfl (ge (rg (sv (EV.mv rfl) rfl (sv (EV.sub rfl rfl) rfl (sv (EV.as rfl) rfl (re (wk [0, 2, 4, 6] [2, 0, 1] [⟨0, 2, 1, true⟩, ⟨2, 1, 2, true⟩, ⟨1, 0, 0, false⟩] (ih0 _ (by omega) _ ⟨wrap64 (x4_6 - 1), t13_1, t13_2, x4_2_0, Ax4_2_0, cx4_2_0, x4_2_1, x4_2_2, t14_0, At14_0, ct14_0, t14_1, t14_2, H, rfl⟩))))))))))))))
      ·
       exact ov (EV.ex rfl rfl) rfl (xs [] [0, 1, 2] rfl rfl rfl (one1 6 rfl rfl (ov (EV.ex rfl rfl) rfl (xs [] [0, 1, 2] rfl rfl rfl (one1 10 rfl rfl (op_st (cs' := [.slice At14_0 t14_0.length ct14_0, .int .i64 t14_1, .int .i64 t14_2]) 1 rfl rfl rfl rfl rfl rfl (xn rfl (xd (pr [0, 2, 4, 6] [0, 1, 2] [0, 2, 4] rfl rfl rfl rfl (ge (rg (sv (EV.mv rfl) rfl (sv (EV.sub rfl rfl) rfl (sv (EV.as rfl) rfl (re (wk [0, 2, 4, 6] [2, 0, 1] [⟨0, 2, 1, true⟩, ⟨2, 1, 2, true⟩, ⟨1, 0, 0, false⟩] (ih0 _ (by omega) _ ⟨wrap64 (x4_6 - 1), t13_1, t13_2, x4_2_0, Ax4_2_0, cx4_2_0, x4_2_1, x4_2_2, t14_0, At14_0, ct14_0, t14_1, t14_2, H, rfl⟩)))))))))))))))))
     ·
      refine ov (EV.ex rfl rfl) rfl (xs [] [0, 1, 2] rfl rfl rfl ?_)
      refine one2 6 7 rfl rfl rfl rfl ?_ ?_
      ·
       refine ov (EV.ex rfl rfl) rfl (xs [] [0, 1, 2] rfl rfl rfl ?_)
       refine one2 7 10 rfl rfl rfl rfl ?_ ?_
       ·
        exact ov (EV.ex rfl rfl) rfl (xs [] [0, 1, 2] rfl rfl rfl (one1 10 rfl rfl (op_st (cs' := [.slice At14_0 t14_0.length ct14_0, .int .i64 t14_1, .int .i64 t14_2]) 1 rfl rfl rfl rfl rfl rfl (xn rfl (xd (pr [0, 2, 4, 6] [0, 1, 2] [0, 2, 4] rfl rfl rfl rfl (ge (rg (sv (EV.mv rfl) rfl (sv (EV.sub rfl rfl) rfl (sv (EV.as rfl) rfl (re (wk [0, 2, 4, 6] [2, 0, 1] [⟨0, 2, 1, true⟩, ⟨2, 1, 2, true⟩, ⟨1, 0, 0, false⟩] (ih0 _ (by omega) _ ⟨wrap64 (x4_6 - 1), t13_1, t13_2, x4_2_0, Ax4_2_0, cx4_2_0, x4_2_1, x4_2_2, t14_0, At14_0, ct14_0, t14_1, t14_2, H, rfl⟩))))))))))))))
       ·
        exact op_st (cs' := [.slice At14_0 t14_0.length ct14_0, .int .i64 t14_1, .int .i64 t14_2]) 1 rfl rfl rfl rfl rfl rfl (xn rfl (one1 7 rfl rfl (ov (EV.ex rfl rfl) rfl (xs [] [0, 1, 2] rfl rfl rfl (xd (pr [0, 2, 4, 6] [0, 1, 2] [0, 2, 4] rfl rfl rfl rfl (ge (rg (sv (EV.mv rfl) rfl (sv (EV.sub rfl rfl) rfl (sv (EV.as rfl) rfl (re (wk [0, 2, 4, 6] [2, 0, 1] [⟨0, 2, 1, true⟩, ⟨2, 1, 2, true⟩, ⟨1, 0, 0, false⟩] (ih0 _ (by omega) _ ⟨wrap64 (x4_6 - 1), t13_1, t13_2, x4_2_0, Ax4_2_0, cx4_2_0, x4_2_1, x4_2_2, t14_0, At14_0, ct14_0, t14_1, t14_2, H, rfl⟩))))))))))))))
      ·
       exact ov (EV.ex rfl rfl) rfl (xs [] [0, 1, 2] rfl rfl rfl (one1 6 rfl rfl (ov (EV.ex rfl rfl) rfl (xs [] [0, 1, 2] rfl rfl rfl (one1 10 rfl rfl (op_st (cs' := [.slice At14_0 t14_0.length ct14_0, .int .i64 t14_1, .int .i64 t14_2]) 1 rfl rfl rfl rfl rfl rfl (xn rfl (xd (pr [0, 2, 4, 6] [0, 1, 2] [0, 2, 4] rfl rfl rfl rfl (ge (rg (sv (EV.mv rfl) rfl (sv (EV.sub rfl rfl) rfl (sv (EV.as rfl) rfl (re (wk [0, 2, 4, 6] [2, 0, 1] [⟨0, 2, 1, true⟩, ⟨2, 1, 2, true⟩, ⟨1, 0, 0, false⟩] (ih0 _ (by omega) _ ⟨wrap64 (x4_6 - 1), t13_1, t13_2, x4_2_0, Ax4_2_0, cx4_2_0, x4_2_1, x4_2_2, t14_0, At14_0, ct14_0, t14_1, t14_2, H, rfl⟩)))))))))))))))))
    ·
     refine ov (EV.ex rfl rfl) rfl (xs [] [0, 1, 2] rfl rfl rfl ?_)
     refine one3 6 7 8 rfl rfl rfl rfl rfl rfl ?_ ?_ ?_
     ·
      refine ov (EV.ex rfl rfl) rfl (xs [] [0, 1, 2] rfl rfl rfl ?_)
      refine one3 7 8 10 rfl rfl rfl rfl rfl rfl ?_ ?_ ?_
      ·
       refine ov (EV.ex rfl rfl) rfl (xs [] [0, 1, 2] rfl rfl rfl ?_)
       refine one2 8 10 rfl rfl rfl rfl ?_ ?_
       ·
        exact ov (EV.ex rfl rfl) rfl (xs [] [0, 1, 2] rfl rfl rfl (one1 10 rfl rfl (op_st (cs' := [.slice At14_0 t14_0.length ct14_0, .int .i64 t14_1, .int .i64 t14_2]) 1 rfl rfl rfl rfl rfl rfl (xn rfl (xd (pr [0, 2, 4, 6] [0, 1, 2] [0, 2, 4] rfl rfl rfl rfl (ge (rg (sv (EV.mv rfl) rfl (sv (EV.sub rfl rfl) rfl (sv (EV.as rfl) rfl (re (wk [0, 2, 4, 6] [2, 0, 1] [⟨0, 2, 1, true⟩, ⟨2, 1, 2, true⟩, ⟨1, 0, 0, false⟩] (ih0 _ (by omega) _ ⟨wrap64 (x4_6 - 1), t13_1, t13_2, x4_2_0, Ax4_2_0, cx4_2_0, x4_2_1, x4_2_2, t14_0, At14_0, ct14_0, t14_1, t14_2, H, rfl⟩))))))))))))))
       ·
        exact op_st (cs' := [.slice At14_0 t14_0.length ct14_0, .int .i64 t14_1, .int .i64 t14_2]) 1 rfl rfl rfl rfl rfl rfl (xn rfl (one1 8 rfl rfl (ov (EV.ex rfl rfl) rfl (xs [] [0, 1, 2] rfl rfl rfl (xd (pr [0, 2, 4, 6] [0, 1, 2] [0, 2, 4] rfl rfl rfl rfl (ge (rg (sv (EV.mv rfl) rfl (sv (EV.sub rfl rfl) rfl (sv (EV.as rfl) rfl (re (wk [0, 2, 4, 6] [2, 0, 1] [⟨0, 2, 1, true⟩, ⟨2, 1, 2, true⟩, ⟨1, 0, 0, false⟩] (ih0 _ (by omega) _ ⟨wrap64 (x4_6 - 1), t13_1, t13_2, x4_2_0, Ax4_2_0, cx4_2_0, x4_2_1, x4_2_2, t14_0, At14_0, ct14_0, t14_1, t14_2, H, rfl⟩))))))))))))))
      ·
       refine ov (EV.ex rfl rfl) rfl (xs [] [0, 1, 2] rfl rfl rfl ?_)
       refine one2 7 10 rfl rfl rfl rfl ?_ ?_
       ·
        exact ov (EV.ex rfl rfl) rfl (xs [] [0, 1, 2] rfl rfl rfl (one1 10 rfl rfl (op_st (cs' := [.slice At14_0 t14_0.length ct14_0, .int .i64 t14_1, .int .i64 t14_2]) 1 rfl rfl rfl rfl rfl rfl (xn rfl (xd (pr [0, 2, 4, 6] [0, 1, 2] [0, 2, 4] rfl rfl rfl rfl (ge (rg (sv (EV.mv rfl) rfl (sv (EV.sub rfl rfl) rfl (sv (EV.as rfl) rfl (re (wk [0, 2, 4, 6] [2, 0, 1] [⟨0, 2, 1, true⟩, ⟨2, 1, 2, true⟩, ⟨1, 0, 0, false⟩] (ih0 _ (by omega) _ ⟨wrap64 (x4_6 - 1), t13_1, t13_2, x4_2_0, Ax4_2_0, cx4_2_0, x4_2_1, x4_2_2, t14_0, At14_0, ct14_0, t14_1, t14_2, H, rfl⟩))))))))))))))
       ·
        exact op_st (cs' := [.slice At14_0 t14_0.length ct14_0, .int .i64 t14_1, .int .i64 t14_2]) 1 rfl rfl rfl rfl rfl rfl (xn rfl (one1 7 rfl rfl (ov (EV.ex rfl rfl) rfl (xs [] [0, 1, 2] rfl rfl rfl (xd (pr [0, 2, 4, 6] [0, 1, 2] [0, 2, 4] rfl rfl rfl rfl (ge (rg (sv (EV.mv rfl) rfl (sv (EV.sub rfl rfl) rfl (sv (EV.as rfl) rfl (re (wk [0, 2, 4, 6] [2, 0, 1] [⟨0, 2, 1, true⟩, ⟨2, 1, 2, true⟩, ⟨1, 0, 0, false⟩] (ih0 _ (by omega) _ ⟨wrap64 (x4_6 - 1), t13_1, t13_2, x4_2_0, Ax4_2_0, cx4_2_0, x4_2_1, x4_2_2, t14_0, At14_0, ct14_0, t14_1, t14_2, H, rfl⟩))))))))))))))
      ·
       refine op_st (cs' := [.slice At14_0 t14_0.length ct14_0, .int .i64 t14_1, .int .i64 t14_2]) 1 rfl rfl rfl rfl rfl rfl (xn rfl ?_)
       refine one2 7 8 rfl rfl rfl rfl ?_ ?_
       ·
        exact ov (EV.ex rfl rfl) rfl (xs [] [0, 1, 2] rfl rfl rfl (one1 8 rfl rfl (ov (EV.ex rfl rfl) rfl (xs [] [0, 1, 2] rfl rfl rfl (xd (pr [0, 2, 4, 6] [0, 1, 2] [0, 2, 4] rfl rfl rfl rfl (ge (rg (sv (EV.mv rfl) rfl (sv (EV.sub rfl rfl) rfl (sv (EV.as rfl) rfl (re (wk [0, 2, 4, 6] [2, 0, 1] [⟨0, 2, 1, true⟩, ⟨2, 1, 2, true⟩, ⟨1, 0, 0, false⟩] (ih0 _ (by omega) _ ⟨wrap64 (x4_6 - 1), t13_1, t13_2, x4_2_0, Ax4_2_0, cx4_2_0, x4_2_1, x4_2_2, t14_0, At14_0, ct14_0, t14_1, t14_2, H, rfl⟩))))))))))))))
       ·
        exact ov (EV.ex rfl rfl) rfl (xs [] [0, 1, 2] rfl rfl rfl (one1 7 rfl rfl (ov (EV.ex rfl rfl) rfl (xs [] [0, 1, 2] rfl rfl rfl (xd (pr [0, 2, 4, 6] [0, 1, 2] [0, 2, 4] rfl rfl rfl rfl (ge (rg (sv (EV.mv rfl) rfl (sv (EV.sub rfl rfl) rfl (sv (EV.as rfl) rfl (re (wk [0, 2, 4, 6] [2, 0, 1] [⟨0, 2, 1, true⟩, ⟨2, 1, 2, true⟩, ⟨1, 0, 0, false⟩] (ih0 _ (by omega) _ ⟨wrap64 (x4_6 - 1), t13_1, t13_2, x4_2_0, Ax4_2_0, cx4_2_0, x4_2_1, x4_2_2, t14_0, At14_0, ct14_0, t14_1, t14_2, H, rfl⟩))))))))))))))
     ·
      refine ov (EV.ex rfl rfl) rfl (xs [] [0, 1, 2] rfl rfl rfl ?_)
      refine one2 6 8 rfl rfl rfl rfl ?_ ?_
      ·
       refine ov (EV.ex rfl rfl) rfl (xs [] [0, 1, 2] rfl rfl rfl ?_)
       refine one2 8 10 rfl rfl rfl rfl ?_ ?_
       ·
        exact ov (EV.ex rfl rfl) rfl (xs [] [0, 1, 2] rfl rfl rfl (one1 10 rfl rfl (op_st (cs' := [.slice At14_0 t14_0.length ct14_0, .int .i64 t14_1, .int .i64 t14_2]) 1 rfl rfl rfl rfl rfl rfl (xn rfl (xd (pr [0, 2, 4, 6] [0, 1, 2] [0, 2, 4] rfl rfl rfl rfl (ge (rg (sv (EV.mv rfl) rfl (sv (EV.sub rfl rfl) rfl (sv (EV.as rfl) rfl (re (wk [0, 2, 4, 6] [2, 0, 1] [⟨0, 2, 1, true⟩, ⟨2, 1, 2, true⟩, ⟨1, 0, 0, false⟩] (ih0 _ (by omega) _ ⟨wrap64 (x4_6 - 1), t13_1, t13_2, x4_2_0, Ax4_2_0, cx4_2_0, x4_2_1, x4_2_2, t14_0, At14_0, ct14_0, t14_1, t14_2, H, rfl⟩))))))))))))))
       ·
        exact op_st (cs' := [.slice At14_0 t14_0.length ct14_0, .int .i64 t14_1, .int .i64 t14_2]) 1 rfl rfl rfl rfl rfl rfl (xn rfl (one1 8 rfl rfl (ov (EV.ex rfl rfl) rfl (xs [] [0, 1, 2] rfl rfl rfl (xd (pr [0, 2, 4, 6] [0, 1, 2] [0, 2, 4] rfl rfl rfl rfl (ge (rg (sv (EV.mv rfl) rfl (sv (EV.sub rfl rfl) rfl (sv (EV.as rfl) rfl (re (wk [0, 2, 4, 6] [2, 0, 1] [⟨0, 2, 1, true⟩, ⟨2, 1, 2, true⟩, ⟨1, 0, 0, false⟩] (ih0 _ (by omega) _ ⟨wrap64 (x4_6 - 1), t13_1, t13_2, x4_2_0, Ax4_2_0, cx4_2_0, x4_2_1, x4_2_2, t14_0, At14_0, ct14_0, t14_1, t14_2, H, rfl⟩))))))))))))))
      ·
       exact ov (EV.ex rfl rfl) rfl (xs [] [0, 1, 2] rfl rfl rfl (one1 6 rfl rfl (ov (EV.ex rfl rfl) rfl (xs [] [0, 1, 2] rfl rfl rfl (one1 10 rfl rfl (op_st (cs' := [.slice At14_0 t14_0.length ct14_0, .int .i64 t14_1, .int .i64 t14_2]) 1 rfl rfl rfl rfl rfl rfl (xn rfl (xd (pr [0, 2, 4, 6] [0, 1, 2] [0, 2, 4] rfl rfl rfl rfl (ge (rg (sv (EV.mv rfl) rfl (sv (EV.sub rfl rfl) rfl (sv (EV.as rfl) rfl (re (wk [0, 2, 4, 6] [2, 0, 1] [⟨0, 2, 1, true⟩, ⟨2, 1, 2, true⟩, ⟨1, 0, 0, false⟩] (ih0 _ (by omega) _ ⟨wrap64 (x4_6 - 1), t13_1, t13_2, x4_2_0, Ax4_2_0, cx4_2_0, x4_2_1, x4_2_2, t14_0, At14_0, ct14_0, t14_1, t14_2, H, rfl⟩)))))))))))))))))
     ·
      refine ov (EV.ex rfl rfl) rfl (xs [] [0, 1, 2] rfl rfl rfl ?_)
      refine one2 6 7 rfl rfl rfl rfl ?_ ?_
      ·
       refine ov (EV.ex rfl rfl) rfl (xs [] [0, 1, 2] rfl rfl rfl ?_)
       refine one2 7 10 rfl rfl rfl rfl ?_ ?_
       ·
        exact ov (EV.ex rfl rfl) rfl (xs [] [0, 1, 2] rfl rfl rfl (one1 10 rfl rfl (op_st (cs' := [.slice At14_0 t14_0.length ct14_0, .int .i64 t14_1, .int .i64 t14_2]) 1 rfl rfl rfl rfl rfl rfl (xn rfl (xd (pr [0, 2, 4, 6] [0, 1, 2] [0, 2, 4] rfl rfl rfl rfl (ge (rg (sv (EV.mv rfl) rfl (sv (EV.sub rfl rfl) rfl (sv (EV.as rfl) rfl (re (wk [0, 2, 4, 6] [2, 0, 1] [⟨0, 2, 1, true⟩, ⟨2, 1, 2, true⟩, ⟨1, 0, 0, false⟩] (ih0 _ (by omega) _ ⟨wrap64 (x4_6 - 1), t13_1, t13_2, x4_2_0, Ax4_2_0, cx4_2_0, x4_2_1, x4_2_2, t14_0, At14_0, ct14_0, t14_1, t14_2, H, rfl⟩))))))))))))))
       ·
        exact op_st (cs' := [.slice At14_0 t14_0.length ct14_0, .int .i64 t14_1, .int .i64 t14_2]) 1 rfl rfl rfl rfl rfl rfl (xn rfl (one1 7 rfl rfl (ov (EV.ex rfl rfl) rfl (xs [] [0, 1, 2] rfl rfl rfl (xd (pr [0, 2, 4, 6] [0, 1, 2] [0, 2, 4] rfl rfl rfl rfl (ge (rg (sv (EV.mv rfl) rfl (sv (EV.sub rfl rfl) rfl (sv (EV.as rfl) rfl (re (wk [0, 2, 4, 6] [2, 0, 1] [⟨0, 2, 1, true⟩, ⟨2, 1, 2, true⟩, ⟨1, 0, 0, false⟩] (ih0 _ (by omega) _ ⟨wrap64 (x4_6 - 1), t13_1, t13_2, x4_2_0, Ax4_2_0, cx4_2_0, x4_2_1, x4_2_2, t14_0, At14_0, ct14_0, t14_1, t14_2, H, rfl⟩))))))))))))))
      ·
       exact ov (EV.ex rfl rfl) rfl (xs [] [0, 1, 2] rfl rfl rfl (one1 6 rfl rfl (ov (EV.ex rfl rfl) rfl (xs [] [0, 1, 2] rfl rfl rfl (one1 10 rfl rfl (op_st (cs' := [.slice At14_0 t14_0.length ct14_0, .int .i64 t14_1, .int .i64 t14_2]) 1 rfl rfl rfl rfl rfl rfl (xn rfl (xd (pr [0, 2, 4, 6] [0, 1, 2] [0, 2, 4] rfl rfl rfl rfl (ge (rg (sv (EV.mv rfl) rfl (sv (EV.sub rfl rfl) rfl (sv (EV.as rfl) rfl (re (wk [0, 2, 4, 6] [2, 0, 1] [⟨0, 2, 1, true⟩, ⟨2, 1, 2, true⟩, ⟨1, 0, 0, false⟩] (ih0 _ (by omega) _ ⟨wrap64 (x4_6 - 1), t13_1, t13_2, x4_2_0, Ax4_2_0, cx4_2_0, x4_2_1, x4_2_2, t14_0, At14_0, ct14_0, t14_1, t14_2, H, rfl⟩)))))))))))))))))
 ·
  refine gf rfl (dF c6) (gx rfl (gs (gs (rg (sv (EV.mv rfl) rfl ?_)))))
  revert H; refine bdI ?_; rintro ⟨t15_0, t15_1, t15_2⟩ A15 H
  refine so rfl (op_callM (spec_l1Below.ok b1000 l0_0 Al0_0 cl0_0 x4_1000_1 x4_1000_2 16 _ _ _ A15) [⟨2, 0, 0, false⟩] [0] [1, 2] 3 rfl rfl rfl rfl rfl rfl rfl rfl ?_)
  rintro _ _ _ ⟨rfl, rfl, rfl⟩
  refine nmE (en := [.sl 2 k44 Ax4_2_0 cx4_2_0 x4_2_0 1 true, .sl 1 k44 Ax4_4_0 cx4_4_0 x4_4_0 2 true, .sl 0 (.int .u8) Al0_0 cl0_0 l0_0 0 false]) (by kernel_rfl) (re (gb (gs (rg (sv (EV.eql rfl rfl) rfl (sv (EV.as rfl) rfl (re ?_)))))))
  revert H; refine ifsI ?_ ?_ <;> intro c16 H
  ·
   refine gt rfl (dT c16) ?_
   revert H; refine ggI ?_; intro g17 H
   refine dr [0, 1] [0, 2] [6, 7] 8 rfl rfl rfl rfl (xv 0 [0, 1] [0, 2] rfl (EV.fa 0 rfl) rfl rfl rfl rfl (xv 1 [0, 1] [0, 2] rfl (EV.ld 1 none rfl rfl rfl) rfl rfl rfl rfl (xv 2 [0, 1] [0, 2] rfl (EV.mv rfl) rfl rfl rfl rfl (one1 3 rfl rfl ?_))))
   revert H; refine bdI ?_; rintro ⟨t18_0, t18_1, t18_2, t18_3, t18_4, t18_5, t18_6⟩ A18 H
   refine op_callM (spec_l16Any.ok n0 b1000 l0_0 Al0_0 cl0_0 t15_1 t15_2 3 _ _ _ _ _ _ _ A18) [⟨2, 0, 0, false⟩] [2] [0, 1] 3 rfl rfl rfl rfl rfl rfl rfl rfl ?_
   rintro _ _ _ ⟨At18_1, ct18_1, At18_2, ct18_2, At18_3, ct18_3, rfl, rfl, rfl⟩
   refine nmE (en := [.sl 2 k44 Ax4_2_0 cx4_2_0 x4_2_0 1 true, .sl 1 k44 Ax4_4_0 cx4_4_0 x4_4_0 2 true, .sl 0 (.int .u8) Al0_0 cl0_0 l0_0 0 false, .sl 2 k70 At18_1 ct18_1 t18_1 4 true, .sl 2 k70 At18_2 ct18_2 t18_2 5 true, .sl 2 .bool At18_3 ct18_3 t18_3 6 true]) (by kernel_rfl) (xs [0, 1] [0, 2] rfl rfl rfl (one1 4 rfl rfl (op_lit (s := 5) (by_ := 88) k44 ([(⟨t18_0, t18_1, t18_2, t18_3, t18_4⟩ : S44)] : List S44) [[(At18_1, ct18_1), (At18_2, ct18_2), (At18_3, ct18_3)]] [3, 4, 5] 7 [.tmp 42] rfl rfl rfl rfl rfl rfl rfl rfl rfl rfl rfl rfl rfl dq rfl fun A43_19 c43_19 => (nmE (en := [.sl 2 k44 Ax4_2_0 cx4_2_0 x4_2_0 1 true, .sl 1 k44 Ax4_4_0 cx4_4_0 x4_4_0 2 true, .sl 0 (.int .u8) Al0_0 cl0_0 l0_0 0 false, .sl 2 k70 At18_1 ct18_1 t18_1 7 true, .sl 2 k70 At18_2 ct18_2 t18_2 7 true, .sl 2 .bool At18_3 ct18_3 t18_3 7 true, .sl 2 k44 A43_19 c43_19 ([(⟨t18_0, t18_1, t18_2, t18_3, t18_4⟩ : S44)] : List S44) 7 true]) (by kernel_rfl) (xs [0, 1] [0, 2] rfl rfl rfl (one1 5 rfl rfl (op_app (k := k44) (s := 5) (by_ := 88) 1 6 rfl rfl rfl rfl (ap1 g17 dq) (ap1n g17 dq) (.inr ⟨dq, dq, rfl, dq⟩) true (fun _ => .inr ⟨rfl, rfl, dq⟩) rfl rfl fun A44_20 c44_20 => (nmE (en := [.sl 2 k44 Ax4_2_0 cx4_2_0 x4_2_0 1 true, .sl 0 (.int .u8) Al0_0 cl0_0 l0_0 0 false, .sl 2 k70 At18_1 ct18_1 t18_1 2 true, .sl 2 k70 At18_2 ct18_2 t18_2 2 true, .sl 2 .bool At18_3 ct18_3 t18_3 2 true, .sl 2 k44 A43_19 c43_19 ([(⟨t18_0, t18_1, t18_2, t18_3, t18_4⟩ : S44)] : List S44) 2 true, .sl 1 k44 A44_20 c44_20 (x4_4_0 ++ ([(⟨t18_0, t18_1, t18_2, t18_3, t18_4⟩ : S44)] : List S44)) 2 true]) (by kernel_rfl) (xs [0, 1] [0, 1] rfl rfl rfl (one1 6 rfl rfl (ov (EV.fa 0 rfl) rfl (xn rfl (one1 7 rfl rfl (op_st (cs' := [.slice A44_20 (x4_4_0 ++ ([(⟨t18_0, t18_1, t18_2, t18_3, t18_4⟩ : S44)] : List S44)).length c44_20, .int .i64 x4_4_1, .int .i64 x4_4_2]) 1 rfl rfl rfl rfl rfl rfl (xn rfl (xd (pr [2, 4] [0, 1, 2] [0, 1, 6] rfl rfl rfl rfl (ge (gs (rg (sv (EV.ld (v := .agg #[.slice A44_20 (x4_4_0 ++ ([(⟨t18_0, t18_1, t18_2, t18_3, t18_4⟩ : S44)] : List S44)).length c44_20, .int .i64 x4_4_1, .int .i64 x4_4_2]) 1 (some 3) rfl rfl rfl) rfl (so rfl (op_st (cs' := [.slice A44_20 (x4_4_0 ++ ([(⟨t18_0, t18_1, t18_2, t18_3, t18_4⟩ : S44)] : List S44)).length c44_20, .int .i64 x4_4_1, .int .i64 x4_4_2]) 0 rfl rfl rfl rfl rfl rfl (re ?_))))))))))))))))))))))))
   cases H
   exact rt Try.func102 rfl (.cell 0 (some 3) rfl rfl rfl .nil) rfl [2] [⟨2, 1, 1, true⟩] rfl rfl rfl rfl rfl ⟨_, _, rfl, rfl, rfl⟩
  ·
   refine gf rfl (dF c16) (gs (rg (sv (EV.eql rfl rfl) rfl (sv (EV.as rfl) rfl (re (pr [0, 2, 4, 36, 46] [0, 1, 2] [0, 1, 2] rfl rfl rfl rfl ?_))))))
   revert H; refine ifsI ?_ ?_ <;> intro c21 H
   ·
    refine gt rfl (dT c21) (rg (sv (EV.mv rfl) rfl (so rfl (op_lit (s := 1) (by_ := 8) (.int .i64) ([(-1), 100001] : List Int) [[], []] [] 3 [.const (.int .i64 (-1)), .const (.int .i64 100001)] rfl rfl rfl rfl rfl rfl rfl rfl rfl rfl rfl rfl rfl dq rfl fun A49_22 c49_22 => ?_))))
    revert H; refine bdI ?_; rintro ⟨t23_0, t23_1, t23_2⟩ A23 H
    refine so rfl (op_callM (spec_l1PickInt.ok b1000 l0_0 Al0_0 cl0_0 t15_1 t15_2 ([(-1), 100001] : List Int) A49_22 c49_22 _ _ _ A23) [⟨2, 0, 0, false⟩, ⟨3, 0, 0, false⟩] [2] [0, 1] 4 rfl rfl rfl rfl rfl rfl rfl rfl ?_)
    rintro _ _ _ ⟨rfl, rfl, rfl⟩
    refine nmE (en := [.sl 2 k44 Ax4_2_0 cx4_2_0 x4_2_0 1 true, .sl 1 k44 Ax4_4_0 cx4_4_0 x4_4_0 2 true, .sl 0 (.int .u8) Al0_0 cl0_0 l0_0 0 false, .sl 2 (.int .i64) A49_22 c49_22 ([(-1), 100001] : List Int) 3 true]) (by kernel_rfl) (sv (EV.fa 1 rfl) rfl (so rfl (op_st (cs' := [.slice Ax4_4_0 x4_4_0.length cx4_4_0, .int .i64 t23_0, .int .i64 x4_4_2]) 1 rfl rfl rfl rfl rfl rfl (re (pr [2, 4] [0, 1, 2] [0, 1, 2] rfl rfl rfl rfl (ge (gs (rg (sv (EV.ld (v := .agg #[.slice Ax4_4_0 x4_4_0.length cx4_4_0, .int .i64 t23_0, .int .i64 x4_4_2]) 1 (some 3) rfl rfl rfl) rfl (so rfl (op_st (cs' := [.slice Ax4_4_0 x4_4_0.length cx4_4_0, .int .i64 t23_0, .int .i64 x4_4_2]) 0 rfl rfl rfl rfl rfl rfl (re ?_))))))))))))
    cases H
    exact rt Try.func102 rfl (.cell 0 (some 3) rfl rfl rfl .nil) rfl [2] [⟨1, 1, 1, true⟩] rfl rfl rfl rfl rfl ⟨_, _, rfl, rfl, rfl⟩
   ·
    refine gf rfl (dF c21) (gs (rg (sv (EV.eql rfl rfl) rfl (sv (EV.as rfl) rfl (re ?_)))))
    revert H; refine ifsI ?_ ?_ <;> intro c24 H
    ·
     refine gt rfl (dT c24) (rg (sv (EV.fa 2 rfl) rfl (so rfl (op_st (cs' := [.slice Ax4_4_0 x4_4_0.length cx4_4_0, .int .i64 x4_4_1, .int .i64 (-1)]) 1 rfl rfl rfl rfl rfl rfl (re (pr [2, 4] [0, 1, 2] [0, 1, 2] rfl rfl rfl rfl (ge (gs (rg (sv (EV.ld (v := .agg #[.slice Ax4_4_0 x4_4_0.length cx4_4_0, .int .i64 x4_4_1, .int .i64 (-1)]) 1 (some 3) rfl rfl rfl) rfl (so rfl (op_st (cs' := [.slice Ax4_4_0 x4_4_0.length cx4_4_0, .int .i64 x4_4_1, .int .i64 (-1)]) 0 rfl rfl rfl rfl rfl rfl (re ?_)))))))))))))
     cases H
     exact rt Try.func102 rfl (.cell 0 (some 3) rfl rfl rfl .nil) rfl [2] [⟨1, 1, 1, true⟩] rfl rfl rfl rfl rfl ⟨_, _, rfl, rfl, rfl⟩
    ·
     refine gf rfl (dF c24) (gk (ge (gs (rg (sv (EV.ld (v := .agg #[.slice Ax4_4_0 x4_4_0.length cx4_4_0, .int .i64 x4_4_1, .int .i64 x4_4_2]) 1 (some 3) rfl rfl rfl) rfl (so rfl (op_st (cs' := [.slice Ax4_4_0 x4_4_0.length cx4_4_0, .int .i64 x4_4_1, .int .i64 x4_4_2]) 0 rfl rfl rfl rfl rfl rfl (re (pr [2] [0, 2] [1, 2] rfl rfl rfl rfl ?_)))))))))
     cases H
     exact rt Try.func102 rfl (.cell 0 (some 3) rfl rfl rfl .nil) rfl [1] [⟨0, 1, 1, true⟩] rfl rfl rfl rfl rfl ⟨_, _, rfl, rfl, rfl⟩
end Go.Proofs.Ytajjeemkdjfilaa.K
namespace Go.Proofs.Ytajjeemkdjfilaa.K
open Go Go.RowKit
set_option linter.unusedVariables false
set_option linter.unusedSimpArgs false
mutual
def spec_l1New.j0 : Nat → Int → (List Int) → Option (Int × Int)
 | 0, _, _ => none
 | k + 1, x2_3, l0 => some (0, x2_3)
def spec_l1New.l0 : Nat → Int → Int → (List Int) → Option (Int × Int)
 | 0, _, _, _ => none
 | k + 1, x3_3, x3_4, l0 => if x3_4 < (l0.length : Int) then (if x3_4 < 4000 then (if 0 ≤ x3_4 then (spec_l1New.l0 k (andI (wrap64 ((wrap64 ((wrap64 (x3_3 * 131)) + (IntKind.i64.wrap (rdOf 0 l0 x3_4)))) + 7)) 1073741823) (wrap64 (x3_4 + 1)) l0) else none) else (spec_l1New.j0 k x3_3 l0)) else (spec_l1New.j0 k x3_3 l0)
end
def spec_l1New.f (k : Nat) (l0 : List Int) : Option (Int × Int) := spec_l1New.l0 k (wrap64 (10101 + (l0.length : Int))) 0 l0
set_option maxHeartbeats 4000000 in
set_option maxRecDepth 100000 in
theorem spec_l1New.ok (k : Nat) (l0 : List Int) (Al0 : Option Addr) (cl0 : Nat) (r0 : Int) (r1 : Int) (H : spec_l1New.f k l0 = some (r0, r1)) : Fn Try.prog 61 [.slice Al0 l0.length cl0] [] [.sl 0 (.int .u8) Al0 cl0 l0 0 false] (fun v bx en => ∃ rb0, v = .pointer (some ⟨rb0, 0, none⟩) ∧ bx = [⟨rb0, 111, [.slice Al0 l0.length cl0, .int .i64 r0, .int .i64 r1]⟩] ∧ en = []) := by
 refine fn_ 32 Try.func61 rfl rfl rfl (fun base T w0 => ?_)
 rw [spec_l1New.f] at H
 refine gs (rg (sv (EV.as rfl) rfl (re (gs (rg (sv (EV.mv rfl) rfl (sv (EV.ln rfl) rfl (sv (EV.add rfl rfl) rfl (sv (EV.as rfl) rfl (re ?_))))))))))
 refine jo (fun S => ∃ (m : Nat) (x2_3 : Int), spec_l1New.j0 m x2_3 l0 = some (r0, r1) ∧ S = ⟨[(0, .slice Al0 l0.length cl0), (3, .int .i64 x2_3)], [], [.sl 0 (.int .u8) Al0 cl0 l0 0 false]⟩) (fun S hS => ?_) (fun jh0 => ?_)
 ·
  clear H
  obtain ⟨m1, x2_3, H, rfl⟩ := hS
  rcases m1 with _ | m1
  · rw [spec_l1New.j0] at H; cases H
  rw [spec_l1New.j0] at H
  refine gs (rg (sv (EV.mv rfl) rfl (sv (EV.mv rfl) rfl (sv (EV.bd (v := .agg #[.slice Al0 l0.length cl0, .int .i64 0, .int .i64 x2_3]) rfl (by kernel_rfl)) rfl (so rfl (op_box (cs := [.slice Al0 l0.length cl0, .int .i64 0, .int .i64 x2_3]) rfl rfl rfl fun b31 => (sv (EV.as rfl) rfl (re (pr [2] [0] [0] rfl rfl rfl rfl ?_)))))))))
  cases H
  exact rt Try.func61 rfl (.tmp rfl .nil) rfl [0] [] rfl rfl rfl rfl rfl ⟨_, rfl, rfl, rfl⟩
 ·
  refine gs (rg (sv (EV.as rfl) rfl (re (gb ?_))))
  refine lo (fun kk S => ∃ (x3_3 : Int) (x3_4 : Int), spec_l1New.l0 kk x3_3 x3_4 l0 = some (r0, r1) ∧ S = ⟨[(0, .slice Al0 l0.length cl0), (3, .int .i64 x3_3), (4, .int .i64 x3_4)], [], [.sl 0 (.int .u8) Al0 cl0 l0 0 false]⟩) (fun S hS => ?_) (fun n0 ih0 S hS => ?_) ⟨wrap64 (10101 + (l0.length : Int)), 0, H, rfl⟩ (fun h => wk [0, 3, 4] [] [⟨0, 0, 0, false⟩] h)
  · clear H; obtain ⟨_, _, H, _⟩ := hS; rw [spec_l1New.l0] at H; cases H
  clear H
  obtain ⟨x3_3, x3_4, H, rfl⟩ := hS
  rw [spec_l1New.l0] at H
  refine gs (gs (rg (sv (EV.mv rfl) rfl (sv (EV.mv rfl) rfl (sv (EV.ln rfl) rfl (sv (EV.lss rfl rfl) rfl (sv (EV.mv rfl) rfl ?_)))))))
  revert H; refine ifsI ?_ ?_ <;> intro c2 H
  ·
   refine ts 12 rfl (dT c2) (sv (EV.mv rfl) rfl (sv (EV.lss rfl rfl) rfl (sv (EV.pt rfl rfl rfl) rfl (re ?_))))
   revert H; refine ifsI ?_ ?_ <;> intro c3 H
   ·
    refine gt rfl (dT c3) (gk (gs (gb (rg (sv (EV.mv rfl) rfl (sv (EV.mul rfl rfl) rfl (sv (EV.mv rfl) rfl (sv (EV.mv rfl) rfl ?_))))))))
    revert H; refine ggI ?_; intro g4 H
    exact sv (EV.ix 0 rfl rfl rfl g4 c2 rfl) rfl (sv (EV.le (v := .int .u8 (rdOf 0 l0 x3_4)) x3_4 0 none 0 0 rfl rfl rfl g4 c2 rfl rfl rfl) rfl (sv (EV.cv (k' := .i64) rfl) rfl (sv (EV.add rfl rfl) rfl (sv (EV.add rfl rfl) rfl (sv (EV.andI rfl rfl) rfl (sv (EV.as rfl) rfl (re (pr [0, 3, 4, 13, 14] [] [0] rfl rfl rfl rfl (ge (rg (sv (EV.mv rfl) rfl (sv (EV.add rfl rfl) rfl (sv (EV.as rfl) rfl (re (wk [0, 3, 4] [] [⟨0, 0, 0, false⟩] (ih0 _ (by omega) _ ⟨andI (wrap64 ((wrap64 ((wrap64 (x3_3 * 131)) + (IntKind.i64.wrap (rdOf 0 l0 x3_4)))) + 7)) 1073741823, wrap64 (x3_4 + 1), H, rfl⟩))))))))))))))))
   ·
    exact gf rfl (dF c3) (gx rfl (wk [0, 3] [] [⟨0, 0, 0, false⟩] (jh0 _ ⟨_, x3_3, H, rfl⟩)))
  ·
   exact ts 12 rfl (dF c2) (sk rfl (sk rfl (sv (EV.pf rfl rfl rfl) rfl (re (pr [0, 3, 4, 15] [] [0] rfl rfl rfl rfl (gf rfl rfl (gx rfl (wk [0, 3] [] [⟨0, 0, 0, false⟩] (jh0 _ ⟨_, x3_3, H, rfl⟩)))))))))
end Go.Proofs.Ytajjeemkdjfilaa.K
namespace Go.Proofs.Ytajjeemkdjfilaa.K
open Go Go.RowKit
set_option linter.unusedVariables false
set_option linter.unusedSimpArgs false
def spec_l11Grant.f (l0_0 : List Int) (a0_1 : Int) (a0_2 : Int) : Option (Int × Int × Int) := (spec_l1Once.f l0_0 a0_1 a0_2 14).bind fun bt1 => (if bt1.1 = true then ((spec_l1PickInt.f l0_0 bt1.2.1 bt1.2.2 ([7, 61] : List Int)).bind fun bt4 => (some (bt4.1, bt4.2.1, bt4.2.2))) else ((spec_l1PickInt.f l0_0 bt1.2.1 bt1.2.2 ([8, 8, 9, 12, 20, 60] : List Int)).bind fun bt6 => (some (bt6.1, bt6.2.1, bt6.2.2))))
set_option maxHeartbeats 4000000 in
set_option maxRecDepth 100000 in
theorem spec_l11Grant.ok (b1000 : Nat) (l0_0 : List Int) (Al0_0 : Option Addr) (cl0_0 : Nat) (a0_1 : Int) (a0_2 : Int) (r0 : Int) (r1 : Int) (r2 : Int) (H : spec_l11Grant.f l0_0 a0_1 a0_2 = some (r0, r1, r2)) : Fn Try.prog 87 [.pointer (some ⟨b1000, 0, none⟩)] [⟨b1000, 111, [.slice Al0_0 l0_0.length cl0_0, .int .i64 a0_1, .int .i64 a0_2]⟩] [.sl 0 (.int .u8) Al0_0 cl0_0 l0_0 0 false] (fun v bx en => v = .int .i64 r0 ∧ bx = [⟨b1000, 111, [.slice Al0_0 l0_0.length cl0_0, .int .i64 r1, .int .i64 r2]⟩] ∧ en = []) := by
 refine fn_ 11 Try.func87 rfl rfl rfl (fun base T w0 => ?_)
 rw [spec_l11Grant.f] at H
 refine gs (rg (sv (EV.as rfl) rfl (re (gs (gs (rg (sv (EV.mv rfl) rfl ?_)))))))
 revert H; refine bdI ?_; rintro ⟨t1_0, t1_1, t1_2⟩ A1 H
 refine so rfl (op_callM (spec_l1Once.ok b1000 l0_0 Al0_0 cl0_0 a0_1 a0_2 14 _ _ _ A1) [⟨0, 0, 0, false⟩] [0] [] 1 rfl rfl rfl rfl rfl rfl rfl rfl ?_)
 rintro _ _ _ ⟨rfl, rfl, rfl⟩
 refine nmE (en := [.sl 0 (.int .u8) Al0_0 cl0_0 l0_0 0 false]) (by kernel_rfl) (re ?_)
 revert H; refine ifsI ?_ ?_ <;> intro c2 H
 ·
  subst c2
  refine gt rfl rfl (gs (rg (sv (EV.mv rfl) rfl (so rfl (op_lit (s := 1) (by_ := 8) (.int .i64) ([7, 61] : List Int) [[], []] [] 1 [.const (.int .i64 7), .const (.int .i64 61)] rfl rfl rfl rfl rfl rfl rfl rfl rfl rfl rfl rfl rfl dq rfl fun A6_3 c6_3 => ?_)))))
  revert H; refine bdI ?_; rintro ⟨t4_0, t4_1, t4_2⟩ A4 H
  refine so rfl (op_callM (spec_l1PickInt.ok b1000 l0_0 Al0_0 cl0_0 t1_1 t1_2 ([7, 61] : List Int) A6_3 c6_3 _ _ _ A4) [⟨0, 0, 0, false⟩, ⟨1, 0, 0, false⟩] [0] [] 2 rfl rfl rfl rfl rfl rfl rfl rfl ?_)
  rintro _ _ _ ⟨rfl, rfl, rfl⟩
  refine nmE (en := [.sl 0 (.int .u8) Al0_0 cl0_0 l0_0 0 false, .sl 2 (.int .i64) A6_3 c6_3 ([7, 61] : List Int) 1 true]) (by kernel_rfl) (sv (EV.as rfl) rfl (re (pr [2] [0] [0] rfl rfl rfl rfl ?_)))
  cases H
  exact rt Try.func87 rfl (.tmp rfl .nil) rfl [0] [] rfl rfl rfl rfl rfl ⟨rfl, rfl, rfl⟩
 ·
  obtain rfl := bF c2
  refine gf rfl rfl (gk (gs (rg (sv (EV.mv rfl) rfl (so rfl (op_lit (s := 1) (by_ := 8) (.int .i64) ([8, 8, 9, 12, 20, 60] : List Int) [[], [], [], [], [], []] [] 1 [.const (.int .i64 8), .const (.int .i64 8), .const (.int .i64 9), .const (.int .i64 12), .const (.int .i64 20), .const (.int .i64 60)] rfl rfl rfl rfl rfl rfl rfl rfl rfl rfl rfl rfl rfl dq rfl fun A9_5 c9_5 => ?_))))))
  revert H; refine bdI ?_; rintro ⟨t6_0, t6_1, t6_2⟩ A6 H
  refine so rfl (op_callM (spec_l1PickInt.ok b1000 l0_0 Al0_0 cl0_0 t1_1 t1_2 ([8, 8, 9, 12, 20, 60] : List Int) A9_5 c9_5 _ _ _ A6) [⟨0, 0, 0, false⟩, ⟨1, 0, 0, false⟩] [0] [] 2 rfl rfl rfl rfl rfl rfl rfl rfl ?_)
  rintro _ _ _ ⟨rfl, rfl, rfl⟩
  refine nmE (en := [.sl 0 (.int .u8) Al0_0 cl0_0 l0_0 0 false, .sl 2 (.int .i64) A9_5 c9_5 ([8, 8, 9, 12, 20, 60] : List Int) 1 true]) (by kernel_rfl) (sv (EV.as rfl) rfl (re (pr [2] [0] [0] rfl rfl rfl rfl ?_)))
  cases H
  exact rt Try.func87 rfl (.tmp rfl .nil) rfl [0] [] rfl rfl rfl rfl rfl ⟨rfl, rfl, rfl⟩
end Go.Proofs.Ytajjeemkdjfilaa.K
namespace Go.Proofs.Ytajjeemkdjfilaa.K
open Go Go.RowKit
set_option linter.unusedVariables false
set_option linter.unusedSimpArgs false
def spec_DrawStepJoiner.f (k : Nat) (l0 : List Int) : Option ((List S44) × Int × Int × Int) := (spec_l1New.f k l0).bind fun bt1 => ((spec_l19Joiner.f k l0 bt1.1 bt1.2).bind fun bt2 => ((spec_l11Grant.f l0 bt2.2.2.2.1 bt2.2.2.2.2).bind fun bt3 => (some (bt2.1, bt2.2.1, bt2.2.2.1, bt3.1))))
set_option maxHeartbeats 4000000 in
set_option maxRecDepth 100000 in
theorem spec_DrawStepJoiner.ok (k : Nat) (l0 : List Int) (Al0 : Option Addr) (cl0 : Nat) (r0 : List S44) (r1 : Int) (r2 : Int) (r3 : Int) (H : spec_DrawStepJoiner.f k l0 = some (r0, r1, r2, r3)) : Fn Try.prog 53 [.slice Al0 l0.length cl0] [] [.sl 0 (.int .u8) Al0 cl0 l0 0 false] (fun v bx en => ∃ A0 c0, v = .tuple #[.agg #[.slice A0 r0.length c0, .int .i64 r1, .int .i64 r2], .int .i64 r3] ∧ bx = [] ∧ en = [.sl 1 k44 A0 c0 r0 1 true]) := by
 refine fn_ 11 Try.func53 rfl rfl rfl (fun base T w0 => ?_)
 rw [spec_DrawStepJoiner.f] at H
 refine gs (rg (so rfl (op_alloc (cs := [.slice none 0 0, .int .i64 0, .int .i64 0]) (by kernel_rfl) rfl fun b2 => (sv (EV.as rfl) rfl (re (gs (rg (sv (EV.mv rfl) rfl ?_))))))))
 revert H; refine bdI ?_; rintro ⟨t1_0, t1_1⟩ A1 H
 refine so rfl (op_callM (spec_l1New.ok k l0 Al0 cl0 _ _ A1) [⟨0, 0, 0, false⟩] [] [0] 1 rfl rfl rfl rfl rfl rfl rfl rfl ?_)
 rintro _ _ _ ⟨b2001, rfl, rfl, rfl⟩
 refine nmE (en := [.sl 0 (.int .u8) Al0 cl0 l0 0 false]) (by kernel_rfl) (sv (EV.as rfl) rfl (re (gs (rg (sv (EV.mv rfl) rfl ?_)))))
 revert H; refine bdI ?_; rintro ⟨t2_0, t2_1, t2_2, t2_3, t2_4⟩ A2 H
 refine so rfl (op_callM (spec_l19Joiner.ok k b2001 l0 Al0 cl0 t1_0 t1_1 _ _ _ _ _ A2) [⟨0, 0, 0, false⟩] [1] [0] 1 rfl rfl rfl rfl rfl rfl rfl rfl ?_)
 rintro _ _ _ ⟨At2_0, ct2_0, rfl, rfl, rfl⟩
 refine nmE (en := [.sl 0 (.int .u8) Al0 cl0 l0 0 false, .sl 1 k44 At2_0 ct2_0 t2_0 2 true]) (by kernel_rfl) (sv (EV.mv rfl) rfl ?_)
 revert H; refine bdI ?_; rintro ⟨t3_0, t3_1, t3_2⟩ A3 H
 refine so rfl (op_callM (spec_l11Grant.ok b2001 l0 Al0 cl0 t2_3 t2_4 _ _ _ A3) [⟨0, 0, 0, false⟩] [1] [0] 3 rfl rfl rfl rfl rfl rfl rfl rfl ?_)
 rintro _ _ _ ⟨rfl, rfl, rfl⟩
 refine nmE (en := [.sl 0 (.int .u8) Al0 cl0 l0 0 false, .sl 1 k44 At2_0 ct2_0 t2_0 2 true]) (by kernel_rfl) (so rfl (op_st (cs' := [.slice At2_0 t2_0.length ct2_0, .int .i64 t2_1, .int .i64 t2_2]) 0 rfl rfl rfl rfl rfl rfl (sv (EV.as rfl) rfl (re (pr [2, 3] [0] [1] rfl rfl rfl rfl ?_)))))
 cases H
 exact rt Try.func53 rfl (.cell 0 (some 3) rfl rfl rfl (.tmp rfl .nil)) rfl [] [⟨0, 1, 1, true⟩] rfl rfl rfl rfl rfl ⟨_, _, rfl, rfl, rfl⟩
end Go.Proofs.Ytajjeemkdjfilaa.K
namespace Go.Proofs.Ytajjeemkdjfilaa.K
open Go Go.RowKit
set_option linter.unusedVariables false
set_option linter.unusedSimpArgs false
def impl_clone.f (l0 : List S70) : Option ((List S70)) := if l0.length ≤ 5864062014805 then (some l0) else none
set_option maxHeartbeats 4000000 in
set_option maxRecDepth 100000 in
theorem impl_clone.ok (l0 : List S70) (Al0 : Option Addr) (cl0 : Nat) (r0 : List S70) (H : impl_clone.f l0 = some r0) : Fn Try.prog 85 [.slice Al0 l0.length cl0] [] [.sl 0 k70 Al0 cl0 l0 0 false] (fun v bx en => ∃ A0 c0, v = .slice A0 r0.length c0 ∧ bx = [] ∧ en = [.sl 2 k70 A0 c0 r0 1 true]) := by
 refine fn_ 5 Try.func85 rfl rfl rfl (fun base T w0 => ?_)
 rw [impl_clone.f] at H
 refine gs (rg (sv (EV.as rfl) rfl (re (gs (rg (sv (EV.mv rfl) rfl (nil_ k70 1 dq ?_)))))))
 revert H; refine ggI ?_; intro g1 H
 refine so rfl (op_app (k := k70) (s := 3) (by_ := 24) 1 0 rfl rfl rfl rfl (ap0 g1 dq) (ap0n g1 dq) (.inl rfl) true (fun _ => .inl rfl) rfl rfl fun A4_2 c4_2 => (nmE (en := [.sl 0 k70 Al0 cl0 l0 0 false, .sl 2 k70 A4_2 c4_2 l0 1 true]) (by kernel_rfl) (sv (EV.as rfl) rfl (re ?_))))
 cases H
 exact rt Try.func85 rfl (.tmp rfl .nil) rfl [] [⟨1, 2, 1, true⟩] rfl rfl rfl rfl rfl ⟨_, _, rfl, rfl, rfl⟩
end Go.Proofs.Ytajjeemkdjfilaa.K
namespace Go.Proofs.Ytajjeemkdjfilaa.K
open Go Go.RowKit
set_option linter.unusedVariables false
set_option linter.unusedSimpArgs false
def impl_cloneTask.f (a0_0 : Int) (l0_1 : List S70) (l0_2 : List S70) (l0_3 : List Bool) (a0_4 : Int) : Option (Int × (List S70) × (List S70) × (List Bool) × Int) := if l0_3.length ≤ 140737488355328 then ((impl_clone.f l0_1).bind fun t2 => ((impl_clone.f l0_2).bind fun t3 => (some (a0_0, t2, t3, l0_3, a0_4)))) else none
set_option maxHeartbeats 4000000 in
set_option maxRecDepth 100000 in
theorem impl_cloneTask.ok (a0_0 : Int) (l0_1 : List S70) (Al0_1 : Option Addr) (cl0_1 : Nat) (l0_2 : List S70) (Al0_2 : Option Addr) (cl0_2 : Nat) (l0_3 : List Bool) (Al0_3 : Option Addr) (cl0_3 : Nat) (a0_4 : Int) (r0 : Int) (r1 : List S70) (r2 : List S70) (r3 : List Bool) (r4 : Int) (H : impl_cloneTask.f a0_0 l0_1 l0_2 l0_3 a0_4 = some (r0, r1, r2, r3, r4)) : Fn Try.prog 78 [.agg #[.int .i64 a0_0, .slice Al0_1 l0_1.length cl0_1, .slice Al0_2 l0_2.length cl0_2, .slice Al0_3 l0_3.length cl0_3, .int .i64 a0_4]] [] [.sl 0 k70 Al0_1 cl0_1 l0_1 0 false, .sl 0 k70 Al0_2 cl0_2 l0_2 0 false, .sl 0 .bool Al0_3 cl0_3 l0_3 0 false] (fun v bx en => ∃ A1 c1 A2 c2 A3 c3, v = .agg #[.int .i64 r0, .slice A1 r1.length c1, .slice A2 r2.length c2, .slice A3 r3.length c3, .int .i64 r4] ∧ bx = [] ∧ en = [.sl 2 k70 A1 c1 r1 1 true, .sl 2 k70 A2 c2 r2 2 true, .sl 2 .bool A3 c3 r3 3 true]) := by
 refine fn_ 16 Try.func78 rfl rfl rfl (fun base T w0 => ?_)
 rw [impl_cloneTask.f] at H
 refine gs (rg (so rfl (op_box (cs := [.int .i64 a0_0, .slice Al0_1 l0_1.length cl0_1, .slice Al0_2 l0_2.length cl0_2, .slice Al0_3 l0_3.length cl0_3, .int .i64 a0_4]) rfl rfl rfl fun b1 => (so rfl (op_alloc (cs := [.int .i64 0, .slice none 0 0, .slice none 0 0, .slice none 0 0, .int .i64 0]) (by kernel_rfl) rfl fun b2 => (re (gs ?_)))))))
 revert H; refine ggI ?_; intro g1 H
 refine nil_ .bool 1 dq (dr [0, 1] [0, 1, 2] [10, 11, 12, 13, 14] 15 rfl rfl rfl rfl (xv 0 [0, 1] [0, 1, 2] rfl (EV.fa 1 rfl) rfl rfl rfl rfl (xv 1 [0, 1] [0, 1, 2] rfl (EV.ld 0 none rfl rfl rfl) rfl rfl rfl rfl (xv 3 [0, 1] [0, 1, 2] rfl (EV.fa 2 rfl) rfl rfl rfl rfl (xv 4 [0, 1] [0, 1, 2] rfl (EV.ld 0 none rfl rfl rfl) rfl rfl rfl rfl (xv 6 [0, 1] [0, 1, 2] rfl (EV.fa 3 rfl) rfl rfl rfl rfl (xv 7 [0, 1] [0, 1, 2] rfl (EV.ld 0 none rfl rfl rfl) rfl rfl rfl rfl (one1 2 rfl rfl ?_))))))))
 revert H; refine bdI ?_; rintro t2 A2 H
 refine op_call (impl_clone.ok l0_1 Al0_1 cl0_1 _ A2) [⟨0, 0, 0, false⟩] 2 rfl rfl rfl rfl rfl ?_
 rintro _ _ _ ⟨At2, ct2, rfl, rfl, rfl⟩
 refine xs [0, 1] [0, 1, 2] rfl rfl rfl (xv 9 [0, 1] [0, 1, 2] rfl (EV.fa 1 rfl) rfl rfl rfl rfl (one1 5 rfl rfl ?_))
 revert H; refine bdI ?_; rintro t3 A3 H
 refine op_call (impl_clone.ok l0_2 Al0_2 cl0_2 _ A3) [⟨1, 0, 0, false⟩] 4 rfl rfl rfl rfl rfl ?_
 rintro _ _ _ ⟨At3, ct3, rfl, rfl, rfl⟩
 refine xs [0, 1] [0, 1, 2] rfl rfl rfl (one1 8 rfl rfl (op_app (k := .bool) (s := 1) (by_ := 1) 3 2 rfl rfl rfl rfl (ap0 g1 dq) (ap0n g1 dq) (.inl rfl) true (fun _ => .inl rfl) rfl rfl fun A11_4 c11_4 => (nmE (en := [.sl 0 k70 Al0_1 cl0_1 l0_1 0 false, .sl 0 k70 Al0_2 cl0_2 l0_2 0 false, .sl 0 .bool Al0_3 cl0_3 l0_3 0 false, .sl 2 k70 At2 ct2 t2 3 true, .sl 2 k70 At3 ct3 t3 5 true, .sl 2 .bool A11_4 c11_4 l0_3 1 true]) (by kernel_rfl) (xs [0, 1] [0, 1, 2] rfl rfl rfl (one1 10 rfl rfl (op_st (cs' := [.int .i64 a0_0, .slice At2 t2.length ct2, .slice Al0_2 l0_2.length cl0_2, .slice Al0_3 l0_3.length cl0_3, .int .i64 a0_4]) 0 rfl rfl rfl rfl rfl rfl (xn rfl (one1 11 rfl rfl (ov (EV.fa 2 rfl) rfl (xn rfl (one1 12 rfl rfl (op_st (cs' := [.int .i64 a0_0, .slice At2 t2.length ct2, .slice At3 t3.length ct3, .slice Al0_3 l0_3.length cl0_3, .int .i64 a0_4]) 0 rfl rfl rfl rfl rfl rfl (xn rfl (one1 13 rfl rfl (ov (EV.fa 3 rfl) rfl (xn rfl (one1 14 rfl rfl (op_st (cs' := [.int .i64 a0_0, .slice At2 t2.length ct2, .slice At3 t3.length ct3, .slice A11_4 l0_3.length c11_4, .int .i64 a0_4]) 0 rfl rfl rfl rfl rfl rfl (xn rfl (xd (pr [1, 2] [0, 1] [3, 4, 5] rfl rfl rfl rfl (gs (rg (sv (EV.ld (v := .agg #[.int .i64 a0_0, .slice At2 t2.length ct2, .slice At3 t3.length ct3, .slice A11_4 l0_3.length c11_4, .int .i64 a0_4]) 0 (some 5) rfl rfl rfl) rfl (so rfl (op_st (cs' := [.int .i64 a0_0, .slice At2 t2.length ct2, .slice At3 t3.length ct3, .slice A11_4 l0_3.length c11_4, .int .i64 a0_4]) 1 rfl rfl rfl rfl rfl rfl (re ?_)))))))))))))))))))))))))))
 cases H
 exact rt Try.func78 rfl (.cell 1 (some 5) rfl rfl rfl .nil) rfl [] [⟨0, 2, 1, true⟩, ⟨1, 2, 2, true⟩, ⟨2, 2, 3, true⟩] rfl rfl rfl rfl rfl ⟨_, _, _, _, _, _, rfl, rfl, rfl⟩
end Go.Proofs.Ytajjeemkdjfilaa.K
namespace Go.Proofs.Ytajjeemkdjfilaa.K
open Go Go.RowKit
set_option linter.unusedVariables false
set_option linter.unusedSimpArgs false
def impl_cloneTasks.l0 : Nat → (List S44) → Int → Int → (List S44) → Option ((List S44))
 | 0, _, _, _, _ => none
 | k + 1, x2_3, x2_7, x2_8, l0 => if x2_8 < x2_7 then (if 0 ≤ x2_8 then (if x2_8 < (l0.length : Int) then ((impl_cloneTask.f ((rd_T44 l0 x2_8).f0) ((rd_T44 l0 x2_8).f1) ((rd_T44 l0 x2_8).f2) ((rd_T44 l0 x2_8).f3) ((rd_T44 l0 x2_8).f4)).bind fun bt7 => (if x2_3.length < 1599289640401 then (impl_cloneTasks.l0 k (x2_3 ++ ([(⟨bt7.1, bt7.2.1, bt7.2.2.1, bt7.2.2.2.1, bt7.2.2.2.2⟩ : S44)] : List S44)) x2_7 (wrap64 (x2_8 + 1)) l0) else none)) else none) else none) else (some x2_3)
def impl_cloneTasks.f (k : Nat) (l0 : List S44) : Option ((List S44)) := impl_cloneTasks.l0 k [] (l0.length : Int) 0 l0
set_option maxHeartbeats 4000000 in
set_option maxRecDepth 100000 in
theorem impl_cloneTasks.ok (k : Nat) (l0 : List S44) (Al0 : Option Addr) (cl0 : Nat) (r0 : List S44) (H : impl_cloneTasks.f k l0 = some r0) : Fn Try.prog 113 [.slice Al0 l0.length cl0] [] [.sl 0 k44 Al0 cl0 l0 0 false] (fun v bx en => ∃ A0 c0, v = .slice A0 r0.length c0 ∧ bx = [] ∧ en = [.sl 2 k44 A0 c0 r0 1 true]) := by
 refine fn_ 19 Try.func113 rfl rfl rfl (fun base T w0 => ?_)
 rw [impl_cloneTasks.f] at H
 refine gs (rg (sv (EV.as rfl) rfl (re (gs (rg (sv (EV.as rfl) rfl (re (gs (gs (rg (sv (EV.mv rfl) rfl (sv (EV.ln rfl) rfl (sv (EV.mv rfl) rfl (re (gb (nil_ k44 1 dq ?_))))))))))))))))
 refine lo (fun kk S => ∃ (x2_3 : List S44) (Ax2_3 : Option Addr) (cx2_3 : Nat) (x2_7 : Int) (x2_8 : Int), impl_cloneTasks.l0 kk x2_3 x2_7 x2_8 l0 = some r0 ∧ S = ⟨[(3, .slice Ax2_3 x2_3.length cx2_3), (6, .slice Al0 l0.length cl0), (7, .int .i64 x2_7), (8, .int .i64 x2_8)], [], [.sl 2 k44 Ax2_3 cx2_3 x2_3 1 true, .sl 0 k44 Al0 cl0 l0 0 false]⟩) (fun S hS => ?_) (fun n0 ih0 S hS => ?_) ⟨[], none, 0, (l0.length : Int), 0, H, rfl⟩ (fun h => wk [3, 6, 7, 8] [] [⟨1, 2, 1, true⟩, ⟨0, 0, 0, false⟩] h)
 · clear H; obtain ⟨_, _, _, _, _, H, _⟩ := hS; rw [impl_cloneTasks.l0] at H; cases H
 clear H
 obtain ⟨x2_3, Ax2_3, cx2_3, x2_7, x2_8, H, rfl⟩ := hS
 rw [impl_cloneTasks.l0] at H
 refine gs (rg (sv (EV.lss rfl rfl) rfl (re (gs ?_))))
 revert H; refine ifsI ?_ ?_ <;> intro c1 H
 ·
  refine gt rfl (dT c1) (gk (gs (gb (gs (rg ?_)))))
  revert H; refine ggI ?_; intro g2 H
  revert H; refine ggI ?_; intro g3 H
  refine sv (EV.ix 1 rfl rfl rfl g2 g3 rfl) rfl (opn (i := x2_8) 1 z44 rfl g2 g3 fun A_4 c_4 A_5 c_5 A_6 c_6 => (sv (EV.lc (v := .agg #[.int .i64 ((rd_T44 l0 x2_8).f0), .slice A_4 ((rd_T44 l0 x2_8).f1).length c_4, .slice A_5 ((rd_T44 l0 x2_8).f2).length c_5, .slice A_6 ((rd_T44 l0 x2_8).f3).length c_6, .int .i64 ((rd_T44 l0 x2_8).f4)]) 0 (some 5) 2 rfl rfl rfl rfl) rfl (so rfl (op_alloc (cs := [.int .i64 0, .slice none 0 0, .slice none 0 0, .slice none 0 0, .int .i64 0]) (by kernel_rfl) rfl fun b5 => (so rfl (op_st (cs' := [.int .i64 ((rd_T44 l0 x2_8).f0), .slice A_4 ((rd_T44 l0 x2_8).f1).length c_4, .slice A_5 ((rd_T44 l0 x2_8).f2).length c_5, .slice A_6 ((rd_T44 l0 x2_8).f3).length c_6, .int .i64 ((rd_T44 l0 x2_8).f4)]) 0 rfl rfl rfl rfl rfl rfl (re (rg (sv (EV.mv rfl) rfl (sv (EV.ld (v := .agg #[.int .i64 ((rd_T44 l0 x2_8).f0), .slice A_4 ((rd_T44 l0 x2_8).f1).length c_4, .slice A_5 ((rd_T44 l0 x2_8).f2).length c_5, .slice A_6 ((rd_T44 l0 x2_8).f3).length c_6, .int .i64 ((rd_T44 l0 x2_8).f4)]) 0 (some 5) rfl rfl rfl) rfl ?_))))))))))
  revert H; refine bdI ?_; rintro ⟨t7_0, t7_1, t7_2, t7_3, t7_4⟩ A7 H
  refine so rfl (op_call (impl_cloneTask.ok ((rd_T44 l0 x2_8).f0) ((rd_T44 l0 x2_8).f1) A_4 c_4 ((rd_T44 l0 x2_8).f2) A_5 c_5 ((rd_T44 l0 x2_8).f3) A_6 c_6 ((rd_T44 l0 x2_8).f4) _ _ _ _ _ A7) [⟨3, 0, 0, false⟩, ⟨4, 0, 0, false⟩, ⟨5, 0, 0, false⟩] 2 rfl rfl rfl rfl rfl ?_)
  rintro _ _ _ ⟨At7_1, ct7_1, At7_2, ct7_2, At7_3, ct7_3, rfl, rfl, rfl⟩
  refine so rfl (op_lit (s := 5) (by_ := 88) k44 ([(⟨t7_0, t7_1, t7_2, t7_3, t7_4⟩ : S44)] : List S44) [[(At7_1, ct7_1), (At7_2, ct7_2), (At7_3, ct7_3)]] [6, 7, 8] 6 [.tmp 14] rfl rfl rfl rfl rfl rfl rfl rfl rfl rfl rfl rfl rfl dq rfl fun A15_8 c15_8 => (nmE (en := [.sl 2 k44 Ax2_3 cx2_3 x2_3 1 true, .sl 0 k44 Al0 cl0 l0 0 false, celE Al0 (x2_8.toNat * 5) [.int .i64 ((rd_T44 l0 x2_8).f0), .slice A_4 ((rd_T44 l0 x2_8).f1).length c_4, .slice A_5 ((rd_T44 l0 x2_8).f2).length c_5, .slice A_6 ((rd_T44 l0 x2_8).f3).length c_6, .int .i64 ((rd_T44 l0 x2_8).f4)] 0, .sl 0 k70 A_4 c_4 ((rd_T44 l0 x2_8).f1) 0 false, .sl 0 k70 A_5 c_5 ((rd_T44 l0 x2_8).f2) 0 false, .sl 0 .bool A_6 c_6 ((rd_T44 l0 x2_8).f3) 0 false, .sl 2 k70 At7_1 ct7_1 t7_1 6 true, .sl 2 k70 At7_2 ct7_2 t7_2 6 true, .sl 2 .bool At7_3 ct7_3 t7_3 6 true, .sl 2 k44 A15_8 c15_8 ([(⟨t7_0, t7_1, t7_2, t7_3, t7_4⟩ : S44)] : List S44) 6 true]) (by kernel_rfl) ?_))
  revert H; refine ggI ?_; intro g9 H
  exact so rfl (op_app (k := k44) (s := 5) (by_ := 88) 0 9 rfl rfl rfl rfl (ap1 g9 dq) (ap1n g9 dq) (.inr ⟨dq, dq, rfl, dq⟩) true (fun _ => .inr ⟨rfl, rfl, dq⟩) rfl rfl fun A16_10 c16_10 => (nmE (en := [.sl 0 k44 Al0 cl0 l0 0 false, celE Al0 (x2_8.toNat * 5) [.int .i64 ((rd_T44 l0 x2_8).f0), .slice A_4 ((rd_T44 l0 x2_8).f1).length c_4, .slice A_5 ((rd_T44 l0 x2_8).f2).length c_5, .slice A_6 ((rd_T44 l0 x2_8).f3).length c_6, .int .i64 ((rd_T44 l0 x2_8).f4)] 0, .sl 0 k70 A_4 c_4 ((rd_T44 l0 x2_8).f1) 0 false, .sl 0 k70 A_5 c_5 ((rd_T44 l0 x2_8).f2) 0 false, .sl 0 .bool A_6 c_6 ((rd_T44 l0 x2_8).f3) 0 false, .sl 2 k70 At7_1 ct7_1 t7_1 1 true, .sl 2 k70 At7_2 ct7_2 t7_2 1 true, .sl 2 .bool At7_3 ct7_3 t7_3 1 true, .sl 2 k44 A15_8 c15_8 ([(⟨t7_0, t7_1, t7_2, t7_3, t7_4⟩ : S44)] : List S44) 1 true, .sl 2 k44 A16_10 c16_10 (x2_3 ++ ([(⟨t7_0, t7_1, t7_2, t7_3, t7_4⟩ : S44)] : List S44)) 1 true]) (by kernel_rfl) (sv (EV.as rfl) rfl (re (pr [3, 6, 7, 8] [] [0, 9] rfl rfl rfl rfl (ge (rg (sv (EV.add rfl rfl) rfl (sv (EV.mv rfl) rfl (re (wk [3, 6, 7, 8] [] [⟨1, 2, 1, true⟩, ⟨0, 0, 0, false⟩] (ih0 _ (by omega) _ ⟨x2_3 ++ ([(⟨t7_0, t7_1, t7_2, t7_3, t7_4⟩ : S44)] : List S44), A16_10, c16_10, x2_7, wrap64 (x2_8 + 1), H, rfl⟩))))))))))))
 ·
  refine gf rfl (dF c1) (gx rfl (gs (rg (sv (EV.mv rfl) rfl (sv (EV.as rfl) rfl (re (pr [2] [] [0] rfl rfl rfl rfl ?_)))))))
  cases H
  exact rt Try.func113 rfl (.tmp rfl .nil) rfl [] [⟨0, 2, 1, true⟩] rfl rfl rfl rfl rfl ⟨_, _, rfl, rfl, rfl⟩
end Go.Proofs.Ytajjeemkdjfilaa.K
namespace Go.Proofs.Ytajjeemkdjfilaa.K
open Go Go.RowKit
set_option linter.unusedVariables false
set_option linter.unusedSimpArgs false
def impl_cloneJoiner.f (k : Nat) (l0_0 : List S44) (a0_1 : Int) (a0_2 : Int) : Option ((List S44) × Int × Int) := (impl_cloneTasks.f k l0_0).bind fun t1 => (some (t1, a0_1, a0_2))
set_option maxHeartbeats 4000000 in
set_option maxRecDepth 100000 in
theorem impl_cloneJoiner.ok (k : Nat) (l0_0 : List S44) (Al0_0 : Option Addr) (cl0_0 : Nat) (a0_1 : Int) (a0_2 : Int) (r0 : List S44) (r1 : Int) (r2 : Int) (H : impl_cloneJoiner.f k l0_0 a0_1 a0_2 = some (r0, r1, r2)) : Fn Try.prog 103 [.agg #[.slice Al0_0 l0_0.length cl0_0, .int .i64 a0_1, .int .i64 a0_2]] [] [.sl 0 k44 Al0_0 cl0_0 l0_0 0 false] (fun v bx en => ∃ A0 c0, v = .agg #[.slice A0 r0.length c0, .int .i64 r1, .int .i64 r2] ∧ bx = [] ∧ en = [.sl 2 k44 A0 c0 r0 1 true]) := by
 refine fn_ 8 Try.func103 rfl rfl rfl (fun base T w0 => ?_)
 rw [impl_cloneJoiner.f] at H
 refine gs (rg (so rfl (op_box (cs := [.slice Al0_0 l0_0.length cl0_0, .int .i64 a0_1, .int .i64 a0_2]) rfl rfl rfl fun b1 => (so rfl (op_alloc (cs := [.slice none 0 0, .int .i64 0, .int .i64 0]) (by kernel_rfl) rfl fun b2 => (re (gs (rg (sv (EV.fa 0 rfl) rfl (sv (EV.ld 0 none rfl rfl rfl) rfl ?_))))))))))
 revert H; refine bdI ?_; rintro t1 A1 H
 refine so rfl (op_call (impl_cloneTasks.ok k l0_0 Al0_0 cl0_0 _ A1) [⟨0, 0, 0, false⟩] 1 rfl rfl rfl rfl rfl ?_)
 rintro _ _ _ ⟨At1, ct1, rfl, rfl, rfl⟩
 refine sv (EV.fa 0 rfl) rfl (so rfl (op_st (cs' := [.slice At1 t1.length ct1, .int .i64 a0_1, .int .i64 a0_2]) 0 rfl rfl rfl rfl rfl rfl (re (gs (rg (sv (EV.ld (v := .agg #[.slice At1 t1.length ct1, .int .i64 a0_1, .int .i64 a0_2]) 0 (some 3) rfl rfl rfl) rfl (so rfl (op_st (cs' := [.slice At1 t1.length ct1, .int .i64 a0_1, .int .i64 a0_2]) 1 rfl rfl rfl rfl rfl rfl (re (pr [2] [1] [1] rfl rfl rfl rfl ?_))))))))))
 cases H
 exact rt Try.func103 rfl (.cell 0 (some 3) rfl rfl rfl .nil) rfl [] [⟨0, 2, 1, true⟩] rfl rfl rfl rfl rfl ⟨_, _, rfl, rfl, rfl⟩
end Go.Proofs.Ytajjeemkdjfilaa.K
namespace Go.Proofs.Ytajjeemkdjfilaa.K
open Go Go.RowKit
set_option linter.unusedVariables false
set_option linter.unusedSimpArgs false
def impl_within.f (a0 : Int) (a1 : Int) (a2 : Int) : Option (Bool) := if a0 ≥ a1 then (some (decide (a0 ≤ a2))) else (some false)
set_option maxHeartbeats 4000000 in
set_option maxRecDepth 100000 in
theorem impl_within.ok (a0 : Int) (a1 : Int) (a2 : Int) (r0 : Bool) (H : impl_within.f a0 a1 a2 = some r0) : Fn Try.prog 101 [.int .i64 a0, .int .i64 a1, .int .i64 a2] [] [] (fun v bx en => v = .bool r0 ∧ bx = [] ∧ en = []) := by
 refine fn_ 15 Try.func101 rfl rfl rfl (fun base T w0 => ?_)
 rw [impl_within.f] at H
 refine gs (rg (sv (EV.as rfl) rfl (re (gs (rg (sv (EV.mv rfl) rfl (sv (EV.mv rfl) rfl (sv (EV.geq rfl rfl) rfl (sv (EV.mv rfl) rfl ?_)))))))))
 revert H; refine ifsI ?_ ?_ <;> intro c1 H
 ·
  refine ts 10 rfl (dT c1) (sv (EV.mv rfl) rfl (sv (EV.mv rfl) rfl (sv (EV.leq rfl rfl) rfl (sv (EV.pt rfl rfl rfl) rfl (sv (EV.as rfl) rfl (re (pr [6] [] [] rfl rfl rfl rfl ?_)))))))
  cases H
  exact rt Try.func101 rfl (.tmp rfl .nil) rfl [] [] rfl rfl rfl rfl rfl ⟨rfl, rfl, rfl⟩
 ·
  refine ts 10 rfl (dF c1) (sk rfl (sk rfl (sk rfl (sv (EV.pf rfl rfl rfl) rfl (sv (EV.as rfl) rfl (re (pr [6] [] [] rfl rfl rfl rfl ?_)))))))
  cases H
  exact rt Try.func101 rfl (.tmp rfl .nil) rfl [] [] rfl rfl rfl rfl rfl ⟨rfl, rfl, rfl⟩
end Go.Proofs.Ytajjeemkdjfilaa.K
namespace Go.Proofs.Ytajjeemkdjfilaa.K
open Go Go.RowKit
set_option linter.unusedVariables false
set_option linter.unusedSimpArgs false
def impl_IsValidRow.f (a0_0 : Int) (a0_1 : Int) (a0_2 : Int) : Option (Bool) := (impl_within.f a0_0 0 9).bind fun t1 => (if t1 = true then ((impl_within.f a0_1 0 99).bind fun t3 => (if t3 = true then ((impl_within.f a0_2 0 3).bind fun t5 => (some t5)) else (some false))) else (some false))
set_option maxHeartbeats 4000000 in
set_option maxRecDepth 100000 in
theorem impl_IsValidRow.ok (a0_0 : Int) (a0_1 : Int) (a0_2 : Int) (r0 : Bool) (H : impl_IsValidRow.f a0_0 a0_1 a0_2 = some r0) : Fn Try.prog 116 [.agg #[.int .i64 a0_0, .int .i64 a0_1, .int .i64 a0_2]] [] [] (fun v bx en => v = .bool r0 ∧ bx = [] ∧ en = []) := by
 refine fn_ 16 Try.func116 rfl rfl rfl (fun base T w0 => ?_)
 rw [impl_IsValidRow.f] at H
 refine gs (rg (so rfl (op_box (cs := [.int .i64 a0_0, .int .i64 a0_1, .int .i64 a0_2]) rfl rfl rfl fun b1 => (sv (EV.as rfl) rfl (re (gs (rg (sv (EV.fa 0 rfl) rfl (sv (EV.ld 0 none rfl rfl rfl) rfl ?_)))))))))
 revert H; refine bdI ?_; rintro t1 A1 H
 refine so rfl (op_call (impl_within.ok a0_0 0 9 _ A1) [] 1 rfl rfl rfl rfl rfl ?_)
 rintro _ _ _ ⟨rfl, rfl, rfl⟩
 refine sv (EV.mv rfl) rfl ?_
 revert H; refine ifsI ?_ ?_ <;> intro c2 H
 ·
  subst c2
  refine ts 6 rfl rfl (sv (EV.fa 1 rfl) rfl (sv (EV.ld 0 none rfl rfl rfl) rfl ?_))
  revert H; refine bdI ?_; rintro t3 A3 H
  refine so rfl (op_call (impl_within.ok a0_1 0 99 _ A3) [] 1 rfl rfl rfl rfl rfl ?_)
  rintro _ _ _ ⟨rfl, rfl, rfl⟩
  refine sv (EV.pt rfl rfl rfl) rfl (sv (EV.mv rfl) rfl ?_)
  revert H; refine ifsI ?_ ?_ <;> intro c4 H
  ·
   subst c4
   refine ts 11 rfl rfl (sv (EV.fa 2 rfl) rfl (sv (EV.ld 0 none rfl rfl rfl) rfl ?_))
   revert H; refine bdI ?_; rintro t5 A5 H
   refine so rfl (op_call (impl_within.ok a0_2 0 3 _ A5) [] 1 rfl rfl rfl rfl rfl ?_)
   rintro _ _ _ ⟨rfl, rfl, rfl⟩
   refine sv (EV.pt rfl rfl rfl) rfl (sv (EV.as rfl) rfl (re (pr [2] [] [] rfl rfl rfl rfl ?_)))
   cases H
   exact rt Try.func116 rfl (.tmp rfl .nil) rfl [] [] rfl rfl rfl rfl rfl ⟨rfl, rfl, rfl⟩
  ·
   obtain rfl := bF c4
   refine ts 11 rfl rfl (sk rfl (sk rfl (sk rfl (sv (EV.pf rfl rfl rfl) rfl (sv (EV.as rfl) rfl (re (pr [2] [] [] rfl rfl rfl rfl ?_)))))))
   cases H
   exact rt Try.func116 rfl (.tmp rfl .nil) rfl [] [] rfl rfl rfl rfl rfl ⟨rfl, rfl, rfl⟩
 ·
  obtain rfl := bF c2
  refine ts 6 rfl rfl (sk rfl (sk rfl (sk rfl (sv (EV.pf rfl rfl rfl) rfl (sv (EV.mv rfl) rfl (sk rfl (sk rfl (sk rfl (sv (EV.pf rfl rfl rfl) rfl (sv (EV.as rfl) rfl (re (pr [2] [] [] rfl rfl rfl rfl ?_))))))))))))
  cases H
  exact rt Try.func116 rfl (.tmp rfl .nil) rfl [] [] rfl rfl rfl rfl rfl ⟨rfl, rfl, rfl⟩
end Go.Proofs.Ytajjeemkdjfilaa.K
namespace Go.Proofs.Ytajjeemkdjfilaa.K
open Go Go.RowKit
set_option linter.unusedVariables false
set_option linter.unusedSimpArgs false
def impl_allValid.l0 : Nat → Int → Int → (List S70) → Option (Bool)
 | 0, _, _, _ => none
 | k + 1, x2_6, x2_7, l0 => if x2_7 < x2_6 then (if 0 ≤ x2_7 then (if x2_7 < (l0.length : Int) then ((impl_IsValidRow.f ((rd_T70 l0 x2_7).f0) ((rd_T70 l0 x2_7).f1) ((rd_T70 l0 x2_7).f2)).bind fun t4 => (if t4 = true then (impl_allValid.l0 k x2_6 (wrap64 (x2_7 + 1)) l0) else (some false))) else none) else none) else (some true)
def impl_allValid.f (k : Nat) (l0 : List S70) : Option (Bool) := impl_allValid.l0 k (l0.length : Int) 0 l0
set_option maxHeartbeats 4000000 in
set_option maxRecDepth 100000 in
theorem impl_allValid.ok (k : Nat) (l0 : List S70) (Al0 : Option Addr) (cl0 : Nat) (r0 : Bool) (H : impl_allValid.f k l0 = some r0) : Fn Try.prog 112 [.slice Al0 l0.length cl0] [] [.sl 0 k70 Al0 cl0 l0 0 false] (fun v bx en => v = .bool r0 ∧ bx = [] ∧ en = []) := by
 refine fn_ 15 Try.func112 rfl rfl rfl (fun base T w0 => ?_)
 rw [impl_allValid.f] at H
 refine gs (rg (sv (EV.as rfl) rfl (re (gs (gs (rg (sv (EV.mv rfl) rfl (sv (EV.ln rfl) rfl (sv (EV.mv rfl) rfl (re (gb ?_)))))))))))
 refine lo (fun kk S => ∃ (x2_6 : Int) (x2_7 : Int), impl_allValid.l0 kk x2_6 x2_7 l0 = some r0 ∧ S = ⟨[(5, .slice Al0 l0.length cl0), (6, .int .i64 x2_6), (7, .int .i64 x2_7)], [], [.sl 0 k70 Al0 cl0 l0 0 false]⟩) (fun S hS => ?_) (fun n0 ih0 S hS => ?_) ⟨(l0.length : Int), 0, H, rfl⟩ (fun h => wk [5, 6, 7] [] [⟨0, 0, 0, false⟩] h)
 · clear H; obtain ⟨_, _, H, _⟩ := hS; rw [impl_allValid.l0] at H; cases H
 clear H
 obtain ⟨x2_6, x2_7, H, rfl⟩ := hS
 rw [impl_allValid.l0] at H
 refine gs (rg (sv (EV.lss rfl rfl) rfl (re (gs ?_))))
 revert H; refine ifsI ?_ ?_ <;> intro c1 H
 ·
  refine gt rfl (dT c1) (gk (gs (gb (gs (rg ?_)))))
  revert H; refine ggI ?_; intro g2 H
  revert H; refine ggI ?_; intro g3 H
  refine sv (EV.ix 0 rfl rfl rfl g2 g3 rfl) rfl (sv (EV.le (v := .agg #[.int .i64 ((rd_T70 l0 x2_7).f0), .int .i64 ((rd_T70 l0 x2_7).f1), .int .i64 ((rd_T70 l0 x2_7).f2)]) x2_7 0 (some 3) 0 z70 rfl rfl rfl g2 g3 rfl rfl rfl) rfl (so rfl (op_alloc (cs := [.int .i64 0, .int .i64 0, .int .i64 0]) (by kernel_rfl) rfl fun b4 => (so rfl (op_st (cs' := [.int .i64 ((rd_T70 l0 x2_7).f0), .int .i64 ((rd_T70 l0 x2_7).f1), .int .i64 ((rd_T70 l0 x2_7).f2)]) 0 rfl rfl rfl rfl rfl rfl (re (gs (rg (sv (EV.ld (v := .agg #[.int .i64 ((rd_T70 l0 x2_7).f0), .int .i64 ((rd_T70 l0 x2_7).f1), .int .i64 ((rd_T70 l0 x2_7).f2)]) 0 (some 3) rfl rfl rfl) rfl ?_)))))))))
  revert H; refine bdI ?_; rintro t4 A4 H
  refine so rfl (op_call (impl_IsValidRow.ok ((rd_T70 l0 x2_7).f0) ((rd_T70 l0 x2_7).f1) ((rd_T70 l0 x2_7).f2) _ A4) [] 1 rfl rfl rfl rfl rfl ?_)
  rintro _ _ _ ⟨rfl, rfl, rfl⟩
  refine sv (EV.nt rfl) rfl (re (pr [5, 6, 7, 13] [] [0] rfl rfl rfl rfl ?_))
  revert H; refine ifsI ?_ ?_ <;> intro c5 H
  ·
   subst c5
   exact gf rfl rfl (gk (ge (rg (sv (EV.add rfl rfl) rfl (sv (EV.mv rfl) rfl (re (wk [5, 6, 7] [] [⟨0, 0, 0, false⟩] (ih0 _ (by omega) _ ⟨x2_6, wrap64 (x2_7 + 1), H, rfl⟩))))))))
  ·
   obtain rfl := bF c5
   refine gt rfl rfl (gs (rg (sv (EV.as rfl) rfl (re ?_))))
   cases H
   exact rt Try.func112 rfl (.tmp rfl .nil) rfl [] [] rfl rfl rfl rfl rfl ⟨rfl, rfl, rfl⟩
 ·
  refine gf rfl (dF c1) (gx rfl (gs (rg (sv (EV.as rfl) rfl (re ?_)))))
  cases H
  exact rt Try.func112 rfl (.tmp rfl .nil) rfl [] [] rfl rfl rfl rfl rfl ⟨rfl, rfl, rfl⟩
end Go.Proofs.Ytajjeemkdjfilaa.K
namespace Go.Proofs.Ytajjeemkdjfilaa.K
open Go Go.RowKit
set_option linter.unusedVariables false
set_option linter.unusedSimpArgs false
def impl_AreValidRows.f (k : Nat) (l0 : List S70) : Option (Bool) := if (l0.length : Int) ≤ 24 then ((impl_allValid.f k l0).bind fun t2 => (some t2)) else (some false)
set_option maxHeartbeats 4000000 in
set_option maxRecDepth 100000 in
theorem impl_AreValidRows.ok (k : Nat) (l0 : List S70) (Al0 : Option Addr) (cl0 : Nat) (r0 : Bool) (H : impl_AreValidRows.f k l0 = some r0) : Fn Try.prog 100 [.slice Al0 l0.length cl0] [] [.sl 0 k70 Al0 cl0 l0 0 false] (fun v bx en => v = .bool r0 ∧ bx = [] ∧ en = []) := by
 refine fn_ 10 Try.func100 rfl rfl rfl (fun base T w0 => ?_)
 rw [impl_AreValidRows.f] at H
 refine gs (rg (sv (EV.as rfl) rfl (re (gs (rg (sv (EV.mv rfl) rfl (sv (EV.ln rfl) rfl (sv (EV.leq rfl rfl) rfl (sv (EV.mv rfl) rfl ?_)))))))))
 revert H; refine ifsI ?_ ?_ <;> intro c1 H
 ·
  refine ts 6 rfl (dT c1) (sv (EV.mv rfl) rfl ?_)
  revert H; refine bdI ?_; rintro t2 A2 H
  refine so rfl (op_call (impl_allValid.ok k l0 Al0 cl0 _ A2) [⟨0, 0, 0, false⟩] 1 rfl rfl rfl rfl rfl ?_)
  rintro _ _ _ ⟨rfl, rfl, rfl⟩
  refine sv (EV.pt rfl rfl rfl) rfl (sv (EV.as rfl) rfl (re (pr [2] [] [] rfl rfl rfl rfl ?_)))
  cases H
  exact rt Try.func100 rfl (.tmp rfl .nil) rfl [] [] rfl rfl rfl rfl rfl ⟨rfl, rfl, rfl⟩
 ·
  refine ts 6 rfl (dF c1) (sk rfl (sk rfl (sv (EV.pf rfl rfl rfl) rfl (sv (EV.as rfl) rfl (re (pr [2] [] [] rfl rfl rfl rfl ?_))))))
  cases H
  exact rt Try.func100 rfl (.tmp rfl .nil) rfl [] [] rfl rfl rfl rfl rfl ⟨rfl, rfl, rfl⟩
end Go.Proofs.Ytajjeemkdjfilaa.K
namespace Go.Proofs.Ytajjeemkdjfilaa.K
open Go Go.RowKit
set_option linter.unusedVariables false
set_option linter.unusedSimpArgs false
def impl_IsValidJoinKind.f (a0 : Int) : Option (Bool) := (impl_within.f a0 1 4).bind fun t1 => (some t1)
set_option maxHeartbeats 4000000 in
set_option maxRecDepth 100000 in
theorem impl_IsValidJoinKind.ok (a0 : Int) (r0 : Bool) (H : impl_IsValidJoinKind.f a0 = some r0) : Fn Try.prog 99 [.int .i64 a0] [] [] (fun v bx en => v = .bool r0 ∧ bx = [] ∧ en = []) := by
 refine fn_ 5 Try.func99 rfl rfl rfl (fun base T w0 => ?_)
 rw [impl_IsValidJoinKind.f] at H
 refine gs (rg (sv (EV.as rfl) rfl (re (gs (rg (sv (EV.mv rfl) rfl ?_))))))
 revert H; refine bdI ?_; rintro t1 A1 H
 refine so rfl (op_call (impl_within.ok a0 1 4 _ A1) [] 1 rfl rfl rfl rfl rfl ?_)
 rintro _ _ _ ⟨rfl, rfl, rfl⟩
 refine sv (EV.as rfl) rfl (re ?_)
 cases H
 exact rt Try.func99 rfl (.tmp rfl .nil) rfl [] [] rfl rfl rfl rfl rfl ⟨rfl, rfl, rfl⟩
end Go.Proofs.Ytajjeemkdjfilaa.K
namespace Go.Proofs.Ytajjeemkdjfilaa.K
open Go Go.RowKit
set_option linter.unusedVariables false
set_option linter.unusedSimpArgs false
def impl_IsValidTask.f (k : Nat) (a0_0 : Int) (l0_1 : List S70) (l0_2 : List S70) (l0_3 : List Bool) (a0_4 : Int) : Option (Bool) := (impl_IsValidJoinKind.f a0_0).bind fun t1 => (if t1 = true then ((impl_AreValidRows.f k l0_1).bind fun t3 => (if t3 = true then ((impl_AreValidRows.f k l0_2).bind fun t5 => (if t5 = true then (if (l0_3.length : Int) = (l0_1.length : Int) then ((impl_within.f a0_4 0 4).bind fun t8 => (some t8)) else (some false)) else (some false))) else (some false))) else (some false))
set_option maxHeartbeats 4000000 in
set_option maxRecDepth 100000 in
theorem impl_IsValidTask.ok (k : Nat) (a0_0 : Int) (l0_1 : List S70) (Al0_1 : Option Addr) (cl0_1 : Nat) (l0_2 : List S70) (Al0_2 : Option Addr) (cl0_2 : Nat) (l0_3 : List Bool) (Al0_3 : Option Addr) (cl0_3 : Nat) (a0_4 : Int) (r0 : Bool) (H : impl_IsValidTask.f k a0_0 l0_1 l0_2 l0_3 a0_4 = some r0) : Fn Try.prog 52 [.agg #[.int .i64 a0_0, .slice Al0_1 l0_1.length cl0_1, .slice Al0_2 l0_2.length cl0_2, .slice Al0_3 l0_3.length cl0_3, .int .i64 a0_4]] [] [.sl 0 k70 Al0_1 cl0_1 l0_1 0 false, .sl 0 k70 Al0_2 cl0_2 l0_2 0 false, .sl 0 .bool Al0_3 cl0_3 l0_3 0 false] (fun v bx en => v = .bool r0 ∧ bx = [] ∧ en = []) := by
 refine fn_ 30 Try.func52 rfl rfl rfl (fun base T w0 => ?_)
 rw [impl_IsValidTask.f] at H
 refine gs (rg (so rfl (op_box (cs := [.int .i64 a0_0, .slice Al0_1 l0_1.length cl0_1, .slice Al0_2 l0_2.length cl0_2, .slice Al0_3 l0_3.length cl0_3, .int .i64 a0_4]) rfl rfl rfl fun b1 => (sv (EV.as rfl) rfl (re (gs (rg (sv (EV.fa 0 rfl) rfl (sv (EV.ld 0 none rfl rfl rfl) rfl ?_)))))))))
 revert H; refine bdI ?_; rintro t1 A1 H
 refine so rfl (op_call (impl_IsValidJoinKind.ok a0_0 _ A1) [] 1 rfl rfl rfl rfl rfl ?_)
 rintro _ _ _ ⟨rfl, rfl, rfl⟩
 refine sv (EV.mv rfl) rfl ?_
 revert H; refine ifsI ?_ ?_ <;> intro c2 H
 ·
  subst c2
  refine ts 6 rfl rfl (sv (EV.fa 1 rfl) rfl (sv (EV.ld 0 none rfl rfl rfl) rfl ?_))
  revert H; refine bdI ?_; rintro t3 A3 H
  refine so rfl (op_call (impl_AreValidRows.ok k l0_1 Al0_1 cl0_1 _ A3) [⟨0, 0, 0, false⟩] 1 rfl rfl rfl rfl rfl ?_)
  rintro _ _ _ ⟨rfl, rfl, rfl⟩
  refine sv (EV.pt rfl rfl rfl) rfl (sv (EV.mv rfl) rfl ?_)
  revert H; refine ifsI ?_ ?_ <;> intro c4 H
  ·
   subst c4
   refine ts 11 rfl rfl (sv (EV.fa 2 rfl) rfl (sv (EV.ld 0 none rfl rfl rfl) rfl ?_))
   revert H; refine bdI ?_; rintro t5 A5 H
   refine so rfl (op_call (impl_AreValidRows.ok k l0_2 Al0_2 cl0_2 _ A5) [⟨1, 0, 0, false⟩] 1 rfl rfl rfl rfl rfl ?_)
   rintro _ _ _ ⟨rfl, rfl, rfl⟩
   refine sv (EV.pt rfl rfl rfl) rfl (sv (EV.mv rfl) rfl ?_)
   revert H; refine ifsI ?_ ?_ <;> intro c6 H
   ·
    subst c6
    refine ts 16 rfl rfl (sv (EV.fa 3 rfl) rfl (sv (EV.ld 0 none rfl rfl rfl) rfl (sv (EV.ln rfl) rfl (sv (EV.fa 1 rfl) rfl (sv (EV.ld 0 none rfl rfl rfl) rfl (sv (EV.ln rfl) rfl (sv (EV.eql rfl rfl) rfl (sv (EV.pt rfl rfl rfl) rfl (sv (EV.mv rfl) rfl ?_)))))))))
    revert H; refine ifsI ?_ ?_ <;> intro c7 H
    ·
     refine ts 25 rfl (dT c7) (sv (EV.fa 4 rfl) rfl (sv (EV.ld 0 none rfl rfl rfl) rfl ?_))
     revert H; refine bdI ?_; rintro t8 A8 H
     refine so rfl (op_call (impl_within.ok a0_4 0 4 _ A8) [] 1 rfl rfl rfl rfl rfl ?_)
     rintro _ _ _ ⟨rfl, rfl, rfl⟩
     refine sv (EV.pt rfl rfl rfl) rfl (sv (EV.as rfl) rfl (re (pr [2] [] [] rfl rfl rfl rfl ?_)))
     cases H
     exact rt Try.func52 rfl (.tmp rfl .nil) rfl [] [] rfl rfl rfl rfl rfl ⟨rfl, rfl, rfl⟩
    ·
     refine ts 25 rfl (dF c7) (sk rfl (sk rfl (sk rfl (sv (EV.pf rfl rfl rfl) rfl (sv (EV.as rfl) rfl (re (pr [2] [] [] rfl rfl rfl rfl ?_)))))))
     cases H
     exact rt Try.func52 rfl (.tmp rfl .nil) rfl [] [] rfl rfl rfl rfl rfl ⟨rfl, rfl, rfl⟩
   ·
    obtain rfl := bF c6
    refine ts 16 rfl rfl (sk rfl (sk rfl (sk rfl (sk rfl (sk rfl (sk rfl (sk rfl (sv (EV.pf rfl rfl rfl) rfl (sv (EV.mv rfl) rfl (sk rfl (sk rfl (sk rfl (sv (EV.pf rfl rfl rfl) rfl (sv (EV.as rfl) rfl (re (pr [2] [] [] rfl rfl rfl rfl ?_))))))))))))))))
    cases H
    exact rt Try.func52 rfl (.tmp rfl .nil) rfl [] [] rfl rfl rfl rfl rfl ⟨rfl, rfl, rfl⟩
  ·
   obtain rfl := bF c4
   refine ts 11 rfl rfl (sk rfl (sk rfl (sk rfl (sv (EV.pf rfl rfl rfl) rfl (sv (EV.mv rfl) rfl (sk rfl (sk rfl (sk rfl (sk rfl (sk rfl (sk rfl (sk rfl (sv (EV.pf rfl rfl rfl) rfl (sv (EV.mv rfl) rfl (sk rfl (sk rfl (sk rfl (sv (EV.pf rfl rfl rfl) rfl (sv (EV.as rfl) rfl (re (pr [2] [] [] rfl rfl rfl rfl ?_)))))))))))))))))))))
   cases H
   exact rt Try.func52 rfl (.tmp rfl .nil) rfl [] [] rfl rfl rfl rfl rfl ⟨rfl, rfl, rfl⟩
 ·
  obtain rfl := bF c2
  refine ts 6 rfl rfl (sk rfl (sk rfl (sk rfl (sv (EV.pf rfl rfl rfl) rfl (sv (EV.mv rfl) rfl (sk rfl (sk rfl (sk rfl (sv (EV.pf rfl rfl rfl) rfl (sv (EV.mv rfl) rfl (sk rfl (sk rfl (sk rfl (sk rfl (sk rfl (sk rfl (sk rfl (sv (EV.pf rfl rfl rfl) rfl (sv (EV.mv rfl) rfl (sk rfl (sk rfl (sk rfl (sv (EV.pf rfl rfl rfl) rfl (sv (EV.as rfl) rfl (re (pr [2] [] [] rfl rfl rfl rfl ?_))))))))))))))))))))))))))
  cases H
  exact rt Try.func52 rfl (.tmp rfl .nil) rfl [] [] rfl rfl rfl rfl rfl ⟨rfl, rfl, rfl⟩
end Go.Proofs.Ytajjeemkdjfilaa.K
namespace Go.Proofs.Ytajjeemkdjfilaa.K
open Go Go.RowKit
set_option linter.unusedVariables false
set_option linter.unusedSimpArgs false
def impl_CountMatches.l0 : Nat → Int → Int → Int → Int → Int → Int → (List S70) → Option (Int)
 | 0, _, _, _, _, _, _, _ => none
 | k + 1, x2_5, x2_9, x2_10, x2_2_0, x2_2_1, x2_2_2, l1 => if x2_10 < x2_9 then (if 0 ≤ x2_10 then (if x2_10 < (l1.length : Int) then (if ((rd_T70 l1 x2_10).f0) = x2_2_0 then (impl_CountMatches.l0 k (wrap64 (x2_5 + 1)) x2_9 (wrap64 (x2_10 + 1)) x2_2_0 x2_2_1 x2_2_2 l1) else (impl_CountMatches.l0 k x2_5 x2_9 (wrap64 (x2_10 + 1)) x2_2_0 x2_2_1 x2_2_2 l1)) else none) else none) else (some x2_5)
def impl_CountMatches.f (k : Nat) (a0_0 : Int) (a0_1 : Int) (a0_2 : Int) (l1 : List S70) : Option (Int) := impl_CountMatches.l0 k 0 (l1.length : Int) 0 a0_0 a0_1 a0_2 l1
set_option maxHeartbeats 4000000 in
set_option maxRecDepth 100000 in
theorem impl_CountMatches.ok (k : Nat) (a0_0 : Int) (a0_1 : Int) (a0_2 : Int) (l1 : List S70) (Al1 : Option Addr) (cl1 : Nat) (r0 : Int) (H : impl_CountMatches.f k a0_0 a0_1 a0_2 l1 = some r0) : Fn Try.prog 79 [.agg #[.int .i64 a0_0, .int .i64 a0_1, .int .i64 a0_2], .slice Al1 l1.length cl1] [] [.sl 0 k70 Al1 cl1 l1 0 false] (fun v bx en => v = .int .i64 r0 ∧ bx = [] ∧ en = []) := by
 refine fn_ 23 Try.func79 rfl rfl rfl (fun base T w0 => ?_)
 rw [impl_CountMatches.f] at H
 refine gs (rg (so rfl (op_box (cs := [.int .i64 a0_0, .int .i64 a0_1, .int .i64 a0_2]) rfl rfl rfl fun b2 => (sv (EV.as rfl) rfl (re (gs (rg (sv (EV.as rfl) rfl (re (gs (gs (rg (sv (EV.mv rfl) rfl (sv (EV.ln rfl) rfl (sv (EV.mv rfl) rfl (re (gb ?_)))))))))))))))))
 refine lo (fun kk S => ∃ (x2_5 : Int) (x2_9 : Int) (x2_10 : Int) (x2_2_0 : Int) (x2_2_1 : Int) (x2_2_2 : Int), impl_CountMatches.l0 kk x2_5 x2_9 x2_10 x2_2_0 x2_2_1 x2_2_2 l1 = some r0 ∧ S = ⟨[(2, .pointer (some ⟨b2, 0, none⟩)), (5, .int .i64 x2_5), (8, .slice Al1 l1.length cl1), (9, .int .i64 x2_9), (10, .int .i64 x2_10)], [⟨b2, 70, [.int .i64 x2_2_0, .int .i64 x2_2_1, .int .i64 x2_2_2]⟩], [.sl 0 k70 Al1 cl1 l1 0 false]⟩) (fun S hS => ?_) (fun n0 ih0 S hS => ?_) ⟨0, (l1.length : Int), 0, a0_0, a0_1, a0_2, H, rfl⟩ (fun h => wk [2, 5, 8, 9, 10] [0] [⟨0, 0, 0, false⟩] h)
 · clear H; obtain ⟨_, _, _, _, _, _, H, _⟩ := hS; rw [impl_CountMatches.l0] at H; cases H
 clear H
 obtain ⟨x2_5, x2_9, x2_10, x2_2_0, x2_2_1, x2_2_2, H, rfl⟩ := hS
 rw [impl_CountMatches.l0] at H
 refine gs (rg (sv (EV.lss rfl rfl) rfl (re (gs ?_))))
 revert H; refine ifsI ?_ ?_ <;> intro c1 H
 ·
  refine gt rfl (dT c1) (gk (gs (gb (gs (rg ?_)))))
  revert H; refine ggI ?_; intro g2 H
  revert H; refine ggI ?_; intro g3 H
  refine sv (EV.ix 0 rfl rfl rfl g2 g3 rfl) rfl (sv (EV.le (v := .agg #[.int .i64 ((rd_T70 l1 x2_10).f0), .int .i64 ((rd_T70 l1 x2_10).f1), .int .i64 ((rd_T70 l1 x2_10).f2)]) x2_10 0 (some 3) 0 z70 rfl rfl rfl g2 g3 rfl rfl rfl) rfl (so rfl (op_alloc (cs := [.int .i64 0, .int .i64 0, .int .i64 0]) (by kernel_rfl) rfl fun b7 => (so rfl (op_st (cs' := [.int .i64 ((rd_T70 l1 x2_10).f0), .int .i64 ((rd_T70 l1 x2_10).f1), .int .i64 ((rd_T70 l1 x2_10).f2)]) 1 rfl rfl rfl rfl rfl rfl (re (gs (rg (sv (EV.fa 0 rfl) rfl (sv (EV.ld 1 none rfl rfl rfl) rfl (sv (EV.fa 0 rfl) rfl (sv (EV.ld 0 none rfl rfl rfl) rfl (sv (EV.eql rfl rfl) rfl (re (pr [2, 5, 8, 9, 10, 18] [0] [0] rfl rfl rfl rfl ?_)))))))))))))))
  revert H; refine ifsI ?_ ?_ <;> intro c4 H
  ·
   exact gt rfl (dT c4) (rg (sv (EV.mv rfl) rfl (sv (EV.add rfl rfl) rfl (sv (EV.as rfl) rfl (re (ge (rg (sv (EV.add rfl rfl) rfl (sv (EV.mv rfl) rfl (re (wk [2, 5, 8, 9, 10] [0] [⟨0, 0, 0, false⟩] (ih0 _ (by omega) _ ⟨wrap64 (x2_5 + 1), x2_9, wrap64 (x2_10 + 1), x2_2_0, x2_2_1, x2_2_2, H, rfl⟩))))))))))))
  ·
   exact gf rfl (dF c4) (gk (ge (rg (sv (EV.add rfl rfl) rfl (sv (EV.mv rfl) rfl (re (wk [2, 5, 8, 9, 10] [0] [⟨0, 0, 0, false⟩] (ih0 _ (by omega) _ ⟨x2_5, x2_9, wrap64 (x2_10 + 1), x2_2_0, x2_2_1, x2_2_2, H, rfl⟩))))))))
 ·
  refine gf rfl (dF c1) (gx rfl (gs (rg (sv (EV.mv rfl) rfl (sv (EV.as rfl) rfl (re (pr [4] [] [] rfl rfl rfl rfl ?_)))))))
  cases H
  exact rt Try.func79 rfl (.tmp rfl .nil) rfl [] [] rfl rfl rfl rfl rfl ⟨rfl, rfl, rfl⟩
end Go.Proofs.Ytajjeemkdjfilaa.K
namespace Go.Proofs.Ytajjeemkdjfilaa.K
open Go Go.RowKit
set_option linter.unusedVariables false
set_option linter.unusedSimpArgs false
mutual
def impl_JoinChunk.j0 : Nat → (List S92) → Int → (List S70) → Int → Int → Int → (List S70) → (List S70) → (List Bool) → Int → Int → (List S70) → (List S70) → (List Bool) → Int → (List S70) → Option ((List S92) × Int × (List S70) × (List S70) × (List Bool) × Int)
 | 0, _, _, _, _, _, _, _, _, _, _, _, _, _, _, _, _ => none
 | k + 1, x40_7, x40_8, x40_20, x40_21, x40_22, x40_5_0, x40_5_1, x40_5_2, x40_5_3, x40_5_4, x40_6_0, x40_6_1, x40_6_2, x40_6_3, x40_6_4, l1 => if 0 ≤ x40_8 then (if x40_8 < (x40_6_3.length : Int) then (impl_JoinChunk.l0 k x40_7 x40_20 x40_21 (wrap64 (x40_22 + 1)) x40_5_0 x40_5_1 x40_5_2 x40_5_3 x40_5_4 x40_6_0 x40_6_1 x40_6_2 (x40_6_3.set x40_8.toNat true) x40_6_4 l1) else none) else none
def impl_JoinChunk.l1 : Nat → (List S92) → Int → (List S70) → Int → Int → Int → Int → Int → (List S70) → (List S70) → (List Bool) → Int → Int → (List S70) → (List S70) → (List Bool) → Int → Int → Int → Int → (List S70) → Option ((List S92) × Int × (List S70) × (List S70) × (List Bool) × Int)
 | 0, _, _, _, _, _, _, _, _, _, _, _, _, _, _, _, _, _, _, _, _, _ => none
 | k + 1, x42_7, x42_8, x42_20, x42_21, x42_22, x42_50, x42_51, x42_5_0, x42_5_1, x42_5_2, x42_5_3, x42_5_4, x42_6_0, x42_6_1, x42_6_2, x42_6_3, x42_6_4, x42_9_0, x42_9_1, x42_9_2, l1 => if x42_51 < x42_50 then (if 0 ≤ x42_51 then (if x42_51 < (l1.length : Int) then (if ((rd_T70 l1 x42_51).f0) = x42_9_0 then (if x42_7.length < 2513169434916 then (impl_JoinChunk.l1 k (x42_7 ++ ([(⟨(⟨x42_9_0, x42_9_1, x42_9_2⟩ : S70), (⟨(rd_T70 l1 x42_51).f0, (rd_T70 l1 x42_51).f1, (rd_T70 l1 x42_51).f2⟩ : S70), true⟩ : S92)] : List S92)) x42_8 x42_20 x42_21 x42_22 x42_50 (wrap64 (x42_51 + 1)) x42_5_0 x42_5_1 x42_5_2 x42_5_3 x42_5_4 x42_6_0 x42_6_1 x42_6_2 x42_6_3 x42_6_4 x42_9_0 x42_9_1 x42_9_2 l1) else none) else (impl_JoinChunk.l1 k x42_7 x42_8 x42_20 x42_21 x42_22 x42_50 (wrap64 (x42_51 + 1)) x42_5_0 x42_5_1 x42_5_2 x42_5_3 x42_5_4 x42_6_0 x42_6_1 x42_6_2 x42_6_3 x42_6_4 x42_9_0 x42_9_1 x42_9_2 l1)) else none) else none) else (impl_JoinChunk.j0 k x42_7 x42_8 x42_20 x42_21 x42_22 x42_5_0 x42_5_1 x42_5_2 x42_5_3 x42_5_4 x42_6_0 x42_6_1 x42_6_2 x42_6_3 x42_6_4 l1)
def impl_JoinChunk.j1 : Nat → (List S92) → Int → (List S70) → Int → Int → Bool → Int → (List S70) → (List S70) → (List Bool) → Int → Int → (List S70) → (List S70) → (List Bool) → Int → Int → Int → Int → (List S70) → Option ((List S92) × Int × (List S70) × (List S70) × (List Bool) × Int)
 | 0, _, _, _, _, _, _, _, _, _, _, _, _, _, _, _, _, _, _, _, _ => none
 | k + 1, x41_7, x41_8, x41_20, x41_21, x41_22, x41_46, x41_5_0, x41_5_1, x41_5_2, x41_5_3, x41_5_4, x41_6_0, x41_6_1, x41_6_2, x41_6_3, x41_6_4, x41_9_0, x41_9_1, x41_9_2, l1 => if x41_46 = true then (impl_JoinChunk.l1 k x41_7 x41_8 x41_20 x41_21 x41_22 (l1.length : Int) 0 x41_5_0 x41_5_1 x41_5_2 x41_5_3 x41_5_4 x41_6_0 x41_6_1 x41_6_2 x41_6_3 x41_6_4 x41_9_0 x41_9_1 x41_9_2 l1) else (impl_JoinChunk.j0 k x41_7 x41_8 x41_20 x41_21 x41_22 x41_5_0 x41_5_1 x41_5_2 x41_5_3 x41_5_4 x41_6_0 x41_6_1 x41_6_2 x41_6_3 x41_6_4 l1)
def impl_JoinChunk.l0 : Nat → (List S92) → (List S70) → Int → Int → Int → (List S70) → (List S70) → (List Bool) → Int → Int → (List S70) → (List S70) → (List Bool) → Int → (List S70) → Option ((List S92) × Int × (List S70) × (List S70) × (List Bool) × Int)
 | 0, _, _, _, _, _, _, _, _, _, _, _, _, _, _, _ => none
 | k + 1, x22_7, x22_20, x22_21, x22_22, x22_5_0, x22_5_1, x22_5_2, x22_5_3, x22_5_4, x22_6_0, x22_6_1, x22_6_2, x22_6_3, x22_6_4, l1 => if x22_22 < x22_21 then (if 0 ≤ x22_22 then (if x22_22 < (x22_20.length : Int) then ((impl_CountMatches.f k ((rd_T70 x22_20 x22_22).f0) ((rd_T70 x22_20 x22_22).f1) ((rd_T70 x22_20 x22_22).f2) l1).bind fun t8 => (if t8 = 0 then (impl_JoinChunk.l0 k x22_7 x22_20 x22_21 (wrap64 (x22_22 + 1)) x22_5_0 x22_5_1 x22_5_2 x22_5_3 x22_5_4 x22_6_0 x22_6_1 x22_6_2 x22_6_3 x22_6_4 l1) else (if x22_6_0 = 2 then (if x22_22 < (x22_6_3.length : Int) then (if (rdOf false x22_6_3 x22_22) = true then (impl_JoinChunk.j0 k x22_7 x22_22 x22_20 x22_21 x22_22 x22_5_0 x22_5_1 x22_5_2 x22_5_3 x22_5_4 x22_6_0 x22_6_1 x22_6_2 x22_6_3 x22_6_4 l1) else (if x22_7.length < 2513169434916 then (impl_JoinChunk.j0 k (x22_7 ++ ([(⟨(⟨(rd_T70 x22_20 x22_22).f0, (rd_T70 x22_20 x22_22).f1, (rd_T70 x22_20 x22_22).f2⟩ : S70), (⟨0, 0, 0⟩ : S70), false⟩ : S92)] : List S92)) x22_22 x22_20 x22_21 x22_22 x22_5_0 x22_5_1 x22_5_2 x22_5_3 x22_5_4 x22_6_0 x22_6_1 x22_6_2 x22_6_3 x22_6_4 l1) else none)) else none) else (if x22_6_0 = 1 then (impl_JoinChunk.j1 k x22_7 x22_22 x22_20 x22_21 x22_22 (decide (x22_6_0 = 1)) x22_5_0 x22_5_1 x22_5_2 x22_5_3 x22_5_4 x22_6_0 x22_6_1 x22_6_2 x22_6_3 x22_6_4 ((rd_T70 x22_20 x22_22).f0) ((rd_T70 x22_20 x22_22).f1) ((rd_T70 x22_20 x22_22).f2) l1) else (impl_JoinChunk.j1 k x22_7 x22_22 x22_20 x22_21 x22_22 (decide (x22_6_0 = 4)) x22_5_0 x22_5_1 x22_5_2 x22_5_3 x22_5_4 x22_6_0 x22_6_1 x22_6_2 x22_6_3 x22_6_4 ((rd_T70 x22_20 x22_22).f0) ((rd_T70 x22_20 x22_22).f1) ((rd_T70 x22_20 x22_22).f2) l1))))) else none) else none) else (some (x22_7, x22_6_0, x22_6_1, x22_6_2, x22_6_3, x22_6_4))
end
def impl_JoinChunk.f (k : Nat) (a0_0 : Int) (l0_1 : List S70) (l0_2 : List S70) (l0_3 : List Bool) (a0_4 : Int) (l1 : List S70) : Option ((List S92) × Int × (List S70) × (List S70) × (List Bool) × Int) := (impl_cloneTask.f a0_0 l0_1 l0_2 l0_3 a0_4).bind fun bt1 => ((impl_IsValidTask.f k a0_0 l0_1 l0_2 l0_3 a0_4).bind fun t2 => (if t2 = true then (impl_JoinChunk.l0 k [] bt1.2.1 (bt1.2.1.length : Int) 0 0 [] [] [] 0 bt1.1 bt1.2.1 bt1.2.2.1 bt1.2.2.2.1 bt1.2.2.2.2 l1) else (some ([], bt1.1, bt1.2.1, bt1.2.2.1, bt1.2.2.2.1, bt1.2.2.2.2))))
set_option maxHeartbeats 4000000 in
set_option maxRecDepth 100000 in
theorem impl_JoinChunk.ok (k : Nat) (a0_0 : Int) (l0_1 : List S70) (Al0_1 : Option Addr) (cl0_1 : Nat) (l0_2 : List S70) (Al0_2 : Option Addr) (cl0_2 : Nat) (l0_3 : List Bool) (Al0_3 : Option Addr) (cl0_3 : Nat) (a0_4 : Int) (l1 : List S70) (Al1 : Option Addr) (cl1 : Nat) (r0 : List S92) (r1 : Int) (r2 : List S70) (r3 : List S70) (r4 : List Bool) (r5 : Int) (H : impl_JoinChunk.f k a0_0 l0_1 l0_2 l0_3 a0_4 l1 = some (r0, r1, r2, r3, r4, r5)) : Fn Try.prog 25 [.agg #[.int .i64 a0_0, .slice Al0_1 l0_1.length cl0_1, .slice Al0_2 l0_2.length cl0_2, .slice Al0_3 l0_3.length cl0_3, .int .i64 a0_4], .slice Al1 l1.length cl1] [] [.sl 0 k70 Al0_1 cl0_1 l0_1 0 false, .sl 0 k70 Al0_2 cl0_2 l0_2 0 false, .sl 0 .bool Al0_3 cl0_3 l0_3 0 false, .sl 0 k70 Al1 cl1 l1 0 false] (fun v bx en => ∃ A0 c0 A2 c2 A3 c3 A4 c4, v = .tuple #[.slice A0 r0.length c0, .agg #[.int .i64 r1, .slice A2 r2.length c2, .slice A3 r3.length c3, .slice A4 r4.length c4, .int .i64 r5]] ∧ bx = [] ∧ en = [.sl 2 k92 A0 c0 r0 1 true, .sl 2 k70 A2 c2 r2 2 true, .sl 2 k70 A3 c3 r3 3 true, .sl 2 .bool A4 c4 r4 4 true]) := by
 refine fn_ 74 Try.func25 rfl rfl rfl (fun base T w0 => ?_)
 rw [impl_JoinChunk.f] at H
 refine gs (rg (so rfl (op_box (cs := [.int .i64 a0_0, .slice Al0_1 l0_1.length cl0_1, .slice Al0_2 l0_2.length cl0_2, .slice Al0_3 l0_3.length cl0_3, .int .i64 a0_4]) rfl rfl rfl fun b2 => (sv (EV.as rfl) rfl (so rfl (op_alloc (cs := [.int .i64 0, .slice none 0 0, .slice none 0 0, .slice none 0 0, .int .i64 0]) (by kernel_rfl) rfl fun b5 => (re (gs (rg (sv (EV.ld (v := .agg #[.int .i64 a0_0, .slice Al0_1 l0_1.length cl0_1, .slice Al0_2 l0_2.length cl0_2, .slice Al0_3 l0_3.length cl0_3, .int .i64 a0_4]) 0 (some 5) rfl rfl rfl) rfl ?_))))))))))
 revert H; refine bdI ?_; rintro ⟨t1_0, t1_1, t1_2, t1_3, t1_4⟩ A1 H
 refine so rfl (op_call (impl_cloneTask.ok a0_0 l0_1 Al0_1 cl0_1 l0_2 Al0_2 cl0_2 l0_3 Al0_3 cl0_3 a0_4 _ _ _ _ _ A1) [⟨0, 0, 0, false⟩, ⟨1, 0, 0, false⟩, ⟨2, 0, 0, false⟩] 1 rfl rfl rfl rfl rfl ?_)
 rintro _ _ _ ⟨At1_1, ct1_1, At1_2, ct1_2, At1_3, ct1_3, rfl, rfl, rfl⟩
 refine so rfl (op_alloc (cs := [.int .i64 0, .slice none 0 0, .slice none 0 0, .slice none 0 0, .int .i64 0]) (by kernel_rfl) rfl fun b6 => (so rfl (op_st (cs' := [.int .i64 t1_0, .slice At1_1 t1_1.length ct1_1, .slice At1_2 t1_2.length ct1_2, .slice At1_3 t1_3.length ct1_3, .int .i64 t1_4]) 2 rfl rfl rfl rfl rfl rfl (re (gs (gs (rg (sv (EV.ld (v := .agg #[.int .i64 a0_0, .slice Al0_1 l0_1.length cl0_1, .slice Al0_2 l0_2.length cl0_2, .slice Al0_3 l0_3.length cl0_3, .int .i64 a0_4]) 0 (some 5) rfl rfl rfl) rfl ?_))))))))
 revert H; refine bdI ?_; rintro t2 A2 H
 refine so rfl (op_call (impl_IsValidTask.ok k a0_0 l0_1 Al0_1 cl0_1 l0_2 Al0_2 cl0_2 l0_3 Al0_3 cl0_3 a0_4 _ A2) [⟨0, 0, 0, false⟩, ⟨1, 0, 0, false⟩, ⟨2, 0, 0, false⟩] 5 rfl rfl rfl rfl rfl ?_)
 rintro _ _ _ ⟨rfl, rfl, rfl⟩
 refine sv (EV.nt rfl) rfl (re (pr [1, 5, 6, 16] [1, 2] [3, 4, 5, 6] rfl rfl rfl rfl ?_))
 revert H; refine ifsI ?_ ?_ <;> intro c3 H
 ·
  subst c3
  refine gf rfl rfl (gk (gs (rg (so rfl (op_lit (s := 7) (by_ := 56) k92 ([] : List S92) [] [] 5 [] rfl rfl rfl rfl rfl rfl rfl rfl rfl rfl rfl rfl rfl dq rfl fun A18_4 c18_4 => (sv (EV.as rfl) rfl (re (gs (gs (rg (sv (EV.fa 1 rfl) rfl (sv (EV.ld 1 none rfl rfl rfl) rfl (sv (EV.ln rfl) rfl (sv (EV.mv rfl) rfl (re (gb (nil_ k70 6 dq (nil_ k70 7 dq (nil_ .bool 8 dq ?_)))))))))))))))))))
  refine lo (fun kk S => ∃ (x22_7 : List S92) (Ax22_7 : Option Addr) (cx22_7 : Nat) (x22_20 : List S70) (Ax22_20 : Option Addr) (cx22_20 : Nat) (x22_21 : Int) (x22_22 : Int) (x22_5_0 : Int) (x22_5_1 : List S70) (Ax22_5_1 : Option Addr) (cx22_5_1 : Nat) (x22_5_2 : List S70) (Ax22_5_2 : Option Addr) (cx22_5_2 : Nat) (x22_5_3 : List Bool) (Ax22_5_3 : Option Addr) (cx22_5_3 : Nat) (x22_5_4 : Int) (x22_6_0 : Int) (x22_6_1 : List S70) (Ax22_6_1 : Option Addr) (cx22_6_1 : Nat) (x22_6_2 : List S70) (Ax22_6_2 : Option Addr) (cx22_6_2 : Nat) (x22_6_3 : List Bool) (Ax22_6_3 : Option Addr) (cx22_6_3 : Nat) (x22_6_4 : Int), impl_JoinChunk.l0 kk x22_7 x22_20 x22_21 x22_22 x22_5_0 x22_5_1 x22_5_2 x22_5_3 x22_5_4 x22_6_0 x22_6_1 x22_6_2 x22_6_3 x22_6_4 l1 = some (r0, r1, r2, r3, r4, r5) ∧ S = ⟨[(1, .slice Al1 l1.length cl1), (5, .pointer (some ⟨b5, 0, none⟩)), (6, .pointer (some ⟨b6, 0, none⟩)), (7, .slice Ax22_7 x22_7.length cx22_7), (20, .slice Ax22_20 x22_20.length cx22_20), (21, .int .i64 x22_21), (22, .int .i64 x22_22)], [⟨b5, 44, [.int .i64 x22_5_0, .slice Ax22_5_1 x22_5_1.length cx22_5_1, .slice Ax22_5_2 x22_5_2.length cx22_5_2, .slice Ax22_5_3 x22_5_3.length cx22_5_3, .int .i64 x22_5_4]⟩, ⟨b6, 44, [.int .i64 x22_6_0, .slice Ax22_6_1 x22_6_1.length cx22_6_1, .slice Ax22_6_2 x22_6_2.length cx22_6_2, .slice Ax22_6_3 x22_6_3.length cx22_6_3, .int .i64 x22_6_4]⟩], [.sl 2 k92 Ax22_7 cx22_7 x22_7 1 true, .sl 2 k70 Ax22_20 cx22_20 x22_20 2 true, .sl 2 k70 Ax22_5_1 cx22_5_1 x22_5_1 3 true, .sl 2 k70 Ax22_5_2 cx22_5_2 x22_5_2 4 true, .sl 2 .bool Ax22_5_3 cx22_5_3 x22_5_3 5 true, .sl 2 k70 Ax22_6_1 cx22_6_1 x22_6_1 2 true, .sl 2 k70 Ax22_6_2 cx22_6_2 x22_6_2 6 true, .sl 2 .bool Ax22_6_3 cx22_6_3 x22_6_3 7 true, .sl 0 k70 Al1 cl1 l1 0 false]⟩) (fun S hS => ?_) (fun n0 ih0 S hS => ?_) ⟨[], A18_4, c18_4, t1_1, At1_1, ct1_1, (t1_1.length : Int), 0, 0, [], none, 0, [], none, 0, [], none, 0, 0, t1_0, t1_1, At1_1, ct1_1, t1_2, At1_2, ct1_2, t1_3, At1_3, ct1_3, t1_4, H, rfl⟩ (fun h => wk [1, 5, 6, 7, 20, 21, 22] [0, 1] [⟨4, 2, 1, true⟩, ⟨1, 2, 2, true⟩, ⟨5, 2, 3, true⟩, ⟨6, 2, 4, true⟩, ⟨7, 2, 5, true⟩, ⟨1, 2, 2, true⟩, ⟨2, 2, 6, true⟩, ⟨3, 2, 7, true⟩, ⟨0, 0, 0, false⟩] h)
  · clear H; obtain ⟨_, _, _, _, _, _, _, _, _, _, _, _, _, _, _, _, _, _, _, _, _, _, _, _, _, _, _, _, _, _, H, _⟩ := hS; rw [impl_JoinChunk.l0] at H; cases H
  clear H
  obtain ⟨x22_7, Ax22_7, cx22_7, x22_20, Ax22_20, cx22_20, x22_21, x22_22, x22_5_0, x22_5_1, Ax22_5_1, cx22_5_1, x22_5_2, Ax22_5_2, cx22_5_2, x22_5_3, Ax22_5_3, cx22_5_3, x22_5_4, x22_6_0, x22_6_1, Ax22_6_1, cx22_6_1, x22_6_2, Ax22_6_2, cx22_6_2, x22_6_3, Ax22_6_3, cx22_6_3, x22_6_4, H, rfl⟩ := hS
  rw [impl_JoinChunk.l0] at H
  refine gs (rg (sv (EV.lss rfl rfl) rfl (re (gs ?_))))
  revert H; refine ifsI ?_ ?_ <;> intro c5 H
  ·
   refine gt rfl (dT c5) (gk (gs (gb (gs (rg (sv (EV.mv rfl) rfl ?_))))))
   revert H; refine ggI ?_; intro g6 H
   revert H; refine ggI ?_; intro g7 H
   refine sv (EV.ix 1 rfl rfl rfl g6 g7 rfl) rfl (sv (EV.le (v := .agg #[.int .i64 ((rd_T70 x22_20 x22_22).f0), .int .i64 ((rd_T70 x22_20 x22_22).f1), .int .i64 ((rd_T70 x22_20 x22_22).f2)]) x22_22 0 (some 3) 1 z70 rfl rfl rfl g6 g7 rfl rfl rfl) rfl (so rfl (op_alloc (cs := [.int .i64 0, .int .i64 0, .int .i64 0]) (by kernel_rfl) rfl fun b9 => (sv (EV.as rfl) rfl (so rfl (op_st (cs' := [.int .i64 ((rd_T70 x22_20 x22_22).f0), .int .i64 ((rd_T70 x22_20 x22_22).f1), .int .i64 ((rd_T70 x22_20 x22_22).f2)]) 2 rfl rfl rfl rfl rfl rfl (re (gs (gs (rg (sv (EV.ld (v := .agg #[.int .i64 ((rd_T70 x22_20 x22_22).f0), .int .i64 ((rd_T70 x22_20 x22_22).f1), .int .i64 ((rd_T70 x22_20 x22_22).f2)]) 2 (some 3) rfl rfl rfl) rfl (sv (EV.mv rfl) rfl ?_))))))))))))
   revert H; refine bdI ?_; rintro t8 A8 H
   refine so rfl (op_call (impl_CountMatches.ok n0 ((rd_T70 x22_20 x22_22).f0) ((rd_T70 x22_20 x22_22).f1) ((rd_T70 x22_20 x22_22).f2) l1 Al1 cl1 _ A8) [⟨8, 0, 0, false⟩] 8 rfl rfl rfl rfl rfl ?_)
   rintro _ _ _ ⟨rfl, rfl, rfl⟩
   refine sv (EV.eql rfl rfl) rfl (re (pr [1, 5, 6, 7, 8, 9, 20, 21, 22, 30] [0, 1, 2] [0, 1, 2, 3, 4, 5, 6, 7, 8] rfl rfl rfl rfl ?_))
   revert H; refine ifsI ?_ ?_ <;> intro c9 H
   ·
    exact gt rfl (dT c9) (gx rfl (rg (sv (EV.add rfl rfl) rfl (sv (EV.mv rfl) rfl (re (wk [1, 5, 6, 7, 20, 21, 22] [0, 1] [⟨0, 2, 1, true⟩, ⟨1, 2, 2, true⟩, ⟨2, 2, 3, true⟩, ⟨3, 2, 4, true⟩, ⟨4, 2, 5, true⟩, ⟨5, 2, 2, true⟩, ⟨6, 2, 6, true⟩, ⟨7, 2, 7, true⟩, ⟨8, 0, 0, false⟩] (ih0 _ (by omega) _ ⟨x22_7, Ax22_7, cx22_7, x22_20, Ax22_20, cx22_20, x22_21, wrap64 (x22_22 + 1), x22_5_0, x22_5_1, Ax22_5_1, cx22_5_1, x22_5_2, Ax22_5_2, cx22_5_2, x22_5_3, Ax22_5_3, cx22_5_3, x22_5_4, x22_6_0, x22_6_1, Ax22_6_1, cx22_6_1, x22_6_2, Ax22_6_2, cx22_6_2, x22_6_3, Ax22_6_3, cx22_6_3, x22_6_4, H, rfl⟩)))))))
   ·
    refine gf rfl (dF c9) (gk ?_)
    refine jo (fun S => ∃ (m : Nat) (x40_7 : List S92) (Ax40_7 : Option Addr) (cx40_7 : Nat) (x40_8 : Int) (x40_20 : List S70) (Ax40_20 : Option Addr) (cx40_20 : Nat) (x40_21 : Int) (x40_22 : Int) (x40_5_0 : Int) (x40_5_1 : List S70) (Ax40_5_1 : Option Addr) (cx40_5_1 : Nat) (x40_5_2 : List S70) (Ax40_5_2 : Option Addr) (cx40_5_2 : Nat) (x40_5_3 : List Bool) (Ax40_5_3 : Option Addr) (cx40_5_3 : Nat) (x40_5_4 : Int) (x40_6_0 : Int) (x40_6_1 : List S70) (Ax40_6_1 : Option Addr) (cx40_6_1 : Nat) (x40_6_2 : List S70) (Ax40_6_2 : Option Addr) (cx40_6_2 : Nat) (x40_6_3 : List Bool) (Ax40_6_3 : Option Addr) (cx40_6_3 : Nat) (x40_6_4 : Int), m ≤ n0 ∧ impl_JoinChunk.j0 m x40_7 x40_8 x40_20 x40_21 x40_22 x40_5_0 x40_5_1 x40_5_2 x40_5_3 x40_5_4 x40_6_0 x40_6_1 x40_6_2 x40_6_3 x40_6_4 l1 = some (r0, r1, r2, r3, r4, r5) ∧ S = ⟨[(1, .slice Al1 l1.length cl1), (5, .pointer (some ⟨b5, 0, none⟩)), (6, .pointer (some ⟨b6, 0, none⟩)), (7, .slice Ax40_7 x40_7.length cx40_7), (8, .int .i64 x40_8), (20, .slice Ax40_20 x40_20.length cx40_20), (21, .int .i64 x40_21), (22, .int .i64 x40_22)], [⟨b5, 44, [.int .i64 x40_5_0, .slice Ax40_5_1 x40_5_1.length cx40_5_1, .slice Ax40_5_2 x40_5_2.length cx40_5_2, .slice Ax40_5_3 x40_5_3.length cx40_5_3, .int .i64 x40_5_4]⟩, ⟨b6, 44, [.int .i64 x40_6_0, .slice Ax40_6_1 x40_6_1.length cx40_6_1, .slice Ax40_6_2 x40_6_2.length cx40_6_2, .slice Ax40_6_3 x40_6_3.length cx40_6_3, .int .i64 x40_6_4]⟩], [.sl 2 k92 Ax40_7 cx40_7 x40_7 1 true, .sl 2 k70 Ax40_20 cx40_20 x40_20 2 true, .sl 2 k70 Ax40_5_1 cx40_5_1 x40_5_1 3 true, .sl 2 k70 Ax40_5_2 cx40_5_2 x40_5_2 4 true, .sl 2 .bool Ax40_5_3 cx40_5_3 x40_5_3 5 true, .sl 2 k70 Ax40_6_1 cx40_6_1 x40_6_1 2 true, .sl 2 k70 Ax40_6_2 cx40_6_2 x40_6_2 6 true, .sl 2 .bool Ax40_6_3 cx40_6_3 x40_6_3 7 true, .sl 0 k70 Al1 cl1 l1 0 false]⟩) (fun S hS => ?_) (fun jh0 => ?_)
    ·
     clear H
     obtain ⟨m10, x40_7, Ax40_7, cx40_7, x40_8, x40_20, Ax40_20, cx40_20, x40_21, x40_22, x40_5_0, x40_5_1, Ax40_5_1, cx40_5_1, x40_5_2, Ax40_5_2, cx40_5_2, x40_5_3, Ax40_5_3, cx40_5_3, x40_5_4, x40_6_0, x40_6_1, Ax40_6_1, cx40_6_1, x40_6_2, Ax40_6_2, cx40_6_2, x40_6_3, Ax40_6_3, cx40_6_3, x40_6_4, lm10, H, rfl⟩ := hS
     rcases m10 with _ | m10
     · rw [impl_JoinChunk.j0] at H; cases H
     rw [impl_JoinChunk.j0] at H
     refine rg (sv (EV.fa 3 rfl) rfl (sv (EV.ld 1 none rfl rfl rfl) rfl (sv (EV.mv rfl) rfl ?_)))
     revert H; refine ggI ?_; intro g11 H
     revert H; refine ggI ?_; intro g12 H
     exact sv (EV.ix 7 rfl rfl rfl g11 g12 rfl) rfl (so rfl (op_stf x40_8 0 7 false true rfl rfl rfl rfl g11 g12 rfl rfl rfl rfl dq rfl (rlT 68 (v' := .slice Ax40_6_3 (x40_6_3.set x40_8.toNat true).length cx40_6_3) rfl (sle _ _ _ _ _) (rlB 1 (cs' := [.int .i64 x40_6_0, .slice Ax40_6_1 x40_6_1.length cx40_6_1, .slice Ax40_6_2 x40_6_2.length cx40_6_2, .slice Ax40_6_3 (x40_6_3.set x40_8.toNat true).length cx40_6_3, .int .i64 x40_6_4]) rfl (by simp only [List.length_set]) (nmE (en := [.sl 2 k92 Ax40_7 cx40_7 x40_7 1 true, .sl 2 k70 Ax40_20 cx40_20 x40_20 2 true, .sl 2 k70 Ax40_5_1 cx40_5_1 x40_5_1 3 true, .sl 2 k70 Ax40_5_2 cx40_5_2 x40_5_2 4 true, .sl 2 .bool Ax40_5_3 cx40_5_3 x40_5_3 5 true, .sl 2 k70 Ax40_6_1 cx40_6_1 x40_6_1 2 true, .sl 2 k70 Ax40_6_2 cx40_6_2 x40_6_2 6 true, .sl 0 k70 Al1 cl1 l1 0 false, .sl 2 .bool Ax40_6_3 cx40_6_3 (x40_6_3.set x40_8.toNat true) 7 true]) (by kernel_rfl) (re (ge (rg (sv (EV.add rfl rfl) rfl (sv (EV.mv rfl) rfl (re (wk [1, 5, 6, 7, 20, 21, 22] [0, 1] [⟨0, 2, 1, true⟩, ⟨1, 2, 2, true⟩, ⟨2, 2, 3, true⟩, ⟨3, 2, 4, true⟩, ⟨4, 2, 5, true⟩, ⟨5, 2, 2, true⟩, ⟨6, 2, 6, true⟩, ⟨8, 2, 7, true⟩, ⟨7, 0, 0, false⟩] (ih0 _ (by omega) _ ⟨x40_7, Ax40_7, cx40_7, x40_20, Ax40_20, cx40_20, x40_21, wrap64 (x40_22 + 1), x40_5_0, x40_5_1, Ax40_5_1, cx40_5_1, x40_5_2, Ax40_5_2, cx40_5_2, x40_5_3, Ax40_5_3, cx40_5_3, x40_5_4, x40_6_0, x40_6_1, Ax40_6_1, cx40_6_1, x40_6_2, Ax40_6_2, cx40_6_2, x40_6_3.set x40_8.toNat true, Ax40_6_3, cx40_6_3, x40_6_4, H, rfl⟩)))))))))))))
    ·
     refine gs (rg (sv (EV.fa 0 rfl) rfl (sv (EV.ld 1 none rfl rfl rfl) rfl (re (gb (gs (rg (sv (EV.eql rfl rfl) rfl (sv (EV.as rfl) rfl (re ?_))))))))))
     revert H; refine ifsI ?_ ?_ <;> intro c13 H
     ·
      refine gt rfl (dT c13) (gs (rg (sv (EV.fa 3 rfl) rfl (sv (EV.ld 1 none rfl rfl rfl) rfl (sv (EV.mv rfl) rfl ?_)))))
      revert H; refine ggI ?_; intro g14 H
      refine sv (EV.ix 7 rfl rfl rfl g6 g14 rfl) rfl (sv (EV.le (v := .bool (rdOf false x22_6_3 x22_22)) x22_22 0 none 7 false rfl rfl rfl g6 g14 rfl rfl rfl) rfl (sv (EV.nt rfl) rfl (re (pr [1, 5, 6, 7, 8, 9, 20, 21, 22, 40] [0, 1, 2] [0, 1, 2, 3, 4, 5, 6, 7, 8] rfl rfl rfl rfl ?_))))
      revert H; refine ifsI ?_ ?_ <;> intro c15 H
      ·
       exact gf rfl (bN c15) (gk (ge (wk [1, 5, 6, 7, 8, 20, 21, 22] [0, 1] [⟨0, 2, 1, true⟩, ⟨1, 2, 2, true⟩, ⟨2, 2, 3, true⟩, ⟨3, 2, 4, true⟩, ⟨4, 2, 5, true⟩, ⟨5, 2, 2, true⟩, ⟨6, 2, 6, true⟩, ⟨7, 2, 7, true⟩, ⟨8, 0, 0, false⟩] (jh0 _ ⟨_, x22_7, Ax22_7, cx22_7, x22_22, x22_20, Ax22_20, cx22_20, x22_21, x22_22, x22_5_0, x22_5_1, Ax22_5_1, cx22_5_1, x22_5_2, Ax22_5_2, cx22_5_2, x22_5_3, Ax22_5_3, cx22_5_3, x22_5_4, x22_6_0, x22_6_1, Ax22_6_1, cx22_6_1, x22_6_2, Ax22_6_2, cx22_6_2, x22_6_3, Ax22_6_3, cx22_6_3, x22_6_4, by omega, H, rfl⟩))))
      ·
       refine gt rfl (bM c15) (rg (sv (EV.mv rfl) rfl (sv (EV.ld (v := .agg #[.int .i64 ((rd_T70 x22_20 x22_22).f0), .int .i64 ((rd_T70 x22_20 x22_22).f1), .int .i64 ((rd_T70 x22_20 x22_22).f2)]) 2 (some 3) rfl rfl rfl) rfl (sv (EV.bd (v := .agg #[.int .i64 ((rd_T70 x22_20 x22_22).f0), .int .i64 ((rd_T70 x22_20 x22_22).f1), .int .i64 ((rd_T70 x22_20 x22_22).f2), .int .i64 0, .int .i64 0, .int .i64 0, .bool false]) rfl (by kernel_rfl)) rfl (so rfl (op_lit (s := 7) (by_ := 56) k92 ([(⟨(⟨(rd_T70 x22_20 x22_22).f0, (rd_T70 x22_20 x22_22).f1, (rd_T70 x22_20 x22_22).f2⟩ : S70), (⟨0, 0, 0⟩ : S70), false⟩ : S92)] : List S92) [[]] [] 8 [.tmp 43] rfl rfl rfl rfl rfl rfl rfl rfl rfl rfl rfl rfl rfl dq rfl fun A44_16 c44_16 => ?_))))))
       revert H; refine ggI ?_; intro g17 H
       exact so rfl (op_app (k := k92) (s := 7) (by_ := 56) 0 9 rfl rfl rfl rfl (ap1 g17 dq) (ap1n g17 dq) (.inl rfl) true (fun _ => .inl rfl) rfl rfl fun A45_18 c45_18 => (nmE (en := [.sl 2 k70 Ax22_20 cx22_20 x22_20 2 true, .sl 2 k70 Ax22_5_1 cx22_5_1 x22_5_1 3 true, .sl 2 k70 Ax22_5_2 cx22_5_2 x22_5_2 4 true, .sl 2 .bool Ax22_5_3 cx22_5_3 x22_5_3 5 true, .sl 2 k70 Ax22_6_1 cx22_6_1 x22_6_1 2 true, .sl 2 k70 Ax22_6_2 cx22_6_2 x22_6_2 6 true, .sl 2 .bool Ax22_6_3 cx22_6_3 x22_6_3 7 true, .sl 0 k70 Al1 cl1 l1 0 false, .sl 2 k92 A44_16 c44_16 ([(⟨(⟨(rd_T70 x22_20 x22_22).f0, (rd_T70 x22_20 x22_22).f1, (rd_T70 x22_20 x22_22).f2⟩ : S70), (⟨0, 0, 0⟩ : S70), false⟩ : S92)] : List S92) 8 true, .sl 2 k92 A45_18 c45_18 (x22_7 ++ ([(⟨(⟨(rd_T70 x22_20 x22_22).f0, (rd_T70 x22_20 x22_22).f1, (rd_T70 x22_20 x22_22).f2⟩ : S70), (⟨0, 0, 0⟩ : S70), false⟩ : S92)] : List S92)) 1 true]) (by kernel_rfl) (sv (EV.as rfl) rfl (re (pr [1, 5, 6, 7, 8, 20, 21, 22] [0, 1] [0, 1, 2, 3, 4, 5, 6, 7, 9] rfl rfl rfl rfl (ge (wk [1, 5, 6, 7, 8, 20, 21, 22] [0, 1] [⟨8, 2, 1, true⟩, ⟨0, 2, 2, true⟩, ⟨1, 2, 3, true⟩, ⟨2, 2, 4, true⟩, ⟨3, 2, 5, true⟩, ⟨4, 2, 2, true⟩, ⟨5, 2, 6, true⟩, ⟨6, 2, 7, true⟩, ⟨7, 0, 0, false⟩] (jh0 _ ⟨_, x22_7 ++ ([(⟨(⟨(rd_T70 x22_20 x22_22).f0, (rd_T70 x22_20 x22_22).f1, (rd_T70 x22_20 x22_22).f2⟩ : S70), (⟨0, 0, 0⟩ : S70), false⟩ : S92)] : List S92), A45_18, c45_18, x22_22, x22_20, Ax22_20, cx22_20, x22_21, x22_22, x22_5_0, x22_5_1, Ax22_5_1, cx22_5_1, x22_5_2, Ax22_5_2, cx22_5_2, x22_5_3, Ax22_5_3, cx22_5_3, x22_5_4, x22_6_0, x22_6_1, Ax22_6_1, cx22_6_1, x22_6_2, Ax22_6_2, cx22_6_2, x22_6_3, Ax22_6_3, cx22_6_3, x22_6_4, by omega, H, rfl⟩))))))))
     ·
      refine gf rfl (dF c13) ?_
      refine jo (fun S => ∃ (m : Nat) (x41_7 : List S92) (Ax41_7 : Option Addr) (cx41_7 : Nat) (x41_8 : Int) (x41_20 : List S70) (Ax41_20 : Option Addr) (cx41_20 : Nat) (x41_21 : Int) (x41_22 : Int) (x41_46 : Bool) (x41_5_0 : Int) (x41_5_1 : List S70) (Ax41_5_1 : Option Addr) (cx41_5_1 : Nat) (x41_5_2 : List S70) (Ax41_5_2 : Option Addr) (cx41_5_2 : Nat) (x41_5_3 : List Bool) (Ax41_5_3 : Option Addr) (cx41_5_3 : Nat) (x41_5_4 : Int) (x41_6_0 : Int) (x41_6_1 : List S70) (Ax41_6_1 : Option Addr) (cx41_6_1 : Nat) (x41_6_2 : List S70) (Ax41_6_2 : Option Addr) (cx41_6_2 : Nat) (x41_6_3 : List Bool) (Ax41_6_3 : Option Addr) (cx41_6_3 : Nat) (x41_6_4 : Int) (x41_9_0 : Int) (x41_9_1 : Int) (x41_9_2 : Int), m ≤ n0 ∧ impl_JoinChunk.j1 m x41_7 x41_8 x41_20 x41_21 x41_22 x41_46 x41_5_0 x41_5_1 x41_5_2 x41_5_3 x41_5_4 x41_6_0 x41_6_1 x41_6_2 x41_6_3 x41_6_4 x41_9_0 x41_9_1 x41_9_2 l1 = some (r0, r1, r2, r3, r4, r5) ∧ S = ⟨[(1, .slice Al1 l1.length cl1), (5, .pointer (some ⟨b5, 0, none⟩)), (6, .pointer (some ⟨b6, 0, none⟩)), (7, .slice Ax41_7 x41_7.length cx41_7), (8, .int .i64 x41_8), (9, .pointer (some ⟨b9, 0, none⟩)), (20, .slice Ax41_20 x41_20.length cx41_20), (21, .int .i64 x41_21), (22, .int .i64 x41_22), (46, .bool x41_46)], [⟨b5, 44, [.int .i64 x41_5_0, .slice Ax41_5_1 x41_5_1.length cx41_5_1, .slice Ax41_5_2 x41_5_2.length cx41_5_2, .slice Ax41_5_3 x41_5_3.length cx41_5_3, .int .i64 x41_5_4]⟩, ⟨b6, 44, [.int .i64 x41_6_0, .slice Ax41_6_1 x41_6_1.length cx41_6_1, .slice Ax41_6_2 x41_6_2.length cx41_6_2, .slice Ax41_6_3 x41_6_3.length cx41_6_3, .int .i64 x41_6_4]⟩, ⟨b9, 70, [.int .i64 x41_9_0, .int .i64 x41_9_1, .int .i64 x41_9_2]⟩], [.sl 2 k92 Ax41_7 cx41_7 x41_7 1 true, .sl 2 k70 Ax41_20 cx41_20 x41_20 2 true, .sl 2 k70 Ax41_5_1 cx41_5_1 x41_5_1 3 true, .sl 2 k70 Ax41_5_2 cx41_5_2 x41_5_2 4 true, .sl 2 .bool Ax41_5_3 cx41_5_3 x41_5_3 5 true, .sl 2 k70 Ax41_6_1 cx41_6_1 x41_6_1 2 true, .sl 2 k70 Ax41_6_2 cx41_6_2 x41_6_2 6 true, .sl 2 .bool Ax41_6_3 cx41_6_3 x41_6_3 7 true, .sl 0 k70 Al1 cl1 l1 0 false]⟩) (fun S hS => ?_) (fun jh1 => ?_)
      ·
       clear H
       obtain ⟨m19, x41_7, Ax41_7, cx41_7, x41_8, x41_20, Ax41_20, cx41_20, x41_21, x41_22, x41_46, x41_5_0, x41_5_1, Ax41_5_1, cx41_5_1, x41_5_2, Ax41_5_2, cx41_5_2, x41_5_3, Ax41_5_3, cx41_5_3, x41_5_4, x41_6_0, x41_6_1, Ax41_6_1, cx41_6_1, x41_6_2, Ax41_6_2, cx41_6_2, x41_6_3, Ax41_6_3, cx41_6_3, x41_6_4, x41_9_0, x41_9_1, x41_9_2, lm19, H, rfl⟩ := hS
       rcases m19 with _ | m19
       · rw [impl_JoinChunk.j1] at H; cases H
       rw [impl_JoinChunk.j1] at H
       revert H; refine ifsI ?_ ?_ <;> intro c20 H
       ·
        subst c20
        refine gt rfl rfl (gs (rg (sv (EV.mv rfl) rfl (sv (EV.ln rfl) rfl (sv (EV.mv rfl) rfl (re (gb ?_)))))))
        refine lo (fun kk S => ∃ (x42_7 : List S92) (Ax42_7 : Option Addr) (cx42_7 : Nat) (x42_8 : Int) (x42_20 : List S70) (Ax42_20 : Option Addr) (cx42_20 : Nat) (x42_21 : Int) (x42_22 : Int) (x42_50 : Int) (x42_51 : Int) (x42_5_0 : Int) (x42_5_1 : List S70) (Ax42_5_1 : Option Addr) (cx42_5_1 : Nat) (x42_5_2 : List S70) (Ax42_5_2 : Option Addr) (cx42_5_2 : Nat) (x42_5_3 : List Bool) (Ax42_5_3 : Option Addr) (cx42_5_3 : Nat) (x42_5_4 : Int) (x42_6_0 : Int) (x42_6_1 : List S70) (Ax42_6_1 : Option Addr) (cx42_6_1 : Nat) (x42_6_2 : List S70) (Ax42_6_2 : Option Addr) (cx42_6_2 : Nat) (x42_6_3 : List Bool) (Ax42_6_3 : Option Addr) (cx42_6_3 : Nat) (x42_6_4 : Int) (x42_9_0 : Int) (x42_9_1 : Int) (x42_9_2 : Int), kk ≤ m19 ∧ impl_JoinChunk.l1 kk x42_7 x42_8 x42_20 x42_21 x42_22 x42_50 x42_51 x42_5_0 x42_5_1 x42_5_2 x42_5_3 x42_5_4 x42_6_0 x42_6_1 x42_6_2 x42_6_3 x42_6_4 x42_9_0 x42_9_1 x42_9_2 l1 = some (r0, r1, r2, r3, r4, r5) ∧ S = ⟨[(1, .slice Al1 l1.length cl1), (5, .pointer (some ⟨b5, 0, none⟩)), (6, .pointer (some ⟨b6, 0, none⟩)), (7, .slice Ax42_7 x42_7.length cx42_7), (8, .int .i64 x42_8), (9, .pointer (some ⟨b9, 0, none⟩)), (20, .slice Ax42_20 x42_20.length cx42_20), (21, .int .i64 x42_21), (22, .int .i64 x42_22), (49, .slice Al1 l1.length cl1), (50, .int .i64 x42_50), (51, .int .i64 x42_51)], [⟨b5, 44, [.int .i64 x42_5_0, .slice Ax42_5_1 x42_5_1.length cx42_5_1, .slice Ax42_5_2 x42_5_2.length cx42_5_2, .slice Ax42_5_3 x42_5_3.length cx42_5_3, .int .i64 x42_5_4]⟩, ⟨b6, 44, [.int .i64 x42_6_0, .slice Ax42_6_1 x42_6_1.length cx42_6_1, .slice Ax42_6_2 x42_6_2.length cx42_6_2, .slice Ax42_6_3 x42_6_3.length cx42_6_3, .int .i64 x42_6_4]⟩, ⟨b9, 70, [.int .i64 x42_9_0, .int .i64 x42_9_1, .int .i64 x42_9_2]⟩], [.sl 2 k92 Ax42_7 cx42_7 x42_7 1 true, .sl 2 k70 Ax42_20 cx42_20 x42_20 2 true, .sl 2 k70 Ax42_5_1 cx42_5_1 x42_5_1 3 true, .sl 2 k70 Ax42_5_2 cx42_5_2 x42_5_2 4 true, .sl 2 .bool Ax42_5_3 cx42_5_3 x42_5_3 5 true, .sl 2 k70 Ax42_6_1 cx42_6_1 x42_6_1 2 true, .sl 2 k70 Ax42_6_2 cx42_6_2 x42_6_2 6 true, .sl 2 .bool Ax42_6_3 cx42_6_3 x42_6_3 7 true, .sl 0 k70 Al1 cl1 l1 0 false]⟩) (fun S hS => ?_) (fun n1 ih1 S hS => ?_) ⟨x41_7, Ax41_7, cx41_7, x41_8, x41_20, Ax41_20, cx41_20, x41_21, x41_22, (l1.length : Int), 0, x41_5_0, x41_5_1, Ax41_5_1, cx41_5_1, x41_5_2, Ax41_5_2, cx41_5_2, x41_5_3, Ax41_5_3, cx41_5_3, x41_5_4, x41_6_0, x41_6_1, Ax41_6_1, cx41_6_1, x41_6_2, Ax41_6_2, cx41_6_2, x41_6_3, Ax41_6_3, cx41_6_3, x41_6_4, x41_9_0, x41_9_1, x41_9_2, by omega, H, rfl⟩ (fun h => wk [1, 5, 6, 7, 8, 9, 20, 21, 22, 49, 50, 51] [0, 1, 2] [⟨0, 2, 1, true⟩, ⟨1, 2, 2, true⟩, ⟨2, 2, 3, true⟩, ⟨3, 2, 4, true⟩, ⟨4, 2, 5, true⟩, ⟨5, 2, 2, true⟩, ⟨6, 2, 6, true⟩, ⟨7, 2, 7, true⟩, ⟨8, 0, 0, false⟩] h)
        · clear H; obtain ⟨_, _, _, _, _, _, _, _, _, _, _, _, _, _, _, _, _, _, _, _, _, _, _, _, _, _, _, _, _, _, _, _, _, _, _, _, _, H, _⟩ := hS; rw [impl_JoinChunk.l1] at H; cases H
        clear H
        obtain ⟨x42_7, Ax42_7, cx42_7, x42_8, x42_20, Ax42_20, cx42_20, x42_21, x42_22, x42_50, x42_51, x42_5_0, x42_5_1, Ax42_5_1, cx42_5_1, x42_5_2, Ax42_5_2, cx42_5_2, x42_5_3, Ax42_5_3, cx42_5_3, x42_5_4, x42_6_0, x42_6_1, Ax42_6_1, cx42_6_1, x42_6_2, Ax42_6_2, cx42_6_2, x42_6_3, Ax42_6_3, cx42_6_3, x42_6_4, x42_9_0, x42_9_1, x42_9_2, lk1, H, rfl⟩ := hS
        rw [impl_JoinChunk.l1] at H
        refine gs (rg (sv (EV.lss rfl rfl) rfl (re (gs ?_))))
        revert H; refine ifsI ?_ ?_ <;> intro c21 H
        ·
         refine gt rfl (dT c21) (gk (gs (gb (gs (rg ?_)))))
         revert H; refine ggI ?_; intro g22 H
         revert H; refine ggI ?_; intro g23 H
         refine sv (EV.ix 8 rfl rfl rfl g22 g23 rfl) rfl (sv (EV.le (v := .agg #[.int .i64 ((rd_T70 l1 x42_51).f0), .int .i64 ((rd_T70 l1 x42_51).f1), .int .i64 ((rd_T70 l1 x42_51).f2)]) x42_51 0 (some 3) 8 z70 rfl rfl rfl g22 g23 rfl rfl rfl) rfl (so rfl (op_alloc (cs := [.int .i64 0, .int .i64 0, .int .i64 0]) (by kernel_rfl) rfl fun b11 => (so rfl (op_st (cs' := [.int .i64 ((rd_T70 l1 x42_51).f0), .int .i64 ((rd_T70 l1 x42_51).f1), .int .i64 ((rd_T70 l1 x42_51).f2)]) 3 rfl rfl rfl rfl rfl rfl (re (gs (rg (sv (EV.fa 0 rfl) rfl (sv (EV.ld 3 none rfl rfl rfl) rfl (sv (EV.fa 0 rfl) rfl (sv (EV.ld 2 none rfl rfl rfl) rfl (sv (EV.eql rfl rfl) rfl (re (pr [1, 5, 6, 7, 8, 9, 11, 20, 21, 22, 49, 50, 51, 59] [0, 1, 2, 3] [0, 1, 2, 3, 4, 5, 6, 7, 8] rfl rfl rfl rfl ?_)))))))))))))))
         revert H; refine ifsI ?_ ?_ <;> intro c24 H
         ·
          refine gt rfl (dT c24) (rg (sv (EV.mv rfl) rfl (sv (EV.ld (v := .agg #[.int .i64 x42_9_0, .int .i64 x42_9_1, .int .i64 x42_9_2]) 2 (some 3) rfl rfl rfl) rfl (sv (EV.ld (v := .agg #[.int .i64 ((rd_T70 l1 x42_51).f0), .int .i64 ((rd_T70 l1 x42_51).f1), .int .i64 ((rd_T70 l1 x42_51).f2)]) 3 (some 3) rfl rfl rfl) rfl (sv (EV.bd (v := .agg #[.int .i64 x42_9_0, .int .i64 x42_9_1, .int .i64 x42_9_2, .int .i64 ((rd_T70 l1 x42_51).f0), .int .i64 ((rd_T70 l1 x42_51).f1), .int .i64 ((rd_T70 l1 x42_51).f2), .bool true]) rfl (by kernel_rfl)) rfl (so rfl (op_lit (s := 7) (by_ := 56) k92 ([(⟨(⟨x42_9_0, x42_9_1, x42_9_2⟩ : S70), (⟨(rd_T70 l1 x42_51).f0, (rd_T70 l1 x42_51).f1, (rd_T70 l1 x42_51).f2⟩ : S70), true⟩ : S92)] : List S92) [[]] [] 8 [.tmp 63] rfl rfl rfl rfl rfl rfl rfl rfl rfl rfl rfl rfl rfl dq rfl fun A64_25 c64_25 => ?_)))))))
          revert H; refine ggI ?_; intro g26 H
          exact so rfl (op_app (k := k92) (s := 7) (by_ := 56) 0 9 rfl rfl rfl rfl (ap1 g26 dq) (ap1n g26 dq) (.inl rfl) true (fun _ => .inl rfl) rfl rfl fun A65_27 c65_27 => (nmE (en := [.sl 2 k70 Ax42_20 cx42_20 x42_20 2 true, .sl 2 k70 Ax42_5_1 cx42_5_1 x42_5_1 3 true, .sl 2 k70 Ax42_5_2 cx42_5_2 x42_5_2 4 true, .sl 2 .bool Ax42_5_3 cx42_5_3 x42_5_3 5 true, .sl 2 k70 Ax42_6_1 cx42_6_1 x42_6_1 2 true, .sl 2 k70 Ax42_6_2 cx42_6_2 x42_6_2 6 true, .sl 2 .bool Ax42_6_3 cx42_6_3 x42_6_3 7 true, .sl 0 k70 Al1 cl1 l1 0 false, .sl 2 k92 A64_25 c64_25 ([(⟨(⟨x42_9_0, x42_9_1, x42_9_2⟩ : S70), (⟨(rd_T70 l1 x42_51).f0, (rd_T70 l1 x42_51).f1, (rd_T70 l1 x42_51).f2⟩ : S70), true⟩ : S92)] : List S92) 8 true, .sl 2 k92 A65_27 c65_27 (x42_7 ++ ([(⟨(⟨x42_9_0, x42_9_1, x42_9_2⟩ : S70), (⟨(rd_T70 l1 x42_51).f0, (rd_T70 l1 x42_51).f1, (rd_T70 l1 x42_51).f2⟩ : S70), true⟩ : S92)] : List S92)) 1 true]) (by kernel_rfl) (sv (EV.as rfl) rfl (re (pr [1, 5, 6, 7, 8, 9, 20, 21, 22, 49, 50, 51] [0, 1, 2] [0, 1, 2, 3, 4, 5, 6, 7, 9] rfl rfl rfl rfl (ge (rg (sv (EV.add rfl rfl) rfl (sv (EV.mv rfl) rfl (re (wk [1, 5, 6, 7, 8, 9, 20, 21, 22, 49, 50, 51] [0, 1, 2] [⟨8, 2, 1, true⟩, ⟨0, 2, 2, true⟩, ⟨1, 2, 3, true⟩, ⟨2, 2, 4, true⟩, ⟨3, 2, 5, true⟩, ⟨4, 2, 2, true⟩, ⟨5, 2, 6, true⟩, ⟨6, 2, 7, true⟩, ⟨7, 0, 0, false⟩] (ih1 _ (by omega) _ ⟨x42_7 ++ ([(⟨(⟨x42_9_0, x42_9_1, x42_9_2⟩ : S70), (⟨(rd_T70 l1 x42_51).f0, (rd_T70 l1 x42_51).f1, (rd_T70 l1 x42_51).f2⟩ : S70), true⟩ : S92)] : List S92), A65_27, c65_27, x42_8, x42_20, Ax42_20, cx42_20, x42_21, x42_22, x42_50, wrap64 (x42_51 + 1), x42_5_0, x42_5_1, Ax42_5_1, cx42_5_1, x42_5_2, Ax42_5_2, cx42_5_2, x42_5_3, Ax42_5_3, cx42_5_3, x42_5_4, x42_6_0, x42_6_1, Ax42_6_1, cx42_6_1, x42_6_2, Ax42_6_2, cx42_6_2, x42_6_3, Ax42_6_3, cx42_6_3, x42_6_4, x42_9_0, x42_9_1, x42_9_2, by omega, H, rfl⟩))))))))))))
         ·
          exact gf rfl (dF c24) (gk (ge (rg (sv (EV.add rfl rfl) rfl (sv (EV.mv rfl) rfl (re (wk [1, 5, 6, 7, 8, 9, 20, 21, 22, 49, 50, 51] [0, 1, 2] [⟨0, 2, 1, true⟩, ⟨1, 2, 2, true⟩, ⟨2, 2, 3, true⟩, ⟨3, 2, 4, true⟩, ⟨4, 2, 5, true⟩, ⟨5, 2, 2, true⟩, ⟨6, 2, 6, true⟩, ⟨7, 2, 7, true⟩, ⟨8, 0, 0, false⟩] (ih1 _ (by omega) _ ⟨x42_7, Ax42_7, cx42_7, x42_8, x42_20, Ax42_20, cx42_20, x42_21, x42_22, x42_50, wrap64 (x42_51 + 1), x42_5_0, x42_5_1, Ax42_5_1, cx42_5_1, x42_5_2, Ax42_5_2, cx42_5_2, x42_5_3, Ax42_5_3, cx42_5_3, x42_5_4, x42_6_0, x42_6_1, Ax42_6_1, cx42_6_1, x42_6_2, Ax42_6_2, cx42_6_2, x42_6_3, Ax42_6_3, cx42_6_3, x42_6_4, x42_9_0, x42_9_1, x42_9_2, by omega, H, rfl⟩))))))))
        ·
         exact gf rfl (dF c21) (gx rfl (ge (wk [1, 5, 6, 7, 8, 20, 21, 22] [0, 1] [⟨0, 2, 1, true⟩, ⟨1, 2, 2, true⟩, ⟨2, 2, 3, true⟩, ⟨3, 2, 4, true⟩, ⟨4, 2, 5, true⟩, ⟨5, 2, 2, true⟩, ⟨6, 2, 6, true⟩, ⟨7, 2, 7, true⟩, ⟨8, 0, 0, false⟩] (jh0 _ ⟨_, x42_7, Ax42_7, cx42_7, x42_8, x42_20, Ax42_20, cx42_20, x42_21, x42_22, x42_5_0, x42_5_1, Ax42_5_1, cx42_5_1, x42_5_2, Ax42_5_2, cx42_5_2, x42_5_3, Ax42_5_3, cx42_5_3, x42_5_4, x42_6_0, x42_6_1, Ax42_6_1, cx42_6_1, x42_6_2, Ax42_6_2, cx42_6_2, x42_6_3, Ax42_6_3, cx42_6_3, x42_6_4, by omega, H, rfl⟩))))
       ·
        obtain rfl := bF c20
        exact gf rfl rfl (gk (ge (wk [1, 5, 6, 7, 8, 20, 21, 22] [0, 1] [⟨0, 2, 1, true⟩, ⟨1, 2, 2, true⟩, ⟨2, 2, 3, true⟩, ⟨3, 2, 4, true⟩, ⟨4, 2, 5, true⟩, ⟨5, 2, 2, true⟩, ⟨6, 2, 6, true⟩, ⟨7, 2, 7, true⟩, ⟨8, 0, 0, false⟩] (jh0 _ ⟨_, x41_7, Ax41_7, cx41_7, x41_8, x41_20, Ax41_20, cx41_20, x41_21, x41_22, x41_5_0, x41_5_1, Ax41_5_1, cx41_5_1, x41_5_2, Ax41_5_2, cx41_5_2, x41_5_3, Ax41_5_3, cx41_5_3, x41_5_4, x41_6_0, x41_6_1, Ax41_6_1, cx41_6_1, x41_6_2, Ax41_6_2, cx41_6_2, x41_6_3, Ax41_6_3, cx41_6_3, x41_6_4, by omega, H, rfl⟩))))
      ·
       refine gs (rg (sv (EV.eql rfl rfl) rfl (sv (EV.as rfl) rfl (re ?_))))
       revert H; refine ifsI ?_ ?_ <;> intro c28 H
       ·
        exact gt rfl (dT c28) (gk (wk [1, 5, 6, 7, 8, 9, 20, 21, 22, 46] [0, 1, 2] [⟨0, 2, 1, true⟩, ⟨1, 2, 2, true⟩, ⟨2, 2, 3, true⟩, ⟨3, 2, 4, true⟩, ⟨4, 2, 5, true⟩, ⟨5, 2, 2, true⟩, ⟨6, 2, 6, true⟩, ⟨7, 2, 7, true⟩, ⟨8, 0, 0, false⟩] (jh1 _ ⟨_, x22_7, Ax22_7, cx22_7, x22_22, x22_20, Ax22_20, cx22_20, x22_21, x22_22, decide (x22_6_0 = 1), x22_5_0, x22_5_1, Ax22_5_1, cx22_5_1, x22_5_2, Ax22_5_2, cx22_5_2, x22_5_3, Ax22_5_3, cx22_5_3, x22_5_4, x22_6_0, x22_6_1, Ax22_6_1, cx22_6_1, x22_6_2, Ax22_6_2, cx22_6_2, x22_6_3, Ax22_6_3, cx22_6_3, x22_6_4, (rd_T70 x22_20 x22_22).f0, (rd_T70 x22_20 x22_22).f1, (rd_T70 x22_20 x22_22).f2, by omega, H, rfl⟩)))
       ·
        exact gf rfl (dF c28) (rg (sv (EV.eql rfl rfl) rfl (sv (EV.as rfl) rfl (re (pr [1, 5, 6, 7, 8, 9, 20, 21, 22, 46] [0, 1, 2] [0, 1, 2, 3, 4, 5, 6, 7, 8] rfl rfl rfl rfl (wk [1, 5, 6, 7, 8, 9, 20, 21, 22, 46] [0, 1, 2] [⟨0, 2, 1, true⟩, ⟨1, 2, 2, true⟩, ⟨2, 2, 3, true⟩, ⟨3, 2, 4, true⟩, ⟨4, 2, 5, true⟩, ⟨5, 2, 2, true⟩, ⟨6, 2, 6, true⟩, ⟨7, 2, 7, true⟩, ⟨8, 0, 0, false⟩] (jh1 _ ⟨_, x22_7, Ax22_7, cx22_7, x22_22, x22_20, Ax22_20, cx22_20, x22_21, x22_22, decide (x22_6_0 = 4), x22_5_0, x22_5_1, Ax22_5_1, cx22_5_1, x22_5_2, Ax22_5_2, cx22_5_2, x22_5_3, Ax22_5_3, cx22_5_3, x22_5_4, x22_6_0, x22_6_1, Ax22_6_1, cx22_6_1, x22_6_2, Ax22_6_2, cx22_6_2, x22_6_3, Ax22_6_3, cx22_6_3, x22_6_4, (rd_T70 x22_20 x22_22).f0, (rd_T70 x22_20 x22_22).f1, (rd_T70 x22_20 x22_22).f2, by omega, H, rfl⟩)))))))
  ·
   refine gf rfl (dF c5) (gx rfl (gs (dr [0, 1] [0, 1, 2, 3, 4, 5, 6, 7, 8] [3] 4 rfl rfl rfl rfl (xv 0 [0, 1] [0, 1, 2, 3, 4, 5, 6, 7, 8] rfl (EV.mv rfl) rfl rfl rfl rfl (xv 1 [0, 1] [0, 1, 2, 3, 4, 5, 6, 7, 8] rfl (EV.ld (v := .agg #[.int .i64 x22_6_0, .slice Ax22_6_1 x22_6_1.length cx22_6_1, .slice Ax22_6_2 x22_6_2.length cx22_6_2, .slice Ax22_6_3 x22_6_3.length cx22_6_3, .int .i64 x22_6_4]) 1 (some 5) rfl rfl rfl) rfl rfl rfl rfl (xv 2 [0, 1] [0, 1, 2, 3, 4, 5, 6, 7, 8] rfl (EV.as rfl) rfl rfl rfl rfl (one1 3 rfl rfl (op_st (cs' := [.int .i64 x22_6_0, .slice Ax22_6_1 x22_6_1.length cx22_6_1, .slice Ax22_6_2 x22_6_2.length cx22_6_2, .slice Ax22_6_3 x22_6_3.length cx22_6_3, .int .i64 x22_6_4]) 0 rfl rfl rfl rfl rfl rfl (xn rfl (xd (pr [4, 5] [0] [0, 5, 6, 7] rfl rfl rfl rfl ?_)))))))))))
   cases H
   exact rt Try.func25 rfl (.tmp rfl (.cell 0 (some 5) rfl rfl rfl .nil)) rfl [] [⟨0, 2, 1, true⟩, ⟨1, 2, 2, true⟩, ⟨2, 2, 3, true⟩, ⟨3, 2, 4, true⟩] rfl rfl rfl rfl rfl ⟨_, _, _, _, _, _, _, _, rfl, rfl, rfl⟩
 ·
  obtain rfl := bF c3
  refine gt rfl rfl (gs (dr [0, 1] [0, 1, 2, 3] [2] 3 rfl rfl rfl rfl (xv 0 [0, 1] [0, 1, 2, 3] rfl (EV.ld (v := .agg #[.int .i64 t1_0, .slice At1_1 t1_1.length ct1_1, .slice At1_2 t1_2.length ct1_2, .slice At1_3 t1_3.length ct1_3, .int .i64 t1_4]) 1 (some 5) rfl rfl rfl) rfl rfl rfl rfl (xv 1 [0, 1] [0, 1, 2, 3] rfl (EV.as rfl) rfl rfl rfl rfl (one1 2 rfl rfl (op_st (cs' := [.int .i64 t1_0, .slice At1_1 t1_1.length ct1_1, .slice At1_2 t1_2.length ct1_2, .slice At1_3 t1_3.length ct1_3, .int .i64 t1_4]) 0 rfl rfl rfl rfl rfl rfl (xn rfl (xd (nil_ k92 5 dq ?_)))))))))
  cases H
  exact rt Try.func25 rfl (.tmp rfl (.cell 0 (some 5) rfl rfl rfl .nil)) rfl [] [⟨4, 2, 1, true⟩, ⟨1, 2, 2, true⟩, ⟨2, 2, 3, true⟩, ⟨3, 2, 4, true⟩] rfl rfl rfl rfl rfl ⟨_, _, _, _, _, _, _, _, rfl, rfl, rfl⟩
end Go.Proofs.Ytajjeemkdjfilaa.K
