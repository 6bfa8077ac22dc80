/- Walks: what the functions compute. Printed by gen.py; no condition. -/
import Derived.Test.YtamjndlkompeeaaVFnAggregatorRoundTripa
namespace Go.Proofs.Ytamjndlkompeeaa.K
open Go Go.RowKit
set_option linter.unusedVariables false
set_option linter.unusedSimpArgs false
def spec_l22Agger.l0 : Nat → Int → Int → Int → (List S102) → Int → Bool → (List S102) → Int → Bool → (List Int) → Option ((List S102) × Int × Bool × Int × Int)
 | 0, _, _, _, _, _, _, _, _, _, _ => none
 | k + 1, x4_5, x4_1000_1, x4_1000_2, x4_2_0, x4_2_1, x4_2_2, x4_3_0, x4_3_1, x4_3_2, l0_0 => if x4_5 > 0 then ((spec_l1PickInt.f l0_0 x4_1000_1 x4_1000_2 ([8, 9, 12] : List Int)).bind fun bt7 => ((spec_StepAggregator.f k x4_3_0 x4_3_1 x4_3_2 bt7.1).bind fun bt8 => (spec_l22Agger.l0 k (wrap64 (x4_5 - 1)) bt7.2.1 bt7.2.2 x4_2_0 x4_2_1 x4_2_2 bt8.1 bt8.2.1 bt8.2.2.1 l0_0))) else ((spec_l1Below.f l0_0 x4_1000_1 x4_1000_2 14).bind fun bt14 => (if bt14.1 = 0 then (if x4_3_0.length < 4398046511104 then ((spec_l2Bent.f k l0_0 bt14.2.1 bt14.2.2 4).bind fun bt17 => ((spec_l1Below.f l0_0 bt17.2.1 bt17.2.2 7).bind fun bt18 => (some (x4_3_0 ++ ([(⟨bt17.1, wrap64 (bt18.1 - 1)⟩ : S102)] : List S102), x4_3_1, x4_3_2, bt18.2.1, bt18.2.2)))) else none) else (if bt14.1 = 1 then ((spec_l1PickInt.f l0_0 bt14.2.1 bt14.2.2 ([(-1), 100001] : List Int)).bind fun bt23 => (some (x4_3_0, bt23.1, x4_3_2, bt23.2.1, bt23.2.2))) else (some (x4_3_0, x4_3_1, x4_3_2, bt14.2.1, bt14.2.2)))))
def spec_l22Agger.f (k : Nat) (l0_0 : List Int) (a0_1 : Int) (a0_2 : Int) : Option ((List S102) × Int × Bool × Int × Int) := (spec_l2Rows.f k l0_0 a0_1 a0_2 14).bind fun bt1 => ((spec_l1Once.f l0_0 bt1.2.1 bt1.2.2 3).bind fun bt2 => ((spec_NewAggregator.f k bt1.1 bt2.1).bind fun bt3 => ((spec_l1Below.f l0_0 bt2.2.1 bt2.2.2 4).bind fun bt4 => (spec_l22Agger.l0 k bt4.1 bt4.2.1 bt4.2.2 [] 0 false bt3.1 bt3.2.1 bt3.2.2.1 l0_0))))
set_option maxHeartbeats 4000000 in
set_option maxRecDepth 100000 in
theorem spec_l22Agger.ok (k : Nat) (b1000 : Nat) (l0_0 : List Int) (Al0_0 : Option Addr) (cl0_0 : Nat) (a0_1 : Int) (a0_2 : Int) (r0 : List S102) (r1 : Int) (r2 : Bool) (r3 : Int) (r4 : Int) (H : spec_l22Agger.f k l0_0 a0_1 a0_2 = some (r0, r1, r2, r3, r4)) : Fn Try.prog 84 [.pointer (some ⟨b1000, 0, none⟩)] [⟨b1000, 119, [.slice Al0_0 l0_0.length cl0_0, .int .i64 a0_1, .int .i64 a0_2]⟩] [.sl 0 (.int .u8) Al0_0 cl0_0 l0_0 0 false] (fun v bx en => ∃ A0 c0, v = .agg #[.slice A0 r0.length c0, .int .i64 r1, .bool r2] ∧ bx = [⟨b1000, 119, [.slice Al0_0 l0_0.length cl0_0, .int .i64 r3, .int .i64 r4]⟩] ∧ en = [.sl 1 k102 A0 c0 r0 1 true]) := by
 refine fn_ 52 Try.func84 rfl rfl rfl (fun base T w0 => ?_)
 rw [spec_l22Agger.f] at H
 refine gs (rg (so rfl (op_alloc (cs := [.slice none 0 0, .int .i64 0, .bool false]) (by kernel_rfl) rfl fun b2 => (re (gs (rg (sv (EV.mv rfl) rfl ?_)))))))
 revert H; refine bdI ?_; rintro ⟨t1_0, t1_1, t1_2⟩ A1 H
 refine so rfl (op_callM (spec_l2Rows.ok k b1000 l0_0 Al0_0 cl0_0 a0_1 a0_2 14 _ _ _ A1) [⟨0, 0, 0, false⟩] [0] [1] 1 rfl rfl rfl rfl rfl rfl rfl rfl ?_)
 rintro _ _ _ ⟨At1_0, ct1_0, rfl, rfl, rfl⟩
 refine nmE (en := [.sl 0 (.int .u8) Al0_0 cl0_0 l0_0 0 false, .sl 2 k99 At1_0 ct1_0 t1_0 2 true]) (by kernel_rfl) (sv (EV.mv rfl) rfl ?_)
 revert H; refine bdI ?_; rintro ⟨t2_0, t2_1, t2_2⟩ A2 H
 refine so rfl (op_callM (spec_l1Once.ok b1000 l0_0 Al0_0 cl0_0 t1_1 t1_2 3 _ _ _ A2) [⟨0, 0, 0, false⟩] [1] [0] 3 rfl rfl rfl rfl rfl rfl rfl rfl ?_)
 rintro _ _ _ ⟨rfl, rfl, rfl⟩
 refine nmE (en := [.sl 0 (.int .u8) Al0_0 cl0_0 l0_0 0 false, .sl 2 k99 At1_0 ct1_0 t1_0 2 true]) (by kernel_rfl) ?_
 revert H; refine bdI ?_; rintro ⟨t3_0, t3_1, t3_2, t3_3⟩ A3 H
 refine so rfl (op_call (spec_NewAggregator.ok k t1_0 At1_0 ct1_0 t2_0 _ _ _ _ A3) [⟨1, 0, 0, false⟩] 3 rfl rfl rfl rfl rfl ?_)
 rintro _ _ _ ⟨At3_0, ct3_0, rfl, rfl, rfl⟩
 refine sv (EV.mv rfl) rfl (sv (EV.ex rfl rfl) rfl (sv (EV.ex rfl rfl) rfl (so rfl (op_alloc (cs := [.slice none 0 0, .int .i64 0, .bool false]) (by kernel_rfl) rfl fun b3 => (so rfl (op_st (cs' := [.slice At3_0 t3_0.length ct3_0, .int .i64 t3_1, .bool t3_2]) 2 rfl rfl rfl rfl rfl rfl (sv (EV.as rfl) rfl (re (pr [0, 2, 3] [0, 1, 2] [0, 2] rfl rfl rfl rfl (gs (gs (rg (sv (EV.mv rfl) rfl ?_)))))))))))))
 revert H; refine bdI ?_; rintro ⟨t4_0, t4_1, t4_2⟩ A4 H
 refine so rfl (op_callM (spec_l1Below.ok b1000 l0_0 Al0_0 cl0_0 t2_1 t2_2 4 _ _ _ A4) [⟨0, 0, 0, false⟩] [1] [0, 2] 5 rfl rfl rfl rfl rfl rfl rfl rfl ?_)
 rintro _ _ _ ⟨rfl, rfl, rfl⟩
 refine nmE (en := [.sl 0 (.int .u8) Al0_0 cl0_0 l0_0 0 false, .sl 2 k102 At3_0 ct3_0 t3_0 4 true]) (by kernel_rfl) (sv (EV.as rfl) rfl (re (gb (nil_ k102 5 dq ?_))))
 refine lo (fun kk S => ∃ (x4_5 : Int) (x4_1000_1 : Int) (x4_1000_2 : Int) (x4_2_0 : List S102) (Ax4_2_0 : Option Addr) (cx4_2_0 : Nat) (x4_2_1 : Int) (x4_2_2 : Bool) (x4_3_0 : List S102) (Ax4_3_0 : Option Addr) (cx4_3_0 : Nat) (x4_3_1 : Int) (x4_3_2 : Bool), spec_l22Agger.l0 kk x4_5 x4_1000_1 x4_1000_2 x4_2_0 x4_2_1 x4_2_2 x4_3_0 x4_3_1 x4_3_2 l0_0 = some (r0, r1, r2, r3, r4) ∧ S = ⟨[(0, .pointer (some ⟨b1000, 0, none⟩)), (2, .pointer (some ⟨b2, 0, none⟩)), (3, .pointer (some ⟨b3, 0, none⟩)), (5, .int .i64 x4_5)], [⟨b1000, 119, [.slice Al0_0 l0_0.length cl0_0, .int .i64 x4_1000_1, .int .i64 x4_1000_2]⟩, ⟨b2, 46, [.slice Ax4_2_0 x4_2_0.length cx4_2_0, .int .i64 x4_2_1, .bool x4_2_2]⟩, ⟨b3, 46, [.slice Ax4_3_0 x4_3_0.length cx4_3_0, .int .i64 x4_3_1, .bool x4_3_2]⟩], [.sl 2 k102 Ax4_2_0 cx4_2_0 x4_2_0 1 true, .sl 1 k102 Ax4_3_0 cx4_3_0 x4_3_0 2 true, .sl 0 (.int .u8) Al0_0 cl0_0 l0_0 0 false]⟩) (fun S hS => ?_) (fun n0 ih0 S hS => ?_) ⟨t4_0, t4_1, t4_2, [], none, 0, 0, false, t3_0, At3_0, ct3_0, t3_1, t3_2, H, rfl⟩ (fun h => wk [0, 2, 3, 5] [2, 0, 1] [⟨2, 2, 1, true⟩, ⟨1, 1, 2, true⟩, ⟨0, 0, 0, false⟩] h)
 · clear H; obtain ⟨_, _, _, _, _, _, _, _, _, _, _, _, _, H, _⟩ := hS; rw [spec_l22Agger.l0] at H; cases H
 clear H
 obtain ⟨x4_5, x4_1000_1, x4_1000_2, x4_2_0, Ax4_2_0, cx4_2_0, x4_2_1, x4_2_2, x4_3_0, Ax4_3_0, cx4_3_0, x4_3_1, x4_3_2, H, rfl⟩ := hS
 rw [spec_l22Agger.l0] at H
 refine gs (gs (rg (sv (EV.mv rfl) rfl (sv (EV.gtr rfl rfl) rfl (re ?_)))))
 revert H; refine ifsI ?_ ?_ <;> intro c5 H
 ·
  refine gt rfl (dT c5) (gk (gs (gb (dr [] [0, 1, 2] [10] 11 rfl rfl rfl rfl (xv 1 [] [0, 1, 2] rfl (EV.mv rfl) rfl rfl rfl rfl ?_)))))
  refine one2 0 2 rfl rfl rfl rfl ?_ ?_
  ·
   refine ov (EV.ld (v := .agg #[.slice Ax4_3_0 x4_3_0.length cx4_3_0, .int .i64 x4_3_1, .bool x4_3_2]) 2 (some 3) rfl rfl rfl) rfl (xs [] [0, 1, 2] rfl rfl rfl (one1 2 rfl rfl (op_lit (s := 1) (by_ := 8) (.int .i64) ([8, 9, 12] : List Int) [[], [], []] [] 3 [.const (.int .i64 8), .const (.int .i64 9), .const (.int .i64 12)] rfl rfl rfl rfl rfl rfl rfl rfl rfl rfl rfl rfl rfl dq rfl fun A23_6 c23_6 => (xs [] [0, 1, 2] rfl rfl rfl (one1 3 rfl rfl ?_)))))
   revert H; refine bdI ?_; rintro ⟨t7_0, t7_1, t7_2⟩ A7 H
   refine op_callM (spec_l1PickInt.ok b1000 l0_0 Al0_0 cl0_0 x4_1000_1 x4_1000_2 ([8, 9, 12] : List Int) A23_6 c23_6 _ _ _ A7) [⟨2, 0, 0, false⟩, ⟨3, 0, 0, false⟩] [0] [1, 2] 4 rfl rfl rfl rfl rfl rfl rfl rfl ?_
   rintro _ _ _ ⟨rfl, rfl, rfl⟩
   refine nmE (en := [.sl 2 k102 Ax4_2_0 cx4_2_0 x4_2_0 1 true, .sl 1 k102 Ax4_3_0 cx4_3_0 x4_3_0 2 true, .sl 0 (.int .u8) Al0_0 cl0_0 l0_0 0 false, .sl 2 (.int .i64) A23_6 c23_6 ([8, 9, 12] : List Int) 3 true]) (by kernel_rfl) (xs [] [0, 1, 2] rfl rfl rfl (one1 4 rfl rfl ?_))
   revert H; refine bdI ?_; rintro ⟨t8_0, t8_1, t8_2, t8_3, t8_4, t8_5⟩ A8 H
   refine op_call (spec_StepAggregator.ok n0 x4_3_0 Ax4_3_0 cx4_3_0 x4_3_1 x4_3_2 t7_0 _ _ _ _ _ _ A8) [⟨1, 0, 0, false⟩] 4 rfl rfl rfl rfl rfl ?_
   rintro _ _ _ ⟨At8_0, ct8_0, At8_3, ct8_3, rfl, rfl, rfl⟩
   refine xs [] [0, 1, 2] rfl rfl rfl (one1 5 rfl rfl (ov (EV.mv rfl) rfl (xs [] [0, 1, 2] rfl rfl rfl ?_)))
   refine one4 6 7 8 9 rfl rfl rfl rfl rfl rfl rfl rfl ?_ ?_ ?_ ?_
   ·
    refine ov (EV.ex rfl rfl) rfl (xs [] [0, 1, 2] rfl rfl rfl ?_)
    refine one4 7 8 9 10 rfl rfl rfl rfl rfl rfl rfl rfl ?_ ?_ ?_ ?_
    ·
     refine ov (EV.ex rfl rfl) rfl (xs [] [0, 1, 2] rfl rfl rfl ?_)
     refine one3 8 9 10 rfl rfl rfl rfl rfl rfl ?_ ?_ ?_
     ·
      refine ov (EV.ex rfl rfl) rfl (xs [] [0, 1, 2] rfl rfl rfl ?_)
      refine one2 9 10 rfl rfl rfl rfl ?_ ?_
      ·
       exact ov (EV.ex rfl rfl) rfl (xs [] [0, 1, 2] rfl rfl rfl (one1 10 rfl rfl (op_st (cs' := [.slice At8_0 t8_0.length ct8_0, .int .i64 t8_1, .bool t8_2]) 1 rfl rfl rfl rfl rfl rfl (xn rfl (xd (pr [0, 2, 3, 5] [0, 1, 2] [0, 2, 4] rfl rfl rfl rfl (ge (rg (sv (EV.mv rfl) rfl (sv (EV.sub rfl rfl) rfl (sv (EV.as rfl) rfl (re (wk [0, 2, 3, 5] [2, 0, 1] [⟨0, 2, 1, true⟩, ⟨2, 1, 2, true⟩, ⟨1, 0, 0, false⟩] (ih0 _ (by omega) _ ⟨wrap64 (x4_5 - 1), t7_1, t7_2, x4_2_0, Ax4_2_0, cx4_2_0, x4_2_1, x4_2_2, t8_0, At8_0, ct8_0, t8_1, t8_2, H, rfl⟩))))))))))))))
      ·
       exact op_st (cs' := [.slice At8_0 t8_0.length ct8_0, .int .i64 t8_1, .bool t8_2]) 1 rfl rfl rfl rfl rfl rfl (xn rfl (one1 9 rfl rfl (ov (EV.ex rfl rfl) rfl (xs [] [0, 1, 2] rfl rfl rfl (xd (pr [0, 2, 3, 5] [0, 1, 2] [0, 2, 4] rfl rfl rfl rfl (ge (rg (sv (EV.mv rfl) rfl (sv (EV.sub rfl rfl) rfl (sv (EV.as rfl) rfl (re (wk [0, 2, 3, 5] [2, 0, 1] [⟨0, 2, 1, true⟩, ⟨2, 1, 2, true⟩, ⟨1, 0, 0, false⟩] (ih0 _ (by omega) _ ⟨wrap64 (x4_5 - 1), t7_1, t7_2, x4_2_0, Ax4_2_0, cx4_2_0, x4_2_1, x4_2_2, t8_0, At8_0, ct8_0, t8_1, t8_2, H, rfl⟩))))))))))))))
     ·
      refine ov (EV.ex rfl rfl) rfl (xs [] [0, 1, 2] rfl rfl rfl ?_)
      refine one2 8 10 rfl rfl rfl rfl ?_ ?_
      ·
       exact ov (EV.ex rfl rfl) rfl (xs [] [0, 1, 2] rfl rfl rfl (one1 10 rfl rfl (op_st (cs' := [.slice At8_0 t8_0.length ct8_0, .int .i64 t8_1, .bool t8_2]) 1 rfl rfl rfl rfl rfl rfl (xn rfl (xd (pr [0, 2, 3, 5] [0, 1, 2] [0, 2, 4] rfl rfl rfl rfl (ge (rg (sv (EV.mv rfl) rfl (sv (EV.sub rfl rfl) rfl (sv (EV.as rfl) rfl (re (wk [0, 2, 3, 5] [2, 0, 1] [⟨0, 2, 1, true⟩, ⟨2, 1, 2, true⟩, ⟨1, 0, 0, false⟩] (ih0 _ (by omega) _ ⟨wrap64 (x4_5 - 1), t7_1, t7_2, x4_2_0, Ax4_2_0, cx4_2_0, x4_2_1, x4_2_2, t8_0, At8_0, ct8_0, t8_1, t8_2, H, rfl⟩))))))))))))))
      ·
       exact op_st (cs' := [.slice At8_0 t8_0.length ct8_0, .int .i64 t8_1, .bool t8_2]) 1 rfl rfl rfl rfl rfl rfl (xn rfl (one1 8 rfl rfl (ov (EV.ex rfl rfl) rfl (xs [] [0, 1, 2] rfl rfl rfl (xd (pr [0, 2, 3, 5] [0, 1, 2] [0, 2, 4] rfl rfl rfl rfl (ge (rg (sv (EV.mv rfl) rfl (sv (EV.sub rfl rfl) rfl (sv (EV.as rfl) rfl (re (wk [0, 2, 3, 5] [2, 0, 1] [⟨0, 2, 1, true⟩, ⟨2, 1, 2, true⟩, ⟨1, 0, 0, false⟩] (ih0 _ (by omega) _ ⟨wrap64 (x4_5 - 1), t7_1, t7_2, x4_2_0, Ax4_2_0, cx4_2_0, x4_2_1, x4_2_2, t8_0, At8_0, ct8_0, t8_1, t8_2, H, rfl⟩))))))))))))))
     ·
      refine op_st (cs' := [.slice At8_0 t8_0.length ct8_0, .int .i64 t8_1, .bool t8_2]) 1 rfl rfl rfl rfl rfl rfl (xn rfl ?_)
      refine one2 8 9 rfl rfl rfl rfl ?_ ?_
      ·
       exact ov (EV.ex rfl rfl) rfl (xs [] [0, 1, 2] rfl rfl rfl (one1 9 rfl rfl (ov (EV.ex rfl rfl) rfl (xs [] [0, 1, 2] rfl rfl rfl (xd (pr [0, 2, 3, 5] [0, 1, 2] [0, 2, 4] rfl rfl rfl rfl (ge (rg (sv (EV.mv rfl) rfl (sv (EV.sub rfl rfl) rfl (sv (EV.as rfl) rfl (re (wk [0, 2, 3, 5] [2, 0, 1] [⟨0, 2, 1, true⟩, ⟨2, 1, 2, true⟩, ⟨1, 0, 0, false⟩] (ih0 _ (by omega) _ ⟨wrap64 (x4_5 - 1), t7_1, t7_2, x4_2_0, Ax4_2_0, cx4_2_0, x4_2_1, x4_2_2, t8_0, At8_0, ct8_0, t8_1, t8_2, H, rfl⟩))))))))))))))
      ·
       exact ov (EV.ex rfl rfl) rfl (xs [] [0, 1, 2] rfl rfl rfl (one1 8 rfl rfl (ov (EV.ex rfl rfl) rfl (xs [] [0, 1, 2] rfl rfl rfl (xd (pr [0, 2, 3, 5] [0, 1, 2] [0, 2, 4] rfl rfl rfl rfl (ge (rg (sv (EV.mv rfl) rfl (sv (EV.sub rfl rfl) rfl (sv (EV.as rfl) rfl (re (wk [0, 2, 3, 5] [2, 0, 1] [⟨0, 2, 1, true⟩, ⟨2, 1, 2, true⟩, ⟨1, 0, 0, false⟩] (ih0 _ (by omega) _ ⟨wrap64 (x4_5 - 1), t7_1, t7_2, x4_2_0, Ax4_2_0, cx4_2_0, x4_2_1, x4_2_2, t8_0, At8_0, ct8_0, t8_1, t8_2, H, rfl⟩))))))))))))))
    ·
     refine ov (EV.ex rfl rfl) rfl (xs [] [0, 1, 2] rfl rfl rfl ?_)
     refine one3 7 9 10 rfl rfl rfl rfl rfl rfl ?_ ?_ ?_
     ·
      refine ov (EV.ex rfl rfl) rfl (xs [] [0, 1, 2] rfl rfl rfl ?_)
      refine one2 9 10 rfl rfl rfl rfl ?_ ?_
      ·
       exact ov (EV.ex rfl rfl) rfl (xs [] [0, 1, 2] rfl rfl rfl (one1 10 rfl rfl (op_st (cs' := [.slice At8_0 t8_0.length ct8_0, .int .i64 t8_1, .bool t8_2]) 1 rfl rfl rfl rfl rfl rfl (xn rfl (xd (pr [0, 2, 3, 5] [0, 1, 2] [0, 2, 4] rfl rfl rfl rfl (ge (rg (sv (EV.mv rfl) rfl (sv (EV.sub rfl rfl) rfl (sv (EV.as rfl) rfl (re (wk [0, 2, 3, 5] [2, 0, 1] [⟨0, 2, 1, true⟩, ⟨2, 1, 2, true⟩, ⟨1, 0, 0, false⟩] (ih0 _ (by omega) _ ⟨wrap64 (x4_5 - 1), t7_1, t7_2, x4_2_0, Ax4_2_0, cx4_2_0, x4_2_1, x4_2_2, t8_0, At8_0, ct8_0, t8_1, t8_2, H, rfl⟩))))))))))))))
      ·
       exact op_st (cs' := [.slice At8_0 t8_0.length ct8_0, .int .i64 t8_1, .bool t8_2]) 1 rfl rfl rfl rfl rfl rfl (xn rfl (one1 9 rfl rfl (ov (EV.ex rfl rfl) rfl (xs [] [0, 1, 2] rfl rfl rfl (xd (pr [0, 2, 3, 5] [0, 1, 2] [0, 2, 4] rfl rfl rfl rfl (ge (rg (sv (EV.mv rfl) rfl (sv (EV.sub rfl rfl) rfl (sv (EV.as rfl) rfl (re (wk [0, 2, 3, 5] [2, 0, 1] [⟨0, 2, 1, true⟩, ⟨2, 1, 2, true⟩, ⟨1, 0, 0, false⟩] (ih0 _ (by omega) _ ⟨wrap64 (x4_5 - 1), t7_1, t7_2, x4_2_0, Ax4_2_0, cx4_2_0, x4_2_1, x4_2_2, t8_0, At8_0, ct8_0, t8_1, t8_2, H, rfl⟩))))))))))))))
     ·
      refine ov (EV.ex rfl rfl) rfl (xs [] [0, 1, 2] rfl rfl rfl ?_)
      refine one2 7 10 rfl rfl rfl rfl ?_ ?_
      ·
       exact ov (EV.ex rfl rfl) rfl (xs [] [0, 1, 2] rfl rfl rfl (one1 10 rfl rfl (op_st (cs' := [.slice At8_0 t8_0.length ct8_0, .int .i64 t8_1, .bool t8_2]) 1 rfl rfl rfl rfl rfl rfl (xn rfl (xd (pr [0, 2, 3, 5] [0, 1, 2] [0, 2, 4] rfl rfl rfl rfl (ge (rg (sv (EV.mv rfl) rfl (sv (EV.sub rfl rfl) rfl (sv (EV.as rfl) rfl (re (wk [0, 2, 3, 5] [2, 0, 1] [⟨0, 2, 1, true⟩, ⟨2, 1, 2, true⟩, ⟨1, 0, 0, false⟩] (ih0 _ (by omega) _ ⟨wrap64 (x4_5 - 1), t7_1, t7_2, x4_2_0, Ax4_2_0, cx4_2_0, x4_2_1, x4_2_2, t8_0, At8_0, ct8_0, t8_1, t8_2, H, rfl⟩))))))))))))))
      ·
       exact op_st (cs' := [.slice At8_0 t8_0.length ct8_0, .int .i64 t8_1, .bool t8_2]) 1 rfl rfl rfl rfl rfl rfl (xn rfl (one1 7 rfl rfl (ov (EV.ex rfl rfl) rfl (xs [] [0, 1, 2] rfl rfl rfl (xd (pr [0, 2, 3, 5] [0, 1, 2] [0, 2, 4] rfl rfl rfl rfl (ge (rg (sv (EV.mv rfl) rfl (sv (EV.sub rfl rfl) rfl (sv (EV.as rfl) rfl (re (wk [0, 2, 3, 5] [2, 0, 1] [⟨0, 2, 1, true⟩, ⟨2, 1, 2, true⟩, ⟨1, 0, 0, false⟩] (ih0 _ (by omega) _ ⟨wrap64 (x4_5 - 1), t7_1, t7_2, x4_2_0, Ax4_2_0, cx4_2_0, x4_2_1, x4_2_2, t8_0, At8_0, ct8_0, t8_1, t8_2, H, rfl⟩))))))))))))))
     ·
      refine op_st (cs' := [.slice At8_0 t8_0.length ct8_0, .int .i64 t8_1, .bool t8_2]) 1 rfl rfl rfl rfl rfl rfl (xn rfl ?_)
      refine one2 7 9 rfl rfl rfl rfl ?_ ?_
      ·
       exact ov (EV.ex rfl rfl) rfl (xs [] [0, 1, 2] rfl rfl rfl (one1 9 rfl rfl (ov (EV.ex rfl rfl) rfl (xs [] [0, 1, 2] rfl rfl rfl (xd (pr [0, 2, 3, 5] [0, 1, 2] [0, 2, 4] rfl rfl rfl rfl (ge (rg (sv (EV.mv rfl) rfl (sv (EV.sub rfl rfl) rfl (sv (EV.as rfl) rfl (re (wk [0, 2, 3, 5] [2, 0, 1] [⟨0, 2, 1, true⟩, ⟨2, 1, 2, true⟩, ⟨1, 0, 0, false⟩] (ih0 _ (by omega) _ ⟨wrap64 (x4_5 - 1), t7_1, t7_2, x4_2_0, Ax4_2_0, cx4_2_0, x4_2_1, x4_2_2, t8_0, At8_0, ct8_0, t8_1, t8_2, H, rfl⟩))))))))))))))
      ·
       exact ov (EV.ex rfl rfl) rfl (xs [] [0, 1, 2] rfl rfl rfl (one1 7 rfl rfl (ov (EV.ex rfl rfl) rfl (xs [] [0, 1, 2] rfl rfl rfl (xd (pr [0, 2, 3, 5] [0, 1, 2] [0, 2, 4] rfl rfl rfl rfl (ge (rg (sv (EV.mv rfl) rfl (sv (EV.sub rfl rfl) rfl (sv (EV.as rfl) rfl (re (wk [0, 2, 3, 5] [2, 0, 1] [⟨0, 2, 1, true⟩, ⟨2, 1, 2, true⟩, ⟨1, 0, 0, false⟩] (ih0 _ (by omega) _ ⟨wrap64 (x4_5 - 1), t7_1, t7_2, x4_2_0, Ax4_2_0, cx4_2_0, x4_2_1, x4_2_2, t8_0, At8_0, ct8_0, t8_1, t8_2, H, rfl⟩))))))))))))))
    ·
     refine ov (EV.ex rfl rfl) rfl (xs [] [0, 1, 2] rfl rfl rfl ?_)
     refine one3 7 8 10 rfl rfl rfl rfl rfl rfl ?_ ?_ ?_
     ·
      refine ov (EV.ex rfl rfl) rfl (xs [] [0, 1, 2] rfl rfl rfl ?_)
      refine one2 8 10 rfl rfl rfl rfl ?_ ?_
      ·
       exact ov (EV.ex rfl rfl) rfl (xs [] [0, 1, 2] rfl rfl rfl (one1 10 rfl rfl (op_st (cs' := [.slice At8_0 t8_0.length ct8_0, .int .i64 t8_1, .bool t8_2]) 1 rfl rfl rfl rfl rfl rfl (xn rfl (xd (pr [0, 2, 3, 5] [0, 1, 2] [0, 2, 4] rfl rfl rfl rfl (ge (rg (sv (EV.mv rfl) rfl (sv (EV.sub rfl rfl) rfl (sv (EV.as rfl) rfl (re (wk [0, 2, 3, 5] [2, 0, 1] [⟨0, 2, 1, true⟩, ⟨2, 1, 2, true⟩, ⟨1, 0, 0, false⟩] (ih0 _ (by omega) _ ⟨wrap64 (x4_5 - 1), t7_1, t7_2, x4_2_0, Ax4_2_0, cx4_2_0, x4_2_1, x4_2_2, t8_0, At8_0, ct8_0, t8_1, t8_2, H, rfl⟩))))))))))))))
      ·
       exact op_st (cs' := [.slice At8_0 t8_0.length ct8_0, .int .i64 t8_1, .bool t8_2]) 1 rfl rfl rfl rfl rfl rfl (xn rfl (one1 8 rfl rfl (ov (EV.ex rfl rfl) rfl (xs [] [0, 1, 2] rfl rfl rfl (xd (pr [0, 2, 3, 5] [0, 1, 2] [0, 2, 4] rfl rfl rfl rfl (ge (rg (sv (EV.mv rfl) rfl (sv (EV.sub rfl rfl) rfl (sv (EV.as rfl) rfl (re (wk [0, 2, 3, 5] [2, 0, 1] [⟨0, 2, 1, true⟩, ⟨2, 1, 2, true⟩, ⟨1, 0, 0, false⟩] (ih0 _ (by omega) _ ⟨wrap64 (x4_5 - 1), t7_1, t7_2, x4_2_0, Ax4_2_0, cx4_2_0, x4_2_1, x4_2_2, t8_0, At8_0, ct8_0, t8_1, t8_2, H, rfl⟩))))))))))))))
     ·
      refine ov (EV.ex rfl rfl) rfl (xs [] [0, 1, 2] rfl rfl rfl ?_)
      refine one2 7 10 rfl rfl rfl rfl ?_ ?_
      ·
       exact ov (EV.ex rfl rfl) rfl (xs [] [0, 1, 2] rfl rfl rfl (one1 10 rfl rfl (op_st (cs' := [.slice At8_0 t8_0.length ct8_0, .int .i64 t8_1, .bool t8_2]) 1 rfl rfl rfl rfl rfl rfl (xn rfl (xd (pr [0, 2, 3, 5] [0, 1, 2] [0, 2, 4] rfl rfl rfl rfl (ge (rg (sv (EV.mv rfl) rfl (sv (EV.sub rfl rfl) rfl (sv (EV.as rfl) rfl (re (wk [0, 2, 3, 5] [2, 0, 1] [⟨0, 2, 1, true⟩, ⟨2, 1, 2, true⟩, ⟨1, 0, 0, false⟩] (ih0 _ (by omega) _ ⟨wrap64 (x4_5 - 1), t7_1, t7_2, x4_2_0, Ax4_2_0, cx4_2_0, x4_2_1, x4_2_2, t8_0, At8_0, ct8_0, t8_1, t8_2, H, rfl⟩))))))))))))))
      ·
       exact op_st (cs' := [.slice At8_0 t8_0.length ct8_0, .int .i64 t8_1, .bool t8_2]) 1 rfl rfl rfl rfl rfl rfl (xn rfl (one1 7 rfl rfl (ov (EV.ex rfl rfl) rfl (xs [] [0, 1, 2] rfl rfl rfl (xd (pr [0, 2, 3, 5] [0, 1, 2] [0, 2, 4] rfl rfl rfl rfl (ge (rg (sv (EV.mv rfl) rfl (sv (EV.sub rfl rfl) rfl (sv (EV.as rfl) rfl (re (wk [0, 2, 3, 5] [2, 0, 1] [⟨0, 2, 1, true⟩, ⟨2, 1, 2, true⟩, ⟨1, 0, 0, false⟩] (ih0 _ (by omega) _ ⟨wrap64 (x4_5 - 1), t7_1, t7_2, x4_2_0, Ax4_2_0, cx4_2_0, x4_2_1, x4_2_2, t8_0, At8_0, ct8_0, t8_1, t8_2, H, rfl⟩))))))))))))))
     ·
      refine op_st (cs' := [.slice At8_0 t8_0.length ct8_0, .int .i64 t8_1, .bool t8_2]) 1 rfl rfl rfl rfl rfl rfl (xn rfl ?_)
      refine one2 7 8 rfl rfl rfl rfl ?_ ?_
      ·
       exact ov (EV.ex rfl rfl) rfl (xs [] [0, 1, 2] rfl rfl rfl (one1 8 rfl rfl (ov (EV.ex rfl rfl) rfl (xs [] [0, 1, 2] rfl rfl rfl (xd (pr [0, 2, 3, 5] [0, 1, 2] [0, 2, 4] rfl rfl rfl rfl (ge (rg (sv (EV.mv rfl) rfl (sv (EV.sub rfl rfl) rfl (sv (EV.as rfl) rfl (re (wk [0, 2, 3, 5] [2, 0, 1] [⟨0, 2, 1, true⟩, ⟨2, 1, 2, true⟩, ⟨1, 0, 0, false⟩] (ih0 _ (by omega) _ ⟨wrap64 (x4_5 - 1), t7_1, t7_2, x4_2_0, Ax4_2_0, cx4_2_0, x4_2_1, x4_2_2, t8_0, At8_0, ct8_0, t8_1, t8_2, H, rfl⟩))))))))))))))
      ·
       exact ov (EV.ex rfl rfl) rfl (xs [] [0, 1, 2] rfl rfl rfl (one1 7 rfl rfl (ov (EV.ex rfl rfl) rfl (xs [] [0, 1, 2] rfl rfl rfl (xd (pr [0, 2, 3, 5] [0, 1, 2] [0, 2, 4] rfl rfl rfl rfl (ge (rg (sv (EV.mv rfl) rfl (sv (EV.sub rfl rfl) rfl (sv (EV.as rfl) rfl (re (wk [0, 2, 3, 5] [2, 0, 1] [⟨0, 2, 1, true⟩, ⟨2, 1, 2, true⟩, ⟨1, 0, 0, false⟩] (ih0 _ (by omega) _ ⟨wrap64 (x4_5 - 1), t7_1, t7_2, x4_2_0, Ax4_2_0, cx4_2_0, x4_2_1, x4_2_2, t8_0, At8_0, ct8_0, t8_1, t8_2, H, rfl⟩))))))))))))))
    ·
     refine op_st (cs' := [.slice At8_0 t8_0.length ct8_0, .int .i64 t8_1, .bool t8_2]) 1 rfl rfl rfl rfl rfl rfl (xn rfl ?_)
     refine one3 7 8 9 rfl rfl rfl rfl rfl rfl ?_ ?_ ?_
     ·
      refine ov (EV.ex rfl rfl) rfl (xs [] [0, 1, 2] rfl rfl rfl ?_)
      refine one2 8 9 rfl rfl rfl rfl ?_ ?_
      ·
       exact ov (EV.ex rfl rfl) rfl (xs [] [0, 1, 2] rfl rfl rfl (one1 9 rfl rfl (ov (EV.ex rfl rfl) rfl (xs [] [0, 1, 2] rfl rfl rfl (xd (pr [0, 2, 3, 5] [0, 1, 2] [0, 2, 4] rfl rfl rfl rfl (ge (rg (sv (EV.mv rfl) rfl (sv (EV.sub rfl rfl) rfl (sv (EV.as rfl) rfl (re (wk [0, 2, 3, 5] [2, 0, 1] [⟨0, 2, 1, true⟩, ⟨2, 1, 2, true⟩, ⟨1, 0, 0, false⟩] (ih0 _ (by omega) _ ⟨wrap64 (x4_5 - 1), t7_1, t7_2, x4_2_0, Ax4_2_0, cx4_2_0, x4_2_1, x4_2_2, t8_0, At8_0, ct8_0, t8_1, t8_2, H, rfl⟩))))))))))))))
      ·
       exact ov (EV.ex rfl rfl) rfl (xs [] [0, 1, 2] rfl rfl rfl (one1 8 rfl rfl (ov (EV.ex rfl rfl) rfl (xs [] [0, 1, 2] rfl rfl rfl (xd (pr [0, 2, 3, 5] [0, 1, 2] [0, 2, 4] rfl rfl rfl rfl (ge (rg (sv (EV.mv rfl) rfl (sv (EV.sub rfl rfl) rfl (sv (EV.as rfl) rfl (re (wk [0, 2, 3, 5] [2, 0, 1] [⟨0, 2, 1, true⟩, ⟨2, 1, 2, true⟩, ⟨1, 0, 0, false⟩] (ih0 _ (by omega) _ ⟨wrap64 (x4_5 - 1), t7_1, t7_2, x4_2_0, Ax4_2_0, cx4_2_0, x4_2_1, x4_2_2, t8_0, At8_0, ct8_0, t8_1, t8_2, H, rfl⟩))))))))))))))
     ·
      refine ov (EV.ex rfl rfl) rfl (xs [] [0, 1, 2] rfl rfl rfl ?_)
      refine one2 7 9 rfl rfl rfl rfl ?_ ?_
      ·
       exact ov (EV.ex rfl rfl) rfl (xs [] [0, 1, 2] rfl rfl rfl (one1 9 rfl rfl (ov (EV.ex rfl rfl) rfl (xs [] [0, 1, 2] rfl rfl rfl (xd (pr [0, 2, 3, 5] [0, 1, 2] [0, 2, 4] rfl rfl rfl rfl (ge (rg (sv (EV.mv rfl) rfl (sv (EV.sub rfl rfl) rfl (sv (EV.as rfl) rfl (re (wk [0, 2, 3, 5] [2, 0, 1] [⟨0, 2, 1, true⟩, ⟨2, 1, 2, true⟩, ⟨1, 0, 0, false⟩] (ih0 _ (by omega) _ ⟨wrap64 (x4_5 - 1), t7_1, t7_2, x4_2_0, Ax4_2_0, cx4_2_0, x4_2_1, x4_2_2, t8_0, At8_0, ct8_0, t8_1, t8_2, H, rfl⟩))))))))))))))
      ·
       exact ov (EV.ex rfl rfl) rfl (xs [] [0, 1, 2] rfl rfl rfl (one1 7 rfl rfl (ov (EV.ex rfl rfl) rfl (xs [] [0, 1, 2] rfl rfl rfl (xd (pr [0, 2, 3, 5] [0, 1, 2] [0, 2, 4] rfl rfl rfl rfl (ge (rg (sv (EV.mv rfl) rfl (sv (EV.sub rfl rfl) rfl (sv (EV.as rfl) rfl (re (wk [0, 2, 3, 5] [2, 0, 1] [⟨0, 2, 1, true⟩, ⟨2, 1, 2, true⟩, ⟨1, 0, 0, false⟩] (ih0 _ (by omega) _ ⟨wrap64 (x4_5 - 1), t7_1, t7_2, x4_2_0, Ax4_2_0, cx4_2_0, x4_2_1, x4_2_2, t8_0, At8_0, ct8_0, t8_1, t8_2, H, rfl⟩))))))))))))))
     ·
      refine ov (EV.ex rfl rfl) rfl (xs [] [0, 1, 2] rfl rfl rfl ?_)
      refine one2 7 8 rfl rfl rfl rfl ?_ ?_
      ·
       exact ov (EV.ex rfl rfl) rfl (xs [] [0, 1, 2] rfl rfl rfl (one1 8 rfl rfl (ov (EV.ex rfl rfl) rfl (xs [] [0, 1, 2] rfl rfl rfl (xd (pr [0, 2, 3, 5] [0, 1, 2] [0, 2, 4] rfl rfl rfl rfl (ge (rg (sv (EV.mv rfl) rfl (sv (EV.sub rfl rfl) rfl (sv (EV.as rfl) rfl (re (wk [0, 2, 3, 5] [2, 0, 1] [⟨0, 2, 1, true⟩, ⟨2, 1, 2, true⟩, ⟨1, 0, 0, false⟩] (ih0 _ (by omega) _ ⟨wrap64 (x4_5 - 1), t7_1, t7_2, x4_2_0, Ax4_2_0, cx4_2_0, x4_2_1, x4_2_2, t8_0, At8_0, ct8_0, t8_1, t8_2, H, rfl⟩))))))))))))))
      ·
       exact ov (EV.ex rfl rfl) rfl (xs [] [0, 1, 2] rfl rfl rfl (one1 7 rfl rfl (ov (EV.ex rfl rfl) rfl (xs [] [0, 1, 2] rfl rfl rfl (xd (pr [0, 2, 3, 5] [0, 1, 2] [0, 2, 4] rfl rfl rfl rfl (ge (rg (sv (EV.mv rfl) rfl (sv (EV.sub rfl rfl) rfl (sv (EV.as rfl) rfl (re (wk [0, 2, 3, 5] [2, 0, 1] [⟨0, 2, 1, true⟩, ⟨2, 1, 2, true⟩, ⟨1, 0, 0, false⟩] (ih0 _ (by omega) _ ⟨wrap64 (x4_5 - 1), t7_1, t7_2, x4_2_0, Ax4_2_0, cx4_2_0, x4_2_1, x4_2_2, t8_0, At8_0, ct8_0, t8_1, t8_2, H, rfl⟩))))))))))))))
   ·
    refine ov (EV.ex rfl rfl) rfl (xs [] [0, 1, 2] rfl rfl rfl ?_)
    refine one3 6 8 9 rfl rfl rfl rfl rfl rfl ?_ ?_ ?_
    ·
     refine ov (EV.ex rfl rfl) rfl (xs [] [0, 1, 2] rfl rfl rfl ?_)
     refine one3 8 9 10 rfl rfl rfl rfl rfl rfl ?_ ?_ ?_
     ·
      refine ov (EV.ex rfl rfl) rfl (xs [] [0, 1, 2] rfl rfl rfl ?_)
      refine one2 9 10 rfl rfl rfl rfl ?_ ?_
      ·
       exact ov (EV.ex rfl rfl) rfl (xs [] [0, 1, 2] rfl rfl rfl (one1 10 rfl rfl (op_st (cs' := [.slice At8_0 t8_0.length ct8_0, .int .i64 t8_1, .bool t8_2]) 1 rfl rfl rfl rfl rfl rfl (xn rfl (xd (pr [0, 2, 3, 5] [0, 1, 2] [0, 2, 4] rfl rfl rfl rfl (ge (rg (sv (EV.mv rfl) rfl (sv (EV.sub rfl rfl) rfl (sv (EV.as rfl) rfl (re (wk [0, 2, 3, 5] [2, 0, 1] [⟨0, 2, 1, true⟩, ⟨2, 1, 2, true⟩, ⟨1, 0, 0, false⟩] (ih0 _ (by omega) _ ⟨wrap64 (x4_5 - 1), t7_1, t7_2, x4_2_0, Ax4_2_0, cx4_2_0, x4_2_1, x4_2_2, t8_0, At8_0, ct8_0, t8_1, t8_2, H, rfl⟩))))))))))))))
      ·
       exact op_st (cs' := [.slice At8_0 t8_0.length ct8_0, .int .i64 t8_1, .bool t8_2]) 1 rfl rfl rfl rfl rfl rfl (xn rfl (one1 9 rfl rfl (ov (EV.ex rfl rfl) rfl (xs [] [0, 1, 2] rfl rfl rfl (xd (pr [0, 2, 3, 5] [0, 1, 2] [0, 2, 4] rfl rfl rfl rfl (ge (rg (sv (EV.mv rfl) rfl (sv (EV.sub rfl rfl) rfl (sv (EV.as rfl) rfl (re (wk [0, 2, 3, 5] [2, 0, 1] [⟨0, 2, 1, true⟩, ⟨2, 1, 2, true⟩, ⟨1, 0, 0, false⟩] (ih0 _ (by omega) _ ⟨wrap64 (x4_5 - 1), t7_1, t7_2, x4_2_0, Ax4_2_0, cx4_2_0, x4_2_1, x4_2_2, t8_0, At8_0, ct8_0, t8_1, t8_2, H, rfl⟩))))))))))))))
     ·
      refine ov (EV.ex rfl rfl) rfl (xs [] [0, 1, 2] rfl rfl rfl ?_)
      refine one2 8 10 rfl rfl rfl rfl ?_ ?_
      ·
       exact ov (EV.ex rfl rfl) rfl (xs [] [0, 1, 2] rfl rfl rfl (one1 10 rfl rfl (op_st (cs' := [.slice At8_0 t8_0.length ct8_0, .int .i64 t8_1, .bool t8_2]) 1 rfl rfl rfl rfl rfl rfl (xn rfl (xd (pr [0, 2, 3, 5] [0, 1, 2] [0, 2, 4] rfl rfl rfl rfl (ge (rg (sv (EV.mv rfl) rfl (sv (EV.sub rfl rfl) rfl (sv (EV.as rfl) rfl (re (wk [0, 2, 3, 5] [2, 0, 1] [⟨0, 2, 1, true⟩, ⟨2, 1, 2, true⟩, ⟨1, 0, 0, false⟩] (ih0 _ (by omega) _ ⟨wrap64 (x4_5 - 1), t7_1, t7_2, x4_2_0, Ax4_2_0, cx4_2_0, x4_2_1, x4_2_2, t8_0, At8_0, ct8_0, t8_1, t8_2, H, rfl⟩))))))))))))))
      ·
       exact op_st (cs' := [.slice At8_0 t8_0.length ct8_0, .int .i64 t8_1, .bool t8_2]) 1 rfl rfl rfl rfl rfl rfl (xn rfl (one1 8 rfl rfl (ov (EV.ex rfl rfl) rfl (xs [] [0, 1, 2] rfl rfl rfl (xd (pr [0, 2, 3, 5] [0, 1, 2] [0, 2, 4] rfl rfl rfl rfl (ge (rg (sv (EV.mv rfl) rfl (sv (EV.sub rfl rfl) rfl (sv (EV.as rfl) rfl (re (wk [0, 2, 3, 5] [2, 0, 1] [⟨0, 2, 1, true⟩, ⟨2, 1, 2, true⟩, ⟨1, 0, 0, false⟩] (ih0 _ (by omega) _ ⟨wrap64 (x4_5 - 1), t7_1, t7_2, x4_2_0, Ax4_2_0, cx4_2_0, x4_2_1, x4_2_2, t8_0, At8_0, ct8_0, t8_1, t8_2, H, rfl⟩))))))))))))))
     ·
      refine op_st (cs' := [.slice At8_0 t8_0.length ct8_0, .int .i64 t8_1, .bool t8_2]) 1 rfl rfl rfl rfl rfl rfl (xn rfl ?_)
      refine one2 8 9 rfl rfl rfl rfl ?_ ?_
      ·
       exact ov (EV.ex rfl rfl) rfl (xs [] [0, 1, 2] rfl rfl rfl (one1 9 rfl rfl (ov (EV.ex rfl rfl) rfl (xs [] [0, 1, 2] rfl rfl rfl (xd (pr [0, 2, 3, 5] [0, 1, 2] [0, 2, 4] rfl rfl rfl rfl (ge (rg (sv (EV.mv rfl) rfl (sv (EV.sub rfl rfl) rfl (sv (EV.as rfl) rfl (re (wk [0, 2, 3, 5] [2, 0, 1] [⟨0, 2, 1, true⟩, ⟨2, 1, 2, true⟩, ⟨1, 0, 0, false⟩] (ih0 _ (by omega) _ ⟨wrap64 (x4_5 - 1), t7_1, t7_2, x4_2_0, Ax4_2_0, cx4_2_0, x4_2_1, x4_2_2, t8_0, At8_0, ct8_0, t8_1, t8_2, H, rfl⟩))))))))))))))
      ·
       exact ov (EV.ex rfl rfl) rfl (xs [] [0, 1, 2] rfl rfl rfl (one1 8 rfl rfl (ov (EV.ex rfl rfl) rfl (xs [] [0, 1, 2] rfl rfl rfl (xd (pr [0, 2, 3, 5] [0, 1, 2] [0, 2, 4] rfl rfl rfl rfl (ge (rg (sv (EV.mv rfl) rfl (sv (EV.sub rfl rfl) rfl (sv (EV.as rfl) rfl (re (wk [0, 2, 3, 5] [2, 0, 1] [⟨0, 2, 1, true⟩, ⟨2, 1, 2, true⟩, ⟨1, 0, 0, false⟩] (ih0 _ (by omega) _ ⟨wrap64 (x4_5 - 1), t7_1, t7_2, x4_2_0, Ax4_2_0, cx4_2_0, x4_2_1, x4_2_2, t8_0, At8_0, ct8_0, t8_1, t8_2, H, rfl⟩))))))))))))))
    ·
     refine ov (EV.ex rfl rfl) rfl (xs [] [0, 1, 2] rfl rfl rfl ?_)
     refine one2 6 9 rfl rfl rfl rfl ?_ ?_
     ·
      refine ov (EV.ex rfl rfl) rfl (xs [] [0, 1, 2] rfl rfl rfl ?_)
      refine one2 9 10 rfl rfl rfl rfl ?_ ?_
      ·
       exact ov (EV.ex rfl rfl) rfl (xs [] [0, 1, 2] rfl rfl rfl (one1 10 rfl rfl (op_st (cs' := [.slice At8_0 t8_0.length ct8_0, .int .i64 t8_1, .bool t8_2]) 1 rfl rfl rfl rfl rfl rfl (xn rfl (xd (pr [0, 2, 3, 5] [0, 1, 2] [0, 2, 4] rfl rfl rfl rfl (ge (rg (sv (EV.mv rfl) rfl (sv (EV.sub rfl rfl) rfl (sv (EV.as rfl) rfl (re (wk [0, 2, 3, 5] [2, 0, 1] [⟨0, 2, 1, true⟩, ⟨2, 1, 2, true⟩, ⟨1, 0, 0, false⟩] (ih0 _ (by omega) _ ⟨wrap64 (x4_5 - 1), t7_1, t7_2, x4_2_0, Ax4_2_0, cx4_2_0, x4_2_1, x4_2_2, t8_0, At8_0, ct8_0, t8_1, t8_2, H, rfl⟩))))))))))))))
      ·
       exact op_st (cs' := [.slice At8_0 t8_0.length ct8_0, .int .i64 t8_1, .bool t8_2]) 1 rfl rfl rfl rfl rfl rfl (xn rfl (one1 9 rfl rfl (ov (EV.ex rfl rfl) rfl (xs [] [0, 1, 2] rfl rfl rfl (xd (pr [0, 2, 3, 5] [0, 1, 2] [0, 2, 4] rfl rfl rfl rfl (ge (rg (sv (EV.mv rfl) rfl (sv (EV.sub rfl rfl) rfl (sv (EV.as rfl) rfl (re (wk [0, 2, 3, 5] [2, 0, 1] [⟨0, 2, 1, true⟩, ⟨2, 1, 2, true⟩, ⟨1, 0, 0, false⟩] (ih0 _ (by omega) _ ⟨wrap64 (x4_5 - 1), t7_1, t7_2, x4_2_0, Ax4_2_0, cx4_2_0, x4_2_1, x4_2_2, t8_0, At8_0, ct8_0, t8_1, t8_2, H, rfl⟩))))))))))))))
     ·
      exact ov (EV.ex rfl rfl) rfl (xs [] [0, 1, 2] rfl rfl rfl (one1 6 rfl rfl (ov (EV.ex rfl rfl) rfl (xs [] [0, 1, 2] rfl rfl rfl (one1 10 rfl rfl (op_st (cs' := [.slice At8_0 t8_0.length ct8_0, .int .i64 t8_1, .bool t8_2]) 1 rfl rfl rfl rfl rfl rfl (xn rfl (xd (pr [0, 2, 3, 5] [0, 1, 2] [0, 2, 4] rfl rfl rfl rfl (ge (rg (sv (EV.mv rfl) rfl (sv (EV.sub rfl rfl) rfl (sv (EV.as rfl) rfl (re (wk [0, 2, 3, 5] [2, 0, 1] [⟨0, 2, 1, true⟩, ⟨2, 1, 2, true⟩, ⟨1, 0, 0, false⟩] (ih0 _ (by omega) _ ⟨wrap64 (x4_5 - 1), t7_1, t7_2, x4_2_0, Ax4_2_0, cx4_2_0, x4_2_1, x4_2_2, t8_0, At8_0, ct8_0, t8_1, t8_2, H, rfl⟩)))))))))))))))))
    ·
     refine ov (EV.ex rfl rfl) rfl (xs [] [0, 1, 2] rfl rfl rfl ?_)
     refine one2 6 8 rfl rfl rfl rfl ?_ ?_
     ·
      refine ov (EV.ex rfl rfl) rfl (xs [] [0, 1, 2] rfl rfl rfl ?_)
      refine one2 8 10 rfl rfl rfl rfl ?_ ?_
      ·
       exact ov (EV.ex rfl rfl) rfl (xs [] [0, 1, 2] rfl rfl rfl (one1 10 rfl rfl (op_st (cs' := [.slice At8_0 t8_0.length ct8_0, .int .i64 t8_1, .bool t8_2]) 1 rfl rfl rfl rfl rfl rfl (xn rfl (xd (pr [0, 2, 3, 5] [0, 1, 2] [0, 2, 4] rfl rfl rfl rfl (ge (rg (sv (EV.mv rfl) rfl (sv (EV.sub rfl rfl) rfl (sv (EV.as rfl) rfl (re (wk [0, 2, 3, 5] [2, 0, 1] [⟨0, 2, 1, true⟩, ⟨2, 1, 2, true⟩, ⟨1, 0, 0, false⟩] (ih0 _ (by omega) _ ⟨wrap64 (x4_5 - 1), t7_1, t7_2, x4_2_0, Ax4_2_0, cx4_2_0, x4_2_1, x4_2_2, t8_0, At8_0, ct8_0, t8_1, t8_2, H, rfl⟩))))))))))))))
      ·
       exact op_st (cs' := [.slice At8_0 t8_0.length ct8_0, .int .i64 t8_1, .bool t8_2]) 1 rfl rfl rfl rfl rfl rfl (xn rfl (one1 8 rfl rfl (ov (EV.ex rfl rfl) rfl (xs [] [0, 1, 2] rfl rfl rfl (xd (pr [0, 2, 3, 5] [0, 1, 2] [0, 2, 4] rfl rfl rfl rfl (ge (rg (sv (EV.mv rfl) rfl (sv (EV.sub rfl rfl) rfl (sv (EV.as rfl) rfl (re (wk [0, 2, 3, 5] [2, 0, 1] [⟨0, 2, 1, true⟩, ⟨2, 1, 2, true⟩, ⟨1, 0, 0, false⟩] (ih0 _ (by omega) _ ⟨wrap64 (x4_5 - 1), t7_1, t7_2, x4_2_0, Ax4_2_0, cx4_2_0, x4_2_1, x4_2_2, t8_0, At8_0, ct8_0, t8_1, t8_2, H, rfl⟩))))))))))))))
     ·
      exact ov (EV.ex rfl rfl) rfl (xs [] [0, 1, 2] rfl rfl rfl (one1 6 rfl rfl (ov (EV.ex rfl rfl) rfl (xs [] [0, 1, 2] rfl rfl rfl (one1 10 rfl rfl (op_st (cs' := [.slice At8_0 t8_0.length ct8_0, .int .i64 t8_1, .bool t8_2]) 1 rfl rfl rfl rfl rfl rfl (xn rfl (xd (pr [0, 2, 3, 5] [0, 1, 2] [0, 2, 4] rfl rfl rfl rfl (ge (rg (sv (EV.mv rfl) rfl (sv (EV.sub rfl rfl) rfl (sv (EV.as rfl) rfl (re (wk [0, 2, 3, 5] [2, 0, 1] [⟨0, 2, 1, true⟩, ⟨2, 1, 2, true⟩, ⟨1, 0, 0, false⟩] (ih0 _ (by omega) _ ⟨wrap64 (x4_5 - 1), t7_1, t7_2, x4_2_0, Ax4_2_0, cx4_2_0, x4_2_1, x4_2_2, t8_0, At8_0, ct8_0, t8_1, t8_2, H, rfl⟩)))))))))))))))))
   ·
    refine ov (EV.ex rfl rfl) rfl (xs [] [0, 1, 2] rfl rfl rfl ?_)
    refine one3 6 7 9 rfl rfl rfl rfl rfl rfl ?_ ?_ ?_
    ·
     refine ov (EV.ex rfl rfl) rfl (xs [] [0, 1, 2] rfl rfl rfl ?_)
     refine one3 7 9 10 rfl rfl rfl rfl rfl rfl ?_ ?_ ?_
     ·
      refine ov (EV.ex rfl rfl) rfl (xs [] [0, 1, 2] rfl rfl rfl ?_)
      refine one2 9 10 rfl rfl rfl rfl ?_ ?_
      ·
       exact ov (EV.ex rfl rfl) rfl (xs [] [0, 1, 2] rfl rfl rfl (one1 10 rfl rfl (op_st (cs' := [.slice At8_0 t8_0.length ct8_0, .int .i64 t8_1, .bool t8_2]) 1 rfl rfl rfl rfl rfl rfl (xn rfl (xd (pr [0, 2, 3, 5] [0, 1, 2] [0, 2, 4] rfl rfl rfl rfl (ge (rg (sv (EV.mv rfl) rfl (sv (EV.sub rfl rfl) rfl (sv (EV.as rfl) rfl (re (wk [0, 2, 3, 5] [2, 0, 1] [⟨0, 2, 1, true⟩, ⟨2, 1, 2, true⟩, ⟨1, 0, 0, false⟩] (ih0 _ (by omega) _ ⟨wrap64 (x4_5 - 1), t7_1, t7_2, x4_2_0, Ax4_2_0, cx4_2_0, x4_2_1, x4_2_2, t8_0, At8_0, ct8_0, t8_1, t8_2, H, rfl⟩))))))))))))))
      ·
       exact op_st (cs' := [.slice At8_0 t8_0.length ct8_0, .int .i64 t8_1, .bool t8_2]) 1 rfl rfl rfl rfl rfl rfl (xn rfl (one1 9 rfl rfl (ov (EV.ex rfl rfl) rfl (xs [] [0, 1, 2] rfl rfl rfl (xd (pr [0, 2, 3, 5] [0, 1, 2] [0, 2, 4] rfl rfl rfl rfl (ge (rg (sv (EV.mv rfl) rfl (sv (EV.sub rfl rfl) rfl (sv (EV.as rfl) rfl (re (wk [0, 2, 3, 5] [2, 0, 1] [⟨0, 2, 1, true⟩, ⟨2, 1, 2, true⟩, ⟨1, 0, 0, false⟩] (ih0 _ (by omega) _ ⟨wrap64 (x4_5 - 1), t7_1, t7_2, x4_2_0, Ax4_2_0, cx4_2_0, x4_2_1, x4_2_2, t8_0, At8_0, ct8_0, t8_1, t8_2, H, rfl⟩))))))))))))))
     ·
      refine ov (EV.ex rfl rfl) rfl (xs [] [0, 1, 2] rfl rfl rfl ?_)
      refine one2 7 10 rfl rfl rfl rfl ?_ ?_
      ·
       exact ov (EV.ex rfl rfl) rfl (xs [] [0, 1, 2] rfl rfl rfl (one1 10 rfl rfl (op_st (cs' := [.slice At8_0 t8_0.length ct8_0, .int .i64 t8_1, .bool t8_2]) 1 rfl rfl rfl rfl rfl rfl (xn rfl (xd (pr [0, 2, 3, 5] [0, 1, 2] [0, 2, 4] rfl rfl rfl rfl (ge (rg (sv (EV.mv rfl) rfl (sv (EV.sub rfl rfl) rfl (sv (EV.as rfl) rfl (re (wk [0, 2, 3, 5] [2, 0, 1] [⟨0, 2, 1, true⟩, ⟨2, 1, 2, true⟩, ⟨1, 0, 0, false⟩] (ih0 _ (by omega) _ ⟨wrap64 (x4_5 - 1), t7_1, t7_2, x4_2_0, Ax4_2_0, cx4_2_0, x4_2_1, x4_2_2, t8_0, At8_0, ct8_0, t8_1, t8_2, H, rfl⟩))))))))))))))
      ·
       exact op_st (cs' := [.slice At8_0 t8_0.length ct8_0, .int .i64 t8_1, .bool t8_2]) 1 rfl rfl rfl rfl rfl rfl (xn rfl (one1 7 rfl rfl (ov (EV.ex rfl rfl) rfl (xs [] [0, 1, 2] rfl rfl rfl (xd (pr [0, 2, 3, 5] [0, 1, 2] [0, 2, 4] rfl rfl rfl rfl (ge (rg (sv (EV.mv rfl) rfl (sv (EV.sub rfl rfl) rfl (sv (EV.as rfl) rfl (re (wk [0, 2, 3, 5] [2, 0, 1] [⟨0, 2, 1, true⟩, ⟨2, 1, 2, true⟩, ⟨1, 0, 0, false⟩] (ih0 _ (by omega) _ ⟨wrap64 (x4_5 - 1), t7_1, t7_2, x4_2_0, Ax4_2_0, cx4_2_0, x4_2_1, x4_2_2, t8_0, At8_0, ct8_0, t8_1, t8_2, H, rfl⟩))))))))))))))
     ·
      refine op_st (cs' := [.slice At8_0 t8_0.length ct8_0, .int .i64 t8_1, .bool t8_2]) 1 rfl rfl rfl rfl rfl rfl (xn rfl ?_)
      refine one2 7 9 rfl rfl rfl rfl ?_ ?_
      ·
       exact ov (EV.ex rfl rfl) rfl (xs [] [0, 1, 2] rfl rfl rfl (one1 9 rfl rfl (ov (EV.ex rfl rfl) rfl (xs [] [0, 1, 2] rfl rfl rfl (xd (pr [0, 2, 3, 5] [0, 1, 2] [0, 2, 4] rfl rfl rfl rfl (ge (rg (sv (EV.mv rfl) rfl (sv (EV.sub rfl rfl) rfl (sv (EV.as rfl) rfl (re (wk [0, 2, 3, 5] [2, 0, 1] [⟨0, 2, 1, true⟩, ⟨2, 1, 2, true⟩, ⟨1, 0, 0, false⟩] (ih0 _ (by omega) _ ⟨wrap64 (x4_5 - 1), t7_1, t7_2, x4_2_0, Ax4_2_0, cx4_2_0, x4_2_1, x4_2_2, t8_0, At8_0, ct8_0, t8_1, t8_2, H, rfl⟩))))))))))))))
      ·
       exact ov (EV.ex rfl rfl) rfl (xs [] [0, 1, 2] rfl rfl rfl (one1 7 rfl rfl (ov (EV.ex rfl rfl) rfl (xs [] [0, 1, 2] rfl rfl rfl (xd (pr [0, 2, 3, 5] [0, 1, 2] [0, 2, 4] rfl rfl rfl rfl (ge (rg (sv (EV.mv rfl) rfl (sv (EV.sub rfl rfl) rfl (sv (EV.as rfl) rfl (re (wk [0, 2, 3, 5] [2, 0, 1] [⟨0, 2, 1, true⟩, ⟨2, 1, 2, true⟩, ⟨1, 0, 0, false⟩] (ih0 _ (by omega) _ ⟨wrap64 (x4_5 - 1), t7_1, t7_2, x4_2_0, Ax4_2_0, cx4_2_0, x4_2_1, x4_2_2, t8_0, At8_0, ct8_0, t8_1, t8_2, H, rfl⟩))))))))))))))
    ·
     refine ov (EV.ex rfl rfl) rfl (xs [] [0, 1, 2] rfl rfl rfl ?_)
     refine one2 6 9 rfl rfl rfl rfl ?_ ?_
     ·
      refine ov (EV.ex rfl rfl) rfl (xs [] [0, 1, 2] rfl rfl rfl ?_)
      refine one2 9 10 rfl rfl rfl rfl ?_ ?_
      ·
       exact ov (EV.ex rfl rfl) rfl (xs [] [0, 1, 2] rfl rfl rfl (one1 10 rfl rfl (op_st (cs' := [.slice At8_0 t8_0.length ct8_0, .int .i64 t8_1, .bool t8_2]) 1 rfl rfl rfl rfl rfl rfl (xn rfl (xd (pr [0, 2, 3, 5] [0, 1, 2] [0, 2, 4] rfl rfl rfl rfl (ge (rg (sv (EV.mv rfl) rfl (sv (EV.sub rfl rfl) rfl (sv (EV.as rfl) rfl (re (wk [0, 2, 3, 5] [2, 0, 1] [⟨0, 2, 1, true⟩, ⟨2, 1, 2, true⟩, ⟨1, 0, 0, false⟩] (ih0 _ (by omega) _ ⟨wrap64 (x4_5 - 1), t7_1, t7_2, x4_2_0, Ax4_2_0, cx4_2_0, x4_2_1, x4_2_2, t8_0, At8_0, ct8_0, t8_1, t8_2, H, rfl⟩))))))))))))))
      ·
       exact op_st (cs' := [.slice At8_0 t8_0.length ct8_0, .int .i64 t8_1, .bool t8_2]) 1 rfl rfl rfl rfl rfl rfl (xn rfl (one1 9 rfl rfl (ov (EV.ex rfl rfl) rfl (xs [] [0, 1, 2] rfl rfl rfl (xd (pr [0, 2, 3, 5] [0, 1, 2] [0, 2, 4] rfl rfl rfl rfl (ge (rg (sv (EV.mv rfl) rfl (sv (EV.sub rfl rfl) rfl (sv (EV.as rfl) rfl (re (wk [0, 2, 3, 5] [2, 0, 1] [⟨0, 2, 1, true⟩, ⟨2, 1, 2, true⟩, ⟨1, 0, 0, false⟩] (ih0 _ (by omega) _ ⟨wrap64 (x4_5 - 1), t7_1, t7_2, x4_2_0, Ax4_2_0, cx4_2_0, x4_2_1, x4_2_2, t8_0, At8_0, ct8_0, t8_1, t8_2, H, rfl⟩))))))))))))))
     ·
      exact ov (EV.ex rfl rfl) rfl (xs [] [0, 1, 2] rfl rfl rfl (one1 6 rfl rfl (ov (EV.ex rfl rfl) rfl (xs [] [0, 1, 2] rfl rfl rfl (one1 10 rfl rfl (op_st (cs' := [.slice At8_0 t8_0.length ct8_0, .int .i64 t8_1, .bool t8_2]) 1 rfl rfl rfl rfl rfl rfl (xn rfl (xd (pr [0, 2, 3, 5] [0, 1, 2] [0, 2, 4] rfl rfl rfl rfl (ge (rg (sv (EV.mv rfl) rfl (sv (EV.sub rfl rfl) rfl (sv (EV.as rfl) rfl (re (wk [0, 2, 3, 5] [2, 0, 1] [⟨0, 2, 1, true⟩, ⟨2, 1, 2, true⟩, ⟨1, 0, 0, false⟩] (ih0 _ (by omega) _ ⟨wrap64 (x4_5 - 1), t7_1, t7_2, x4_2_0, Ax4_2_0, cx4_2_0, x4_2_1, x4_2_2, t8_0, At8_0, ct8_0, t8_1, t8_2, H, rfl⟩)))))))))))))))))
    ·
     refine ov (EV.ex rfl rfl) rfl (xs [] [0, 1, 2] rfl rfl rfl ?_)
     refine one2 6 7 rfl rfl rfl rfl ?_ ?_
     ·
      refine ov (EV.ex rfl rfl) rfl (xs [] [0, 1, 2] rfl rfl rfl ?_)
      refine one2 7 10 rfl rfl rfl rfl ?_ ?_
      ·
       exact ov (EV.ex rfl rfl) rfl (xs [] [0, 1, 2] rfl rfl rfl (one1 10 rfl rfl (op_st (cs' := [.slice At8_0 t8_0.length ct8_0, .int .i64 t8_1, .bool t8_2]) 1 rfl rfl rfl rfl rfl rfl (xn rfl (xd (pr [0, 2, 3, 5] [0, 1, 2] [0, 2, 4] rfl rfl rfl rfl (ge (rg (sv (EV.mv rfl) rfl (sv (EV.sub rfl rfl) rfl (sv (EV.as rfl) rfl (re (wk [0, 2, 3, 5] [2, 0, 1] [⟨0, 2, 1, true⟩, ⟨2, 1, 2, true⟩, ⟨1, 0, 0, false⟩] (ih0 _ (by omega) _ ⟨wrap64 (x4_5 - 1), t7_1, t7_2, x4_2_0, Ax4_2_0, cx4_2_0, x4_2_1, x4_2_2, t8_0, At8_0, ct8_0, t8_1, t8_2, H, rfl⟩))))))))))))))
      ·
       exact op_st (cs' := [.slice At8_0 t8_0.length ct8_0, .int .i64 t8_1, .bool t8_2]) 1 rfl rfl rfl rfl rfl rfl (xn rfl (one1 7 rfl rfl (ov (EV.ex rfl rfl) rfl (xs [] [0, 1, 2] rfl rfl rfl (xd (pr [0, 2, 3, 5] [0, 1, 2] [0, 2, 4] rfl rfl rfl rfl (ge (rg (sv (EV.mv rfl) rfl (sv (EV.sub rfl rfl) rfl (sv (EV.as rfl) rfl (re (wk [0, 2, 3, 5] [2, 0, 1] [⟨0, 2, 1, true⟩, ⟨2, 1, 2, true⟩, ⟨1, 0, 0, false⟩] (ih0 _ (by omega) _ ⟨wrap64 (x4_5 - 1), t7_1, t7_2, x4_2_0, Ax4_2_0, cx4_2_0, x4_2_1, x4_2_2, t8_0, At8_0, ct8_0, t8_1, t8_2, H, rfl⟩))))))))))))))
     ·
      exact ov (EV.ex rfl rfl) rfl (xs [] [0, 1, 2] rfl rfl rfl (one1 6 rfl rfl (ov (EV.ex rfl rfl) rfl (xs [] [0, 1, 2] rfl rfl rfl (one1 10 rfl rfl (op_st (cs' := [.slice At8_0 t8_0.length ct8_0, .int .i64 t8_1, .bool t8_2]) 1 rfl rfl rfl rfl rfl rfl (xn rfl (xd (pr [0, 2, 3, 5] [0, 1, 2] [0, 2, 4] rfl rfl rfl rfl (ge (rg (sv (EV.mv rfl) rfl (sv (EV.sub rfl rfl) rfl (sv (EV.as rfl) rfl (re (wk [0, 2, 3, 5] [2, 0, 1] [⟨0, 2, 1, true⟩, ⟨2, 1, 2, true⟩, ⟨1, 0, 0, false⟩] (ih0 _ (by omega) _ ⟨wrap64 (x4_5 - 1), t7_1, t7_2, x4_2_0, Ax4_2_0, cx4_2_0, x4_2_1, x4_2_2, t8_0, At8_0, ct8_0, t8_1, t8_2, H, rfl⟩)))))))))))))))))
   ·
    refine ov (EV.ex rfl rfl) rfl (xs [] [0, 1, 2] rfl rfl rfl ?_)
    refine one3 6 7 8 rfl rfl rfl rfl rfl rfl ?_ ?_ ?_
    ·
     refine ov (EV.ex rfl rfl) rfl (xs [] [0, 1, 2] rfl rfl rfl ?_)
     refine one3 7 8 10 rfl rfl rfl rfl rfl rfl ?_ ?_ ?_
     ·
      refine ov (EV.ex rfl rfl) rfl (xs [] [0, 1, 2] rfl rfl rfl ?_)
      refine one2 8 10 rfl rfl rfl rfl ?_ ?_
      ·
       exact ov (EV.ex rfl rfl) rfl (xs [] [0, 1, 2] rfl rfl rfl (one1 10 rfl rfl (op_st (cs' := [.slice At8_0 t8_0.length ct8_0, .int .i64 t8_1, .bool t8_2]) 1 rfl rfl rfl rfl rfl rfl (xn rfl (xd (pr [0, 2, 3, 5] [0, 1, 2] [0, 2, 4] rfl rfl rfl rfl (ge (rg (sv (EV.mv rfl) rfl (sv (EV.sub rfl rfl) rfl (sv (EV.as rfl) rfl (re (wk [0, 2, 3, 5] [2, 0, 1] [⟨0, 2, 1, true⟩, ⟨2, 1, 2, true⟩, ⟨1, 0, 0, false⟩] (ih0 _ (by omega) _ ⟨wrap64 (x4_5 - 1), t7_1, t7_2, x4_2_0, Ax4_2_0, cx4_2_0, x4_2_1, x4_2_2, t8_0, At8_0, ct8_0, t8_1, t8_2, H, rfl⟩))))))))))))))
      ·
       exact op_st (cs' := [.slice At8_0 t8_0.length ct8_0, .int .i64 t8_1, .bool t8_2]) 1 rfl rfl rfl rfl rfl rfl (xn rfl (one1 8 rfl rfl (ov (EV.ex rfl rfl) rfl (xs [] [0, 1, 2] rfl rfl rfl (xd (pr [0, 2, 3, 5] [0, 1, 2] [0, 2, 4] rfl rfl rfl rfl (ge (rg (sv (EV.mv rfl) rfl (sv (EV.sub rfl rfl) rfl (sv (EV.as rfl) rfl (re (wk [0, 2, 3, 5] [2, 0, 1] [⟨0, 2, 1, true⟩, ⟨2, 1, 2, true⟩, ⟨1, 0, 0, false⟩] (ih0 _ (by omega) _ ⟨wrap64 (x4_5 - 1), t7_1, t7_2, x4_2_0, Ax4_2_0, cx4_2_0, x4_2_1, x4_2_2, t8_0, At8_0, ct8_0, t8_1, t8_2, H, rfl⟩))))))))))))))
     ·
      refine ov (EV.ex rfl rfl) rfl (xs [] [0, 1, 2] rfl rfl rfl ?_)
      refine one2 7 10 rfl rfl rfl rfl ?_ ?_
      ·
       exact ov (EV.ex rfl rfl) rfl (xs [] [0, 1, 2] rfl rfl rfl (one1 10 rfl rfl (op_st (cs' := [.slice At8_0 t8_0.length ct8_0, .int .i64 t8_1, .bool t8_2]) 1 rfl rfl rfl rfl rfl rfl (xn rfl (xd (pr [0, 2, 3, 5] [0, 1, 2] [0, 2, 4] rfl rfl rfl rfl (ge (rg (sv (EV.mv rfl) rfl (sv (EV.sub rfl rfl) rfl (sv (EV.as rfl) rfl (re (wk [0, 2, 3, 5] [2, 0, 1] [⟨0, 2, 1, true⟩, ⟨2, 1, 2, true⟩, ⟨1, 0, 0, false⟩] (ih0 _ (by omega) _ ⟨wrap64 (x4_5 - 1), t7_1, t7_2, x4_2_0, Ax4_2_0, cx4_2_0, x4_2_1, x4_2_2, t8_0, At8_0, ct8_0, t8_1, t8_2, H, rfl⟩))))))))))))))
      ·
       exact op_st (cs' := [.slice At8_0 t8_0.length ct8_0, .int .i64 t8_1, .bool t8_2]) 1 rfl rfl rfl rfl rfl rfl (xn rfl (one1 7 rfl rfl (ov (EV.ex rfl rfl) rfl (xs [] [0, 1, 2] rfl rfl rfl (xd (pr [0, 2, 3, 5] [0, 1, 2] [0, 2, 4] rfl rfl rfl rfl (ge (rg (sv (EV.mv rfl) rfl (sv (EV.sub rfl rfl) rfl (sv (EV.as rfl) rfl (re (wk [0, 2, 3, 5] [2, 0, 1] [⟨0, 2, 1, true⟩, ⟨2, 1, 2, true⟩, ⟨1, 0, 0, false⟩] (ih0 _ (by omega) _ ⟨wrap64 (x4_5 - 1), t7_1, t7_2, x4_2_0, Ax4_2_0, cx4_2_0, x4_2_1, x4_2_2, t8_0, At8_0, ct8_0, t8_1, t8_2, H, rfl⟩))))))))))))))
     ·
      refine op_st (cs' := [.slice At8_0 t8_0.length ct8_0, .int .i64 t8_1, .bool t8_2]) 1 rfl rfl rfl rfl rfl rfl (xn rfl ?_)
      refine one2 7 8 rfl rfl rfl rfl ?_ ?_
      ·
       exact ov (EV.ex rfl rfl) rfl (xs [] [0, 1, 2] rfl rfl rfl (one1 8 rfl rfl (ov (EV.ex rfl rfl) rfl (xs [] [0, 1, 2] rfl rfl rfl (xd (pr [0, 2, 3, 5] [0, 1, 2] [0, 2, 4] rfl rfl rfl rfl (ge (rg (sv (EV.mv rfl) rfl (sv (EV.sub rfl rfl) rfl (sv (EV.as rfl) rfl (re (wk [0, 2, 3, 5] [2, 0, 1] [⟨0, 2, 1, true⟩, ⟨2, 1, 2, true⟩, ⟨1, 0, 0, false⟩] (ih0 _ (by omega) _ ⟨wrap64 (x4_5 - 1), t7_1, t7_2, x4_2_0, Ax4_2_0, cx4_2_0, x4_2_1, x4_2_2, t8_0, At8_0, ct8_0, t8_1, t8_2, H, rfl⟩))))))))))))))
      ·
       exact ov (EV.ex rfl rfl) rfl (xs [] [0, 1, 2] rfl rfl rfl (one1 7 rfl rfl (ov (EV.ex rfl rfl) rfl (xs [] [0, 1, 2] rfl rfl rfl (xd (pr [0, 2, 3, 5] [0, 1, 2] [0, 2, 4] rfl rfl rfl rfl (ge (rg (sv (EV.mv rfl) rfl (sv (EV.sub rfl rfl) rfl (sv (EV.as rfl) rfl (re (wk [0, 2, 3, 5] [2, 0, 1] [⟨0, 2, 1, true⟩, ⟨2, 1, 2, true⟩, ⟨1, 0, 0, false⟩] (ih0 _ (by omega) _ ⟨wrap64 (x4_5 - 1), t7_1, t7_2, x4_2_0, Ax4_2_0, cx4_2_0, x4_2_1, x4_2_2, t8_0, At8_0, ct8_0, t8_1, t8_2, H, rfl⟩))))))))))))))
    ·
     refine ov (EV.ex rfl rfl) rfl (xs [] [0, 1, 2] rfl rfl rfl ?_)
     refine one2 6 8 rfl rfl rfl rfl ?_ ?_
     ·
      refine ov (EV.ex rfl rfl) rfl (xs [] [0, 1, 2] rfl rfl rfl ?_)
      refine one2 8 10 rfl rfl rfl rfl ?_ ?_
      ·
       exact ov (EV.ex rfl rfl) rfl (xs [] [0, 1, 2] rfl rfl rfl (one1 10 rfl rfl (op_st (cs' := [.slice At8_0 t8_0.length ct8_0, .int .i64 t8_1, .bool t8_2]) 1 rfl rfl rfl rfl rfl rfl (xn rfl (xd (pr [0, 2, 3, 5] [0, 1, 2] [0, 2, 4] rfl rfl rfl rfl (ge (rg (sv (EV.mv rfl) rfl (sv (EV.sub rfl rfl) rfl (sv (EV.as rfl) rfl (re (wk [0, 2, 3, 5] [2, 0, 1] [⟨0, 2, 1, true⟩, ⟨2, 1, 2, true⟩, ⟨1, 0, 0, false⟩] (ih0 _ (by omega) _ ⟨wrap64 (x4_5 - 1), t7_1, t7_2, x4_2_0, Ax4_2_0, cx4_2_0, x4_2_1, x4_2_2, t8_0, At8_0, ct8_0, t8_1, t8_2, H, rfl⟩))))))))))))))
      ·
       exact op_st (cs' := [.slice At8_0 t8_0.length ct8_0, .int .i64 t8_1, .bool t8_2]) 1 rfl rfl rfl rfl rfl rfl (xn rfl (one1 8 rfl rfl (ov (EV.ex rfl rfl) rfl (xs [] [0, 1, 2] rfl rfl rfl (xd (pr [0, 2, 3, 5] [0, 1, 2] [0, 2, 4] rfl rfl rfl rfl (ge (rg (sv (EV.mv rfl) rfl (sv (EV.sub rfl rfl) rfl (sv (EV.as rfl) rfl (re (wk [0, 2, 3, 5] [2, 0, 1] [⟨0, 2, 1, true⟩, ⟨2, 1, 2, true⟩, ⟨1, 0, 0, false⟩] (ih0 _ (by omega) _ ⟨wrap64 (x4_5 - 1), t7_1, t7_2, x4_2_0, Ax4_2_0, cx4_2_0, x4_2_1, x4_2_2, t8_0, At8_0, ct8_0, t8_1, t8_2, H, rfl⟩))))))))))))))
     ·
      exact ov (EV.ex rfl rfl) rfl (xs [] [0, 1, 2] rfl rfl rfl (one1 6 rfl rfl (ov (EV.ex rfl rfl) rfl (xs [] [0, 1, 2] rfl rfl rfl (one1 10 rfl rfl (op_st (cs' := [.slice At8_0 t8_0.length ct8_0, .int .i64 t8_1, .bool t8_2]) 1 rfl rfl rfl rfl rfl rfl (xn rfl (xd (pr [0, 2, 3, 5] [0, 1, 2] [0, 2, 4] rfl rfl rfl rfl (ge (rg (sv (EV.mv rfl) rfl (sv (EV.sub rfl rfl) rfl (sv (EV.as rfl) rfl (re (wk [0, 2, 3, 5] [2, 0, 1] [⟨0, 2, 1, true⟩, ⟨2, 1, 2, true⟩, ⟨1, 0, 0, false⟩] (ih0 _ (by omega) _ ⟨wrap64 (x4_5 - 1), t7_1, t7_2, x4_2_0, Ax4_2_0, cx4_2_0, x4_2_1, x4_2_2, t8_0, At8_0, ct8_0, t8_1, t8_2, H, rfl⟩)))))))))))))))))
    ·
     refine ov (EV.ex rfl rfl) rfl (xs [] [0, 1, 2] rfl rfl rfl ?_)
     refine one2 6 7 rfl rfl rfl rfl ?_ ?_
     ·
      refine ov (EV.ex rfl rfl) rfl (xs [] [0, 1, 2] rfl rfl rfl ?_)
      refine one2 7 10 rfl rfl rfl rfl ?_ ?_
      ·
       exact ov (EV.ex rfl rfl) rfl (xs [] [0, 1, 2] rfl rfl rfl (one1 10 rfl rfl (op_st (cs' := [.slice At8_0 t8_0.length ct8_0, .int .i64 t8_1, .bool t8_2]) 1 rfl rfl rfl rfl rfl rfl (xn rfl (xd (pr [0, 2, 3, 5] [0, 1, 2] [0, 2, 4] rfl rfl rfl rfl (ge (rg (sv (EV.mv rfl) rfl (sv (EV.sub rfl rfl) rfl (sv (EV.as rfl) rfl (re (wk [0, 2, 3, 5] [2, 0, 1] [⟨0, 2, 1, true⟩, ⟨2, 1, 2, true⟩, ⟨1, 0, 0, false⟩] (ih0 _ (by omega) _ ⟨wrap64 (x4_5 - 1), t7_1, t7_2, x4_2_0, Ax4_2_0, cx4_2_0, x4_2_1, x4_2_2, t8_0, At8_0, ct8_0, t8_1, t8_2, H, rfl⟩))))))))))))))
      ·
       exact op_st (cs' := [.slice At8_0 t8_0.length ct8_0, .int .i64 t8_1, .bool t8_2]) 1 rfl rfl rfl rfl rfl rfl (xn rfl (one1 7 rfl rfl (ov (EV.ex rfl rfl) rfl (xs [] [0, 1, 2] rfl rfl rfl (xd (pr [0, 2, 3, 5] [0, 1, 2] [0, 2, 4] rfl rfl rfl rfl (ge (rg (sv (EV.mv rfl) rfl (sv (EV.sub rfl rfl) rfl (sv (EV.as rfl) rfl (re (wk [0, 2, 3, 5] [2, 0, 1] [⟨0, 2, 1, true⟩, ⟨2, 1, 2, true⟩, ⟨1, 0, 0, false⟩] (ih0 _ (by omega) _ ⟨wrap64 (x4_5 - 1), t7_1, t7_2, x4_2_0, Ax4_2_0, cx4_2_0, x4_2_1, x4_2_2, t8_0, At8_0, ct8_0, t8_1, t8_2, H, rfl⟩))))))))))))))
     ·
      exact ov (EV.ex rfl rfl) rfl (xs [] [0, 1, 2] rfl rfl rfl (one1 6 rfl rfl (ov (EV.ex rfl rfl) rfl (xs [] [0, 1, 2] rfl rfl rfl (one1 10 rfl rfl (op_st (cs' := [.slice At8_0 t8_0.length ct8_0, .int .i64 t8_1, .bool t8_2]) 1 rfl rfl rfl rfl rfl rfl (xn rfl (xd (pr [0, 2, 3, 5] [0, 1, 2] [0, 2, 4] rfl rfl rfl rfl (ge (rg (sv (EV.mv rfl) rfl (sv (EV.sub rfl rfl) rfl (sv (EV.as rfl) rfl (re (wk [0, 2, 3, 5] [2, 0, 1] [⟨0, 2, 1, true⟩, ⟨2, 1, 2, true⟩, ⟨1, 0, 0, false⟩] (ih0 _ (by omega) _ ⟨wrap64 (x4_5 - 1), t7_1, t7_2, x4_2_0, Ax4_2_0, cx4_2_0, x4_2_1, x4_2_2, t8_0, At8_0, ct8_0, t8_1, t8_2, H, rfl⟩)))))))))))))))))
  ·
   refine op_lit (s := 1) (by_ := 8) (.int .i64) ([8, 9, 12] : List Int) [[], [], []] [] 3 [.const (.int .i64 8), .const (.int .i64 9), .const (.int .i64 12)] rfl rfl rfl rfl rfl rfl rfl rfl rfl rfl rfl rfl rfl dq rfl fun A23_9 c23_9 => (xs [] [0, 1, 2] rfl rfl rfl ?_)
   refine one2 0 3 rfl rfl rfl rfl ?_ ?_
   ·
    refine ov (EV.ld (v := .agg #[.slice Ax4_3_0 x4_3_0.length cx4_3_0, .int .i64 x4_3_1, .bool x4_3_2]) 2 (some 3) rfl rfl rfl) rfl (xs [] [0, 1, 2] rfl rfl rfl (one1 3 rfl rfl ?_))
    revert H; refine bdI ?_; rintro ⟨t10_0, t10_1, t10_2⟩ A10 H
    refine op_callM (spec_l1PickInt.ok b1000 l0_0 Al0_0 cl0_0 x4_1000_1 x4_1000_2 ([8, 9, 12] : List Int) A23_9 c23_9 _ _ _ A10) [⟨2, 0, 0, false⟩, ⟨3, 0, 0, false⟩] [0] [1, 2] 4 rfl rfl rfl rfl rfl rfl rfl rfl ?_
    rintro _ _ _ ⟨rfl, rfl, rfl⟩
    refine nmE (en := [.sl 2 k102 Ax4_2_0 cx4_2_0 x4_2_0 1 true, .sl 1 k102 Ax4_3_0 cx4_3_0 x4_3_0 2 true, .sl 0 (.int .u8) Al0_0 cl0_0 l0_0 0 false, .sl 2 (.int .i64) A23_9 c23_9 ([8, 9, 12] : List Int) 3 true]) (by kernel_rfl) (xs [] [0, 1, 2] rfl rfl rfl (one1 4 rfl rfl ?_))
    revert H; refine bdI ?_; rintro ⟨t11_0, t11_1, t11_2, t11_3, t11_4, t11_5⟩ A11 H
    refine op_call (spec_StepAggregator.ok n0 x4_3_0 Ax4_3_0 cx4_3_0 x4_3_1 x4_3_2 t10_0 _ _ _ _ _ _ A11) [⟨1, 0, 0, false⟩] 4 rfl rfl rfl rfl rfl ?_
    rintro _ _ _ ⟨At11_0, ct11_0, At11_3, ct11_3, rfl, rfl, rfl⟩
    refine xs [] [0, 1, 2] rfl rfl rfl (one1 5 rfl rfl (ov (EV.mv rfl) rfl (xs [] [0, 1, 2] rfl rfl rfl ?_)))
    refine one4 6 7 8 9 rfl rfl rfl rfl rfl rfl rfl rfl ?_ ?_ ?_ ?_
    ·
     refine ov (EV.ex rfl rfl) rfl (xs [] [0, 1, 2] rfl rfl rfl ?_)
     refine one4 7 8 9 10 rfl rfl rfl rfl rfl rfl rfl rfl ?_ ?_ ?_ ?_
     ·
      refine ov (EV.ex rfl rfl) rfl (xs [] [0, 1, 2] rfl rfl rfl ?_)
      refine one3 8 9 10 rfl rfl rfl rfl rfl rfl ?_ ?_ ?_
      ·
       refine ov (EV.ex rfl rfl) rfl (xs [] [0, 1, 2] rfl rfl rfl ?_)
       refine one2 9 10 rfl rfl rfl rfl ?_ ?_
       ·
        exact ov (EV.ex rfl rfl) rfl (xs [] [0, 1, 2] rfl rfl rfl (one1 10 rfl rfl (op_st (cs' := [.slice At11_0 t11_0.length ct11_0, .int .i64 t11_1, .bool t11_2]) 1 rfl rfl rfl rfl rfl rfl (xn rfl (xd (pr [0, 2, 3, 5] [0, 1, 2] [0, 2, 4] rfl rfl rfl rfl (ge (rg (sv (EV.mv rfl) rfl (sv (EV.sub rfl rfl) rfl (sv (EV.as rfl) rfl (re (wk [0, 2, 3, 5] [2, 0, 1] [⟨0, 2, 1, true⟩, ⟨2, 1, 2, true⟩, ⟨1, 0, 0, false⟩] (ih0 _ (by omega) _ ⟨wrap64 (x4_5 - 1), t10_1, t10_2, x4_2_0, Ax4_2_0, cx4_2_0, x4_2_1, x4_2_2, t11_0, At11_0, ct11_0, t11_1, t11_2, H, rfl⟩))))))))))))))
       ·
        exact op_st (cs' := [.slice At11_0 t11_0.length ct11_0, .int .i64 t11_1, .bool t11_2]) 1 rfl rfl rfl rfl rfl rfl (xn rfl (one1 9 rfl rfl (ov (EV.ex rfl rfl) rfl (xs [] [0, 1, 2] rfl rfl rfl (xd (pr [0, 2, 3, 5] [0, 1, 2] [0, 2, 4] rfl rfl rfl rfl (ge (rg (sv (EV.mv rfl) rfl (sv (EV.sub rfl rfl) rfl (sv (EV.as rfl) rfl (re (wk [0, 2, 3, 5] [2, 0, 1] [⟨0, 2, 1, true⟩, ⟨2, 1, 2, true⟩, ⟨1, 0, 0, false⟩] (ih0 _ (by omega) _ ⟨wrap64 (x4_5 - 1), t10_1, t10_2, x4_2_0, Ax4_2_0, cx4_2_0, x4_2_1, x4_2_2, t11_0, At11_0, ct11_0, t11_1, t11_2, H, rfl⟩))))))))))))))
      ·
       refine ov (EV.ex rfl rfl) rfl (xs [] [0, 1, 2] rfl rfl rfl ?_)
       refine one2 8 10 rfl rfl rfl rfl ?_ ?_
       ·
        exact ov (EV.ex rfl rfl) rfl (xs [] [0, 1, 2] rfl rfl rfl (one1 10 rfl rfl (op_st (cs' := [.slice At11_0 t11_0.length ct11_0, .int .i64 t11_1, .bool t11_2]) 1 rfl rfl rfl rfl rfl rfl (xn rfl (xd (pr [0, 2, 3, 5] [0, 1, 2] [0, 2, 4] rfl rfl rfl rfl (ge (rg (sv (EV.mv rfl) rfl (sv (EV.sub rfl rfl) rfl (sv (EV.as rfl) rfl (re (wk [0, 2, 3, 5] [2, 0, 1] [⟨0, 2, 1, true⟩, ⟨2, 1, 2, true⟩, ⟨1, 0, 0, false⟩] (ih0 _ (by omega) _ ⟨wrap64 (x4_5 - 1), t10_1, t10_2, x4_2_0, Ax4_2_0, cx4_2_0, x4_2_1, x4_2_2, t11_0, At11_0, ct11_0, t11_1, t11_2, H, rfl⟩))))))))))))))
       ·
        exact op_st (cs' := [.slice At11_0 t11_0.length ct11_0, .int .i64 t11_1, .bool t11_2]) 1 rfl rfl rfl rfl rfl rfl (xn rfl (one1 8 rfl rfl (ov (EV.ex rfl rfl) rfl (xs [] [0, 1, 2] rfl rfl rfl (xd (pr [0, 2, 3, 5] [0, 1, 2] [0, 2, 4] rfl rfl rfl rfl (ge (rg (sv (EV.mv rfl) rfl (sv (EV.sub rfl rfl) rfl (sv (EV.as rfl) rfl (re (wk [0, 2, 3, 5] [2, 0, 1] [⟨0, 2, 1, true⟩, ⟨2, 1, 2, true⟩, ⟨1, 0, 0, false⟩] (ih0 _ (by omega) _ ⟨wrap64 (x4_5 - 1), t10_1, t10_2, x4_2_0, Ax4_2_0, cx4_2_0, x4_2_1, x4_2_2, t11_0, At11_0, ct11_0, t11_1, t11_2, H, rfl⟩))))))))))))))
      ·
       refine op_st (cs' := [.slice At11_0 t11_0.length ct11_0, .int .i64 t11_1, .bool t11_2]) 1 rfl rfl rfl rfl rfl rfl (xn rfl ?_)
       refine one2 8 9 rfl rfl rfl rfl ?_ ?_
       ·
        exact ov (EV.ex rfl rfl) rfl (xs [] [0, 1, 2] rfl rfl rfl (one1 9 rfl rfl (ov (EV.ex rfl rfl) rfl (xs [] [0, 1, 2] rfl rfl rfl (xd (pr [0, 2, 3, 5] [0, 1, 2] [0, 2, 4] rfl rfl rfl rfl (ge (rg (sv (EV.mv rfl) rfl (sv (EV.sub rfl rfl) rfl (sv (EV.as rfl) rfl (re (wk [0, 2, 3, 5] [2, 0, 1] [⟨0, 2, 1, true⟩, ⟨2, 1, 2, true⟩, ⟨1, 0, 0, false⟩] (ih0 _ (by omega) _ ⟨wrap64 (x4_5 - 1), t10_1, t10_2, x4_2_0, Ax4_2_0, cx4_2_0, x4_2_1, x4_2_2, t11_0, At11_0, ct11_0, t11_1, t11_2, H, rfl⟩))))))))))))))
       ·
        exact ov (EV.ex rfl rfl) rfl (xs [] [0, 1, 2] rfl rfl rfl (one1 8 rfl rfl (ov (EV.ex rfl rfl) rfl (xs [] [0, 1, 2] rfl rfl rfl (xd (pr [0, 2, 3, 5] [0, 1, 2] [0, 2, 4] rfl rfl rfl rfl (ge (rg (sv (EV.mv rfl) rfl (sv (EV.sub rfl rfl) rfl (sv (EV.as rfl) rfl (re (wk [0, 2, 3, 5] [2, 0, 1] [⟨0, 2, 1, true⟩, ⟨2, 1, 2, true⟩, ⟨1, 0, 0, false⟩] (ih0 _ (by omega) _ ⟨wrap64 (x4_5 - 1), t10_1, t10_2, x4_2_0, Ax4_2_0, cx4_2_0, x4_2_1, x4_2_2, t11_0, At11_0, ct11_0, t11_1, t11_2, H, rfl⟩))))))))))))))
     ·
      refine ov (EV.ex rfl rfl) rfl (xs [] [0, 1, 2] rfl rfl rfl ?_)
      refine one3 7 9 10 rfl rfl rfl rfl rfl rfl ?_ ?_ ?_
      ·
       refine ov (EV.ex rfl rfl) rfl (xs [] [0, 1, 2] rfl rfl rfl ?_)
       refine one2 9 10 rfl rfl rfl rfl ?_ ?_
       ·
        exact ov (EV.ex rfl rfl) rfl (xs [] [0, 1, 2] rfl rfl rfl (one1 10 rfl rfl (op_st (cs' := [.slice At11_0 t11_0.length ct11_0, .int .i64 t11_1, .bool t11_2]) 1 rfl rfl rfl rfl rfl rfl (xn rfl (xd (pr [0, 2, 3, 5] [0, 1, 2] [0, 2, 4] rfl rfl rfl rfl (ge (rg (sv (EV.mv rfl) rfl (sv (EV.sub rfl rfl) rfl (sv (EV.as rfl) rfl (re (wk [0, 2, 3, 5] [2, 0, 1] [⟨0, 2, 1, true⟩, ⟨2, 1, 2, true⟩, ⟨1, 0, 0, false⟩] (ih0 _ (by omega) _ ⟨wrap64 (x4_5 - 1), t10_1, t10_2, x4_2_0, Ax4_2_0, cx4_2_0, x4_2_1, x4_2_2, t11_0, At11_0, ct11_0, t11_1, t11_2, H, rfl⟩))))))))))))))
       ·
        exact op_st (cs' := [.slice At11_0 t11_0.length ct11_0, .int .i64 t11_1, .bool t11_2]) 1 rfl rfl rfl rfl rfl rfl (xn rfl (one1 9 rfl rfl (ov (EV.ex rfl rfl) rfl (xs [] [0, 1, 2] rfl rfl rfl (xd (pr [0, 2, 3, 5] [0, 1, 2] [0, 2, 4] rfl rfl rfl rfl (ge (rg (sv (EV.mv rfl) rfl (sv (EV.sub rfl rfl) rfl (sv (EV.as rfl) rfl (re (wk [0, 2, 3, 5] [2, 0, 1] [⟨0, 2, 1, true⟩, ⟨2, 1, 2, true⟩, ⟨1, 0, 0, false⟩] (ih0 _ (by omega) _ ⟨wrap64 (x4_5 - 1), t10_1, t10_2, x4_2_0, Ax4_2_0, cx4_2_0, x4_2_1, x4_2_2, t11_0, At11_0, ct11_0, t11_1, t11_2, H, rfl⟩))))))))))))))
      ·
       refine ov (EV.ex rfl rfl) rfl (xs [] [0, 1, 2] rfl rfl rfl ?_)
       refine one2 7 10 rfl rfl rfl rfl ?_ ?_
       ·
        exact ov (EV.ex rfl rfl) rfl (xs [] [0, 1, 2] rfl rfl rfl (one1 10 rfl rfl (op_st (cs' := [.slice At11_0 t11_0.length ct11_0, .int .i64 t11_1, .bool t11_2]) 1 rfl rfl rfl rfl rfl rfl (xn rfl (xd (pr [0, 2, 3, 5] [0, 1, 2] [0, 2, 4] rfl rfl rfl rfl (ge (rg (sv (EV.mv rfl) rfl (sv (EV.sub rfl rfl) rfl (sv (EV.as rfl) rfl (re (wk [0, 2, 3, 5] [2, 0, 1] [⟨0, 2, 1, true⟩, ⟨2, 1, 2, true⟩, ⟨1, 0, 0, false⟩] (ih0 _ (by omega) _ ⟨wrap64 (x4_5 - 1), t10_1, t10_2, x4_2_0, Ax4_2_0, cx4_2_0, x4_2_1, x4_2_2, t11_0, At11_0, ct11_0, t11_1, t11_2, H, rfl⟩))))))))))))))
       ·
        exact op_st (cs' := [.slice At11_0 t11_0.length ct11_0, .int .i64 t11_1, .bool t11_2]) 1 rfl rfl rfl rfl rfl rfl (xn rfl (one1 7 rfl rfl (ov (EV.ex rfl rfl) rfl (xs [] [0, 1, 2] rfl rfl rfl (xd (pr [0, 2, 3, 5] [0, 1, 2] [0, 2, 4] rfl rfl rfl rfl (ge (rg (sv (EV.mv rfl) rfl (sv (EV.sub rfl rfl) rfl (sv (EV.as rfl) rfl (re (wk [0, 2, 3, 5] [2, 0, 1] [⟨0, 2, 1, true⟩, ⟨2, 1, 2, true⟩, ⟨1, 0, 0, false⟩] (ih0 _ (by omega) _ ⟨wrap64 (x4_5 - 1), t10_1, t10_2, x4_2_0, Ax4_2_0, cx4_2_0, x4_2_1, x4_2_2, t11_0, At11_0, ct11_0, t11_1, t11_2, H, rfl⟩))))))))))))))
      ·
       refine op_st (cs' := [.slice At11_0 t11_0.length ct11_0, .int .i64 t11_1, .bool t11_2]) 1 rfl rfl rfl rfl rfl rfl (xn rfl ?_)
       refine one2 7 9 rfl rfl rfl rfl ?_ ?_
       ·
        exact ov (EV.ex rfl rfl) rfl (xs [] [0, 1, 2] rfl rfl rfl (one1 9 rfl rfl (ov (EV.ex rfl rfl) rfl (xs [] [0, 1, 2] rfl rfl rfl (xd (pr [0, 2, 3, 5] [0, 1, 2] [0, 2, 4] rfl rfl rfl rfl (ge (rg (sv (EV.mv rfl) rfl (sv (EV.sub rfl rfl) rfl (sv (EV.as rfl) rfl (re (wk [0, 2, 3, 5] [2, 0, 1] [⟨0, 2, 1, true⟩, ⟨2, 1, 2, true⟩, ⟨1, 0, 0, false⟩] (ih0 _ (by omega) _ ⟨wrap64 (x4_5 - 1), t10_1, t10_2, x4_2_0, Ax4_2_0, cx4_2_0, x4_2_1, x4_2_2, t11_0, At11_0, ct11_0, t11_1, t11_2, H, rfl⟩))))))))))))))
       ·
        exact ov (EV.ex rfl rfl) rfl (xs [] [0, 1, 2] rfl rfl rfl (one1 7 rfl rfl (ov (EV.ex rfl rfl) rfl (xs [] [0, 1, 2] rfl rfl rfl (xd (pr [0, 2, 3, 5] [0, 1, 2] [0, 2, 4] rfl rfl rfl rfl (ge (rg (sv (EV.mv rfl) rfl (sv (EV.sub rfl rfl) rfl (sv (EV.as rfl) rfl (re (wk [0, 2, 3, 5] [2, 0, 1] [⟨0, 2, 1, true⟩, ⟨2, 1, 2, true⟩, ⟨1, 0, 0, false⟩] (ih0 _ (by omega) _ ⟨wrap64 (x4_5 - 1), t10_1, t10_2, x4_2_0, Ax4_2_0, cx4_2_0, x4_2_1, x4_2_2, t11_0, At11_0, ct11_0, t11_1, t11_2, H, rfl⟩))))))))))))))
     ·
      refine ov (EV.ex rfl rfl) rfl (xs [] [0, 1, 2] rfl rfl rfl ?_)
      refine one3 7 8 10 rfl rfl rfl rfl rfl rfl ?_ ?_ ?_
      ·
       refine ov (EV.ex rfl rfl) rfl (xs [] [0, 1, 2] rfl rfl rfl ?_)
       refine one2 8 10 rfl rfl rfl rfl ?_ ?_
       ·
        exact ov (EV.ex rfl rfl) rfl (xs [] [0, 1, 2] rfl rfl rfl (one1 10 rfl rfl (op_st (cs' := [.slice At11_0 t11_0.length ct11_0, .int .i64 t11_1, .bool t11_2]) 1 rfl rfl rfl rfl rfl rfl (xn rfl (xd (pr [0, 2, 3, 5] [0, 1, 2] [0, 2, 4] rfl rfl rfl rfl (ge (rg (sv (EV.mv rfl) rfl (sv (EV.sub rfl rfl) rfl (sv (EV.as rfl) rfl (re (wk [0, 2, 3, 5] [2, 0, 1] [⟨0, 2, 1, true⟩, ⟨2, 1, 2, true⟩, ⟨1, 0, 0, false⟩] (ih0 _ (by omega) _ ⟨wrap64 (x4_5 - 1), t10_1, t10_2, x4_2_0, Ax4_2_0, cx4_2_0, x4_2_1, x4_2_2, t11_0, At11_0, ct11_0, t11_1, t11_2, H, rfl⟩))))))))))))))
       ·
        exact op_st (cs' := [.slice At11_0 t11_0.length ct11_0, .int .i64 t11_1, .bool t11_2]) 1 rfl rfl rfl rfl rfl rfl (xn rfl (one1 8 rfl rfl (ov (EV.ex rfl rfl) rfl (xs [] [0, 1, 2] rfl rfl rfl (xd (pr [0, 2, 3, 5] [0, 1, 2] [0, 2, 4] rfl rfl rfl rfl (ge (rg (sv (EV.mv rfl) rfl (sv (EV.sub rfl rfl) rfl (sv (EV.as rfl) rfl (re (wk [0, 2, 3, 5] [2, 0, 1] [⟨0, 2, 1, true⟩, ⟨2, 1, 2, true⟩, ⟨1, 0, 0, false⟩] (ih0 _ (by omega) _ ⟨wrap64 (x4_5 - 1), t10_1, t10_2, x4_2_0, Ax4_2_0, cx4_2_0, x4_2_1, x4_2_2, t11_0, At11_0, ct11_0, t11_1, t11_2, H, rfl⟩))))))))))))))
      ·
       refine ov (EV.ex rfl rfl) rfl (xs [] [0, 1, 2] rfl rfl rfl ?_)
       refine one2 7 10 rfl rfl rfl rfl ?_ ?_
       ·
        exact ov (EV.ex rfl rfl) rfl (xs [] [0, 1, 2] rfl rfl rfl (one1 10 rfl rfl (op_st (cs' := [.slice At11_0 t11_0.length ct11_0, .int .i64 t11_1, .bool t11_2]) 1 rfl rfl rfl rfl rfl rfl (xn rfl (xd (pr [0, 2, 3, 5] [0, 1, 2] [0, 2, 4] rfl rfl rfl rfl (ge (rg (sv (EV.mv rfl) rfl (sv (EV.sub rfl rfl) rfl (sv (EV.as rfl) rfl (re (wk [0, 2, 3, 5] [2, 0, 1] [⟨0, 2, 1, true⟩, ⟨2, 1, 2, true⟩, ⟨1, 0, 0, false⟩] (ih0 _ (by omega) _ ⟨wrap64 (x4_5 - 1), t10_1, t10_2, x4_2_0, Ax4_2_0, cx4_2_0, x4_2_1, x4_2_2, t11_0, At11_0, ct11_0, t11_1, t11_2, H, rfl⟩))))))))))))))
       ·
        exact op_st (cs' := [.slice At11_0 t11_0.length ct11_0, .int .i64 t11_1, .bool t11_2]) 1 rfl rfl rfl rfl rfl rfl (xn rfl (one1 7 rfl rfl (ov (EV.ex rfl rfl) rfl (xs [] [0, 1, 2] rfl rfl rfl (xd (pr [0, 2, 3, 5] [0, 1, 2] [0, 2, 4] rfl rfl rfl rfl (ge (rg (sv (EV.mv rfl) rfl (sv (EV.sub rfl rfl) rfl (sv (EV.as rfl) rfl (re (wk [0, 2, 3, 5] [2, 0, 1] [⟨0, 2, 1, true⟩, ⟨2, 1, 2, true⟩, ⟨1, 0, 0, false⟩] (ih0 _ (by omega) _ ⟨wrap64 (x4_5 - 1), t10_1, t10_2, x4_2_0, Ax4_2_0, cx4_2_0, x4_2_1, x4_2_2, t11_0, At11_0, ct11_0, t11_1, t11_2, H, rfl⟩))))))))))))))
      ·
       refine op_st (cs' := [.slice At11_0 t11_0.length ct11_0, .int .i64 t11_1, .bool t11_2]) 1 rfl rfl rfl rfl rfl rfl (xn rfl ?_)
       refine one2 7 8 rfl rfl rfl rfl ?_ ?_
       ·
        exact ov (EV.ex rfl rfl) rfl (xs [] [0, 1, 2] rfl rfl rfl (one1 8 rfl rfl (ov (EV.ex rfl rfl) rfl (xs [] [0, 1, 2] rfl rfl rfl (xd (pr [0, 2, 3, 5] [0, 1, 2] [0, 2, 4] rfl rfl rfl rfl (ge (rg (sv (EV.mv rfl) rfl (sv (EV.sub rfl rfl) rfl (sv (EV.as rfl) rfl (re (wk [0, 2, 3, 5] [2, 0, 1] [⟨0, 2, 1, true⟩, ⟨2, 1, 2, true⟩, ⟨1, 0, 0, false⟩] (ih0 _ (by omega) _ ⟨wrap64 (x4_5 - 1), t10_1, t10_2, x4_2_0, Ax4_2_0, cx4_2_0, x4_2_1, x4_2_2, t11_0, At11_0, ct11_0, t11_1, t11_2, H, rfl⟩))))))))))))))
       ·
        exact ov (EV.ex rfl rfl) rfl (xs [] [0, 1, 2] rfl rfl rfl (one1 7 rfl rfl (ov (EV.ex rfl rfl) rfl (xs [] [0, 1, 2] rfl rfl rfl (xd (pr [0, 2, 3, 5] [0, 1, 2] [0, 2, 4] rfl rfl rfl rfl (ge (rg (sv (EV.mv rfl) rfl (sv (EV.sub rfl rfl) rfl (sv (EV.as rfl) rfl (re (wk [0, 2, 3, 5] [2, 0, 1] [⟨0, 2, 1, true⟩, ⟨2, 1, 2, true⟩, ⟨1, 0, 0, false⟩] (ih0 _ (by omega) _ ⟨wrap64 (x4_5 - 1), t10_1, t10_2, x4_2_0, Ax4_2_0, cx4_2_0, x4_2_1, x4_2_2, t11_0, At11_0, ct11_0, t11_1, t11_2, H, rfl⟩))))))))))))))
     ·
      refine op_st (cs' := [.slice At11_0 t11_0.length ct11_0, .int .i64 t11_1, .bool t11_2]) 1 rfl rfl rfl rfl rfl rfl (xn rfl ?_)
      refine one3 7 8 9 rfl rfl rfl rfl rfl rfl ?_ ?_ ?_
      ·
       refine ov (EV.ex rfl rfl) rfl (xs [] [0, 1, 2] rfl rfl rfl ?_)
       refine one2 8 9 rfl rfl rfl rfl ?_ ?_
       ·
        exact ov (EV.ex rfl rfl) rfl (xs [] [0, 1, 2] rfl rfl rfl (one1 9 rfl rfl (ov (EV.ex rfl rfl) rfl (xs [] [0, 1, 2] rfl rfl rfl (xd (pr [0, 2, 3, 5] [0, 1, 2] [0, 2, 4] rfl rfl rfl rfl (ge (rg (sv (EV.mv rfl) rfl (sv (EV.sub rfl rfl) rfl (sv (EV.as rfl) rfl (re (wk [0, 2, 3, 5] [2, 0, 1] [⟨0, 2, 1, true⟩, ⟨2, 1, 2, true⟩, ⟨1, 0, 0, false⟩] (ih0 _ (by omega) _ ⟨wrap64 (x4_5 - 1), t10_1, t10_2, x4_2_0, Ax4_2_0, cx4_2_0, x4_2_1, x4_2_2, t11_0, At11_0, ct11_0, t11_1, t11_2, H, rfl⟩))))))))))))))
       ·
        exact ov (EV.ex rfl rfl) rfl (xs [] [0, 1, 2] rfl rfl rfl (one1 8 rfl rfl (ov (EV.ex rfl rfl) rfl (xs [] [0, 1, 2] rfl rfl rfl (xd (pr [0, 2, 3, 5] [0, 1, 2] [0, 2, 4] rfl rfl rfl rfl (ge (rg (sv (EV.mv rfl) rfl (sv (EV.sub rfl rfl) rfl (sv (EV.as rfl) rfl (re (wk [0, 2, 3, 5] [2, 0, 1] [⟨0, 2, 1, true⟩, ⟨2, 1, 2, true⟩, ⟨1, 0, 0, false⟩] (ih0 _ (by omega) _ ⟨wrap64 (x4_5 - 1), t10_1, t10_2, x4_2_0, Ax4_2_0, cx4_2_0, x4_2_1, x4_2_2, t11_0, At11_0, ct11_0, t11_1, t11_2, H, rfl⟩))))))))))))))
      ·
       refine ov (EV.ex rfl rfl) rfl (xs [] [0, 1, 2] rfl rfl rfl ?_)
       refine one2 7 9 rfl rfl rfl rfl ?_ ?_
       ·
        exact ov (EV.ex rfl rfl) rfl (xs [] [0, 1, 2] rfl rfl rfl (one1 9 rfl rfl (ov (EV.ex rfl rfl) rfl (xs [] [0, 1, 2] rfl rfl rfl (xd (pr [0, 2, 3, 5] [0, 1, 2] [0, 2, 4] rfl rfl rfl rfl (ge (rg (sv (EV.mv rfl) rfl (sv (EV.sub rfl rfl) rfl (sv (EV.as rfl) rfl (re (wk [0, 2, 3, 5] [2, 0, 1] [⟨0, 2, 1, true⟩, ⟨2, 1, 2, true⟩, ⟨1, 0, 0, false⟩] (ih0 _ (by omega) _ ⟨wrap64 (x4_5 - 1), t10_1, t10_2, x4_2_0, Ax4_2_0, cx4_2_0, x4_2_1, x4_2_2, t11_0, At11_0, ct11_0, t11_1, t11_2, H, rfl⟩))))))))))))))
       ·
        exact ov (EV.ex rfl rfl) rfl (xs [] [0, 1, 2] rfl rfl rfl (one1 7 rfl rfl (ov (EV.ex rfl rfl) rfl (xs [] [0, 1, 2] rfl rfl rfl (xd (pr [0, 2, 3, 5] [0, 1, 2] [0, 2, 4] rfl rfl rfl rfl (ge (rg (sv (EV.mv rfl) rfl (sv (EV.sub rfl rfl) rfl (sv (EV.as rfl) rfl (re (wk [0, 2, 3, 5] [2, 0, 1] [⟨0, 2, 1, true⟩, ⟨2, 1, 2, true⟩, ⟨1, 0, 0, false⟩] (ih0 _ (by omega) _ ⟨wrap64 (x4_5 - 1), t10_1, t10_2, x4_2_0, Ax4_2_0, cx4_2_0, x4_2_1, x4_2_2, t11_0, At11_0, ct11_0, t11_1, t11_2, H, rfl⟩))))))))))))))
      ·
       refine ov (EV.ex rfl rfl) rfl (xs [] [0, 1, 2] rfl rfl rfl ?_)
       refine one2 7 8 rfl rfl rfl rfl ?_ ?_
       ·
        exact ov (EV.ex rfl rfl) rfl (xs [] [0, 1, 2] rfl rfl rfl (one1 8 rfl rfl (ov (EV.ex rfl rfl) rfl (xs [] [0, 1, 2] rfl rfl rfl (xd (pr [0, 2, 3, 5] [0, 1, 2] [0, 2, 4] rfl rfl rfl rfl (ge (rg (sv (EV.mv rfl) rfl (sv (EV.sub rfl rfl) rfl (sv (EV.as rfl) rfl (re (wk [0, 2, 3, 5] [2, 0, 1] [⟨0, 2, 1, true⟩, ⟨2, 1, 2, true⟩, ⟨1, 0, 0, false⟩] (ih0 _ (by omega) _ ⟨wrap64 (x4_5 - 1), t10_1, t10_2, x4_2_0, Ax4_2_0, cx4_2_0, x4_2_1, x4_2_2, t11_0, At11_0, ct11_0, t11_1, t11_2, H, rfl⟩))))))))))))))
       ·
        exact ov (EV.ex rfl rfl) rfl (xs [] [0, 1, 2] rfl rfl rfl (one1 7 rfl rfl (ov (EV.ex rfl rfl) rfl (xs [] [0, 1, 2] rfl rfl rfl (xd (pr [0, 2, 3, 5] [0, 1, 2] [0, 2, 4] rfl rfl rfl rfl (ge (rg (sv (EV.mv rfl) rfl (sv (EV.sub rfl rfl) rfl (sv (EV.as rfl) rfl (re (wk [0, 2, 3, 5] [2, 0, 1] [⟨0, 2, 1, true⟩, ⟨2, 1, 2, true⟩, ⟨1, 0, 0, false⟩] (ih0 _ (by omega) _ ⟨wrap64 (x4_5 - 1), t10_1, t10_2, x4_2_0, Ax4_2_0, cx4_2_0, x4_2_1, x4_2_2, t11_0, At11_0, ct11_0, t11_1, t11_2, H, rfl⟩))))))))))))))
    ·
     refine ov (EV.ex rfl rfl) rfl (xs [] [0, 1, 2] rfl rfl rfl ?_)
     refine one3 6 8 9 rfl rfl rfl rfl rfl rfl ?_ ?_ ?_
     ·
      refine ov (EV.ex rfl rfl) rfl (xs [] [0, 1, 2] rfl rfl rfl ?_)
      refine one3 8 9 10 rfl rfl rfl rfl rfl rfl ?_ ?_ ?_
      ·
       refine ov (EV.ex rfl rfl) rfl (xs [] [0, 1, 2] rfl rfl rfl ?_)
       refine one2 9 10 rfl rfl rfl rfl ?_ ?_
       ·
        exact ov (EV.ex rfl rfl) rfl (xs [] [0, 1, 2] rfl rfl rfl (one1 10 rfl rfl (op_st (cs' := [.slice At11_0 t11_0.length ct11_0, .int .i64 t11_1, .bool t11_2]) 1 rfl rfl rfl rfl rfl rfl (xn rfl (xd (pr [0, 2, 3, 5] [0, 1, 2] [0, 2, 4] rfl rfl rfl rfl (ge (rg (sv (EV.mv rfl) rfl (sv (EV.sub rfl rfl) rfl (sv (EV.as rfl) rfl (re (wk [0, 2, 3, 5] [2, 0, 1] [⟨0, 2, 1, true⟩, ⟨2, 1, 2, true⟩, ⟨1, 0, 0, false⟩] (ih0 _ (by omega) _ ⟨wrap64 (x4_5 - 1), t10_1, t10_2, x4_2_0, Ax4_2_0, cx4_2_0, x4_2_1, x4_2_2, t11_0, At11_0, ct11_0, t11_1, t11_2, H, rfl⟩))))))))))))))
       ·
        exact op_st (cs' := [.slice At11_0 t11_0.length ct11_0, .int .i64 t11_1, .bool t11_2]) 1 rfl rfl rfl rfl rfl rfl (xn rfl (one1 9 rfl rfl (ov (EV.ex rfl rfl) rfl (xs [] [0, 1, 2] rfl rfl rfl (xd (pr [0, 2, 3, 5] [0, 1, 2] [0, 2, 4] rfl rfl rfl rfl (ge (rg (sv (EV.mv rfl) rfl (sv (EV.sub rfl rfl) rfl (sv (EV.as rfl) rfl (re (wk [0, 2, 3, 5] [2, 0, 1] [⟨0, 2, 1, true⟩, ⟨2, 1, 2, true⟩, ⟨1, 0, 0, false⟩] (ih0 _ (by omega) _ ⟨wrap64 (x4_5 - 1), t10_1, t10_2, x4_2_0, Ax4_2_0, cx4_2_0, x4_2_1, x4_2_2, t11_0, At11_0, ct11_0, t11_1, t11_2, H, rfl⟩))))))))))))))
      ·
       refine ov (EV.ex rfl rfl) rfl (xs [] [0, 1, 2] rfl rfl rfl ?_)
       refine one2 8 10 rfl rfl rfl rfl ?_ ?_
       ·
        exact ov (EV.ex rfl rfl) rfl (xs [] [0, 1, 2] rfl rfl rfl (one1 10 rfl rfl (op_st (cs' := [.slice At11_0 t11_0.length ct11_0, .int .i64 t11_1, .bool t11_2]) 1 rfl rfl rfl rfl rfl rfl (xn rfl (xd (pr [0, 2, 3, 5] [0, 1, 2] [0, 2, 4] rfl rfl rfl rfl (ge (rg (sv (EV.mv rfl) rfl (sv (EV.sub rfl rfl) rfl (sv (EV.as rfl) rfl (re (wk [0, 2, 3, 5] [2, 0, 1] [⟨0, 2, 1, true⟩, ⟨2, 1, 2, true⟩, ⟨1, 0, 0, false⟩] (ih0 _ (by omega) _ ⟨wrap64 (x4_5 - 1), t10_1, t10_2, x4_2_0, Ax4_2_0, cx4_2_0, x4_2_1, x4_2_2, t11_0, At11_0, ct11_0, t11_1, t11_2, H, rfl⟩))))))))))))))
       ·
        exact op_st (cs' := [.slice At11_0 t11_0.length ct11_0, .int .i64 t11_1, .bool t11_2]) 1 rfl rfl rfl rfl rfl rfl (xn rfl (one1 8 rfl rfl (ov (EV.ex rfl rfl) rfl (xs [] [0, 1, 2] rfl rfl rfl (xd (pr [0, 2, 3, 5] [0, 1, 2] [0, 2, 4] rfl rfl rfl rfl (ge (rg (sv (EV.mv rfl) rfl (sv (EV.sub rfl rfl) rfl (sv (EV.as rfl) rfl (re (wk [0, 2, 3, 5] [2, 0, 1] [⟨0, 2, 1, true⟩, ⟨2, 1, 2, true⟩, ⟨1, 0, 0, false⟩] (ih0 _ (by omega) _ ⟨wrap64 (x4_5 - 1), t10_1, t10_2, x4_2_0, Ax4_2_0, cx4_2_0, x4_2_1, x4_2_2, t11_0, At11_0, ct11_0, t11_1, t11_2, H, rfl⟩))))))))))))))
      ·
       refine op_st (cs' := [.slice At11_0 t11_0.length ct11_0, .int .i64 t11_1, .bool t11_2]) 1 rfl rfl rfl rfl rfl rfl (xn rfl ?_)
       refine one2 8 9 rfl rfl rfl rfl ?_ ?_
       ·
        exact ov (EV.ex rfl rfl) rfl (xs [] [0, 1, 2] rfl rfl rfl (one1 9 rfl rfl (ov (EV.ex rfl rfl) rfl (xs [] [0, 1, 2] rfl rfl rfl (xd (pr [0, 2, 3, 5] [0, 1, 2] [0, 2, 4] rfl rfl rfl rfl (ge (rg (sv (EV.mv rfl) rfl (sv (EV.sub rfl rfl) rfl (sv (EV.as rfl) rfl (re (wk [0, 2, 3, 5] [2, 0, 1] [⟨0, 2, 1, true⟩, ⟨2, 1, 2, true⟩, ⟨1, 0, 0, false⟩] (ih0 _ (by omega) _ ⟨wrap64 (x4_5 - 1), t10_1, t10_2, x4_2_0, Ax4_2_0, cx4_2_0, x4_2_1, x4_2_2, t11_0, At11_0, ct11_0, t11_1, t11_2, H, rfl⟩))))))))))))))
       ·
        exact ov (EV.ex rfl rfl) rfl (xs [] [0, 1, 2] rfl rfl rfl (one1 8 rfl rfl (ov (EV.ex rfl rfl) rfl (xs [] [0, 1, 2] rfl rfl rfl (xd (pr [0, 2, 3, 5] [0, 1, 2] [0, 2, 4] rfl rfl rfl rfl (ge (rg (sv (EV.mv rfl) rfl (sv (EV.sub rfl rfl) rfl (sv (EV.as rfl) rfl (re (wk [0, 2, 3, 5] [2, 0, 1] [⟨0, 2, 1, true⟩, ⟨2, 1, 2, true⟩, ⟨1, 0, 0, false⟩] (ih0 _ (by omega) _ ⟨wrap64 (x4_5 - 1), t10_1, t10_2, x4_2_0, Ax4_2_0, cx4_2_0, x4_2_1, x4_2_2, t11_0, At11_0, ct11_0, t11_1, t11_2, H, rfl⟩))))))))))))))
     ·
      refine ov (EV.ex rfl rfl) rfl (xs [] [0, 1, 2] rfl rfl rfl ?_)
      refine one2 6 9 rfl rfl rfl rfl ?_ ?_
      ·
       refine ov (EV.ex rfl rfl) rfl (xs [] [0, 1, 2] rfl rfl rfl ?_)
       refine one2 9 10 rfl rfl rfl rfl ?_ ?_
       ·
        exact ov (EV.ex rfl rfl) rfl (xs [] [0, 1, 2] rfl rfl rfl (one1 10 rfl rfl (op_st (cs' := [.slice At11_0 t11_0.length ct11_0, .int .i64 t11_1, .bool t11_2]) 1 rfl rfl rfl rfl rfl rfl (xn rfl (xd (pr [0, 2, 3, 5] [0, 1, 2] [0, 2, 4] rfl rfl rfl rfl (ge (rg (sv (EV.mv rfl) rfl (sv (EV.sub rfl rfl) rfl (sv (EV.as rfl) rfl (re (wk [0, 2, 3, 5] [2, 0, 1] [⟨0, 2, 1, true⟩, ⟨2, 1, 2, true⟩, ⟨1, 0, 0, false⟩] (ih0 _ (by omega) _ ⟨wrap64 (x4_5 - 1), t10_1, t10_2, x4_2_0, Ax4_2_0, cx4_2_0, x4_2_1, x4_2_2, t11_0, At11_0, ct11_0, t11_1, t11_2, H, rfl⟩))))))))))))))
       ·
        exact op_st (cs' := [.slice At11_0 t11_0.length ct11_0, .int .i64 t11_1, .bool t11_2]) 1 rfl rfl rfl rfl rfl rfl (xn rfl (one1 9 rfl rfl (ov (EV.ex rfl rfl) rfl (xs [] [0, 1, 2] rfl rfl rfl (xd (pr [0, 2, 3, 5] [0, 1, 2] [0, 2, 4] rfl rfl rfl rfl (ge (rg (sv (EV.mv rfl) rfl (sv (EV.sub rfl rfl) rfl (sv (EV.as rfl) rfl (re (wk [0, 2, 3, 5] [2, 0, 1] [⟨0, 2, 1, true⟩, ⟨2, 1, 2, true⟩, ⟨1, 0, 0, false⟩] (ih0 _ (by omega) _ ⟨wrap64 (x4_5 - 1), t10_1, t10_2, x4_2_0, Ax4_2_0, cx4_2_0, x4_2_1, x4_2_2, t11_0, At11_0, ct11_0, t11_1, t11_2, H, rfl⟩))))))))))))))
      ·
       exact ov (EV.ex rfl rfl) rfl (xs [] [0, 1, 2] rfl rfl rfl (one1 6 rfl rfl (ov (EV.ex rfl rfl) rfl (xs [] [0, 1, 2] rfl rfl rfl (one1 10 rfl rfl (op_st (cs' := [.slice At11_0 t11_0.length ct11_0, .int .i64 t11_1, .bool t11_2]) 1 rfl rfl rfl rfl rfl rfl (xn rfl (xd (pr [0, 2, 3, 5] [0, 1, 2] [0, 2, 4] rfl rfl rfl rfl (ge (rg (sv (EV.mv rfl) rfl (sv (EV.sub rfl rfl) rfl (sv (EV.as rfl) rfl (re (wk [0, 2, 3, 5] [2, 0, 1] [⟨0, 2, 1, true⟩, ⟨2, 1, 2, true⟩, ⟨1, 0, 0, false⟩] (ih0 _ (by omega) _ ⟨wrap64 (x4_5 - 1), t10_1, t10_2, x4_2_0, Ax4_2_0, cx4_2_0, x4_2_1, x4_2_2, t11_0, At11_0, ct11_0, t11_1, t11_2, H, rfl⟩)))))))))))))))))
     ·
      refine ov (EV.ex rfl rfl) rfl (xs [] [0, 1, 2] rfl rfl rfl ?_)
      refine one2 6 8 rfl rfl rfl rfl ?_ ?_
      ·
       refine ov (EV.ex rfl rfl) rfl (xs [] [0, 1, 2] rfl rfl rfl ?_)
       refine one2 8 10 rfl rfl rfl rfl ?_ ?_
       ·
        exact ov (EV.ex rfl rfl) rfl (xs [] [0, 1, 2] rfl rfl rfl (one1 10 rfl rfl (op_st (cs' := [.slice At11_0 t11_0.length ct11_0, .int .i64 t11_1, .bool t11_2]) 1 rfl rfl rfl rfl rfl rfl (xn rfl (xd (pr [0, 2, 3, 5] [0, 1, 2] [0, 2, 4] rfl rfl rfl rfl (ge (rg (sv (EV.mv rfl) rfl (sv (EV.sub rfl rfl) rfl (sv (EV.as rfl) rfl (re (wk [0, 2, 3, 5] [2, 0, 1] [⟨0, 2, 1, true⟩, ⟨2, 1, 2, true⟩, ⟨1, 0, 0, false⟩] (ih0 _ (by omega) _ ⟨wrap64 (x4_5 - 1), t10_1, t10_2, x4_2_0, Ax4_2_0, cx4_2_0, x4_2_1, x4_2_2, t11_0, At11_0, ct11_0, t11_1, t11_2, H, rfl⟩))))))))))))))
       ·
        exact op_st (cs' := [.slice At11_0 t11_0.length ct11_0, .int .i64 t11_1, .bool t11_2]) 1 rfl rfl rfl rfl rfl rfl (xn rfl (one1 8 rfl rfl (ov (EV.ex rfl rfl) rfl (xs [] [0, 1, 2] rfl rfl rfl (xd (pr [0, 2, 3, 5] [0, 1, 2] [0, 2, 4] rfl rfl rfl rfl (ge (rg (sv (EV.mv rfl) rfl (sv (EV.sub rfl rfl) rfl (sv (EV.as rfl) rfl (re (wk [0, 2, 3, 5] [2, 0, 1] [⟨0, 2, 1, true⟩, ⟨2, 1, 2, true⟩, ⟨1, 0, 0, false⟩] (ih0 _ (by omega) _ ⟨wrap64 (x4_5 - 1), t10_1, t10_2, x4_2_0, Ax4_2_0, cx4_2_0, x4_2_1, x4_2_2, t11_0, At11_0, ct11_0, t11_1, t11_2, H, rfl⟩))))))))))))))
      ·
       exact ov (EV.ex rfl rfl) rfl (xs [] [0, 1, 2] rfl rfl rfl (one1 6 rfl rfl (ov (EV.ex rfl rfl) rfl (xs [] [0, 1, 2] rfl rfl rfl (one1 10 rfl rfl (op_st (cs' := [.slice At11_0 t11_0.length ct11_0, .int .i64 t11_1, .bool t11_2]) 1 rfl rfl rfl rfl rfl rfl (xn rfl (xd (pr [0, 2, 3, 5] [0, 1, 2] [0, 2, 4] rfl rfl rfl rfl (ge (rg (sv (EV.mv rfl) rfl (sv (EV.sub rfl rfl) rfl (sv (EV.as rfl) rfl (re (wk [0, 2, 3, 5] [2, 0, 1] [⟨0, 2, 1, true⟩, ⟨2, 1, 2, true⟩, ⟨1, 0, 0, false⟩] (ih0 _ (by omega) _ ⟨wrap64 (x4_5 - 1), t10_1, t10_2, x4_2_0, Ax4_2_0, cx4_2_0, x4_2_1, x4_2_2, t11_0, At11_0, ct11_0, t11_1, t11_2, H, rfl⟩)))))))))))))))))
    ·
     refine ov (EV.ex rfl rfl) rfl (xs [] [0, 1, 2] rfl rfl rfl ?_)
     refine one3 6 7 9 rfl rfl rfl rfl rfl rfl ?_ ?_ ?_
     ·
      refine ov (EV.ex rfl rfl) rfl (xs [] [0, 1, 2] rfl rfl rfl ?_)
      refine one3 7 9 10 rfl rfl rfl rfl rfl rfl ?_ ?_ ?_
      ·
       refine ov (EV.ex rfl rfl) rfl (xs [] [0, 1, 2] rfl rfl rfl ?_)
       refine one2 9 10 rfl rfl rfl rfl ?_ ?_
       ·
        exact ov (EV.ex rfl rfl) rfl (xs [] [0, 1, 2] rfl rfl rfl (one1 10 rfl rfl (op_st (cs' := [.slice At11_0 t11_0.length ct11_0, .int .i64 t11_1, .bool t11_2]) 1 rfl rfl rfl rfl rfl rfl (xn rfl (xd (pr [0, 2, 3, 5] [0, 1, 2] [0, 2, 4] rfl rfl rfl rfl (ge (rg (sv (EV.mv rfl) rfl (sv (EV.sub rfl rfl) rfl (sv (EV.as rfl) rfl (re (wk [0, 2, 3, 5] [2, 0, 1] [⟨0, 2, 1, true⟩, ⟨2, 1, 2, true⟩, ⟨1, 0, 0, false⟩] (ih0 _ (by omega) _ ⟨wrap64 (x4_5 - 1), t10_1, t10_2, x4_2_0, Ax4_2_0, cx4_2_0, x4_2_1, x4_2_2, t11_0, At11_0, ct11_0, t11_1, t11_2, H, rfl⟩))))))))))))))
       ·
        exact op_st (cs' := [.slice At11_0 t11_0.length ct11_0, .int .i64 t11_1, .bool t11_2]) 1 rfl rfl rfl rfl rfl rfl (xn rfl (one1 9 rfl rfl (ov (EV.ex rfl rfl) rfl (xs [] [0, 1, 2] rfl rfl rfl (xd (pr [0, 2, 3, 5] [0, 1, 2] [0, 2, 4] rfl rfl rfl rfl (ge (rg (sv (EV.mv rfl) rfl (sv (EV.sub rfl rfl) rfl (sv (EV.as rfl) rfl (re (wk [0, 2, 3, 5] [2, 0, 1] [⟨0, 2, 1, true⟩, ⟨2, 1, 2, true⟩, ⟨1, 0, 0, false⟩] (ih0 _ (by omega) _ ⟨wrap64 (x4_5 - 1), t10_1, t10_2, x4_2_0, Ax4_2_0, cx4_2_0, x4_2_1, x4_2_2, t11_0, At11_0, ct11_0, t11_1, t11_2, H, rfl⟩))))))))))))))
      ·
       refine ov (EV.ex rfl rfl) rfl (xs [] [0, 1, 2] rfl rfl rfl ?_)
       refine one2 7 10 rfl rfl rfl rfl ?_ ?_
       ·
        exact ov (EV.ex rfl rfl) rfl (xs [] [0, 1, 2] rfl rfl rfl (one1 10 rfl rfl (op_st (cs' := [.slice At11_0 t11_0.length ct11_0, .int .i64 t11_1, .bool t11_2]) 1 rfl rfl rfl rfl rfl rfl (xn rfl (xd (pr [0, 2, 3, 5] [0, 1, 2] [0, 2, 4] rfl rfl rfl rfl (ge (rg (sv (EV.mv rfl) rfl (sv (EV.sub rfl rfl) rfl (sv (EV.as rfl) rfl (re (wk [0, 2, 3, 5] [2, 0, 1] [⟨0, 2, 1, true⟩, ⟨2, 1, 2, true⟩, ⟨1, 0, 0, false⟩] (ih0 _ (by omega) _ ⟨wrap64 (x4_5 - 1), t10_1, t10_2, x4_2_0, Ax4_2_0, cx4_2_0, x4_2_1, x4_2_2, t11_0, At11_0, ct11_0, t11_1, t11_2, H, rfl⟩))))))))))))))
       ·
        exact op_st (cs' := [.slice At11_0 t11_0.length ct11_0, .int .i64 t11_1, .bool t11_2]) 1 rfl rfl rfl rfl rfl rfl (xn rfl (one1 7 rfl rfl (ov (EV.ex rfl rfl) rfl (xs [] [0, 1, 2] rfl rfl rfl (xd (pr [0, 2, 3, 5] [0, 1, 2] [0, 2, 4] rfl rfl rfl rfl (ge (rg (sv (EV.mv rfl) rfl (sv (EV.sub rfl rfl) rfl (sv (EV.as rfl) rfl (re (wk [0, 2, 3, 5] [2, 0, 1] [⟨0, 2, 1, true⟩, ⟨2, 1, 2, true⟩, ⟨1, 0, 0, false⟩] (ih0 _ (by omega) _ ⟨wrap64 (x4_5 - 1), t10_1, t10_2, x4_2_0, Ax4_2_0, cx4_2_0, x4_2_1, x4_2_2, t11_0, At11_0, ct11_0, t11_1, t11_2, H, rfl⟩))))))))))))))
      ·
       refine op_st (cs' := [.slice At11_0 t11_0.length ct11_0, .int .i64 t11_1, .bool t11_2]) 1 rfl rfl rfl rfl rfl rfl (xn rfl ?_)
       refine one2 7 9 rfl rfl rfl rfl ?_ ?_
       ·
        exact ov (EV.ex rfl rfl) rfl (xs [] [0, 1, 2] rfl rfl rfl (one1 9 rfl rfl (ov (EV.ex rfl rfl) rfl (xs [] [0, 1, 2] rfl rfl rfl (xd (pr [0, 2, 3, 5] [0, 1, 2] [0, 2, 4] rfl rfl rfl rfl (ge (rg (sv (EV.mv rfl) rfl (sv (EV.sub rfl rfl) rfl (sv (EV.as rfl) rfl (re (wk [0, 2, 3, 5] [2, 0, 1] [⟨0, 2, 1, true⟩, ⟨2, 1, 2, true⟩, ⟨1, 0, 0, false⟩] (ih0 _ (by omega) _ ⟨wrap64 (x4_5 - 1), t10_1, t10_2, x4_2_0, Ax4_2_0, cx4_2_0, x4_2_1, x4_2_2, t11_0, At11_0, ct11_0, t11_1, t11_2, H, rfl⟩))))))))))))))
       ·
        exact ov (EV.ex rfl rfl) rfl (xs [] [0, 1, 2] rfl rfl rfl (one1 7 rfl rfl (ov (EV.ex rfl rfl) rfl (xs [] [0, 1, 2] rfl rfl rfl (xd (pr [0, 2, 3, 5] [0, 1, 2] [0, 2, 4] rfl rfl rfl rfl (ge (rg (sv (EV.mv rfl) rfl (sv (EV.sub rfl rfl) rfl (sv (EV.as rfl) rfl (re (wk [0, 2, 3, 5] [2, 0, 1] [⟨0, 2, 1, true⟩, ⟨2, 1, 2, true⟩, ⟨1, 0, 0, false⟩] (ih0 _ (by omega) _ ⟨wrap64 (x4_5 - 1), t10_1, t10_2, x4_2_0, Ax4_2_0, cx4_2_0, x4_2_1, x4_2_2, t11_0, At11_0, ct11_0, t11_1, t11_2, H, rfl⟩))))))))))))))
     ·
      refine ov (EV.ex rfl rfl) rfl (xs [] [0, 1, 2] rfl rfl rfl ?_)
      refine one2 6 9 rfl rfl rfl rfl ?_ ?_
      ·
       refine ov (EV.ex rfl rfl) rfl (xs [] [0, 1, 2] rfl rfl rfl ?_)
       refine one2 9 10 rfl rfl rfl rfl ?_ ?_
       ·
        exact ov (EV.ex rfl rfl) rfl (xs [] [0, 1, 2] rfl rfl rfl (one1 10 rfl rfl (op_st (cs' := [.slice At11_0 t11_0.length ct11_0, .int .i64 t11_1, .bool t11_2]) 1 rfl rfl rfl rfl rfl rfl (xn rfl (xd (pr [0, 2, 3, 5] [0, 1, 2] [0, 2, 4] rfl rfl rfl rfl (ge (rg (sv (EV.mv rfl) rfl (sv (EV.sub rfl rfl) rfl (sv (EV.as rfl) rfl (re (wk [0, 2, 3, 5] [2, 0, 1] [⟨0, 2, 1, true⟩, ⟨2, 1, 2, true⟩, ⟨1, 0, 0, false⟩] (ih0 _ (by omega) _ ⟨wrap64 (x4_5 - 1), t10_1, t10_2, x4_2_0, Ax4_2_0, cx4_2_0, x4_2_1, x4_2_2, t11_0, At11_0, ct11_0, t11_1, t11_2, H, rfl⟩))))))))))))))
       ·
        exact op_st (cs' := [.slice At11_0 t11_0.length ct11_0, .int .i64 t11_1, .bool t11_2]) 1 rfl rfl rfl rfl rfl rfl (xn rfl (one1 9 rfl rfl (ov (EV.ex rfl rfl) rfl (xs [] [0, 1, 2] rfl rfl rfl (xd (pr [0, 2, 3, 5] [0, 1, 2] [0, 2, 4] rfl rfl rfl rfl (ge (rg (sv (EV.mv rfl) rfl (sv (EV.sub rfl rfl) rfl (sv (EV.as rfl) rfl (re (wk [0, 2, 3, 5] [2, 0, 1] [⟨0, 2, 1, true⟩, ⟨2, 1, 2, true⟩, ⟨1, 0, 0, false⟩] (ih0 _ (by omega) _ ⟨wrap64 (x4_5 - 1), t10_1, t10_2, x4_2_0, Ax4_2_0, cx4_2_0, x4_2_1, x4_2_2, t11_0, At11_0, ct11_0, t11_1, t11_2, H, rfl⟩))))))))))))))
      ·
       exact ov (EV.ex rfl rfl) rfl (xs [] [0, 1, 2] rfl rfl rfl (one1 6 rfl rfl (ov (EV.ex rfl rfl) rfl (xs [] [0, 1, 2] rfl rfl rfl (one1 10 rfl rfl (op_st (cs' := [.slice At11_0 t11_0.length ct11_0, .int .i64 t11_1, .bool t11_2]) 1 rfl rfl rfl rfl rfl rfl (xn rfl (xd (pr [0, 2, 3, 5] [0, 1, 2] [0, 2, 4] rfl rfl rfl rfl (ge (rg (sv (EV.mv rfl) rfl (sv (EV.sub rfl rfl) rfl (sv (EV.as rfl) rfl (re (wk [0, 2, 3, 5] [2, 0, 1] [⟨0, 2, 1, true⟩, ⟨2, 1, 2, true⟩, ⟨1, 0, 0, false⟩] (ih0 _ (by omega) _ ⟨wrap64 (x4_5 - 1), t10_1, t10_2, x4_2_0, Ax4_2_0, cx4_2_0, x4_2_1, x4_2_2, t11_0, At11_0, ct11_0, t11_1, t11_2, H, rfl⟩)))))))))))))))))
     ·
      refine ov (EV.ex rfl rfl) rfl (xs [] [0, 1, 2] rfl rfl rfl ?_)
      refine one2 6 7 rfl rfl rfl rfl ?_ ?_
      ·
       refine ov (EV.ex rfl rfl) rfl (xs [] [0, 1, 2] rfl rfl rfl ?_)
       refine one2 7 10 rfl rfl rfl rfl ?_ ?_
       ·
        exact ov (EV.ex rfl rfl) rfl (xs [] [0, 1, 2] rfl rfl rfl (one1 10 rfl rfl (op_st (cs' := [.slice At11_0 t11_0.length ct11_0, .int .i64 t11_1, .bool t11_2]) 1 rfl rfl rfl rfl rfl rfl (xn rfl (xd (pr [0, 2, 3, 5] [0, 1, 2] [0, 2, 4] rfl rfl rfl rfl (ge (rg (sv (EV.mv rfl) rfl (sv (EV.sub rfl rfl) rfl (sv (EV.as rfl) rfl (re (wk [0, 2, 3, 5] [2, 0, 1] [⟨0, 2, 1, true⟩, ⟨2, 1, 2, true⟩, ⟨1, 0, 0, false⟩] (ih0 _ (by omega) _ ⟨wrap64 (x4_5 - 1), t10_1, t10_2, x4_2_0, Ax4_2_0, cx4_2_0, x4_2_1, x4_2_2, t11_0, At11_0, ct11_0, t11_1, t11_2, H, rfl⟩))))))))))))))
       ·
        exact op_st (cs' := [.slice At11_0 t11_0.length ct11_0, .int .i64 t11_1, .bool t11_2]) 1 rfl rfl rfl rfl rfl rfl (xn rfl (one1 7 rfl rfl (ov (EV.ex rfl rfl) rfl (xs [] [0, 1, 2] rfl rfl rfl (xd (pr [0, 2, 3, 5] [0, 1, 2] [0, 2, 4] rfl rfl rfl rfl (ge (rg (sv (EV.mv rfl) rfl (sv (EV.sub rfl rfl) rfl (sv (EV.as rfl) rfl (re (wk [0, 2, 3, 5] [2, 0, 1] [⟨0, 2, 1, true⟩, ⟨2, 1, 2, true⟩, ⟨1, 0, 0, false⟩] (ih0 _ (by omega) _ ⟨wrap64 (x4_5 - 1), t10_1, t10_2, x4_2_0, Ax4_2_0, cx4_2_0, x4_2_1, x4_2_2, t11_0, At11_0, ct11_0, t11_1, t11_2, H, rfl⟩))))))))))))))
      ·
       exact ov (EV.ex rfl rfl) rfl (xs [] [0, 1, 2] rfl rfl rfl (one1 6 rfl rfl (ov (EV.ex rfl rfl) rfl (xs [] [0, 1, 2] rfl rfl rfl (one1 10 rfl rfl (op_st (cs' := [.slice At11_0 t11_0.length ct11_0, .int .i64 t11_1, .bool t11_2]) 1 rfl rfl rfl rfl rfl rfl (xn rfl (xd (pr [0, 2, 3, 5] [0, 1, 2] [0, 2, 4] rfl rfl rfl rfl (ge (rg (sv (EV.mv rfl) rfl (sv (EV.sub rfl rfl) rfl (sv (EV.as rfl) rfl (re (wk [0, 2, 3, 5] [2, 0, 1] [⟨0, 2, 1, true⟩, ⟨2, 1, 2, true⟩, ⟨1, 0, 0, false⟩] (ih0 _ (by omega) _ ⟨wrap64 (x4_5 - 1), t10_1, t10_2, x4_2_0, Ax4_2_0, cx4_2_0, x4_2_1, x4_2_2, t11_0, At11_0, ct11_0, t11_1, t11_2, H, rfl⟩)))))))))))))))))
    ·
     refine ov (EV.ex rfl rfl) rfl (xs [] [0, 1, 2] rfl rfl rfl ?_)
     refine one3 6 7 8 rfl rfl rfl rfl rfl rfl ?_ ?_ ?_
     ·
      refine ov (EV.ex rfl rfl) rfl (xs [] [0, 1, 2] rfl rfl rfl ?_)
      refine one3 7 8 10 rfl rfl rfl rfl rfl rfl ?_ ?_ ?_
      ·
       refine ov (EV.ex rfl rfl) rfl (xs [] [0, 1, 2] rfl rfl rfl ?_)
       refine one2 8 10 rfl rfl rfl rfl ?_ ?_
       ·
        exact ov (EV.ex rfl rfl) rfl (xs [] [0, 1, 2] rfl rfl rfl (one1 10 rfl rfl (op_st (cs' := [.slice At11_0 t11_0.length ct11_0, .int .i64 t11_1, .bool t11_2]) 1 rfl rfl rfl rfl rfl rfl (xn rfl (xd (pr [0, 2, 3, 5] [0, 1, 2] [0, 2, 4] rfl rfl rfl rfl (ge (rg (sv (EV.mv rfl) rfl (sv (EV.sub rfl rfl) rfl (sv (EV.as rfl) rfl (re (wk [0, 2, 3, 5] [2, 0, 1] [⟨0, 2, 1, true⟩, ⟨2, 1, 2, true⟩, ⟨1, 0, 0, false⟩] (ih0 _ (by omega) _ ⟨wrap64 (x4_5 - 1), t10_1, t10_2, x4_2_0, Ax4_2_0, cx4_2_0, x4_2_1, x4_2_2, t11_0, At11_0, ct11_0, t11_1, t11_2, H, rfl⟩))))))))))))))
       ·
        exact op_st (cs' := [.slice At11_0 t11_0.length ct11_0, .int .i64 t11_1, .bool t11_2]) 1 rfl rfl rfl rfl rfl rfl (xn rfl (one1 8 rfl rfl (ov (EV.ex rfl rfl) rfl (xs [] [0, 1, 2] rfl rfl rfl (xd (pr [0, 2, 3, 5] [0, 1, 2] [0, 2, 4] rfl rfl rfl rfl (ge (rg (sv (EV.mv rfl) rfl (sv (EV.sub rfl rfl) rfl (sv (EV.as rfl) rfl (re (wk [0, 2, 3, 5] [2, 0, 1] [⟨0, 2, 1, true⟩, ⟨2, 1, 2, true⟩, ⟨1, 0, 0, false⟩] (ih0 _ (by omega) _ ⟨wrap64 (x4_5 - 1), t10_1, t10_2, x4_2_0, Ax4_2_0, cx4_2_0, x4_2_1, x4_2_2, t11_0, At11_0, ct11_0, t11_1, t11_2, H, rfl⟩))))))))))))))
      ·
       refine ov (EV.ex rfl rfl) rfl (xs [] [0, 1, 2] rfl rfl rfl ?_)
       refine one2 7 10 rfl rfl rfl rfl ?_ ?_
       ·
        exact ov (EV.ex rfl rfl) rfl (xs [] [0, 1, 2] rfl rfl rfl (one1 10 rfl rfl (op_st (cs' := [.slice At11_0 t11_0.length ct11_0, .int .i64 t11_1, .bool t11_2]) 1 rfl rfl rfl rfl rfl rfl (xn rfl (xd (pr [0, 2, 3, 5] [0, 1, 2] [0, 2, 4] rfl rfl rfl rfl (ge (rg (sv (EV.mv rfl) rfl (sv (EV.sub rfl rfl) rfl (sv (EV.as rfl) rfl (re (wk [0, 2, 3, 5] [2, 0, 1] [⟨0, 2, 1, true⟩, ⟨2, 1, 2, true⟩, ⟨1, 0, 0, false⟩] (ih0 _ (by omega) _ ⟨wrap64 (x4_5 - 1), t10_1, t10_2, x4_2_0, Ax4_2_0, cx4_2_0, x4_2_1, x4_2_2, t11_0, At11_0, ct11_0, t11_1, t11_2, H, rfl⟩))))))))))))))
       ·
        exact op_st (cs' := [.slice At11_0 t11_0.length ct11_0, .int .i64 t11_1, .bool t11_2]) 1 rfl rfl rfl rfl rfl rfl (xn rfl (one1 7 rfl rfl (ov (EV.ex rfl rfl) rfl (xs [] [0, 1, 2] rfl rfl rfl (xd (pr [0, 2, 3, 5] [0, 1, 2] [0, 2, 4] rfl rfl rfl rfl (ge (rg (sv (EV.mv rfl) rfl (sv (EV.sub rfl rfl) rfl (sv (EV.as rfl) rfl (re (wk [0, 2, 3, 5] [2, 0, 1] [⟨0, 2, 1, true⟩, ⟨2, 1, 2, true⟩, ⟨1, 0, 0, false⟩] (ih0 _ (by omega) _ ⟨wrap64 (x4_5 - 1), t10_1, t10_2, x4_2_0, Ax4_2_0, cx4_2_0, x4_2_1, x4_2_2, t11_0, At11_0, ct11_0, t11_1, t11_2, H, rfl⟩))))))))))))))
      ·
       refine op_st (cs' := [.slice At11_0 t11_0.length ct11_0, .int .i64 t11_1, .bool t11_2]) 1 rfl rfl rfl rfl rfl rfl (xn rfl ?_)
       refine one2 7 8 rfl rfl rfl rfl ?_ ?_
       ·
        exact ov (EV.ex rfl rfl) rfl (xs [] [0, 1, 2] rfl rfl rfl (one1 8 rfl rfl (ov (EV.ex rfl rfl) rfl (xs [] [0, 1, 2] rfl rfl rfl (xd (pr [0, 2, 3, 5] [0, 1, 2] [0, 2, 4] rfl rfl rfl rfl (ge (rg (sv (EV.mv rfl) rfl (sv (EV.sub rfl rfl) rfl (sv (EV.as rfl) rfl (re (wk [0, 2, 3, 5] [2, 0, 1] [⟨0, 2, 1, true⟩, ⟨2, 1, 2, true⟩, ⟨1, 0, 0, false⟩] (ih0 _ (by omega) _ ⟨wrap64 (x4_5 - 1), t10_1, t10_2, x4_2_0, Ax4_2_0, cx4_2_0, x4_2_1, x4_2_2, t11_0, At11_0, ct11_0, t11_1, t11_2, H, rfl⟩))))))))))))))
       ·
        exact ov (EV.ex rfl rfl) rfl (xs [] [0, 1, 2] rfl rfl rfl (one1 7 rfl rfl (ov (EV.ex rfl rfl) rfl (xs [] [0, 1, 2] rfl rfl rfl (xd (pr [0, 2, 3, 5] [0, 1, 2] [0, 2, 4] rfl rfl rfl rfl (ge (rg (sv (EV.mv rfl) rfl (sv (EV.sub rfl rfl) rfl (sv (EV.as rfl) rfl (re (wk [0, 2, 3, 5] [2, 0, 1] [⟨0, 2, 1, true⟩, ⟨2, 1, 2, true⟩, ⟨1, 0, 0, false⟩] (ih0 _ (by omega) _ ⟨wrap64 (x4_5 - 1), t10_1, t10_2, x4_2_0, Ax4_2_0, cx4_2_0, x4_2_1, x4_2_2, t11_0, At11_0, ct11_0, t11_1, t11_2, H, rfl⟩))))))))))))))
     ·
      refine ov (EV.ex rfl rfl) rfl (xs [] [0, 1, 2] rfl rfl rfl ?_)
      refine one2 6 8 rfl rfl rfl rfl ?_ ?_
      ·
       refine ov (EV.ex rfl rfl) rfl (xs [] [0, 1, 2] rfl rfl rfl ?_)
       refine one2 8 10 rfl rfl rfl rfl ?_ ?_
       ·
        exact ov (EV.ex rfl rfl) rfl (xs [] [0, 1, 2] rfl rfl rfl (one1 10 rfl rfl (op_st (cs' := [.slice At11_0 t11_0.length ct11_0, .int .i64 t11_1, .bool t11_2]) 1 rfl rfl rfl rfl rfl rfl (xn rfl (xd (pr [0, 2, 3, 5] [0, 1, 2] [0, 2, 4] rfl rfl rfl rfl (ge (rg (sv (EV.mv rfl) rfl (sv (EV.sub rfl rfl) rfl (sv (EV.as rfl) rfl (re (wk [0, 2, 3, 5] [2, 0, 1] [⟨0, 2, 1, true⟩, ⟨2, 1, 2, true⟩, ⟨1, 0, 0, false⟩] (ih0 _ (by omega) _ ⟨wrap64 (x4_5 - 1), t10_1, t10_2, x4_2_0, Ax4_2_0, cx4_2_0, x4_2_1, x4_2_2, t11_0, At11_0, ct11_0, t11_1, t11_2, H, rfl⟩))))))))))))))
       ·
        exact op_st (cs' := [.slice At11_0 t11_0.length ct11_0, .int .i64 t11_1, .bool t11_2]) 1 rfl rfl rfl rfl rfl rfl (xn rfl (one1 8 rfl rfl (ov (EV.ex rfl rfl) rfl (xs [] [0, 1, 2] rfl rfl rfl (xd (pr [0, 2, 3, 5] [0, 1, 2] [0, 2, 4] rfl rfl rfl rfl (ge (rg (sv (EV.mv rfl) rfl (sv (EV.sub rfl rfl) rfl (sv (EV.as rfl) rfl (re (wk [0, 2, 3, 5] [2, 0, 1] [⟨0, 2, 1, true⟩, ⟨2, 1, 2, true⟩, ⟨1, 0, 0, false⟩] (ih0 _ (by omega) _ ⟨wrap64 (x4_5 - 1), t10_1, t10_2, x4_2_0, Ax4_2_0, cx4_2_0, x4_2_1, x4_2_2, t11_0, At11_0, ct11_0, t11_1, t11_2, H, rfl⟩))))))))))))))
      ·
       exact ov (EV.ex rfl rfl) rfl (xs [] [0, 1, 2] rfl rfl rfl (one1 6 rfl rfl (ov (EV.ex rfl rfl) rfl (xs [] [0, 1, 2] rfl rfl rfl (one1 10 rfl rfl (op_st (cs' := [.slice At11_0 t11_0.length ct11_0, .int .i64 t11_1, .bool t11_2]) 1 rfl rfl rfl rfl rfl rfl (xn rfl (xd (pr [0, 2, 3, 5] [0, 1, 2] [0, 2, 4] rfl rfl rfl rfl (ge (rg (sv (EV.mv rfl) rfl (sv (EV.sub rfl rfl) rfl (sv (EV.as rfl) rfl (re (wk [0, 2, 3, 5] [2, 0, 1] [⟨0, 2, 1, true⟩, ⟨2, 1, 2, true⟩, ⟨1, 0, 0, false⟩] (ih0 _ (by omega) _ ⟨wrap64 (x4_5 - 1), t10_1, t10_2, x4_2_0, Ax4_2_0, cx4_2_0, x4_2_1, x4_2_2, t11_0, At11_0, ct11_0, t11_1, t11_2, H, rfl⟩)))))))))))))))))
     ·
      refine ov (EV.ex rfl rfl) rfl (xs [] [0, 1, 2] rfl rfl rfl ?_)
      refine one2 6 7 rfl rfl rfl rfl ?_ ?_
      ·
       refine ov (EV.ex rfl rfl) rfl (xs [] [0, 1, 2] rfl rfl rfl ?_)
       refine one2 7 10 rfl rfl rfl rfl ?_ ?_
       ·
        exact ov (EV.ex rfl rfl) rfl (xs [] [0, 1, 2] rfl rfl rfl (one1 10 rfl rfl (op_st (cs' := [.slice At11_0 t11_0.length ct11_0, .int .i64 t11_1, .bool t11_2]) 1 rfl rfl rfl rfl rfl rfl (xn rfl (xd (pr [0, 2, 3, 5] [0, 1, 2] [0, 2, 4] rfl rfl rfl rfl (ge (rg (sv (EV.mv rfl) rfl (sv (EV.sub rfl rfl) rfl (sv (EV.as rfl) rfl (re (wk [0, 2, 3, 5] [2, 0, 1] [⟨0, 2, 1, true⟩, ⟨2, 1, 2, true⟩, ⟨1, 0, 0, false⟩] (ih0 _ (by omega) _ ⟨wrap64 (x4_5 - 1), t10_1, t10_2, x4_2_0, Ax4_2_0, cx4_2_0, x4_2_1, x4_2_2, t11_0, At11_0, ct11_0, t11_1, t11_2, H, rfl⟩))))))))))))))
       ·
        exact op_st (cs' := [.slice At11_0 t11_0.length ct11_0, .int .i64 t11_1, .bool t11_2]) 1 rfl rfl rfl rfl rfl rfl (xn rfl (one1 7 rfl rfl (ov (EV.ex rfl rfl) rfl (xs [] [0, 1, 2] rfl rfl rfl (xd (pr [0, 2, 3, 5] [0, 1, 2] [0, 2, 4] rfl rfl rfl rfl (ge (rg (sv (EV.mv rfl) rfl (sv (EV.sub rfl rfl) rfl (sv (EV.as rfl) rfl (re (wk [0, 2, 3, 5] [2, 0, 1] [⟨0, 2, 1, true⟩, ⟨2, 1, 2, true⟩, ⟨1, 0, 0, false⟩] (ih0 _ (by omega) _ ⟨wrap64 (x4_5 - 1), t10_1, t10_2, x4_2_0, Ax4_2_0, cx4_2_0, x4_2_1, x4_2_2, t11_0, At11_0, ct11_0, t11_1, t11_2, H, rfl⟩))))))))))))))
      ·
       exact ov (EV.ex rfl rfl) rfl (xs [] [0, 1, 2] rfl rfl rfl (one1 6 rfl rfl (ov (EV.ex rfl rfl) rfl (xs [] [0, 1, 2] rfl rfl rfl (one1 10 rfl rfl (op_st (cs' := [.slice At11_0 t11_0.length ct11_0, .int .i64 t11_1, .bool t11_2]) 1 rfl rfl rfl rfl rfl rfl (xn rfl (xd (pr [0, 2, 3, 5] [0, 1, 2] [0, 2, 4] rfl rfl rfl rfl (ge (rg (sv (EV.mv rfl) rfl (sv (EV.sub rfl rfl) rfl (sv (EV.as rfl) rfl (re (wk [0, 2, 3, 5] [2, 0, 1] [⟨0, 2, 1, true⟩, ⟨2, 1, 2, true⟩, ⟨1, 0, 0, false⟩] (ih0 _ (by omega) _ ⟨wrap64 (x4_5 - 1), t10_1, t10_2, x4_2_0, Ax4_2_0, cx4_2_0, x4_2_1, x4_2_2, t11_0, At11_0, ct11_0, t11_1, t11_2, H, rfl⟩)))))))))))))))))
   ·
    revert H; refine bdI ?_; rintro ⟨t12_0, t12_1, t12_2⟩ A12 H
    refine op_callM (spec_l1PickInt.ok b1000 l0_0 Al0_0 cl0_0 x4_1000_1 x4_1000_2 ([8, 9, 12] : List Int) A23_9 c23_9 _ _ _ A12) [⟨2, 0, 0, false⟩, ⟨3, 0, 0, false⟩] [0] [1, 2] 4 rfl rfl rfl rfl rfl rfl rfl rfl ?_
    rintro _ _ _ ⟨rfl, rfl, rfl⟩
    refine nmE (en := [.sl 2 k102 Ax4_2_0 cx4_2_0 x4_2_0 1 true, .sl 1 k102 Ax4_3_0 cx4_3_0 x4_3_0 2 true, .sl 0 (.int .u8) Al0_0 cl0_0 l0_0 0 false, .sl 2 (.int .i64) A23_9 c23_9 ([8, 9, 12] : List Int) 3 true]) (by kernel_rfl) (xs [] [0, 1, 2] rfl rfl rfl (one1 0 rfl rfl (ov (EV.ld (v := .agg #[.slice Ax4_3_0 x4_3_0.length cx4_3_0, .int .i64 x4_3_1, .bool x4_3_2]) 1 (some 3) rfl rfl rfl) rfl (xs [] [0, 1, 2] rfl rfl rfl (one1 4 rfl rfl ?_)))))
    revert H; refine bdI ?_; rintro ⟨t13_0, t13_1, t13_2, t13_3, t13_4, t13_5⟩ A13 H
    refine op_call (spec_StepAggregator.ok n0 x4_3_0 Ax4_3_0 cx4_3_0 x4_3_1 x4_3_2 t12_0 _ _ _ _ _ _ A13) [⟨1, 0, 0, false⟩] 4 rfl rfl rfl rfl rfl ?_
    rintro _ _ _ ⟨At13_0, ct13_0, At13_3, ct13_3, rfl, rfl, rfl⟩
    refine xs [] [0, 1, 2] rfl rfl rfl (one1 5 rfl rfl (ov (EV.mv rfl) rfl (xs [] [0, 1, 2] rfl rfl rfl ?_)))
    refine one4 6 7 8 9 rfl rfl rfl rfl rfl rfl rfl rfl ?_ ?_ ?_ ?_
    ·
     refine ov (EV.ex rfl rfl) rfl (xs [] [0, 1, 2] rfl rfl rfl ?_)
     refine one4 7 8 9 10 rfl rfl rfl rfl rfl rfl rfl rfl ?_ ?_ ?_ ?_
     ·
      refine ov (EV.ex rfl rfl) rfl (xs [] [0, 1, 2] rfl rfl rfl ?_)
      refine one3 8 9 10 rfl rfl rfl rfl rfl rfl ?_ ?_ ?_
      ·
       refine ov (EV.ex rfl rfl) rfl (xs [] [0, 1, 2] rfl rfl rfl ?_)
       refine one2 9 10 rfl rfl rfl rfl ?_ ?_
       ·
        exact ov (EV.ex rfl rfl) rfl (xs [] [0, 1, 2] rfl rfl rfl (one1 10 rfl rfl (op_st (cs' := [.slice At13_0 t13_0.length ct13_0, .int .i64 t13_1, .bool t13_2]) 1 rfl rfl rfl rfl rfl rfl (xn rfl (xd (pr [0, 2, 3, 5] [0, 1, 2] [0, 2, 4] rfl rfl rfl rfl (ge (rg (sv (EV.mv rfl) rfl (sv (EV.sub rfl rfl) rfl (sv (EV.as rfl) rfl (re (wk [0, 2, 3, 5] [2, 0, 1] [⟨0, 2, 1, true⟩, ⟨2, 1, 2, true⟩, ⟨1, 0, 0, false⟩] (ih0 _ (by omega) _ ⟨wrap64 (x4_5 - 1), t12_1, t12_2, x4_2_0, Ax4_2_0, cx4_2_0, x4_2_1, x4_2_2, t13_0, At13_0, ct13_0, t13_1, t13_2, H, rfl⟩))))))))))))))
       ·
        exact op_st (cs' := [.slice At13_0 t13_0.length ct13_0, .int .i64 t13_1, .bool t13_2]) 1 rfl rfl rfl rfl rfl rfl (xn rfl (one1 9 rfl rfl (ov (EV.ex rfl rfl) rfl (xs [] [0, 1, 2] rfl rfl rfl (xd (pr [0, 2, 3, 5] [0, 1, 2] [0, 2, 4] rfl rfl rfl rfl (ge (rg (sv (EV.mv rfl) rfl (sv (EV.sub rfl rfl) rfl (sv (EV.as rfl) rfl (re (wk [0, 2, 3, 5] [2, 0, 1] [⟨0, 2, 1, true⟩, ⟨2, 1, 2, true⟩, ⟨1, 0, 0, false⟩] (ih0 _ (by omega) _ ⟨wrap64 (x4_5 - 1), t12_1, t12_2, x4_2_0, Ax4_2_0, cx4_2_0, x4_2_1, x4_2_2, t13_0, At13_0, ct13_0, t13_1, t13_2, H, rfl⟩))))))))))))))
      ·
       refine ov (EV.ex rfl rfl) rfl (xs [] [0, 1, 2] rfl rfl rfl ?_)
       refine one2 8 10 rfl rfl rfl rfl ?_ ?_
       ·
        exact ov (EV.ex rfl rfl) rfl (xs [] [0, 1, 2] rfl rfl rfl (one1 10 rfl rfl (op_st (cs' := [.slice At13_0 t13_0.length ct13_0, .int .i64 t13_1, .bool t13_2]) 1 rfl rfl rfl rfl rfl rfl (xn rfl (xd (pr [0, 2, 3, 5] [0, 1, 2] [0, 2, 4] rfl rfl rfl rfl (ge (rg (sv (EV.mv rfl) rfl (sv (EV.sub rfl rfl) rfl (sv (EV.as rfl) rfl (re (wk [0, 2, 3, 5] [2, 0, 1] [⟨0, 2, 1, true⟩, ⟨2, 1, 2, true⟩, ⟨1, 0, 0, false⟩] (ih0 _ (by omega) _ ⟨wrap64 (x4_5 - 1), t12_1, t12_2, x4_2_0, Ax4_2_0, cx4_2_0, x4_2_1, x4_2_2, t13_0, At13_0, ct13_0, t13_1, t13_2, H, rfl⟩))))))))))))))
       ·
        exact op_st (cs' := [.slice At13_0 t13_0.length ct13_0, .int .i64 t13_1, .bool t13_2]) 1 rfl rfl rfl rfl rfl rfl (xn rfl (one1 8 rfl rfl (ov (EV.ex rfl rfl) rfl (xs [] [0, 1, 2] rfl rfl rfl (xd (pr [0, 2, 3, 5] [0, 1, 2] [0, 2, 4] rfl rfl rfl rfl (ge (rg (sv (EV.mv rfl) rfl (sv (EV.sub rfl rfl) rfl (sv (EV.as rfl) rfl (re (wk [0, 2, 3, 5] [2, 0, 1] [⟨0, 2, 1, true⟩, ⟨2, 1, 2, true⟩, ⟨1, 0, 0, false⟩] (ih0 _ (by omega) _ ⟨wrap64 (x4_5 - 1), t12_1, t12_2, x4_2_0, Ax4_2_0, cx4_2_0, x4_2_1, x4_2_2, t13_0, At13_0, ct13_0, t13_1, t13_2, H, rfl⟩))))))))))))))
      ·
       refine op_st (cs' := [.slice At13_0 t13_0.length ct13_0, .int .i64 t13_1, .bool t13_2]) 1 rfl rfl rfl rfl rfl rfl (xn rfl ?_)
       refine one2 8 9 rfl rfl rfl rfl ?_ ?_
       ·
        exact ov (EV.ex rfl rfl) rfl (xs [] [0, 1, 2] rfl rfl rfl (one1 9 rfl rfl (ov (EV.ex rfl rfl) rfl (xs [] [0, 1, 2] rfl rfl rfl (xd (pr [0, 2, 3, 5] [0, 1, 2] [0, 2, 4] rfl rfl rfl rfl (ge (rg (sv (EV.mv rfl) rfl (sv (EV.sub rfl rfl) rfl (sv (EV.as rfl) rfl (re (wk [0, 2, 3, 5] [2, 0, 1] [⟨0, 2, 1, true⟩, ⟨2, 1, 2, true⟩, ⟨1, 0, 0, false⟩] (ih0 _ (by omega) _ ⟨wrap64 (x4_5 - 1), t12_1, t12_2, x4_2_0, Ax4_2_0, cx4_2_0, x4_2_1, x4_2_2, t13_0, At13_0, ct13_0, t13_1, t13_2, H, rfl⟩))))))))))))))
       ·
        exact ov (EV.ex rfl rfl) rfl (xs [] [0, 1, 2] rfl rfl rfl (one1 8 rfl rfl (ov (EV.ex rfl rfl) rfl (xs [] [0, 1, 2] rfl rfl rfl (xd (pr [0, 2, 3, 5] [0, 1, 2] [0, 2, 4] rfl rfl rfl rfl (ge (rg (sv (EV.mv rfl) rfl (sv (EV.sub rfl rfl) rfl (sv (EV.as rfl) rfl (re (wk [0, 2, 3, 5] [2, 0, 1] [⟨0, 2, 1, true⟩, ⟨2, 1, 2, true⟩, ⟨1, 0, 0, false⟩] (ih0 _ (by omega) _ ⟨wrap64 (x4_5 - 1), t12_1, t12_2, x4_2_0, Ax4_2_0, cx4_2_0, x4_2_1, x4_2_2, t13_0, At13_0, ct13_0, t13_1, t13_2, H, rfl⟩))))))))))))))
     ·
      refine ov (EV.ex rfl rfl) rfl (xs [] [0, 1, 2] rfl rfl rfl ?_)
      refine one3 7 9 10 rfl rfl rfl rfl rfl rfl ?_ ?_ ?_
      ·
       refine ov (EV.ex rfl rfl) rfl (xs [] [0, 1, 2] rfl rfl rfl ?_)
       refine one2 9 10 rfl rfl rfl rfl ?_ ?_
       ·
        exact ov (EV.ex rfl rfl) rfl (xs [] [0, 1, 2] rfl rfl rfl (one1 10 rfl rfl (op_st (cs' := [.slice At13_0 t13_0.length ct13_0, .int .i64 t13_1, .bool t13_2]) 1 rfl rfl rfl rfl rfl rfl (xn rfl (xd (pr [0, 2, 3, 5] [0, 1, 2] [0, 2, 4] rfl rfl rfl rfl (ge (rg (sv (EV.mv rfl) rfl (sv (EV.sub rfl rfl) rfl (sv (EV.as rfl) rfl (re (wk [0, 2, 3, 5] [2, 0, 1] [⟨0, 2, 1, true⟩, ⟨2, 1, 2, true⟩, ⟨1, 0, 0, false⟩] (ih0 _ (by omega) _ ⟨wrap64 (x4_5 - 1), t12_1, t12_2, x4_2_0, Ax4_2_0, cx4_2_0, x4_2_1, x4_2_2, t13_0, At13_0, ct13_0, t13_1, t13_2, H, rfl⟩))))))))))))))
       ·
        exact op_st (cs' := [.slice At13_0 t13_0.length ct13_0, .int .i64 t13_1, .bool t13_2]) 1 rfl rfl rfl rfl rfl rfl (xn rfl (one1 9 rfl rfl (ov (EV.ex rfl rfl) rfl (xs [] [0, 1, 2] rfl rfl rfl (xd (pr [0, 2, 3, 5] [0, 1, 2] [0, 2, 4] rfl rfl rfl rfl (ge (rg (sv (EV.mv rfl) rfl (sv (EV.sub rfl rfl) rfl (sv (EV.as rfl) rfl (re (wk [0, 2, 3, 5] [2, 0, 1] [⟨0, 2, 1, true⟩, ⟨2, 1, 2, true⟩, ⟨1, 0, 0, false⟩] (ih0 _ (by omega) _ ⟨wrap64 (x4_5 - 1), t12_1, t12_2, x4_2_0, Ax4_2_0, cx4_2_0, x4_2_1, x4_2_2, t13_0, At13_0, ct13_0, t13_1, t13_2, H, rfl⟩))))))))))))))
      ·
       refine ov (EV.ex rfl rfl) rfl (xs [] [0, 1, 2] rfl rfl rfl ?_)
       refine one2 7 10 rfl rfl rfl rfl ?_ ?_
       ·
        exact ov (EV.ex rfl rfl) rfl (xs [] [0, 1, 2] rfl rfl rfl (one1 10 rfl rfl (op_st (cs' := [.slice At13_0 t13_0.length ct13_0, .int .i64 t13_1, .bool t13_2]) 1 rfl rfl rfl rfl rfl rfl (xn rfl (xd (pr [0, 2, 3, 5] [0, 1, 2] [0, 2, 4] rfl rfl rfl rfl (ge (rg (sv (EV.mv rfl) rfl (sv (EV.sub rfl rfl) rfl (sv (EV.as rfl) rfl (re (wk [0, 2, 3, 5] [2, 0, 1] [⟨0, 2, 1, true⟩, ⟨2, 1, 2, true⟩, ⟨1, 0, 0, false⟩] (ih0 _ (by omega) _ ⟨wrap64 (x4_5 - 1), t12_1, t12_2, x4_2_0, Ax4_2_0, cx4_2_0, x4_2_1, x4_2_2, t13_0, At13_0, ct13_0, t13_1, t13_2, H, rfl⟩))))))))))))))
       ·
        exact op_st (cs' := [.slice At13_0 t13_0.length ct13_0, .int .i64 t13_1, .bool t13_2]) 1 rfl rfl rfl rfl rfl rfl (xn rfl (one1 7 rfl rfl (ov (EV.ex rfl rfl) rfl (xs [] [0, 1, 2] rfl rfl rfl (xd (pr [0, 2, 3, 5] [0, 1, 2] [0, 2, 4] rfl rfl rfl rfl (ge (rg (sv (EV.mv rfl) rfl (sv (EV.sub rfl rfl) rfl (sv (EV.as rfl) rfl (re (wk [0, 2, 3, 5] [2, 0, 1] [⟨0, 2, 1, true⟩, ⟨2, 1, 2, true⟩, ⟨1, 0, 0, false⟩] (ih0 _ (by omega) _ ⟨wrap64 (x4_5 - 1), t12_1, t12_2, x4_2_0, Ax4_2_0, cx4_2_0, x4_2_1, x4_2_2, t13_0, At13_0, ct13_0, t13_1, t13_2, H, rfl⟩))))))))))))))
      ·
       refine op_st (cs' := [.slice At13_0 t13_0.length ct13_0, .int .i64 t13_1, .bool t13_2]) 1 rfl rfl rfl rfl rfl rfl (xn rfl ?_)
       refine one2 7 9 rfl rfl rfl rfl ?_ ?_
       ·
        exact ov (EV.ex rfl rfl) rfl (xs [] [0, 1, 2] rfl rfl rfl (one1 9 rfl rfl (ov (EV.ex rfl rfl) rfl (xs [] [0, 1, 2] rfl rfl rfl (xd (pr [0, 2, 3, 5] [0, 1, 2] [0, 2, 4] rfl rfl rfl rfl (ge (rg (sv (EV.mv rfl) rfl (sv (EV.sub rfl rfl) rfl (sv (EV.as rfl) rfl (re (wk [0, 2, 3, 5] [2, 0, 1] [⟨0, 2, 1, true⟩, ⟨2, 1, 2, true⟩, ⟨1, 0, 0, false⟩] (ih0 _ (by omega) _ ⟨wrap64 (x4_5 - 1), t12_1, t12_2, x4_2_0, Ax4_2_0, cx4_2_0, x4_2_1, x4_2_2, t13_0, At13_0, ct13_0, t13_1, t13_2, H, rfl⟩))))))))))))))
       ·
        exact ov (EV.ex rfl rfl) rfl (xs [] [0, 1, 2] rfl rfl rfl (one1 7 rfl rfl (ov (EV.ex rfl rfl) rfl (xs [] [0, 1, 2] rfl rfl rfl (xd (pr [0, 2, 3, 5] [0, 1, 2] [0, 2, 4] rfl rfl rfl rfl (ge (rg (sv (EV.mv rfl) rfl (sv (EV.sub rfl rfl) rfl (sv (EV.as rfl) rfl (re (wk [0, 2, 3, 5] [2, 0, 1] [⟨0, 2, 1, true⟩, ⟨2, 1, 2, true⟩, ⟨1, 0, 0, false⟩] (ih0 _ (by omega) _ ⟨wrap64 (x4_5 - 1), t12_1, t12_2, x4_2_0, Ax4_2_0, cx4_2_0, x4_2_1, x4_2_2, t13_0, At13_0, ct13_0, t13_1, t13_2, H, rfl⟩))))))))))))))
     ·
      refine ov (EV.ex rfl rfl) rfl (xs [] [0, 1, 2] rfl rfl rfl ?_)
      refine one3 7 8 10 rfl rfl rfl rfl rfl rfl ?_ ?_ ?_
      ·
       refine ov (EV.ex rfl rfl) rfl (xs [] [0, 1, 2] rfl rfl rfl ?_)
       refine one2 8 10 rfl rfl rfl rfl ?_ ?_
       ·
        exact ov (EV.ex rfl rfl) rfl (xs [] [0, 1, 2] rfl rfl rfl (one1 10 rfl rfl (op_st (cs' := [.slice At13_0 t13_0.length ct13_0, .int .i64 t13_1, .bool t13_2]) 1 rfl rfl rfl rfl rfl rfl (xn rfl (xd (pr [0, 2, 3, 5] [0, 1, 2] [0, 2, 4] rfl rfl rfl rfl (ge (rg (sv (EV.mv rfl) rfl (sv (EV.sub rfl rfl) rfl (sv (EV.as rfl) rfl (re (wk [0, 2, 3, 5] [2, 0, 1] [⟨0, 2, 1, true⟩, ⟨2, 1, 2, true⟩, ⟨1, 0, 0, false⟩] (ih0 _ (by omega) _ ⟨wrap64 (x4_5 - 1), t12_1, t12_2, x4_2_0, Ax4_2_0, cx4_2_0, x4_2_1, x4_2_2, t13_0, At13_0, ct13_0, t13_1, t13_2, H, rfl⟩))))))))))))))
       ·
        exact op_st (cs' := [.slice At13_0 t13_0.length ct13_0, .int .i64 t13_1, .bool t13_2]) 1 rfl rfl rfl rfl rfl rfl (xn rfl (one1 8 rfl rfl (ov (EV.ex rfl rfl) rfl (xs [] [0, 1, 2] rfl rfl rfl (xd (pr [0, 2, 3, 5] [0, 1, 2] [0, 2, 4] rfl rfl rfl rfl (ge (rg (sv (EV.mv rfl) rfl (sv (EV.sub rfl rfl) rfl (sv (EV.as rfl) rfl (re (wk [0, 2, 3, 5] [2, 0, 1] [⟨0, 2, 1, true⟩, ⟨2, 1, 2, true⟩, ⟨1, 0, 0, false⟩] (ih0 _ (by omega) _ ⟨wrap64 (x4_5 - 1), t12_1, t12_2, x4_2_0, Ax4_2_0, cx4_2_0, x4_2_1, x4_2_2, t13_0, At13_0, ct13_0, t13_1, t13_2, H, rfl⟩))))))))))))))
      ·
       refine ov (EV.ex rfl rfl) rfl (xs [] [0, 1, 2] rfl rfl rfl ?_)
       refine one2 7 10 rfl rfl rfl rfl ?_ ?_
       ·
        exact ov (EV.ex rfl rfl) rfl (xs [] [0, 1, 2] rfl rfl rfl (one1 10 rfl rfl (op_st (cs' := [.slice At13_0 t13_0.length ct13_0, .int .i64 t13_1, .bool t13_2]) 1 rfl rfl rfl rfl rfl rfl (xn rfl (xd (pr [0, 2, 3, 5] [0, 1, 2] [0, 2, 4] rfl rfl rfl rfl (ge (rg (sv (EV.mv rfl) rfl (sv (EV.sub rfl rfl) rfl (sv (EV.as rfl) rfl (re (wk [0, 2, 3, 5] [2, 0, 1] [⟨0, 2, 1, true⟩, ⟨2, 1, 2, true⟩, ⟨1, 0, 0, false⟩] (ih0 _ (by omega) _ ⟨wrap64 (x4_5 - 1), t12_1, t12_2, x4_2_0, Ax4_2_0, cx4_2_0, x4_2_1, x4_2_2, t13_0, At13_0, ct13_0, t13_1, t13_2, H, rfl⟩))))))))))))))
       ·
        exact op_st (cs' := [.slice At13_0 t13_0.length ct13_0, .int .i64 t13_1, .bool t13_2]) 1 rfl rfl rfl rfl rfl rfl (xn rfl (one1 7 rfl rfl (ov (EV.ex rfl rfl) rfl (xs [] [0, 1, 2] rfl rfl rfl (xd (pr [0, 2, 3, 5] [0, 1, 2] [0, 2, 4] rfl rfl rfl rfl (ge (rg (sv (EV.mv rfl) rfl (sv (EV.sub rfl rfl) rfl (sv (EV.as rfl) rfl (re (wk [0, 2, 3, 5] [2, 0, 1] [⟨0, 2, 1, true⟩, ⟨2, 1, 2, true⟩, ⟨1, 0, 0, false⟩] (ih0 _ (by omega) _ ⟨wrap64 (x4_5 - 1), t12_1, t12_2, x4_2_0, Ax4_2_0, cx4_2_0, x4_2_1, x4_2_2, t13_0, At13_0, ct13_0, t13_1, t13_2, H, rfl⟩))))))))))))))
      ·
       refine op_st (cs' := [.slice At13_0 t13_0.length ct13_0, .int .i64 t13_1, .bool t13_2]) 1 rfl rfl rfl rfl rfl rfl (xn rfl ?_)
       refine one2 7 8 rfl rfl rfl rfl ?_ ?_
       ·
        exact ov (EV.ex rfl rfl) rfl (xs [] [0, 1, 2] rfl rfl rfl (one1 8 rfl rfl (ov (EV.ex rfl rfl) rfl (xs [] [0, 1, 2] rfl rfl rfl (xd (pr [0, 2, 3, 5] [0, 1, 2] [0, 2, 4] rfl rfl rfl rfl (ge (rg (sv (EV.mv rfl) rfl (sv (EV.sub rfl rfl) rfl (sv (EV.as rfl) rfl (re (wk [0, 2, 3, 5] [2, 0, 1] [⟨0, 2, 1, true⟩, ⟨2, 1, 2, true⟩, ⟨1, 0, 0, false⟩] (ih0 _ (by omega) _ ⟨wrap64 (x4_5 - 1), t12_1, t12_2, x4_2_0, Ax4_2_0, cx4_2_0, x4_2_1, x4_2_2, t13_0, At13_0, ct13_0, t13_1, t13_2, H, rfl⟩))))))))))))))
       ·
        exact ov (EV.ex rfl rfl) rfl (xs [] [0, 1, 2] rfl rfl rfl (one1 7 rfl rfl (ov (EV.ex rfl rfl) rfl (xs [] [0, 1, 2] rfl rfl rfl (xd (pr [0, 2, 3, 5] [0, 1, 2] [0, 2, 4] rfl rfl rfl rfl (ge (rg (sv (EV.mv rfl) rfl (sv (EV.sub rfl rfl) rfl (sv (EV.as rfl) rfl (re (wk [0, 2, 3, 5] [2, 0, 1] [⟨0, 2, 1, true⟩, ⟨2, 1, 2, true⟩, ⟨1, 0, 0, false⟩] (ih0 _ (by omega) _ ⟨wrap64 (x4_5 - 1), t12_1, t12_2, x4_2_0, Ax4_2_0, cx4_2_0, x4_2_1, x4_2_2, t13_0, At13_0, ct13_0, t13_1, t13_2, H, rfl⟩))))))))))))))
     ·
      refine op_st (cs' := [.slice At13_0 t13_0.length ct13_0, .int .i64 t13_1, .bool t13_2]) 1 rfl rfl rfl rfl rfl rfl (xn rfl ?_)
      refine one3 7 8 9 rfl rfl rfl rfl rfl rfl ?_ ?_ ?_
      ·
       refine ov (EV.ex rfl rfl) rfl (xs [] [0, 1, 2] rfl rfl rfl ?_)
       refine one2 8 9 rfl rfl rfl rfl ?_ ?_
       ·
        exact ov (EV.ex rfl rfl) rfl (xs [] [0, 1, 2] rfl rfl rfl (one1 9 rfl rfl (ov (EV.ex rfl rfl) rfl (xs [] [0, 1, 2] rfl rfl rfl (xd (pr [0, 2, 3, 5] [0, 1, 2] [0, 2, 4] rfl rfl rfl rfl (ge (rg (sv (EV.mv rfl) rfl (sv (EV.sub rfl rfl) rfl (sv (EV.as rfl) rfl (re (wk [0, 2, 3, 5] [2, 0, 1] [⟨0, 2, 1, true⟩, ⟨2, 1, 2, true⟩, ⟨1, 0, 0, false⟩] (ih0 _ (by omega) _ ⟨wrap64 (x4_5 - 1), t12_1, t12_2, x4_2_0, Ax4_2_0, cx4_2_0, x4_2_1, x4_2_2, t13_0, At13_0, ct13_0, t13_1, t13_2, H, rfl⟩))))))))))))))
       ·
        exact ov (EV.ex rfl rfl) rfl (xs [] [0, 1, 2] rfl rfl rfl (one1 8 rfl rfl (ov (EV.ex rfl rfl) rfl (xs [] [0, 1, 2] rfl rfl rfl (xd (pr [0, 2, 3, 5] [0, 1, 2] [0, 2, 4] rfl rfl rfl rfl (ge (rg (sv (EV.mv rfl) rfl (sv (EV.sub rfl rfl) rfl (sv (EV.as rfl) rfl (re (wk [0, 2, 3, 5] [2, 0, 1] [⟨0, 2, 1, true⟩, ⟨2, 1, 2, true⟩, ⟨1, 0, 0, false⟩] (ih0 _ (by omega) _ ⟨wrap64 (x4_5 - 1), t12_1, t12_2, x4_2_0, Ax4_2_0, cx4_2_0, x4_2_1, x4_2_2, t13_0, At13_0, ct13_0, t13_1, t13_2, H, rfl⟩))))))))))))))
      ·
       refine ov (EV.ex rfl rfl) rfl (xs [] [0, 1, 2] rfl rfl rfl ?_)
       refine one2 7 9 rfl rfl rfl rfl ?_ ?_
       ·
        exact ov (EV.ex rfl rfl) rfl (xs [] [0, 1, 2] rfl rfl rfl (one1 9 rfl rfl (ov (EV.ex rfl rfl) rfl (xs [] [0, 1, 2] rfl rfl rfl (xd (pr [0, 2, 3, 5] [0, 1, 2] [0, 2, 4] rfl rfl rfl rfl (ge (rg (sv (EV.mv rfl) rfl (sv (EV.sub rfl rfl) rfl (sv (EV.as rfl) rfl (re (wk [0, 2, 3, 5] [2, 0, 1] [⟨0, 2, 1, true⟩, ⟨2, 1, 2, true⟩, ⟨1, 0, 0, false⟩] (ih0 _ (by omega) _ ⟨wrap64 (x4_5 - 1), t12_1, t12_2, x4_2_0, Ax4_2_0, cx4_2_0, x4_2_1, x4_2_2, t13_0, At13_0, ct13_0, t13_1, t13_2, H, rfl⟩))))))))))))))
       ·
        exact ov (EV.ex rfl rfl) rfl (xs [] [0, 1, 2] rfl rfl rfl (one1 7 rfl rfl (ov (EV.ex rfl rfl) rfl (xs [] [0, 1, 2] rfl rfl rfl (xd (pr [0, 2, 3, 5] [0, 1, 2] [0, 2, 4] rfl rfl rfl rfl (ge (rg (sv (EV.mv rfl) rfl (sv (EV.sub rfl rfl) rfl (sv (EV.as rfl) rfl (re (wk [0, 2, 3, 5] [2, 0, 1] [⟨0, 2, 1, true⟩, ⟨2, 1, 2, true⟩, ⟨1, 0, 0, false⟩] (ih0 _ (by omega) _ ⟨wrap64 (x4_5 - 1), t12_1, t12_2, x4_2_0, Ax4_2_0, cx4_2_0, x4_2_1, x4_2_2, t13_0, At13_0, ct13_0, t13_1, t13_2, H, rfl⟩))))))))))))))
      ·
       refine ov (EV.ex rfl rfl) rfl (xs [] [0, 1, 2] rfl rfl rfl ?_)
       refine one2 7 8 rfl rfl rfl rfl ?_ ?_
       ·
        exact ov (EV.ex rfl rfl) rfl (xs [] [0, 1, 2] rfl rfl rfl (one1 8 rfl rfl (ov (EV.ex rfl rfl) rfl (xs [] [0, 1, 2] rfl rfl rfl (xd (pr [0, 2, 3, 5] [0, 1, 2] [0, 2, 4] rfl rfl rfl rfl (ge (rg (sv (EV.mv rfl) rfl (sv (EV.sub rfl rfl) rfl (sv (EV.as rfl) rfl (re (wk [0, 2, 3, 5] [2, 0, 1] [⟨0, 2, 1, true⟩, ⟨2, 1, 2, true⟩, ⟨1, 0, 0, false⟩] (ih0 _ (by omega) _ ⟨wrap64 (x4_5 - 1), t12_1, t12_2, x4_2_0, Ax4_2_0, cx4_2_0, x4_2_1, x4_2_2, t13_0, At13_0, ct13_0, t13_1, t13_2, H, rfl⟩))))))))))))))
       ·
        exact ov (EV.ex rfl rfl) rfl (xs [] [0, 1, 2] rfl rfl rfl (one1 7 rfl rfl (ov (EV.ex rfl rfl) rfl (xs [] [0, 1, 2] rfl rfl rfl (xd (pr [0, 2, 3, 5] [0, 1, 2] [0, 2, 4] rfl rfl rfl rfl (ge (rg (sv (EV.mv rfl) rfl (sv (EV.sub rfl rfl) rfl (sv (EV.as rfl) rfl (re (wk [0, 2, 3, 5] [2, 0, 1] [⟨0, 2, 1, true⟩, ⟨2, 1, 2, true⟩, ⟨1, 0, 0, false⟩] (ih0 _ (by omega) _ ⟨wrap64 (x4_5 - 1), t12_1, t12_2, x4_2_0, Ax4_2_0, cx4_2_0, x4_2_1, x4_2_2, t13_0, At13_0, ct13_0, t13_1, t13_2, H, rfl⟩))))))))))))))
    ·
     refine ov (EV.ex rfl rfl) rfl (xs [] [0, 1, 2] rfl rfl rfl ?_)
     refine one3 6 8 9 rfl rfl rfl rfl rfl rfl ?_ ?_ ?_
     ·
      refine ov (EV.ex rfl rfl) rfl (xs [] [0, 1, 2] rfl rfl rfl ?_)
      refine one3 8 9 10 rfl rfl rfl rfl rfl rfl ?_ ?_ ?_
      ·
       refine ov (EV.ex rfl rfl) rfl (xs [] [0, 1, 2] rfl rfl rfl ?_)
       refine one2 9 10 rfl rfl rfl rfl ?_ ?_
       ·
        exact ov (EV.ex rfl rfl) rfl (xs [] [0, 1, 2] rfl rfl rfl (one1 10 rfl rfl (op_st (cs' := [.slice At13_0 t13_0.length ct13_0, .int .i64 t13_1, .bool t13_2]) 1 rfl rfl rfl rfl rfl rfl (xn rfl (xd (pr [0, 2, 3, 5] [0, 1, 2] [0, 2, 4] rfl rfl rfl rfl (ge (rg (sv (EV.mv rfl) rfl (sv (EV.sub rfl rfl) rfl (sv (EV.as rfl) rfl (re (wk [0, 2, 3, 5] [2, 0, 1] [⟨0, 2, 1, true⟩, ⟨2, 1, 2, true⟩, ⟨1, 0, 0, false⟩] (ih0 _ (by omega) _ ⟨wrap64 (x4_5 - 1), t12_1, t12_2, x4_2_0, Ax4_2_0, cx4_2_0, x4_2_1, x4_2_2, t13_0, At13_0, ct13_0, t13_1, t13_2, H, rfl⟩))))))))))))))
       ·
        exact op_st (cs' := [.slice At13_0 t13_0.length ct13_0, .int .i64 t13_1, .bool t13_2]) 1 rfl rfl rfl rfl rfl rfl (xn rfl (one1 9 rfl rfl (ov (EV.ex rfl rfl) rfl (xs [] [0, 1, 2] rfl rfl rfl (xd (pr [0, 2, 3, 5] [0, 1, 2] [0, 2, 4] rfl rfl rfl rfl (ge (rg (sv (EV.mv rfl) rfl (sv (EV.sub rfl rfl) rfl (sv (EV.as rfl) rfl (re (wk [0, 2, 3, 5] [2, 0, 1] [⟨0, 2, 1, true⟩, ⟨2, 1, 2, true⟩, ⟨1, 0, 0, false⟩] (ih0 _ (by omega) _ ⟨wrap64 (x4_5 - 1), t12_1, t12_2, x4_2_0, Ax4_2_0, cx4_2_0, x4_2_1, x4_2_2, t13_0, At13_0, ct13_0, t13_1, t13_2, H, rfl⟩))))))))))))))
      ·
       refine ov (EV.ex rfl rfl) rfl (xs [] [0, 1, 2] rfl rfl rfl ?_)
       refine one2 8 10 rfl rfl rfl rfl ?_ ?_
       ·
        exact ov (EV.ex rfl rfl) rfl (xs [] [0, 1, 2] rfl rfl rfl (one1 10 rfl rfl (op_st (cs' := [.slice At13_0 t13_0.length ct13_0, .int .i64 t13_1, .bool t13_2]) 1 rfl rfl rfl rfl rfl rfl (xn rfl (xd (pr [0, 2, 3, 5] [0, 1, 2] [0, 2, 4] rfl rfl rfl rfl (ge (rg (sv (EV.mv rfl) rfl (sv (EV.sub rfl rfl) rfl (sv (EV.as rfl) rfl (re (wk [0, 2, 3, 5] [2, 0, 1] [⟨0, 2, 1, true⟩, ⟨2, 1, 2, true⟩, ⟨1, 0, 0, false⟩] (ih0 _ (by omega) _ ⟨wrap64 (x4_5 - 1), t12_1, t12_2, x4_2_0, Ax4_2_0, cx4_2_0, x4_2_1, x4_2_2, t13_0, At13_0, ct13_0, t13_1, t13_2, H, rfl⟩))))))))))))))
       ·
        exact op_st (cs' := [.slice At13_0 t13_0.length ct13_0, .int .i64 t13_1, .bool t13_2]) 1 rfl rfl rfl rfl rfl rfl (xn rfl (one1 8 rfl rfl (ov (EV.ex rfl rfl) rfl (xs [] [0, 1, 2] rfl rfl rfl (xd (pr [0, 2, 3, 5] [0, 1, 2] [0, 2, 4] rfl rfl rfl rfl (ge (rg (sv (EV.mv rfl) rfl (sv (EV.sub rfl rfl) rfl (sv (EV.as rfl) rfl (re (wk [0, 2, 3, 5] [2, 0, 1] [⟨0, 2, 1, true⟩, ⟨2, 1, 2, true⟩, ⟨1, 0, 0, false⟩] (ih0 _ (by omega) _ ⟨wrap64 (x4_5 - 1), t12_1, t12_2, x4_2_0, Ax4_2_0, cx4_2_0, x4_2_1, x4_2_2, t13_0, At13_0, ct13_0, t13_1, t13_2, H, rfl⟩))))))))))))))
      ·
       refine op_st (cs' := [.slice At13_0 t13_0.length ct13_0, .int .i64 t13_1, .bool t13_2]) 1 rfl rfl rfl rfl rfl rfl (xn rfl ?_)
       refine one2 8 9 rfl rfl rfl rfl ?_ ?_
       ·
        exact ov (EV.ex rfl rfl) rfl (xs [] [0, 1, 2] rfl rfl rfl (one1 9 rfl rfl (ov (EV.ex rfl rfl) rfl (xs [] [0, 1, 2] rfl rfl rfl (xd (pr [0, 2, 3, 5] [0, 1, 2] [0, 2, 4] rfl rfl rfl rfl (ge (rg (sv (EV.mv rfl) rfl (sv (EV.sub rfl rfl) rfl (sv (EV.as rfl) rfl (re (wk [0, 2, 3, 5] [2, 0, 1] [⟨0, 2, 1, true⟩, ⟨2, 1, 2, true⟩, ⟨1, 0, 0, false⟩] (ih0 _ (by omega) _ ⟨wrap64 (x4_5 - 1), t12_1, t12_2, x4_2_0, Ax4_2_0, cx4_2_0, x4_2_1, x4_2_2, t13_0, At13_0, ct13_0, t13_1, t13_2, H, rfl⟩))))))))))))))
       ·
        exact ov (EV.ex rfl rfl) rfl (xs [] [0, 1, 2] rfl rfl rfl (one1 8 rfl rfl (ov (EV.ex rfl rfl) rfl (xs [] [0, 1, 2] rfl rfl rfl (xd (pr [0, 2, 3, 5] [0, 1, 2] [0, 2, 4] rfl rfl rfl rfl (ge (rg (sv (EV.mv rfl) rfl (sv (EV.sub rfl rfl) rfl (sv (EV.as rfl) rfl (re (wk [0, 2, 3, 5] [2, 0, 1] [⟨0, 2, 1, true⟩, ⟨2, 1, 2, true⟩, ⟨1, 0, 0, false⟩] (ih0 _ (by omega) _ ⟨wrap64 (x4_5 - 1), t12_1, t12_2, x4_2_0, Ax4_2_0, cx4_2_0, x4_2_1, x4_2_2, t13_0, At13_0, ct13_0, t13_1, t13_2, H, rfl⟩))))))))))))))
     ·
      refine ov (EV.ex rfl rfl) rfl (xs [] [0, 1, 2] rfl rfl rfl ?_)
      refine one2 6 9 rfl rfl rfl rfl ?_ ?_
      ·
       refine ov (EV.ex rfl rfl) rfl (xs [] [0, 1, 2] rfl rfl rfl ?_)
       refine one2 9 10 rfl rfl rfl rfl ?_ ?_
       ·
        exact ov (EV.ex rfl rfl) rfl (xs [] [0, 1, 2] rfl rfl rfl (one1 10 rfl rfl (op_st (cs' := [.slice At13_0 t13_0.length ct13_0, .int .i64 t13_1, .bool t13_2]) 1 rfl rfl rfl rfl rfl rfl (xn rfl (xd (pr [0, 2, 3, 5] [0, 1, 2] [0, 2, 4] rfl rfl rfl rfl (ge (rg (sv (EV.mv rfl) rfl (sv (EV.sub rfl rfl) rfl (sv (EV.as rfl) rfl (re (wk [0, 2, 3, 5] [2, 0, 1] [⟨0, 2, 1, true⟩, ⟨2, 1, 2, true⟩, ⟨1, 0, 0, false⟩] (ih0 _ (by omega) _ ⟨wrap64 (x4_5 - 1), t12_1, t12_2, x4_2_0, Ax4_2_0, cx4_2_0, x4_2_1, x4_2_2, t13_0, At13_0, ct13_0, t13_1, t13_2, H, rfl⟩))))))))))))))
       ·
        exact op_st (cs' := [.slice At13_0 t13_0.length ct13_0, .int .i64 t13_1, .bool t13_2]) 1 rfl rfl rfl rfl rfl rfl (xn rfl (one1 9 rfl rfl (ov (EV.ex rfl rfl) rfl (xs [] [0, 1, 2] rfl rfl rfl (xd (pr [0, 2, 3, 5] [0, 1, 2] [0, 2, 4] rfl rfl rfl rfl (ge (rg (sv (EV.mv rfl) rfl (sv (EV.sub rfl rfl) rfl (sv (EV.as rfl) rfl (re (wk [0, 2, 3, 5] [2, 0, 1] [⟨0, 2, 1, true⟩, ⟨2, 1, 2, true⟩, ⟨1, 0, 0, false⟩] (ih0 _ (by omega) _ ⟨wrap64 (x4_5 - 1), t12_1, t12_2, x4_2_0, Ax4_2_0, cx4_2_0, x4_2_1, x4_2_2, t13_0, At13_0, ct13_0, t13_1, t13_2, H, rfl⟩))))))))))))))
      ·
       exact ov (EV.ex rfl rfl) rfl (xs [] [0, 1, 2] rfl rfl rfl (one1 6 rfl rfl (ov (EV.ex rfl rfl) rfl (xs [] [0, 1, 2] rfl rfl rfl (one1 10 rfl rfl (op_st (cs' := [.slice At13_0 t13_0.length ct13_0, .int .i64 t13_1, .bool t13_2]) 1 rfl rfl rfl rfl rfl rfl (xn rfl (xd (pr [0, 2, 3, 5] [0, 1, 2] [0, 2, 4] rfl rfl rfl rfl (ge (rg (sv (EV.mv rfl) rfl (sv (EV.sub rfl rfl) rfl (sv (EV.as rfl) rfl (re (wk [0, 2, 3, 5] [2, 0, 1] [⟨0, 2, 1, true⟩, ⟨2, 1, 2, true⟩, ⟨1, 0, 0, false⟩] (ih0 _ (by omega) _ ⟨wrap64 (x4_5 - 1), t12_1, t12_2, x4_2_0, Ax4_2_0, cx4_2_0, x4_2_1, x4_2_2, t13_0, At13_0, ct13_0, t13_1, t13_2, H, rfl⟩)))))))))))))))))
     ·
      refine ov (EV.ex rfl rfl) rfl (xs [] [0, 1, 2] rfl rfl rfl ?_)
      refine one2 6 8 rfl rfl rfl rfl ?_ ?_
      ·
       refine ov (EV.ex rfl rfl) rfl (xs [] [0, 1, 2] rfl rfl rfl ?_)
       refine one2 8 10 rfl rfl rfl rfl ?_ ?_
       ·
        exact ov (EV.ex rfl rfl) rfl (xs [] [0, 1, 2] rfl rfl rfl (one1 10 rfl rfl (op_st (cs' := [.slice At13_0 t13_0.length ct13_0, .int .i64 t13_1, .bool t13_2]) 1 rfl rfl rfl rfl rfl rfl (xn rfl (xd (pr [0, 2, 3, 5] [0, 1, 2] [0, 2, 4] rfl rfl rfl rfl (ge (rg (sv (EV.mv rfl) rfl (sv (EV.sub rfl rfl) rfl (sv (EV.as rfl) rfl (re (wk [0, 2, 3, 5] [2, 0, 1] [⟨0, 2, 1, true⟩, ⟨2, 1, 2, true⟩, ⟨1, 0, 0, false⟩] (ih0 _ (by omega) _ ⟨wrap64 (x4_5 - 1), t12_1, t12_2, x4_2_0, Ax4_2_0, cx4_2_0, x4_2_1, x4_2_2, t13_0, At13_0, ct13_0, t13_1, t13_2, H, rfl⟩))))))))))))))
       ·
        exact op_st (cs' := [.slice At13_0 t13_0.length ct13_0, .int .i64 t13_1, .bool t13_2]) 1 rfl rfl rfl rfl rfl rfl (xn rfl (one1 8 rfl rfl (ov (EV.ex rfl rfl) rfl (xs [] [0, 1, 2] rfl rfl rfl (xd (pr [0, 2, 3, 5] [0, 1, 2] [0, 2, 4] rfl rfl rfl rfl (ge (rg (sv (EV.mv rfl) rfl (sv (EV.sub rfl rfl) rfl (sv (EV.as rfl) rfl (re (wk [0, 2, 3, 5] [2, 0, 1] [⟨0, 2, 1, true⟩, ⟨2, 1, 2, true⟩, ⟨1, 0, 0, false⟩] (ih0 _ (by omega) _ ⟨wrap64 (x4_5 - 1), t12_1, t12_2, x4_2_0, Ax4_2_0, cx4_2_0, x4_2_1, x4_2_2, t13_0, At13_0, ct13_0, t13_1, t13_2, H, rfl⟩))))))))))))))
      ·
       exact ov (EV.ex rfl rfl) rfl (xs [] [0, 1, 2] rfl rfl rfl (one1 6 rfl rfl (ov (EV.ex rfl rfl) rfl (xs [] [0, 1, 2] rfl rfl rfl (one1 10 rfl rfl (op_st (cs' := [.slice At13_0 t13_0.length ct13_0, .int .i64 t13_1, .bool t13_2]) 1 rfl rfl rfl rfl rfl rfl (xn rfl (xd (pr [0, 2, 3, 5] [0, 1, 2] [0, 2, 4] rfl rfl rfl rfl (ge (rg (sv (EV.mv rfl) rfl (sv (EV.sub rfl rfl) rfl (sv (EV.as rfl) rfl (re (wk [0, 2, 3, 5] [2, 0, 1] [⟨0, 2, 1, true⟩, ⟨2, 1, 2, true⟩, ⟨1, 0, 0, false⟩] (ih0 _ (by omega) _ ⟨wrap64 (x4_5 - 1), t12_1, t12_2, x4_2_0, Ax4_2_0, cx4_2_0, x4_2_1, x4_2_2, t13_0, At13_0, ct13_0, t13_1, t13_2, H, rfl⟩)))))))))))))))))
    ·
     refine ov (EV.ex rfl rfl) rfl (xs [] [0, 1, 2] rfl rfl rfl ?_)
     refine one3 6 7 9 rfl rfl rfl rfl rfl rfl ?_ ?_ ?_
     ·
      refine ov (EV.ex rfl rfl) rfl (xs [] [0, 1, 2] rfl rfl rfl ?_)
      refine one3 7 9 10 rfl rfl rfl rfl rfl rfl ?_ ?_ ?_
      ·
       refine ov (EV.ex rfl rfl) rfl (xs [] [0, 1, 2] rfl rfl rfl ?_)
       refine one2 9 10 rfl rfl rfl rfl ?_ ?_
       ·
        exact ov (EV.ex rfl rfl) rfl (xs [] [0, 1, 2] rfl rfl rfl (one1 10 rfl rfl (op_st (cs' := [.slice At13_0 t13_0.length ct13_0, .int .i64 t13_1, .bool t13_2]) 1 rfl rfl rfl rfl rfl rfl (xn rfl (xd (pr [0, 2, 3, 5] [0, 1, 2] [0, 2, 4] rfl rfl rfl rfl (ge (rg (sv (EV.mv rfl) rfl (sv (EV.sub rfl rfl) rfl (sv (EV.as rfl) rfl (re (wk [0, 2, 3, 5] [2, 0, 1] [⟨0, 2, 1, true⟩, ⟨2, 1, 2, true⟩, ⟨1, 0, 0, false⟩] (ih0 _ (by omega) _ ⟨wrap64 (x4_5 - 1), t12_1, t12_2, x4_2_0, Ax4_2_0, cx4_2_0, x4_2_1, x4_2_2, t13_0, At13_0, ct13_0, t13_1, t13_2, H, rfl⟩))))))))))))))
       ·
        exact op_st (cs' := [.slice At13_0 t13_0.length ct13_0, .int .i64 t13_1, .bool t13_2]) 1 rfl rfl rfl rfl rfl rfl (xn rfl (one1 9 rfl rfl (ov (EV.ex rfl rfl) rfl (xs [] [0, 1, 2] rfl rfl rfl (xd (pr [0, 2, 3, 5] [0, 1, 2] [0, 2, 4] rfl rfl rfl rfl (ge (rg (sv (EV.mv rfl) rfl (sv (EV.sub rfl rfl) rfl (sv (EV.as rfl) rfl (re (wk [0, 2, 3, 5] [2, 0, 1] [⟨0, 2, 1, true⟩, ⟨2, 1, 2, true⟩, ⟨1, 0, 0, false⟩] (ih0 _ (by omega) _ ⟨wrap64 (x4_5 - 1), t12_1, t12_2, x4_2_0, Ax4_2_0, cx4_2_0, x4_2_1, x4_2_2, t13_0, At13_0, ct13_0, t13_1, t13_2, H, rfl⟩))))))))))))))
      ·
       refine ov (EV.ex rfl rfl) rfl (xs [] [0, 1, 2] rfl rfl rfl ?_)
       refine one2 7 10 rfl rfl rfl rfl ?_ ?_
       ·
        exact ov (EV.ex rfl rfl) rfl (xs [] [0, 1, 2] rfl rfl rfl (one1 10 rfl rfl (op_st (cs' := [.slice At13_0 t13_0.length ct13_0, .int .i64 t13_1, .bool t13_2]) 1 rfl rfl rfl rfl rfl rfl (xn rfl (xd (pr [0, 2, 3, 5] [0, 1, 2] [0, 2, 4] rfl rfl rfl rfl (ge (rg (sv (EV.mv rfl) rfl (sv (EV.sub rfl rfl) rfl (sv (EV.as rfl) rfl (re (wk [0, 2, 3, 5] [2, 0, 1] [⟨0, 2, 1, true⟩, ⟨2, 1, 2, true⟩, ⟨1, 0, 0, false⟩] (ih0 _ (by omega) _ ⟨wrap64 (x4_5 - 1), t12_1, t12_2, x4_2_0, Ax4_2_0, cx4_2_0, x4_2_1, x4_2_2, t13_0, At13_0, ct13_0, t13_1, t13_2, H, rfl⟩))))))))))))))
       ·
        exact op_st (cs' := [.slice At13_0 t13_0.length ct13_0, .int .i64 t13_1, .bool t13_2]) 1 rfl rfl rfl rfl rfl rfl (xn rfl (one1 7 rfl rfl (ov (EV.ex rfl rfl) rfl (xs [] [0, 1, 2] rfl rfl rfl (xd (pr [0, 2, 3, 5] [0, 1, 2] [0, 2, 4] rfl rfl rfl rfl (ge (rg (sv (EV.mv rfl) rfl (sv (EV.sub rfl rfl) rfl (sv (EV.as rfl) rfl (re (wk [0, 2, 3, 5] [2, 0, 1] [⟨0, 2, 1, true⟩, ⟨2, 1, 2, true⟩, ⟨1, 0, 0, false⟩] (ih0 _ (by omega) _ ⟨wrap64 (x4_5 - 1), t12_1, t12_2, x4_2_0, Ax4_2_0, cx4_2_0, x4_2_1, x4_2_2, t13_0, At13_0, ct13_0, t13_1, t13_2, H, rfl⟩))))))))))))))
      ·
       refine op_st (cs' := [.slice At13_0 t13_0.length ct13_0, .int .i64 t13_1, .bool t13_2]) 1 rfl rfl rfl rfl rfl rfl (xn rfl ?_)
       refine one2 7 9 rfl rfl rfl rfl ?_ ?_
       ·
        exact ov (EV.ex rfl rfl) rfl (xs [] [0, 1, 2] rfl rfl rfl (one1 9 rfl rfl (ov (EV.ex rfl rfl) rfl (xs [] [0, 1, 2] rfl rfl rfl (xd (pr [0, 2, 3, 5] [0, 1, 2] [0, 2, 4] rfl rfl rfl rfl (ge (rg (sv (EV.mv rfl) rfl (sv (EV.sub rfl rfl) rfl (sv (EV.as rfl) rfl (re (wk [0, 2, 3, 5] [2, 0, 1] [⟨0, 2, 1, true⟩, ⟨2, 1, 2, true⟩, ⟨1, 0, 0, false⟩] (ih0 _ (by omega) _ ⟨wrap64 (x4_5 - 1), t12_1, t12_2, x4_2_0, Ax4_2_0, cx4_2_0, x4_2_1, x4_2_2, t13_0, At13_0, ct13_0, t13_1, t13_2, H, rfl⟩))))))))))))))
       ·
        exact ov (EV.ex rfl rfl) rfl (xs [] [0, 1, 2] rfl rfl rfl (one1 7 rfl rfl (ov (EV.ex rfl rfl) rfl (xs [] [0, 1, 2] rfl rfl rfl (xd (pr [0, 2, 3, 5] [0, 1, 2] [0, 2, 4] rfl rfl rfl rfl (ge (rg (sv (EV.mv rfl) rfl (sv (EV.sub rfl rfl) rfl (sv (EV.as rfl) rfl (re (wk [0, 2, 3, 5] [2, 0, 1] [⟨0, 2, 1, true⟩, ⟨2, 1, 2, true⟩, ⟨1, 0, 0, false⟩] (ih0 _ (by omega) _ ⟨wrap64 (x4_5 - 1), t12_1, t12_2, x4_2_0, Ax4_2_0, cx4_2_0, x4_2_1, x4_2_2, t13_0, At13_0, ct13_0, t13_1, t13_2, H, rfl⟩))))))))))))))
     ·
      refine ov (EV.ex rfl rfl) rfl (xs [] [0, 1, 2] rfl rfl rfl ?_)
      refine one2 6 9 rfl rfl rfl rfl ?_ ?_
      ·
       refine ov (EV.ex rfl rfl) rfl (xs [] [0, 1, 2] rfl rfl rfl ?_)
       refine one2 9 10 rfl rfl rfl rfl ?_ ?_
       ·
        exact ov (EV.ex rfl rfl) rfl (xs [] [0, 1, 2] rfl rfl rfl (one1 10 rfl rfl (op_st (cs' := [.slice At13_0 t13_0.length ct13_0, .int .i64 t13_1, .bool t13_2]) 1 rfl rfl rfl rfl rfl rfl (xn rfl (xd (pr [0, 2, 3, 5] [0, 1, 2] [0, 2, 4] rfl rfl rfl rfl (ge (rg (sv (EV.mv rfl) rfl (sv (EV.sub rfl rfl) rfl (sv (EV.as rfl) rfl (re (wk [0, 2, 3, 5] [2, 0, 1] [⟨0, 2, 1, true⟩, ⟨2, 1, 2, true⟩, ⟨1, 0, 0, false⟩] (ih0 _ (by omega) _ ⟨wrap64 (x4_5 - 1), t12_1, t12_2, x4_2_0, Ax4_2_0, cx4_2_0, x4_2_1, x4_2_2, t13_0, At13_0, ct13_0, t13_1, t13_2, H, rfl⟩))))))))))))))
       ·
        exact op_st (cs' := [.slice At13_0 t13_0.length ct13_0, .int .i64 t13_1, .bool t13_2]) 1 rfl rfl rfl rfl rfl rfl (xn rfl (one1 9 rfl rfl (ov (EV.ex rfl rfl) rfl (xs [] [0, 1, 2] rfl rfl rfl (xd (pr [0, 2, 3, 5] [0, 1, 2] [0, 2, 4] rfl rfl rfl rfl (ge (rg (sv (EV.mv rfl) rfl (sv (EV.sub rfl rfl) rfl (sv (EV.as rfl) rfl (re (wk [0, 2, 3, 5] [2, 0, 1] [⟨0, 2, 1, true⟩, ⟨2, 1, 2, true⟩, ⟨1, 0, 0, false⟩] (ih0 _ (by omega) _ ⟨wrap64 (x4_5 - 1), t12_1, t12_2, x4_2_0, Ax4_2_0, cx4_2_0, x4_2_1, x4_2_2, t13_0, At13_0, ct13_0, t13_1, t13_2, H, rfl⟩))))))))))))))
      ·
       exact ov (EV.ex rfl rfl) rfl (xs [] [0, 1, 2] rfl rfl rfl (one1 6 rfl rfl (ov (EV.ex rfl rfl) rfl (xs [] [0, 1, 2] rfl rfl rfl (one1 10 rfl rfl (op_st (cs' := [.slice At13_0 t13_0.length ct13_0, .int .i64 t13_1, .bool t13_2]) 1 rfl rfl rfl rfl rfl rfl (xn rfl (xd (pr [0, 2, 3, 5] [0, 1, 2] [0, 2, 4] rfl rfl rfl rfl (ge (rg (sv (EV.mv rfl) rfl (sv (EV.sub rfl rfl) rfl (sv (EV.as rfl) rfl (re (wk [0, 2, 3, 5] [2, 0, 1] [⟨0, 2, 1, true⟩, ⟨2, 1, 2, true⟩, ⟨1, 0, 0, false⟩] (ih0 _ (by omega) _ ⟨wrap64 (x4_5 - 1), t12_1, t12_2, x4_2_0, Ax4_2_0, cx4_2_0, x4_2_1, x4_2_2, t13_0, At13_0, ct13_0, t13_1, t13_2, H, rfl⟩)))))))))))))))))
     ·
      refine ov (EV.ex rfl rfl) rfl (xs [] [0, 1, 2] rfl rfl rfl ?_)
      refine one2 6 7 rfl rfl rfl rfl ?_ ?_
      ·
       refine ov (EV.ex rfl rfl) rfl (xs [] [0, 1, 2] rfl rfl rfl ?_)
       refine one2 7 10 rfl rfl rfl rfl ?_ ?_
       ·
        exact ov (EV.ex rfl rfl) rfl (xs [] [0, 1, 2] rfl rfl rfl (one1 10 rfl rfl (op_st (cs' := [.slice At13_0 t13_0.length ct13_0, .int .i64 t13_1, .bool t13_2]) 1 rfl rfl rfl rfl rfl rfl (xn rfl (xd (pr [0, 2, 3, 5] [0, 1, 2] [0, 2, 4] rfl rfl rfl rfl (ge (rg (sv (EV.mv rfl) rfl (sv (EV.sub rfl rfl) rfl (sv (EV.as rfl) rfl (re (wk [0, 2, 3, 5] [2, 0, 1] [⟨0, 2, 1, true⟩, ⟨2, 1, 2, true⟩, ⟨1, 0, 0, false⟩] (ih0 _ (by omega) _ ⟨wrap64 (x4_5 - 1), t12_1, t12_2, x4_2_0, Ax4_2_0, cx4_2_0, x4_2_1, x4_2_2, t13_0, At13_0, ct13_0, t13_1, t13_2, H, rfl⟩))))))))))))))
       ·
        exact op_st (cs' := [.slice At13_0 t13_0.length ct13_0, .int .i64 t13_1, .bool t13_2]) 1 rfl rfl rfl rfl rfl rfl (xn rfl (one1 7 rfl rfl (ov (EV.ex rfl rfl) rfl (xs [] [0, 1, 2] rfl rfl rfl (xd (pr [0, 2, 3, 5] [0, 1, 2] [0, 2, 4] rfl rfl rfl rfl (ge (rg (sv (EV.mv rfl) rfl (sv (EV.sub rfl rfl) rfl (sv (EV.as rfl) rfl (re (wk [0, 2, 3, 5] [2, 0, 1] [⟨0, 2, 1, true⟩, ⟨2, 1, 2, true⟩, ⟨1, 0, 0, false⟩] (ih0 _ (by omega) _ ⟨wrap64 (x4_5 - 1), t12_1, t12_2, x4_2_0, Ax4_2_0, cx4_2_0, x4_2_1, x4_2_2, t13_0, At13_0, ct13_0, t13_1, t13_2, H, rfl⟩))))))))))))))
      ·
       exact ov (EV.ex rfl rfl) rfl (xs [] [0, 1, 2] rfl rfl rfl (one1 6 rfl rfl (ov (EV.ex rfl rfl) rfl (xs [] [0, 1, 2] rfl rfl rfl (one1 10 rfl rfl (op_st (cs' := [.slice At13_0 t13_0.length ct13_0, .int .i64 t13_1, .bool t13_2]) 1 rfl rfl rfl rfl rfl rfl (xn rfl (xd (pr [0, 2, 3, 5] [0, 1, 2] [0, 2, 4] rfl rfl rfl rfl (ge (rg (sv (EV.mv rfl) rfl (sv (EV.sub rfl rfl) rfl (sv (EV.as rfl) rfl (re (wk [0, 2, 3, 5] [2, 0, 1] [⟨0, 2, 1, true⟩, ⟨2, 1, 2, true⟩, ⟨1, 0, 0, false⟩] (ih0 _ (by omega) _ ⟨wrap64 (x4_5 - 1), t12_1, t12_2, x4_2_0, Ax4_2_0, cx4_2_0, x4_2_1, x4_2_2, t13_0, At13_0, ct13_0, t13_1, t13_2, H, rfl⟩)))))))))))))))))
    ·
     refine ov (EV.ex rfl rfl) rfl (xs [] [0, 1, 2] rfl rfl rfl ?_)
     refine one3 6 7 8 rfl rfl rfl rfl rfl rfl ?_ ?_ ?_
     ·
      refine ov (EV.ex rfl rfl) rfl (xs [] [0, 1, 2] rfl rfl rfl ?_)
      refine one3 7 8 10 rfl rfl rfl rfl rfl rfl ?_ ?_ ?_
      ·
       refine ov (EV.ex rfl rfl) rfl (xs [] [0, 1, 2] rfl rfl rfl ?_)
       refine one2 8 10 rfl rfl rfl rfl ?_ ?_
       ·
        exact ov (EV.ex rfl rfl) rfl (xs [] [0, 1, 2] rfl rfl rfl (one1 10 rfl rfl (op_st (cs' := [.slice At13_0 t13_0.length ct13_0, .int .i64 t13_1, .bool t13_2]) 1 rfl rfl rfl rfl rfl rfl (xn rfl (xd (pr [0, 2, 3, 5] [0, 1, 2] [0, 2, 4] rfl rfl rfl rfl (ge (rg (sv (EV.mv rfl) rfl (sv (EV.sub rfl rfl) rfl (sv (EV.as rfl) rfl (re (wk [0, 2, 3, 5] [2, 0, 1] [⟨0, 2, 1, true⟩, ⟨2, 1, 2, true⟩, ⟨1, 0, 0, false⟩] (ih0 _ (by omega) _ ⟨wrap64 (x4_5 - 1), t12_1, t12_2, x4_2_0, Ax4_2_0, cx4_2_0, x4_2_1, x4_2_2, t13_0, At13_0, ct13_0, t13_1, t13_2, H, rfl⟩))))))))))))))
       ·
        exact op_st (cs' := [.slice At13_0 t13_0.length ct13_0, .int .i64 t13_1, .bool t13_2]) 1 rfl rfl rfl rfl rfl rfl (xn rfl (one1 8 rfl rfl (ov (EV.ex rfl rfl) rfl (xs [] [0, 1, 2] rfl rfl rfl (xd (pr [0, 2, 3, 5] [0, 1, 2] [0, 2, 4] rfl rfl rfl rfl (ge (rg (sv (EV.mv rfl) rfl (sv (EV.sub rfl rfl) rfl (sv (EV.as rfl) rfl (re (wk [0, 2, 3, 5] [2, 0, 1] [⟨0, 2, 1, true⟩, ⟨2, 1, 2, true⟩, ⟨1, 0, 0, false⟩] (ih0 _ (by omega) _ ⟨wrap64 (x4_5 - 1), t12_1, t12_2, x4_2_0, Ax4_2_0, cx4_2_0, x4_2_1, x4_2_2, t13_0, At13_0, ct13_0, t13_1, t13_2, H, rfl⟩))))))))))))))
      ·
       refine ov (EV.ex rfl rfl) rfl (xs [] [0, 1, 2] rfl rfl rfl ?_)
       refine one2 7 10 rfl rfl rfl rfl ?_ ?_
       ·
        exact ov (EV.ex rfl rfl) rfl (xs [] [0, 1, 2] rfl rfl rfl (one1 10 rfl rfl (op_st (cs' := [.slice At13_0 t13_0.length ct13_0, .int .i64 t13_1, .bool t13_2]) 1 rfl rfl rfl rfl rfl rfl (xn rfl (xd (pr [0, 2, 3, 5] [0, 1, 2] [0, 2, 4] rfl rfl rfl rfl (ge (rg (sv (EV.mv rfl) rfl (sv (EV.sub rfl rfl) rfl (sv (EV.as rfl) rfl (re (wk [0, 2, 3, 5] [2, 0, 1] [⟨0, 2, 1, true⟩, ⟨2, 1, 2, true⟩, ⟨1, 0, 0, false⟩] (ih0 _ (by omega) _ ⟨wrap64 (x4_5 - 1), t12_1, t12_2, x4_2_0, Ax4_2_0, cx4_2_0, x4_2_1, x4_2_2, t13_0, At13_0, ct13_0, t13_1, t13_2, H, rfl⟩))))))))))))))
       ·
        exact op_st (cs' := [.slice At13_0 t13_0.length ct13_0, .int .i64 t13_1, .bool t13_2]) 1 rfl rfl rfl rfl rfl rfl (xn rfl (one1 7 rfl rfl (ov (EV.ex rfl rfl) rfl (xs [] [0, 1, 2] rfl rfl rfl (xd (pr [0, 2, 3, 5] [0, 1, 2] [0, 2, 4] rfl rfl rfl rfl (ge (rg (sv (EV.mv rfl) rfl (sv (EV.sub rfl rfl) rfl (sv (EV.as rfl) rfl (re (wk [0, 2, 3, 5] [2, 0, 1] [⟨0, 2, 1, true⟩, ⟨2, 1, 2, true⟩, ⟨1, 0, 0, false⟩] (ih0 _ (by omega) _ ⟨wrap64 (x4_5 - 1), t12_1, t12_2, x4_2_0, Ax4_2_0, cx4_2_0, x4_2_1, x4_2_2, t13_0, At13_0, ct13_0, t13_1, t13_2, H, rfl⟩))))))))))))))
      ·
       refine op_st (cs' := [.slice At13_0 t13_0.length ct13_0, .int .i64 t13_1, .bool t13_2]) 1 rfl rfl rfl rfl rfl rfl (xn rfl ?_)
       refine one2 7 8 rfl rfl rfl rfl ?_ ?_
       ·
        exact ov (EV.ex rfl rfl) rfl (xs [] [0, 1, 2] rfl rfl rfl (one1 8 rfl rfl (ov (EV.ex rfl rfl) rfl (xs [] [0, 1, 2] rfl rfl rfl (xd (pr [0, 2, 3, 5] [0, 1, 2] [0, 2, 4] rfl rfl rfl rfl (ge (rg (sv (EV.mv rfl) rfl (sv (EV.sub rfl rfl) rfl (sv (EV.as rfl) rfl (re (wk [0, 2, 3, 5] [2, 0, 1] [⟨0, 2, 1, true⟩, ⟨2, 1, 2, true⟩, ⟨1, 0, 0, false⟩] (ih0 _ (by omega) _ ⟨wrap64 (x4_5 - 1), t12_1, t12_2, x4_2_0, Ax4_2_0, cx4_2_0, x4_2_1, x4_2_2, t13_0, At13_0, ct13_0, t13_1, t13_2, H, rfl⟩))))))))))))))
       ·
        exact ov (EV.ex rfl rfl) rfl (xs [] [0, 1, 2] rfl rfl rfl (one1 7 rfl rfl (ov (EV.ex rfl rfl) rfl (xs [] [0, 1, 2] rfl rfl rfl (xd (pr [0, 2, 3, 5] [0, 1, 2] [0, 2, 4] rfl rfl rfl rfl (ge (rg (sv (EV.mv rfl) rfl (sv (EV.sub rfl rfl) rfl (sv (EV.as rfl) rfl (re (wk [0, 2, 3, 5] [2, 0, 1] [⟨0, 2, 1, true⟩, ⟨2, 1, 2, true⟩, ⟨1, 0, 0, false⟩] (ih0 _ (by omega) _ ⟨wrap64 (x4_5 - 1), t12_1, t12_2, x4_2_0, Ax4_2_0, cx4_2_0, x4_2_1, x4_2_2, t13_0, At13_0, ct13_0, t13_1, t13_2, H, rfl⟩))))))))))))))
     ·
      refine ov (EV.ex rfl rfl) rfl (xs [] [0, 1, 2] rfl rfl rfl ?_)
      refine one2 6 8 rfl rfl rfl rfl ?_ ?_
      ·
       refine ov (EV.ex rfl rfl) rfl (xs [] [0, 1, 2] rfl rfl rfl ?_)
       refine one2 8 10 rfl rfl rfl rfl ?_ ?_
       ·
        exact ov (EV.ex rfl rfl) rfl (xs [] [0, 1, 2] rfl rfl rfl (one1 10 rfl rfl (op_st (cs' := [.slice At13_0 t13_0.length ct13_0, .int .i64 t13_1, .bool t13_2]) 1 rfl rfl rfl rfl rfl rfl (xn rfl (xd (pr [0, 2, 3, 5] [0, 1, 2] [0, 2, 4] rfl rfl rfl rfl (ge (rg (sv (EV.mv rfl) rfl (sv (EV.sub rfl rfl) rfl (sv (EV.as rfl) rfl (re (wk [0, 2, 3, 5] [2, 0, 1] [⟨0, 2, 1, true⟩, ⟨2, 1, 2, true⟩, ⟨1, 0, 0, false⟩] (ih0 _ (by omega) _ ⟨wrap64 (x4_5 - 1), t12_1, t12_2, x4_2_0, Ax4_2_0, cx4_2_0, x4_2_1, x4_2_2, t13_0, At13_0, ct13_0, t13_1, t13_2, H, rfl⟩))))))))))))))
       ·
        exact op_st (cs' := [.slice At13_0 t13_0.length ct13_0, .int .i64 t13_1, .bool t13_2]) 1 rfl rfl rfl rfl rfl rfl (xn rfl (one1 8 rfl rfl (ov (EV.ex rfl rfl) rfl (xs [] [0, 1, 2] rfl rfl rfl (xd (pr [0, 2, 3, 5] [0, 1, 2] [0, 2, 4] rfl rfl rfl rfl (ge (rg (sv (EV.mv rfl) rfl (sv (EV.sub rfl rfl) rfl (sv (EV.as rfl) rfl (re (wk [0, 2, 3, 5] [2, 0, 1] [⟨0, 2, 1, true⟩, ⟨2, 1, 2, true⟩, ⟨1, 0, 0, false⟩] (ih0 _ (by omega) _ ⟨wrap64 (x4_5 - 1), t12_1, t12_2, x4_2_0, Ax4_2_0, cx4_2_0, x4_2_1, x4_2_2, t13_0, At13_0, ct13_0, t13_1, t13_2, H, rfl⟩))))))))))))))
      ·
       exact ov (EV.ex rfl rfl) rfl (xs [] [0, 1, 2] rfl rfl rfl (one1 6 rfl rfl (ov (EV.ex rfl rfl) rfl (xs [] [0, 1, 2] rfl rfl rfl (one1 10 rfl rfl (op_st (cs' := [.slice At13_0 t13_0.length ct13_0, .int .i64 t13_1, .bool t13_2]) 1 rfl rfl rfl rfl rfl rfl (xn rfl (xd (pr [0, 2, 3, 5] [0, 1, 2] [0, 2, 4] rfl rfl rfl rfl (ge (rg (sv (EV.mv rfl) rfl (sv (EV.sub rfl rfl) rfl (sv (EV.as rfl) rfl (re (wk [0, 2, 3, 5] [2, 0, 1] [⟨0, 2, 1, true⟩, ⟨2, 1, 2, true⟩, ⟨1, 0, 0, false⟩] (ih0 _ (by omega) _ ⟨wrap64 (x4_5 - 1), t12_1, t12_2, x4_2_0, Ax4_2_0, cx4_2_0, x4_2_1, x4_2_2, t13_0, At13_0, ct13_0, t13_1, t13_2, H, rfl⟩)))))))))))))))))
     ·
      refine ov (EV.ex rfl rfl) rfl (xs [] [0, 1, 2] rfl rfl rfl ?_)
      refine one2 6 7 rfl rfl rfl rfl ?_ ?_
      ·
       refine ov (EV.ex rfl rfl) rfl (xs [] [0, 1, 2] rfl rfl rfl ?_)
       refine one2 7 10 rfl rfl rfl rfl ?_ ?_
       ·
        exact ov (EV.ex rfl rfl) rfl (xs [] [0, 1, 2] rfl rfl rfl (one1 10 rfl rfl (op_st (cs' := [.slice At13_0 t13_0.length ct13_0, .int .i64 t13_1, .bool t13_2]) 1 rfl rfl rfl rfl rfl rfl (xn rfl (xd (pr [0, 2, 3, 5] [0, 1, 2] [0, 2, 4] rfl rfl rfl rfl (ge (rg (sv (EV.mv rfl) rfl (sv (EV.sub rfl rfl) rfl (sv (EV.as rfl) rfl (re (wk [0, 2, 3, 5] [2, 0, 1] [⟨0, 2, 1, true⟩, ⟨2, 1, 2, true⟩, ⟨1, 0, 0, false⟩] (ih0 _ (by omega) _ ⟨wrap64 (x4_5 - 1), t12_1, t12_2, x4_2_0, Ax4_2_0, cx4_2_0, x4_2_1, x4_2_2, t13_0, At13_0, ct13_0, t13_1, t13_2, H, rfl⟩))))))))))))))
       ·
        exact op_st (cs' := [.slice At13_0 t13_0.length ct13_0, .int .i64 t13_1, .bool t13_2]) 1 rfl rfl rfl rfl rfl rfl (xn rfl (one1 7 rfl rfl (ov (EV.ex rfl rfl) rfl (xs [] [0, 1, 2] rfl rfl rfl (xd (pr [0, 2, 3, 5] [0, 1, 2] [0, 2, 4] rfl rfl rfl rfl (ge (rg (sv (EV.mv rfl) rfl (sv (EV.sub rfl rfl) rfl (sv (EV.as rfl) rfl (re (wk [0, 2, 3, 5] [2, 0, 1] [⟨0, 2, 1, true⟩, ⟨2, 1, 2, true⟩, ⟨1, 0, 0, false⟩] (ih0 _ (by omega) _ ⟨wrap64 (x4_5 - 1), t12_1, t12_2, x4_2_0, Ax4_2_0, cx4_2_0, x4_2_1, x4_2_2, t13_0, At13_0, ct13_0, t13_1, t13_2, H, rfl⟩))))))))))))))
      ·
       exact ov (EV.ex rfl rfl) rfl (xs [] [0, 1, 2] rfl rfl rfl (one1 6 rfl rfl (ov (EV.ex rfl rfl) rfl (xs [] [0, 1, 2] rfl rfl rfl (one1 10 rfl rfl (op_st (cs' := [.slice At13_0 t13_0.length ct13_0, .int .i64 t13_1, .bool t13_2]) 1 rfl rfl rfl rfl rfl rfl (xn rfl (xd (pr [0, 2, 3, 5] [0, 1, 2] [0, 2, 4] rfl rfl rfl rfl (ge (rg (sv (EV.mv rfl) rfl (sv (EV.sub rfl rfl) rfl (sv (EV.as rfl) rfl (re (wk [0, 2, 3, 5] [2, 0, 1] [⟨0, 2, 1, true⟩, ⟨2, 1, 2, true⟩, ⟨1, 0, 0, false⟩] (ih0 _ (by omega) _ ⟨wrap64 (x4_5 - 1), t12_1, t12_2, x4_2_0, Ax4_2_0, cx4_2_0, x4_2_1, x4_2_2, t13_0, At13_0, ct13_0, t13_1, t13_2, H, rfl⟩)))))))))))))))))
 ·
  refine gf rfl (dF c5) (gx rfl (gs (gs (rg (sv (EV.mv rfl) rfl ?_)))))
  revert H; refine bdI ?_; rintro ⟨t14_0, t14_1, t14_2⟩ A14 H
  refine so rfl (op_callM (spec_l1Below.ok b1000 l0_0 Al0_0 cl0_0 x4_1000_1 x4_1000_2 14 _ _ _ A14) [⟨2, 0, 0, false⟩] [0] [1, 2] 3 rfl rfl rfl rfl rfl rfl rfl rfl ?_)
  rintro _ _ _ ⟨rfl, rfl, rfl⟩
  refine nmE (en := [.sl 2 k102 Ax4_2_0 cx4_2_0 x4_2_0 1 true, .sl 1 k102 Ax4_3_0 cx4_3_0 x4_3_0 2 true, .sl 0 (.int .u8) Al0_0 cl0_0 l0_0 0 false]) (by kernel_rfl) (re (gb (gs (rg (sv (EV.eql rfl rfl) rfl (sv (EV.as rfl) rfl (re ?_)))))))
  revert H; refine ifsI ?_ ?_ <;> intro c15 H
  ·
   refine gt rfl (dT c15) ?_
   revert H; refine ggI ?_; intro g16 H
   refine dr [0, 1] [0, 2] [10, 11] 12 rfl rfl rfl rfl (xv 0 [0, 1] [0, 2] rfl (EV.fa 0 rfl) rfl rfl rfl rfl (xv 1 [0, 1] [0, 2] rfl (EV.ld 1 none rfl rfl rfl) rfl rfl rfl rfl (xv 2 [0, 1] [0, 2] rfl (EV.mv rfl) rfl rfl rfl rfl (xv 4 [0, 1] [0, 2] rfl (EV.mv rfl) rfl rfl rfl rfl (one1 3 rfl rfl ?_)))))
   revert H; refine bdI ?_; rintro ⟨t17_0, t17_1, t17_2⟩ A17 H
   refine op_callM (spec_l2Bent.ok n0 b1000 l0_0 Al0_0 cl0_0 t14_1 t14_2 4 _ _ _ A17) [⟨2, 0, 0, false⟩] [2] [0, 1] 3 rfl rfl rfl rfl rfl rfl rfl rfl ?_
   rintro _ _ _ ⟨At17_0, ct17_0, rfl, rfl, rfl⟩
   refine nmE (en := [.sl 2 k102 Ax4_2_0 cx4_2_0 x4_2_0 1 true, .sl 1 k102 Ax4_3_0 cx4_3_0 x4_3_0 2 true, .sl 0 (.int .u8) Al0_0 cl0_0 l0_0 0 false, .sl 2 k99 At17_0 ct17_0 t17_0 4 true]) (by kernel_rfl) (xs [0, 1] [0, 2] rfl rfl rfl (one1 5 rfl rfl ?_))
   revert H; refine bdI ?_; rintro ⟨t18_0, t18_1, t18_2⟩ A18 H
   refine op_callM (spec_l1Below.ok b1000 l0_0 Al0_0 cl0_0 t17_1 t17_2 7 _ _ _ A18) [⟨2, 0, 0, false⟩] [2] [0, 1] 5 rfl rfl rfl rfl rfl rfl rfl rfl ?_
   rintro _ _ _ ⟨rfl, rfl, rfl⟩
   refine nmE (en := [.sl 2 k102 Ax4_2_0 cx4_2_0 x4_2_0 1 true, .sl 1 k102 Ax4_3_0 cx4_3_0 x4_3_0 2 true, .sl 0 (.int .u8) Al0_0 cl0_0 l0_0 0 false, .sl 2 k99 At17_0 ct17_0 t17_0 4 true]) (by kernel_rfl) (xs [0, 1] [0, 2] rfl rfl rfl (one1 6 rfl rfl (ov (EV.sub rfl rfl) rfl (xs [0, 1] [0, 2] rfl rfl rfl (one1 7 rfl rfl (ov (EV.bd (v := .agg #[.slice At17_0 t17_0.length ct17_0, .int .i64 (wrap64 (t18_0 - 1))]) rfl (by kernel_rfl)) rfl (xs [0, 1] [0, 2] rfl rfl rfl (one1 8 rfl rfl (op_lit (s := 2) (by_ := 32) k102 ([(⟨t17_0, wrap64 (t18_0 - 1)⟩ : S102)] : List S102) [[(At17_0, ct17_0)]] [3] 5 [.tmp 41] rfl rfl rfl rfl rfl rfl rfl rfl rfl rfl rfl rfl rfl dq rfl fun A42_19 c42_19 => (nmE (en := [.sl 2 k102 Ax4_2_0 cx4_2_0 x4_2_0 1 true, .sl 1 k102 Ax4_3_0 cx4_3_0 x4_3_0 2 true, .sl 0 (.int .u8) Al0_0 cl0_0 l0_0 0 false, .sl 2 k99 At17_0 ct17_0 t17_0 5 true, .sl 2 k102 A42_19 c42_19 ([(⟨t17_0, wrap64 (t18_0 - 1)⟩ : S102)] : List S102) 5 true]) (by kernel_rfl) (xs [0, 1] [0, 2] rfl rfl rfl (one1 9 rfl rfl (op_app (k := k102) (s := 2) (by_ := 32) 1 4 rfl rfl rfl rfl (ap1 g16 dq) (ap1n g16 dq) (.inr ⟨dq, dq, rfl, dq⟩) true (fun _ => .inr ⟨rfl, rfl, dq⟩) rfl rfl fun A43_20 c43_20 => (nmE (en := [.sl 2 k102 Ax4_2_0 cx4_2_0 x4_2_0 1 true, .sl 0 (.int .u8) Al0_0 cl0_0 l0_0 0 false, .sl 2 k99 At17_0 ct17_0 t17_0 2 true, .sl 2 k102 A42_19 c42_19 ([(⟨t17_0, wrap64 (t18_0 - 1)⟩ : S102)] : List S102) 2 true, .sl 1 k102 A43_20 c43_20 (x4_3_0 ++ ([(⟨t17_0, wrap64 (t18_0 - 1)⟩ : S102)] : List S102)) 2 true]) (by kernel_rfl) (xs [0, 1] [0, 1] rfl rfl rfl (one1 10 rfl rfl (ov (EV.fa 0 rfl) rfl (xn rfl (one1 11 rfl rfl (op_st (cs' := [.slice A43_20 (x4_3_0 ++ ([(⟨t17_0, wrap64 (t18_0 - 1)⟩ : S102)] : List S102)).length c43_20, .int .i64 x4_3_1, .bool x4_3_2]) 1 rfl rfl rfl rfl rfl rfl (xn rfl (xd (pr [2, 3] [0, 1, 2] [0, 1, 4] rfl rfl rfl rfl (ge (gs (rg (sv (EV.ld (v := .agg #[.slice A43_20 (x4_3_0 ++ ([(⟨t17_0, wrap64 (t18_0 - 1)⟩ : S102)] : List S102)).length c43_20, .int .i64 x4_3_1, .bool x4_3_2]) 1 (some 3) rfl rfl rfl) rfl (so rfl (op_st (cs' := [.slice A43_20 (x4_3_0 ++ ([(⟨t17_0, wrap64 (t18_0 - 1)⟩ : S102)] : List S102)).length c43_20, .int .i64 x4_3_1, .bool x4_3_2]) 0 rfl rfl rfl rfl rfl rfl ?_)))))))))))))))))))))))))))))
   refine re ?_
   cases H
   exact rt Try.func84 rfl (.cell 0 (some 3) rfl rfl rfl .nil) rfl [2] [⟨2, 1, 1, true⟩] rfl rfl rfl rfl rfl ⟨_, _, rfl, rfl, rfl⟩
  ·
   refine gf rfl (dF c15) (gs (rg (sv (EV.eql rfl rfl) rfl (sv (EV.as rfl) rfl (re (pr [0, 2, 3, 45] [0, 1, 2] [0, 1, 2] rfl rfl rfl rfl ?_))))))
   revert H; refine ifsI ?_ ?_ <;> intro c21 H
   ·
    refine gt rfl (dT c21) (rg (sv (EV.mv rfl) rfl (so rfl (op_lit (s := 1) (by_ := 8) (.int .i64) ([(-1), 100001] : List Int) [[], []] [] 3 [.const (.int .i64 (-1)), .const (.int .i64 100001)] rfl rfl rfl rfl rfl rfl rfl rfl rfl rfl rfl rfl rfl dq rfl fun A48_22 c48_22 => ?_))))
    revert H; refine bdI ?_; rintro ⟨t23_0, t23_1, t23_2⟩ A23 H
    refine so rfl (op_callM (spec_l1PickInt.ok b1000 l0_0 Al0_0 cl0_0 t14_1 t14_2 ([(-1), 100001] : List Int) A48_22 c48_22 _ _ _ A23) [⟨2, 0, 0, false⟩, ⟨3, 0, 0, false⟩] [2] [0, 1] 4 rfl rfl rfl rfl rfl rfl rfl rfl ?_)
    rintro _ _ _ ⟨rfl, rfl, rfl⟩
    refine nmE (en := [.sl 2 k102 Ax4_2_0 cx4_2_0 x4_2_0 1 true, .sl 1 k102 Ax4_3_0 cx4_3_0 x4_3_0 2 true, .sl 0 (.int .u8) Al0_0 cl0_0 l0_0 0 false, .sl 2 (.int .i64) A48_22 c48_22 ([(-1), 100001] : List Int) 3 true]) (by kernel_rfl) (sv (EV.fa 1 rfl) rfl (so rfl (op_st (cs' := [.slice Ax4_3_0 x4_3_0.length cx4_3_0, .int .i64 t23_0, .bool x4_3_2]) 1 rfl rfl rfl rfl rfl rfl (re (pr [2, 3] [0, 1, 2] [0, 1, 2] rfl rfl rfl rfl (ge (gs (rg (sv (EV.ld (v := .agg #[.slice Ax4_3_0 x4_3_0.length cx4_3_0, .int .i64 t23_0, .bool x4_3_2]) 1 (some 3) rfl rfl rfl) rfl (so rfl (op_st (cs' := [.slice Ax4_3_0 x4_3_0.length cx4_3_0, .int .i64 t23_0, .bool x4_3_2]) 0 rfl rfl rfl rfl rfl rfl (re ?_))))))))))))
    cases H
    exact rt Try.func84 rfl (.cell 0 (some 3) rfl rfl rfl .nil) rfl [2] [⟨1, 1, 1, true⟩] rfl rfl rfl rfl rfl ⟨_, _, rfl, rfl, rfl⟩
   ·
    refine gf rfl (dF c21) (gk (ge (gs (rg (sv (EV.ld (v := .agg #[.slice Ax4_3_0 x4_3_0.length cx4_3_0, .int .i64 x4_3_1, .bool x4_3_2]) 1 (some 3) rfl rfl rfl) rfl (so rfl (op_st (cs' := [.slice Ax4_3_0 x4_3_0.length cx4_3_0, .int .i64 x4_3_1, .bool x4_3_2]) 0 rfl rfl rfl rfl rfl rfl (re ?_))))))))
    cases H
    exact rt Try.func84 rfl (.cell 0 (some 3) rfl rfl rfl .nil) rfl [2] [⟨1, 1, 1, true⟩] rfl rfl rfl rfl rfl ⟨_, _, rfl, rfl, rfl⟩
end Go.Proofs.Ytamjndlkompeeaa.K
namespace Go.Proofs.Ytamjndlkompeeaa.K
open Go Go.RowKit
set_option linter.unusedVariables false
set_option linter.unusedSimpArgs false
def spec_DrawFormatAggregator.f (k : Nat) (l0 : List Int) : Option ((List S102) × Int × Bool) := (spec_l1New.f k l0).bind fun bt1 => ((spec_l22Agger.f k l0 bt1.1 bt1.2).bind fun bt2 => (some (bt2.1, bt2.2.1, bt2.2.2.1)))
set_option maxHeartbeats 4000000 in
set_option maxRecDepth 100000 in
theorem spec_DrawFormatAggregator.ok (k : Nat) (l0 : List Int) (Al0 : Option Addr) (cl0 : Nat) (r0 : List S102) (r1 : Int) (r2 : Bool) (H : spec_DrawFormatAggregator.f k l0 = some (r0, r1, r2)) : Fn Try.prog 25 [.slice Al0 l0.length cl0] [] [.sl 0 (.int .u8) Al0 cl0 l0 0 false] (fun v bx en => ∃ A0 c0, v = .agg #[.slice A0 r0.length c0, .int .i64 r1, .bool r2] ∧ bx = [] ∧ en = [.sl 1 k102 A0 c0 r0 1 true]) := by
 refine fn_ 6 Try.func25 rfl rfl rfl (fun base T w0 => ?_)
 rw [spec_DrawFormatAggregator.f] at H
 refine gs (rg (so rfl (op_alloc (cs := [.slice none 0 0, .int .i64 0, .bool false]) (by kernel_rfl) rfl fun b2 => (re (gs (rg (sv (EV.mv rfl) rfl ?_)))))))
 revert H; refine bdI ?_; rintro ⟨t1_0, t1_1⟩ A1 H
 refine so rfl (op_callM (spec_l1New.ok k l0 Al0 cl0 _ _ A1) [⟨0, 0, 0, false⟩] [] [0] 1 rfl rfl rfl rfl rfl rfl rfl rfl ?_)
 rintro _ _ _ ⟨b2001, rfl, rfl, rfl⟩
 refine nmE (en := [.sl 0 (.int .u8) Al0 cl0 l0 0 false]) (by kernel_rfl) ?_
 revert H; refine bdI ?_; rintro ⟨t2_0, t2_1, t2_2, t2_3, t2_4⟩ A2 H
 refine so rfl (op_callM (spec_l22Agger.ok k b2001 l0 Al0 cl0 t1_0 t1_1 _ _ _ _ _ A2) [⟨0, 0, 0, false⟩] [1] [0] 1 rfl rfl rfl rfl rfl rfl rfl rfl ?_)
 rintro _ _ _ ⟨At2_0, ct2_0, rfl, rfl, rfl⟩
 refine nmE (en := [.sl 0 (.int .u8) Al0 cl0 l0 0 false, .sl 1 k102 At2_0 ct2_0 t2_0 2 true]) (by kernel_rfl) (so rfl (op_st (cs' := [.slice At2_0 t2_0.length ct2_0, .int .i64 t2_1, .bool t2_2]) 0 rfl rfl rfl rfl rfl rfl (re ?_)))
 cases H
 exact rt Try.func25 rfl (.cell 0 (some 3) rfl rfl rfl .nil) rfl [] [⟨1, 1, 1, true⟩] rfl rfl rfl rfl rfl ⟨_, _, rfl, rfl, rfl⟩
end Go.Proofs.Ytamjndlkompeeaa.K
namespace Go.Proofs.Ytamjndlkompeeaa.K
open Go Go.RowKit
set_option linter.unusedVariables false
set_option linter.unusedSimpArgs false
def impl_cut.l0 : Nat → ByteArray → Int → (List ByteArray) → Int → Int → Int → Option ((List ByteArray))
 | 0, _, _, _, _, _, _ => none
 | k + 1, x2_0, x2_1, x2_5, x2_6, x2_10, x2_11 => if x2_11 < x2_10 then (if 0 ≤ x2_11 then (if x2_11 < (x2_0.size : Int) then (if (bt x2_0 x2_11) = x2_1 then (if 0 ≤ x2_6 then (if x2_6 ≤ x2_11 then (if x2_11 ≤ (x2_0.size : Int) then (if x2_5.length < 8796093022208 then (impl_cut.l0 k x2_0 x2_1 (x2_5 ++ ([x2_0.extract x2_6.toNat x2_11.toNat] : List ByteArray)) (wrap64 (x2_11 + 1)) x2_10 (wrap64 (x2_11 + 1))) else none) else none) else none) else none) else (impl_cut.l0 k x2_0 x2_1 x2_5 x2_6 x2_10 (wrap64 (x2_11 + 1)))) else none) else none) else (if 0 ≤ x2_6 then (if x2_6 ≤ (x2_0.size : Int) then (if x2_5.length < 8796093022208 then (some (x2_5 ++ ([x2_0.extract x2_6.toNat x2_0.size] : List ByteArray))) else none) else none) else none)
def impl_cut.f (k : Nat) (a0 : ByteArray) (a1 : Int) : Option ((List ByteArray)) := impl_cut.l0 k a0 a1 [] 0 (a0.size : Int) 0
set_option maxHeartbeats 4000000 in
set_option maxRecDepth 100000 in
theorem impl_cut.ok (k : Nat) (a0 : ByteArray) (a1 : Int) (r0 : List ByteArray) (H : impl_cut.f k a0 a1 = some r0) : Fn Try.prog 55 [.string a0, .int .u8 a1] [] [] (fun v bx en => ∃ A0 c0, v = .slice A0 r0.length c0 ∧ bx = [] ∧ en = [.sl 2 .str A0 c0 r0 1 true]) := by
 refine fn_ 35 Try.func55 rfl rfl rfl (fun base T w0 => ?_)
 rw [impl_cut.f] at H
 refine gs (rg (sv (EV.as rfl) rfl (re (gs (rg (so rfl (op_lit (s := 1) (by_ := 16) .str ([] : List ByteArray) [] [] 1 [] rfl rfl rfl rfl rfl rfl rfl rfl rfl rfl rfl rfl rfl dq rfl fun A8_1 c8_1 => (sv (EV.as rfl) rfl (sv (EV.as rfl) rfl (re (gs (gs (rg (sv (EV.mv rfl) rfl (sv (EV.lns rfl) rfl (sv (EV.mv rfl) rfl (re (gb ?_))))))))))))))))))
 refine lo (fun kk S => ∃ (x2_0 : ByteArray) (x2_1 : Int) (x2_5 : List ByteArray) (Ax2_5 : Option Addr) (cx2_5 : Nat) (x2_6 : Int) (x2_10 : Int) (x2_11 : Int), impl_cut.l0 kk x2_0 x2_1 x2_5 x2_6 x2_10 x2_11 = some r0 ∧ S = ⟨[(0, .string x2_0), (1, .int .u8 x2_1), (5, .slice Ax2_5 x2_5.length cx2_5), (6, .int .i64 x2_6), (10, .int .i64 x2_10), (11, .int .i64 x2_11)], [], [.sl 2 .str Ax2_5 cx2_5 x2_5 1 true]⟩) (fun S hS => ?_) (fun n0 ih0 S hS => ?_) ⟨a0, a1, [], A8_1, c8_1, 0, (a0.size : Int), 0, H, rfl⟩ (fun h => wk [0, 1, 5, 6, 10, 11] [] [⟨0, 2, 1, true⟩] h)
 · clear H; obtain ⟨_, _, _, _, _, _, _, _, H, _⟩ := hS; rw [impl_cut.l0] at H; cases H
 clear H
 obtain ⟨x2_0, x2_1, x2_5, Ax2_5, cx2_5, x2_6, x2_10, x2_11, H, rfl⟩ := hS
 rw [impl_cut.l0] at H
 refine gs (rg (sv (EV.lss rfl rfl) rfl (re (gs ?_))))
 revert H; refine ifsI ?_ ?_ <;> intro c2 H
 ·
  refine gt rfl (dT c2) (gk (gs (gb (gs (rg (sv (EV.mv rfl) rfl (sv (EV.as rfl) rfl (re (gs (rg (sv (EV.mv rfl) rfl (sv (EV.mv rfl) rfl ?_))))))))))))
  revert H; refine ggI ?_; intro g3 H
  revert H; refine ggI ?_; intro g4 H
  refine sv (EV.is rfl rfl g3 g4) rfl (sv (EV.mv rfl) rfl (sv (EV.eql rfl rfl) rfl (re (pr [0, 1, 5, 6, 7, 10, 11, 18] [] [0] rfl rfl rfl rfl ?_))))
  revert H; refine ifsI ?_ ?_ <;> intro c5 H
  ·
   refine gt rfl (dT c5) (gs (rg (sv (EV.mv rfl) rfl (sv (EV.mv rfl) rfl (sv (EV.mv rfl) rfl (sv (EV.mv rfl) rfl ?_))))))
   revert H; refine ggI ?_; intro g6 H
   revert H; refine ggI ?_; intro g7 H
   revert H; refine ggI ?_; intro g8 H
   refine sv (EV.ssb rfl rfl rfl g6 g7 g8) rfl (so rfl (op_lit (s := 1) (by_ := 16) .str ([x2_0.extract x2_6.toNat x2_11.toNat] : List ByteArray) [[]] [] 2 [.tmp 23] rfl rfl rfl rfl rfl rfl rfl rfl rfl rfl rfl rfl rfl dq rfl fun A24_9 c24_9 => ?_))
   revert H; refine ggI ?_; intro g10 H
   exact so rfl (op_app (k := .str) (s := 1) (by_ := 16) 0 1 rfl rfl rfl rfl (ap1 g10 dq) (ap1n g10 dq) (.inl rfl) true (fun _ => .inl rfl) rfl rfl fun A25_11 c25_11 => (nmE (en := [.sl 2 .str A24_9 c24_9 ([x2_0.extract x2_6.toNat x2_11.toNat] : List ByteArray) 2 true, .sl 2 .str A25_11 c25_11 (x2_5 ++ ([x2_0.extract x2_6.toNat x2_11.toNat] : List ByteArray)) 1 true]) (by kernel_rfl) (sv (EV.as rfl) rfl (re (pr [0, 1, 5, 7, 10, 11] [] [1] rfl rfl rfl rfl (rg (sv (EV.mv rfl) rfl (sv (EV.add rfl rfl) rfl (sv (EV.as rfl) rfl (re (ge (rg (sv (EV.add rfl rfl) rfl (sv (EV.mv rfl) rfl (re (wk [0, 1, 5, 6, 10, 11] [] [⟨0, 2, 1, true⟩] (ih0 _ (by omega) _ ⟨x2_0, x2_1, x2_5 ++ ([x2_0.extract x2_6.toNat x2_11.toNat] : List ByteArray), A25_11, c25_11, wrap64 (x2_11 + 1), x2_10, wrap64 (x2_11 + 1), H, rfl⟩)))))))))))))))))
  ·
   exact gf rfl (dF c5) (gk (ge (rg (sv (EV.add rfl rfl) rfl (sv (EV.mv rfl) rfl (re (wk [0, 1, 5, 6, 10, 11] [] [⟨0, 2, 1, true⟩] (ih0 _ (by omega) _ ⟨x2_0, x2_1, x2_5, Ax2_5, cx2_5, x2_6, x2_10, wrap64 (x2_11 + 1), H, rfl⟩))))))))
 ·
  refine gf rfl (dF c2) (gx rfl (gs (rg (sv (EV.mv rfl) rfl (sv (EV.mv rfl) rfl (sv (EV.mv rfl) rfl ?_))))))
  revert H; refine ggI ?_; intro g12 H
  revert H; refine ggI ?_; intro g13 H
  refine sv (EV.ssl rfl rfl g12 g13) rfl (so rfl (op_lit (s := 1) (by_ := 16) .str ([x2_0.extract x2_6.toNat x2_0.size] : List ByteArray) [[]] [] 2 [.tmp 32] rfl rfl rfl rfl rfl rfl rfl rfl rfl rfl rfl rfl rfl dq rfl fun A33_14 c33_14 => ?_))
  revert H; refine ggI ?_; intro g15 H
  refine so rfl (op_app (k := .str) (s := 1) (by_ := 16) 0 1 rfl rfl rfl rfl (ap1 g15 dq) (ap1n g15 dq) (.inl rfl) true (fun _ => .inl rfl) rfl rfl fun A34_16 c34_16 => (nmE (en := [.sl 2 .str A33_14 c33_14 ([x2_0.extract x2_6.toNat x2_0.size] : List ByteArray) 2 true, .sl 2 .str A34_16 c34_16 (x2_5 ++ ([x2_0.extract x2_6.toNat x2_0.size] : List ByteArray)) 1 true]) (by kernel_rfl) (sv (EV.as rfl) rfl (re (pr [4] [] [1] rfl rfl rfl rfl ?_)))))
  cases H
  exact rt Try.func55 rfl (.tmp rfl .nil) rfl [] [⟨0, 2, 1, true⟩] rfl rfl rfl rfl rfl ⟨_, _, rfl, rfl, rfl⟩
end Go.Proofs.Ytamjndlkompeeaa.K
namespace Go.Proofs.Ytamjndlkompeeaa.K
open Go Go.RowKit
set_option linter.unusedVariables false
set_option linter.unusedSimpArgs false
def impl_decimal.f : Nat → Int → Option (ByteArray)
 | 0, _ => none
 | k + 1, a0 => if a0 < 10 then (some (strOfNums ([IntKind.u8.wrap (IntKind.u64.wrap (48 + a0))] : List Int))) else ((impl_decimal.f k (IntKind.u64.wrap (Int.tdiv a0 10))).bind fun t3 => (if t3.size + (strOfNums ([IntKind.u8.wrap (IntKind.u64.wrap (48 + (Int.tmod a0 10)))] : List Int)).size ≤ 9223372036854775807 then (some (t3 ++ (strOfNums ([IntKind.u8.wrap (IntKind.u64.wrap (48 + (Int.tmod a0 10)))] : List Int)))) else none))
set_option maxHeartbeats 4000000 in
set_option maxRecDepth 100000 in
theorem impl_decimal.ok : ∀ (k : Nat) (a0 : Int) (r0 : ByteArray) (h : impl_decimal.f k a0 = some r0), Fn Try.prog 103 [.int .u64 a0] [] [] (fun v bx en => v = .string r0 ∧ bx = [] ∧ en = []) := by
 intro k
 induction k with
 | zero => intro a0 r0 h; rw [impl_decimal.f] at h; cases h
 | succ k ih =>
 intro a0 r0 H
 refine fn_ 20 Try.func103 rfl rfl rfl (fun base T w0 => ?_)
 rw [impl_decimal.f] at H
 refine gs (rg (sv (EV.as rfl) rfl (re (gs (gs (rg (sv (EV.mv rfl) rfl (sv (EV.lss rfl rfl) rfl (re ?_)))))))))
 revert H; refine ifsI ?_ ?_ <;> intro c1 H
 ·
  refine gt rfl (dT c1) (gs (rg (sv (EV.mv rfl) rfl (sv (EV.addk rfl rfl) rfl (sv (EV.cv (k' := .u8) rfl) rfl (so rfl (op_lit (s := 1) (by_ := 1) (.int .u8) ([IntKind.u8.wrap (IntKind.u64.wrap (48 + a0))] : List Int) [[]] [] 1 [.tmp 7] rfl rfl rfl rfl rfl rfl rfl rfl rfl rfl rfl rfl rfl dq rfl fun A8_2 c8_2 => (sv (EV.bs 0 rfl rfl) rfl (sv (EV.as rfl) rfl (re (pr [2] [] [] rfl rfl rfl rfl ?_)))))))))))
  cases H
  exact rt Try.func103 rfl (.tmp rfl .nil) rfl [] [] rfl rfl rfl rfl rfl ⟨rfl, rfl, rfl⟩
 ·
  refine gf rfl (dF c1) (gk (gs (dr [] [] [] 11 rfl rfl rfl rfl (xv 0 [] [] rfl (EV.mv rfl) rfl rfl rfl rfl (xv 1 [] [] rfl (EV.quok rfl rfl dq) rfl rfl rfl rfl (xv 3 [] [] rfl (EV.mv rfl) rfl rfl rfl rfl (xv 4 [] [] rfl (EV.rem rfl rfl dq) rfl rfl rfl rfl (xv 5 [] [] rfl (EV.addk rfl rfl) rfl rfl rfl rfl (xv 6 [] [] rfl (EV.cv (k' := .u8) rfl) rfl rfl rfl rfl ?_)))))))))
  refine one2 2 7 rfl rfl rfl rfl ?_ ?_
  ·
   revert H; refine bdI ?_; rintro t3 A3 H
   refine op_call (ih (IntKind.u64.wrap (Int.tdiv a0 10)) _ A3) [] 1 rfl rfl rfl rfl rfl ?_
   rintro _ _ _ ⟨rfl, rfl, rfl⟩
   refine xs [] [] rfl rfl rfl (one1 7 rfl rfl (op_lit (s := 1) (by_ := 1) (.int .u8) ([IntKind.u8.wrap (IntKind.u64.wrap (48 + (Int.tmod a0 10)))] : List Int) [[]] [] 1 [.tmp 16] rfl rfl rfl rfl rfl rfl rfl rfl rfl rfl rfl rfl rfl dq rfl fun A17_4 c17_4 => (xs [] [] rfl rfl rfl (one1 8 rfl rfl (ov (EV.bs 0 rfl rfl) rfl (xs [] [] rfl rfl rfl ?_))))))
   revert H; refine ggI ?_; intro g5 H
   refine xv 9 [] [] rfl (EV.ads rfl rfl g5) rfl rfl rfl rfl (xv 10 [] [] rfl (EV.as rfl) rfl rfl rfl rfl (xd (pr [2] [] [] rfl rfl rfl rfl ?_)))
   cases H
   exact rt Try.func103 rfl (.tmp rfl .nil) rfl [] [] rfl rfl rfl rfl rfl ⟨rfl, rfl, rfl⟩
  ·
   refine op_lit (s := 1) (by_ := 1) (.int .u8) ([IntKind.u8.wrap (IntKind.u64.wrap (48 + (Int.tmod a0 10)))] : List Int) [[]] [] 1 [.tmp 16] rfl rfl rfl rfl rfl rfl rfl rfl rfl rfl rfl rfl rfl dq rfl fun A17_6 c17_6 => (xs [] [] rfl rfl rfl ?_)
   refine one2 2 8 rfl rfl rfl rfl ?_ ?_
   ·
    revert H; refine bdI ?_; rintro t7 A7 H
    refine op_call (ih (IntKind.u64.wrap (Int.tdiv a0 10)) _ A7) [] 2 rfl rfl rfl rfl rfl ?_
    rintro _ _ _ ⟨rfl, rfl, rfl⟩
    refine xs [] [] rfl rfl rfl (one1 8 rfl rfl (ov (EV.bs 0 rfl rfl) rfl (xs [] [] rfl rfl rfl ?_)))
    revert H; refine ggI ?_; intro g8 H
    refine xv 9 [] [] rfl (EV.ads rfl rfl g8) rfl rfl rfl rfl (xv 10 [] [] rfl (EV.as rfl) rfl rfl rfl rfl (xd (pr [2] [] [] rfl rfl rfl rfl ?_)))
    cases H
    exact rt Try.func103 rfl (.tmp rfl .nil) rfl [] [] rfl rfl rfl rfl rfl ⟨rfl, rfl, rfl⟩
   ·
    refine ov (EV.bs 0 rfl rfl) rfl (xs [] [] rfl rfl rfl (one1 2 rfl rfl ?_))
    revert H; refine bdI ?_; rintro t9 A9 H
    refine op_call (ih (IntKind.u64.wrap (Int.tdiv a0 10)) _ A9) [] 2 rfl rfl rfl rfl rfl ?_
    rintro _ _ _ ⟨rfl, rfl, rfl⟩
    refine xs [] [] rfl rfl rfl ?_
    revert H; refine ggI ?_; intro g10 H
    refine xv 9 [] [] rfl (EV.ads rfl rfl g10) rfl rfl rfl rfl (xv 10 [] [] rfl (EV.as rfl) rfl rfl rfl rfl (xd (pr [2] [] [] rfl rfl rfl rfl ?_)))
    cases H
    exact rt Try.func103 rfl (.tmp rfl .nil) rfl [] [] rfl rfl rfl rfl rfl ⟨rfl, rfl, rfl⟩
end Go.Proofs.Ytamjndlkompeeaa.K
namespace Go.Proofs.Ytamjndlkompeeaa.K
open Go Go.RowKit
set_option linter.unusedVariables false
set_option linter.unusedSimpArgs false
def impl_FormatInt.f (k : Nat) (a0 : Int) : Option (ByteArray) := if a0 < 0 then ((impl_decimal.f k (IntKind.u64.wrap (-(IntKind.u64.wrap a0)))).bind fun t2 => (if (⟨#[45]⟩ : ByteArray).size + t2.size ≤ 9223372036854775807 then (some ((⟨#[45]⟩ : ByteArray) ++ t2)) else none)) else ((impl_decimal.f k (IntKind.u64.wrap a0)).bind fun t4 => (some t4))
set_option maxHeartbeats 4000000 in
set_option maxRecDepth 100000 in
theorem impl_FormatInt.ok (k : Nat) (a0 : Int) (r0 : ByteArray) (H : impl_FormatInt.f k a0 = some r0) : Fn Try.prog 59 [.int .i64 a0] [] [] (fun v bx en => v = .string r0 ∧ bx = [] ∧ en = []) := by
 refine fn_ 13 Try.func59 rfl rfl rfl (fun base T w0 => ?_)
 rw [impl_FormatInt.f] at H
 refine gs (rg (sv (EV.as rfl) rfl (re (gs (gs (rg (sv (EV.mv rfl) rfl (sv (EV.lss rfl rfl) rfl (re ?_)))))))))
 revert H; refine ifsI ?_ ?_ <;> intro c1 H
 ·
  refine gt rfl (dT c1) (gs (rg (sv (EV.mv rfl) rfl (sv (EV.cv (k' := .u64) rfl) rfl (sv (EV.ngk rfl) rfl ?_)))))
  revert H; refine bdI ?_; rintro t2 A2 H
  refine so rfl (op_call (impl_decimal.ok k (IntKind.u64.wrap (-(IntKind.u64.wrap a0))) _ A2) [] 1 rfl rfl rfl rfl rfl ?_)
  rintro _ _ _ ⟨rfl, rfl, rfl⟩
  revert H; refine ggI ?_; intro g3 H
  refine sv (EV.ads rfl rfl g3) rfl (sv (EV.as rfl) rfl (re (pr [2] [] [] rfl rfl rfl rfl ?_)))
  cases H
  exact rt Try.func59 rfl (.tmp rfl .nil) rfl [] [] rfl rfl rfl rfl rfl ⟨rfl, rfl, rfl⟩
 ·
  refine gf rfl (dF c1) (gk (gs (rg (sv (EV.mv rfl) rfl (sv (EV.cv (k' := .u64) rfl) rfl ?_)))))
  revert H; refine bdI ?_; rintro t4 A4 H
  refine so rfl (op_call (impl_decimal.ok k (IntKind.u64.wrap a0) _ A4) [] 1 rfl rfl rfl rfl rfl ?_)
  rintro _ _ _ ⟨rfl, rfl, rfl⟩
  refine sv (EV.as rfl) rfl (re (pr [2] [] [] rfl rfl rfl rfl ?_))
  cases H
  exact rt Try.func59 rfl (.tmp rfl .nil) rfl [] [] rfl rfl rfl rfl rfl ⟨rfl, rfl, rfl⟩
end Go.Proofs.Ytamjndlkompeeaa.K
namespace Go.Proofs.Ytamjndlkompeeaa.K
open Go Go.RowKit
set_option linter.unusedVariables false
set_option linter.unusedSimpArgs false
mutual
def impl_ParseInt.j1 : Nat → ByteArray → Int → Option (Int × Bool)
 | 0, _, _ => none
 | k + 1, x5_0, x5_5 => (impl_FormatInt.f k x5_5).bind fun t10 => (if t10.toList = x5_0.toList then (some (x5_5, true)) else (some (0, false)))
def impl_ParseInt.l0 : Nat → ByteArray → ByteArray → Int → Int → Int → Option (Int × Bool)
 | 0, _, _, _, _, _ => none
 | k + 1, x3_0, x3_4, x3_5, x3_27, x3_28 => if x3_28 < x3_27 then (if 0 ≤ x3_28 then (if x3_28 < (x3_4.size : Int) then (if (bt x3_4 x3_28) < 48 then (some (0, false)) else (if (bt x3_4 x3_28) > 57 then (some (0, false)) else (impl_ParseInt.l0 k x3_0 x3_4 (wrap64 ((wrap64 (10 * x3_5)) + (IntKind.i64.wrap (IntKind.u8.wrap ((bt x3_4 x3_28) - 48))))) x3_27 (wrap64 (x3_28 + 1))))) else none) else none) else (if (x3_4.size : Int) < (x3_0.size : Int) then (impl_ParseInt.j1 k x3_0 (wrap64 (-x3_5))) else (impl_ParseInt.j1 k x3_0 x3_5))
def impl_ParseInt.j0 : Nat → ByteArray → ByteArray → Option (Int × Bool)
 | 0, _, _ => none
 | k + 1, x1_0, x1_4 => if (x1_4.size : Int) < 1 then (some (0, false)) else (if (x1_4.size : Int) > 9 then (some (0, false)) else (impl_ParseInt.l0 k x1_0 x1_4 0 (x1_4.size : Int) 0))
end
def impl_ParseInt.f (k : Nat) (a0 : ByteArray) : Option (Int × Bool) := if (a0.size : Int) > 0 then (if 0 < (a0.size : Int) then (if (bt a0 0) = 45 then (if 1 ≤ (a0.size : Int) then (impl_ParseInt.j0 k a0 (a0.extract (1 : Int).toNat a0.size)) else none) else (impl_ParseInt.j0 k a0 a0)) else none) else (impl_ParseInt.j0 k a0 a0)
set_option maxHeartbeats 4000000 in
set_option maxRecDepth 100000 in
theorem impl_ParseInt.ok (k : Nat) (a0 : ByteArray) (r0 : Int) (r1 : Bool) (H : impl_ParseInt.f k a0 = some (r0, r1)) : Fn Try.prog 56 [.string a0] [] [] (fun v bx en => v = .tuple #[.int .i64 r0, .bool r1] ∧ bx = [] ∧ en = []) := by
 refine fn_ 62 Try.func56 rfl rfl rfl (fun base T w0 => ?_)
 rw [impl_ParseInt.f] at H
 refine gs (rg (sv (EV.as rfl) rfl (sv (EV.as rfl) rfl (re (gs (rg (sv (EV.mv rfl) rfl (sv (EV.as rfl) rfl (re ?_)))))))))
 refine jo (fun S => ∃ (m : Nat) (x1_0 : ByteArray) (x1_4 : ByteArray), impl_ParseInt.j0 m x1_0 x1_4 = some (r0, r1) ∧ S = ⟨[(0, .string x1_0), (4, .string x1_4)], [], []⟩) (fun S hS => ?_) (fun jh0 => ?_)
 ·
  clear H
  obtain ⟨m1, x1_0, x1_4, H, rfl⟩ := hS
  rcases m1 with _ | m1
  · rw [impl_ParseInt.j0] at H; cases H
  rw [impl_ParseInt.j0] at H
  refine gs (gs (rg (sv (EV.mv rfl) rfl (sv (EV.lns rfl) rfl (sv (EV.lss rfl rfl) rfl (sv (EV.mv rfl) rfl ?_))))))
  revert H; refine ifsI ?_ ?_ <;> intro c2 H
  ·
   refine ts 21 rfl (dT c2) (sk rfl (sk rfl (sk rfl (sv (EV.pt rfl rfl rfl) rfl (re (pr [0, 4, 25] [] [] rfl rfl rfl rfl (gt rfl rfl (gs (rg (sv (EV.as rfl) rfl (sv (EV.as rfl) rfl (re ?_))))))))))))
   cases H
   exact rt Try.func56 rfl (.tmp rfl (.tmp rfl .nil)) rfl [] [] rfl rfl rfl rfl rfl ⟨rfl, rfl, rfl⟩
  ·
   refine ts 21 rfl (dF c2) (sv (EV.mv rfl) rfl (sv (EV.lns rfl) rfl (sv (EV.gtr rfl rfl) rfl (sv (EV.pf rfl rfl rfl) rfl (re (pr [0, 4, 25] [] [] rfl rfl rfl rfl ?_))))))
   revert H; refine ifsI ?_ ?_ <;> intro c3 H
   ·
    refine gt rfl (dT c3) (gs (rg (sv (EV.as rfl) rfl (sv (EV.as rfl) rfl (re ?_)))))
    cases H
    exact rt Try.func56 rfl (.tmp rfl (.tmp rfl .nil)) rfl [] [] rfl rfl rfl rfl rfl ⟨rfl, rfl, rfl⟩
   ·
    refine gf rfl (dF c3) (gk (gs (rg (sv (EV.as rfl) rfl (re (gs (gs (rg (sv (EV.mv rfl) rfl (sv (EV.lns rfl) rfl (sv (EV.mv rfl) rfl (re (gb ?_)))))))))))))
    refine lo (fun kk S => ∃ (x3_0 : ByteArray) (x3_4 : ByteArray) (x3_5 : Int) (x3_27 : Int) (x3_28 : Int), kk ≤ m1 ∧ impl_ParseInt.l0 kk x3_0 x3_4 x3_5 x3_27 x3_28 = some (r0, r1) ∧ S = ⟨[(0, .string x3_0), (4, .string x3_4), (5, .int .i64 x3_5), (27, .int .i64 x3_27), (28, .int .i64 x3_28)], [], []⟩) (fun S hS => ?_) (fun n0 ih0 S hS => ?_) ⟨x1_0, x1_4, 0, (x1_4.size : Int), 0, by omega, H, rfl⟩ (fun h => wk [0, 4, 5, 27, 28] [] [] h)
    · clear H; obtain ⟨_, _, _, _, _, _, H, _⟩ := hS; rw [impl_ParseInt.l0] at H; cases H
    clear H
    obtain ⟨x3_0, x3_4, x3_5, x3_27, x3_28, lk0, H, rfl⟩ := hS
    rw [impl_ParseInt.l0] at H
    refine gs (rg (sv (EV.lss rfl rfl) rfl (re (gs ?_))))
    revert H; refine ifsI ?_ ?_ <;> intro c4 H
    ·
     refine gt rfl (dT c4) (gk (gs (gb (gs (rg (sv (EV.mv rfl) rfl (sv (EV.as rfl) rfl (re (gs (gs (rg (sv (EV.mv rfl) rfl (sv (EV.mv rfl) rfl ?_)))))))))))))
     revert H; refine ggI ?_; intro g5 H
     revert H; refine ggI ?_; intro g6 H
     refine sv (EV.is rfl rfl g5 g6) rfl (sv (EV.lss rfl rfl) rfl (sv (EV.mv rfl) rfl ?_))
     revert H; refine ifsI ?_ ?_ <;> intro c7 H
     ·
      refine ts 35 rfl (dT c7) (sk rfl (sk rfl (sk rfl (sk rfl (sv (EV.pt rfl rfl rfl) rfl (re (pr [0, 4, 5, 6, 27, 28, 40] [] [] rfl rfl rfl rfl (gt rfl rfl (gs (rg (sv (EV.as rfl) rfl (sv (EV.as rfl) rfl (re (pr [2, 3] [] [] rfl rfl rfl rfl ?_))))))))))))))
      cases H
      exact rt Try.func56 rfl (.tmp rfl (.tmp rfl .nil)) rfl [] [] rfl rfl rfl rfl rfl ⟨rfl, rfl, rfl⟩
     ·
      refine ts 35 rfl (dF c7) (sv (EV.mv rfl) rfl (sv (EV.mv rfl) rfl (sv (EV.is rfl rfl g5 g6) rfl (sv (EV.gtr rfl rfl) rfl (sv (EV.pf rfl rfl rfl) rfl (re (pr [0, 4, 5, 6, 27, 28, 36, 37, 38, 39, 40] [] [] rfl rfl rfl rfl ?_)))))))
      revert H; refine ifsI ?_ ?_ <;> intro c8 H
      ·
       refine gt rfl (dT c8) (gs (rg (sv (EV.as rfl) rfl (sv (EV.as rfl) rfl (re (pr [2, 3] [] [] rfl rfl rfl rfl ?_))))))
       cases H
       exact rt Try.func56 rfl (.tmp rfl (.tmp rfl .nil)) rfl [] [] rfl rfl rfl rfl rfl ⟨rfl, rfl, rfl⟩
      ·
       exact gf rfl (dF c8) (gk (rg (sv (EV.mv rfl) rfl (sv (EV.mul rfl rfl) rfl (sv (EV.mv rfl) rfl (sv (EV.mv rfl) rfl (sv (EV.is rfl rfl g5 g6) rfl (sv (EV.subk rfl rfl) rfl (sv (EV.cv (k' := .i64) rfl) rfl (sv (EV.add rfl rfl) rfl (sv (EV.as rfl) rfl (re (pr [0, 4, 5, 27, 28, 36, 37, 38, 39] [] [] rfl rfl rfl rfl (ge (rg (sv (EV.add rfl rfl) rfl (sv (EV.mv rfl) rfl (re (wk [0, 4, 5, 27, 28] [] [] (ih0 _ (by omega) _ ⟨x3_0, x3_4, wrap64 ((wrap64 (10 * x3_5)) + (IntKind.i64.wrap (IntKind.u8.wrap ((bt x3_4 x3_28) - 48)))), x3_27, wrap64 (x3_28 + 1), by omega, H, rfl⟩))))))))))))))))))))
    ·
     refine gf rfl (dF c4) (gx rfl ?_)
     refine jo (fun S => ∃ (m : Nat) (x5_0 : ByteArray) (x5_5 : Int), m ≤ n0 ∧ impl_ParseInt.j1 m x5_0 x5_5 = some (r0, r1) ∧ S = ⟨[(0, .string x5_0), (5, .int .i64 x5_5)], [], []⟩) (fun S hS => ?_) (fun jh1 => ?_)
     ·
      clear H
      obtain ⟨m9, x5_0, x5_5, lm9, H, rfl⟩ := hS
      rcases m9 with _ | m9
      · rw [impl_ParseInt.j1] at H; cases H
      rw [impl_ParseInt.j1] at H
      refine gs (gs (rg (sv (EV.mv rfl) rfl ?_)))
      revert H; refine bdI ?_; rintro t10 A10 H
      refine so rfl (op_call (impl_FormatInt.ok m9 x5_5 _ A10) [] 1 rfl rfl rfl rfl rfl ?_)
      rintro _ _ _ ⟨rfl, rfl, rfl⟩
      refine sv (EV.mv rfl) rfl (sv (EV.nes rfl rfl) rfl (re ?_))
      revert H; refine ifsI ?_ ?_ <;> intro c11 H
      ·
       refine gf rfl (nF c11) (gk (gs (rg (sv (EV.mv rfl) rfl (sv (EV.as rfl) rfl (sv (EV.as rfl) rfl (re (pr [2, 3] [] [] rfl rfl rfl rfl ?_))))))))
       cases H
       exact rt Try.func56 rfl (.tmp rfl (.tmp rfl .nil)) rfl [] [] rfl rfl rfl rfl rfl ⟨rfl, rfl, rfl⟩
      ·
       refine gt rfl (nT c11) (gs (rg (sv (EV.as rfl) rfl (sv (EV.as rfl) rfl (re (pr [2, 3] [] [] rfl rfl rfl rfl ?_))))))
       cases H
       exact rt Try.func56 rfl (.tmp rfl (.tmp rfl .nil)) rfl [] [] rfl rfl rfl rfl rfl ⟨rfl, rfl, rfl⟩
     ·
      refine gs (rg (sv (EV.mv rfl) rfl (sv (EV.lns rfl) rfl (sv (EV.mv rfl) rfl (sv (EV.lns rfl) rfl (sv (EV.lss rfl rfl) rfl (re (pr [0, 5, 54] [] [] rfl rfl rfl rfl ?_))))))))
      revert H; refine ifsI ?_ ?_ <;> intro c12 H
      ·
       exact gt rfl (dT c12) (rg (sv (EV.mv rfl) rfl (sv (EV.ng rfl) rfl (sv (EV.as rfl) rfl (re (wk [0, 5] [] [] (jh1 _ ⟨_, x3_0, wrap64 (-x3_5), by omega, H, rfl⟩)))))))
      ·
       exact gf rfl (dF c12) (gk (wk [0, 5] [] [] (jh1 _ ⟨_, x3_0, x3_5, by omega, H, rfl⟩)))
 ·
  refine gs (rg (sv (EV.mv rfl) rfl (sv (EV.lns rfl) rfl (sv (EV.gtr rfl rfl) rfl (sv (EV.mv rfl) rfl ?_)))))
  revert H; refine ifsI ?_ ?_ <;> intro c13 H
  ·
   refine ts 11 rfl (dT c13) (sv (EV.mv rfl) rfl ?_)
   revert H; refine ggI ?_; intro g14 H
   refine sv (EV.is rfl rfl dq g14) rfl (sv (EV.eql rfl rfl) rfl (sv (EV.pt rfl rfl rfl) rfl (re (pr [0, 4, 15] [] [] rfl rfl rfl rfl ?_))))
   revert H; refine ifsI ?_ ?_ <;> intro c15 H
   ·
    refine gt rfl (dT c15) (rg (sv (EV.mv rfl) rfl ?_))
    revert H; refine ggI ?_; intro g16 H
    exact sv (EV.ssl rfl rfl dq g16) rfl (sv (EV.as rfl) rfl (re (wk [0, 4] [] [] (jh0 _ ⟨_, a0, a0.extract (1 : Int).toNat a0.size, H, rfl⟩))))
   ·
    exact gf rfl (dF c15) (gk (wk [0, 4] [] [] (jh0 _ ⟨_, a0, a0, H, rfl⟩)))
  ·
   exact ts 11 rfl (dF c13) (sk rfl (sk rfl (sk rfl (sv (EV.pf rfl rfl rfl) rfl (re (pr [0, 4, 15] [] [] rfl rfl rfl rfl (gf rfl rfl (gk (wk [0, 4] [] [] (jh0 _ ⟨_, a0, a0, H, rfl⟩))))))))))
end Go.Proofs.Ytamjndlkompeeaa.K
namespace Go.Proofs.Ytamjndlkompeeaa.K
open Go Go.RowKit
set_option linter.unusedVariables false
set_option linter.unusedSimpArgs false
def impl_within.f (a0 : Int) (a1 : Int) (a2 : Int) : Option (Bool) := if a0 ≥ a1 then (some (decide (a0 ≤ a2))) else (some false)
set_option maxHeartbeats 4000000 in
set_option maxRecDepth 100000 in
theorem impl_within.ok (a0 : Int) (a1 : Int) (a2 : Int) (r0 : Bool) (H : impl_within.f a0 a1 a2 = some r0) : Fn Try.prog 82 [.int .i64 a0, .int .i64 a1, .int .i64 a2] [] [] (fun v bx en => v = .bool r0 ∧ bx = [] ∧ en = []) := by
 refine fn_ 15 Try.func82 rfl rfl rfl (fun base T w0 => ?_)
 rw [impl_within.f] at H
 refine gs (rg (sv (EV.as rfl) rfl (re (gs (rg (sv (EV.mv rfl) rfl (sv (EV.mv rfl) rfl (sv (EV.geq rfl rfl) rfl (sv (EV.mv rfl) rfl ?_)))))))))
 revert H; refine ifsI ?_ ?_ <;> intro c1 H
 ·
  refine ts 10 rfl (dT c1) (sv (EV.mv rfl) rfl (sv (EV.mv rfl) rfl (sv (EV.leq rfl rfl) rfl (sv (EV.pt rfl rfl rfl) rfl (sv (EV.as rfl) rfl (re (pr [6] [] [] rfl rfl rfl rfl ?_)))))))
  cases H
  exact rt Try.func82 rfl (.tmp rfl .nil) rfl [] [] rfl rfl rfl rfl rfl ⟨rfl, rfl, rfl⟩
 ·
  refine ts 10 rfl (dF c1) (sk rfl (sk rfl (sk rfl (sv (EV.pf rfl rfl rfl) rfl (sv (EV.as rfl) rfl (re (pr [6] [] [] rfl rfl rfl rfl ?_)))))))
  cases H
  exact rt Try.func82 rfl (.tmp rfl .nil) rfl [] [] rfl rfl rfl rfl rfl ⟨rfl, rfl, rfl⟩
end Go.Proofs.Ytamjndlkompeeaa.K
namespace Go.Proofs.Ytamjndlkompeeaa.K
open Go Go.RowKit
set_option linter.unusedVariables false
set_option linter.unusedSimpArgs false
def impl_IsValidRow.f (a0_0 : Int) (a0_1 : Int) (a0_2 : Int) : Option (Bool) := (impl_within.f a0_0 0 9).bind fun t1 => (if t1 = true then ((impl_within.f a0_1 0 99).bind fun t3 => (if t3 = true then ((impl_within.f a0_2 0 3).bind fun t5 => (some t5)) else (some false))) else (some false))
set_option maxHeartbeats 4000000 in
set_option maxRecDepth 100000 in
theorem impl_IsValidRow.ok (a0_0 : Int) (a0_1 : Int) (a0_2 : Int) (r0 : Bool) (H : impl_IsValidRow.f a0_0 a0_1 a0_2 = some r0) : Fn Try.prog 121 [.agg #[.int .i64 a0_0, .int .i64 a0_1, .int .i64 a0_2]] [] [] (fun v bx en => v = .bool r0 ∧ bx = [] ∧ en = []) := by
 refine fn_ 16 Try.func121 rfl rfl rfl (fun base T w0 => ?_)
 rw [impl_IsValidRow.f] at H
 refine gs (rg (so rfl (op_box (cs := [.int .i64 a0_0, .int .i64 a0_1, .int .i64 a0_2]) rfl rfl rfl fun b1 => (sv (EV.as rfl) rfl (re (gs (rg (sv (EV.fa 0 rfl) rfl (sv (EV.ld 0 none rfl rfl rfl) rfl ?_)))))))))
 revert H; refine bdI ?_; rintro t1 A1 H
 refine so rfl (op_call (impl_within.ok a0_0 0 9 _ A1) [] 1 rfl rfl rfl rfl rfl ?_)
 rintro _ _ _ ⟨rfl, rfl, rfl⟩
 refine sv (EV.mv rfl) rfl ?_
 revert H; refine ifsI ?_ ?_ <;> intro c2 H
 ·
  subst c2
  refine ts 6 rfl rfl (sv (EV.fa 1 rfl) rfl (sv (EV.ld 0 none rfl rfl rfl) rfl ?_))
  revert H; refine bdI ?_; rintro t3 A3 H
  refine so rfl (op_call (impl_within.ok a0_1 0 99 _ A3) [] 1 rfl rfl rfl rfl rfl ?_)
  rintro _ _ _ ⟨rfl, rfl, rfl⟩
  refine sv (EV.pt rfl rfl rfl) rfl (sv (EV.mv rfl) rfl ?_)
  revert H; refine ifsI ?_ ?_ <;> intro c4 H
  ·
   subst c4
   refine ts 11 rfl rfl (sv (EV.fa 2 rfl) rfl (sv (EV.ld 0 none rfl rfl rfl) rfl ?_))
   revert H; refine bdI ?_; rintro t5 A5 H
   refine so rfl (op_call (impl_within.ok a0_2 0 3 _ A5) [] 1 rfl rfl rfl rfl rfl ?_)
   rintro _ _ _ ⟨rfl, rfl, rfl⟩
   refine sv (EV.pt rfl rfl rfl) rfl (sv (EV.as rfl) rfl (re (pr [2] [] [] rfl rfl rfl rfl ?_)))
   cases H
   exact rt Try.func121 rfl (.tmp rfl .nil) rfl [] [] rfl rfl rfl rfl rfl ⟨rfl, rfl, rfl⟩
  ·
   obtain rfl := bF c4
   refine ts 11 rfl rfl (sk rfl (sk rfl (sk rfl (sv (EV.pf rfl rfl rfl) rfl (sv (EV.as rfl) rfl (re (pr [2] [] [] rfl rfl rfl rfl ?_)))))))
   cases H
   exact rt Try.func121 rfl (.tmp rfl .nil) rfl [] [] rfl rfl rfl rfl rfl ⟨rfl, rfl, rfl⟩
 ·
  obtain rfl := bF c2
  refine ts 6 rfl rfl (sk rfl (sk rfl (sk rfl (sv (EV.pf rfl rfl rfl) rfl (sv (EV.mv rfl) rfl (sk rfl (sk rfl (sk rfl (sv (EV.pf rfl rfl rfl) rfl (sv (EV.as rfl) rfl (re (pr [2] [] [] rfl rfl rfl rfl ?_))))))))))))
  cases H
  exact rt Try.func121 rfl (.tmp rfl .nil) rfl [] [] rfl rfl rfl rfl rfl ⟨rfl, rfl, rfl⟩
end Go.Proofs.Ytamjndlkompeeaa.K
namespace Go.Proofs.Ytamjndlkompeeaa.K
open Go Go.RowKit
set_option linter.unusedVariables false
set_option linter.unusedSimpArgs false
def impl_ParseRow.f (k : Nat) (a0 : ByteArray) : Option (Int × Int × Int × Bool) := (impl_cut.f k a0 46).bind fun t1 => (if (t1.length : Int) = 3 then (if 0 < (t1.length : Int) then ((impl_ParseInt.f k (rdOf ByteArray.empty t1 0)).bind fun bt4 => (if 1 < (t1.length : Int) then ((impl_ParseInt.f k (rdOf ByteArray.empty t1 1)).bind fun bt6 => (if 2 < (t1.length : Int) then ((impl_ParseInt.f k (rdOf ByteArray.empty t1 2)).bind fun bt8 => (if bt4.2 = true then (if bt6.2 = true then (if bt8.2 = true then ((impl_IsValidRow.f bt4.1 bt6.1 bt8.1).bind fun t12 => (if t12 = true then (some (bt4.1, bt6.1, bt8.1, true)) else (some (0, 0, 0, false)))) else (some (0, 0, 0, false))) else (some (0, 0, 0, false))) else (some (0, 0, 0, false)))) else none)) else none)) else none) else (some (0, 0, 0, false)))
set_option maxHeartbeats 4000000 in
set_option maxRecDepth 100000 in
theorem impl_ParseRow.ok (k : Nat) (a0 : ByteArray) (r0 : Int) (r1 : Int) (r2 : Int) (r3 : Bool) (H : impl_ParseRow.f k a0 = some (r0, r1, r2, r3)) : Fn Try.prog 102 [.string a0] [] [] (fun v bx en => v = .tuple #[.agg #[.int .i64 r0, .int .i64 r1, .int .i64 r2], .bool r3] ∧ bx = [] ∧ en = []) := by
 refine fn_ 60 Try.func102 rfl rfl rfl (fun base T w0 => ?_)
 rw [impl_ParseRow.f] at H
 refine gs (rg (so rfl (op_alloc (cs := [.int .i64 0, .int .i64 0, .int .i64 0]) (by kernel_rfl) rfl fun b2 => (sv (EV.as rfl) rfl (re (gs (rg (sv (EV.mv rfl) rfl ?_))))))))
 revert H; refine bdI ?_; rintro t1 A1 H
 refine so rfl (op_call (impl_cut.ok k a0 46 _ A1) [] 1 rfl rfl rfl rfl rfl ?_)
 rintro _ _ _ ⟨At1, ct1, rfl, rfl, rfl⟩
 refine sv (EV.as rfl) rfl (re (gs (gs (rg (sv (EV.mv rfl) rfl (sv (EV.ln rfl) rfl (sv (EV.neq rfl rfl) rfl (re (pr [2, 4, 16] [0] [0] rfl rfl rfl rfl ?_)))))))))
 revert H; refine ifsI ?_ ?_ <;> intro c2 H
 ·
  refine gf rfl (nF c2) (gk (gs (rg (sv (EV.mv rfl) rfl ?_))))
  revert H; refine ggI ?_; intro g3 H
  refine sv (EV.ix 0 rfl rfl rfl dq g3 rfl) rfl (sv (EV.le (v := .string (rdOf ByteArray.empty t1 0)) 0 0 none 0 ByteArray.empty rfl rfl rfl dq g3 rfl rfl rfl) rfl ?_)
  revert H; refine bdI ?_; rintro ⟨t4_0, t4_1⟩ A4 H
  refine so rfl (op_call (impl_ParseInt.ok k (rdOf ByteArray.empty t1 0) _ _ A4) [] 3 rfl rfl rfl rfl rfl ?_)
  rintro _ _ _ ⟨rfl, rfl, rfl⟩
  refine sv (EV.mv rfl) rfl (sv (EV.ex rfl rfl) rfl (sv (EV.ex rfl rfl) rfl (sv (EV.as rfl) rfl (sv (EV.as rfl) rfl (re (pr [2, 4, 5, 6] [0] [0] rfl rfl rfl rfl (gs (rg (sv (EV.mv rfl) rfl ?_)))))))))
  revert H; refine ggI ?_; intro g5 H
  refine sv (EV.ix 0 rfl rfl rfl dq g5 rfl) rfl (sv (EV.le (v := .string (rdOf ByteArray.empty t1 1)) 1 0 none 0 ByteArray.empty rfl rfl rfl dq g5 rfl rfl rfl) rfl ?_)
  revert H; refine bdI ?_; rintro ⟨t6_0, t6_1⟩ A6 H
  refine so rfl (op_call (impl_ParseInt.ok k (rdOf ByteArray.empty t1 1) _ _ A6) [] 3 rfl rfl rfl rfl rfl ?_)
  rintro _ _ _ ⟨rfl, rfl, rfl⟩
  refine sv (EV.mv rfl) rfl (sv (EV.ex rfl rfl) rfl (sv (EV.ex rfl rfl) rfl (sv (EV.as rfl) rfl (sv (EV.as rfl) rfl (re (pr [2, 4, 5, 6, 7, 8] [0] [0] rfl rfl rfl rfl (gs (rg (sv (EV.mv rfl) rfl ?_)))))))))
  revert H; refine ggI ?_; intro g7 H
  refine sv (EV.ix 0 rfl rfl rfl dq g7 rfl) rfl (sv (EV.le (v := .string (rdOf ByteArray.empty t1 2)) 2 0 none 0 ByteArray.empty rfl rfl rfl dq g7 rfl rfl rfl) rfl ?_)
  revert H; refine bdI ?_; rintro ⟨t8_0, t8_1⟩ A8 H
  refine so rfl (op_call (impl_ParseInt.ok k (rdOf ByteArray.empty t1 2) _ _ A8) [] 3 rfl rfl rfl rfl rfl ?_)
  rintro _ _ _ ⟨rfl, rfl, rfl⟩
  refine sv (EV.mv rfl) rfl (sv (EV.ex rfl rfl) rfl (sv (EV.ex rfl rfl) rfl (sv (EV.as rfl) rfl (sv (EV.as rfl) rfl (re (pr [2, 5, 6, 7, 8, 9, 10] [0] [] rfl rfl rfl rfl (gs (rg (sv (EV.mv rfl) rfl (sv (EV.mv rfl) rfl (sv (EV.mv rfl) rfl (sv (EV.bd (v := .agg #[.int .i64 t4_0, .int .i64 t6_0, .int .i64 t8_0]) rfl (by kernel_rfl)) rfl (so rfl (op_alloc (cs := [.int .i64 0, .int .i64 0, .int .i64 0]) (by kernel_rfl) rfl fun b11 => (so rfl (op_st (cs' := [.int .i64 t4_0, .int .i64 t6_0, .int .i64 t8_0]) 1 rfl rfl rfl rfl rfl rfl (re (pr [2, 6, 8, 10, 11] [0, 1] [] rfl rfl rfl rfl (gs (gs (rg (sv (EV.mv rfl) rfl (sv (EV.nt rfl) rfl (sv (EV.mv rfl) rfl ?_))))))))))))))))))))))))
  revert H; refine ifsI ?_ ?_ <;> intro c9 H
  ·
   subst c9
   refine ts 45 rfl rfl (sv (EV.mv rfl) rfl (sv (EV.nt rfl) rfl (sv (EV.pf rfl rfl rfl) rfl (sv (EV.mv rfl) rfl ?_))))
   revert H; refine ifsI ?_ ?_ <;> intro c10 H
   ·
    subst c10
    refine ts 49 rfl rfl (sv (EV.mv rfl) rfl (sv (EV.nt rfl) rfl (sv (EV.pf rfl rfl rfl) rfl (sv (EV.mv rfl) rfl ?_))))
    revert H; refine ifsI ?_ ?_ <;> intro c11 H
    ·
     subst c11
     refine ts 53 rfl rfl (sv (EV.ld (v := .agg #[.int .i64 t4_0, .int .i64 t6_0, .int .i64 t8_0]) 1 (some 3) rfl rfl rfl) rfl ?_)
     revert H; refine bdI ?_; rintro t12 A12 H
     refine so rfl (op_call (impl_IsValidRow.ok t4_0 t6_0 t8_0 _ A12) [] 1 rfl rfl rfl rfl rfl ?_)
     rintro _ _ _ ⟨rfl, rfl, rfl⟩
     refine sv (EV.nt rfl) rfl (sv (EV.pf rfl rfl rfl) rfl (re (pr [2, 11, 57] [0, 1] [] rfl rfl rfl rfl ?_)))
     revert H; refine ifsI ?_ ?_ <;> intro c13 H
     ·
      subst c13
      refine gf rfl rfl (gk (gs (rg (sv (EV.ld (v := .agg #[.int .i64 t4_0, .int .i64 t6_0, .int .i64 t8_0]) 1 (some 3) rfl rfl rfl) rfl (so rfl (op_st (cs' := [.int .i64 t4_0, .int .i64 t6_0, .int .i64 t8_0]) 0 rfl rfl rfl rfl rfl rfl (sv (EV.as rfl) rfl (re ?_))))))))
      cases H
      exact rt Try.func102 rfl (.cell 0 (some 3) rfl rfl rfl (.tmp rfl .nil)) rfl [] [] rfl rfl rfl rfl rfl ⟨rfl, rfl, rfl⟩
     ·
      obtain rfl := bF c13
      refine gt rfl rfl (gs (rg (sv (EV.bd (v := .agg #[.int .i64 0, .int .i64 0, .int .i64 0]) rfl (by kernel_rfl)) rfl (so rfl (op_st (cs' := [.int .i64 0, .int .i64 0, .int .i64 0]) 0 rfl rfl rfl rfl rfl rfl (sv (EV.as rfl) rfl (re ?_)))))))
      cases H
      exact rt Try.func102 rfl (.cell 0 (some 3) rfl rfl rfl (.tmp rfl .nil)) rfl [] [] rfl rfl rfl rfl rfl ⟨rfl, rfl, rfl⟩
    ·
     obtain rfl := bF c11
     refine ts 53 rfl rfl (sk rfl (sk rfl (sk rfl (sv (EV.pt rfl rfl rfl) rfl (re (pr [2, 11, 57] [0, 1] [] rfl rfl rfl rfl (gt rfl rfl (gs (rg (sv (EV.bd (v := .agg #[.int .i64 0, .int .i64 0, .int .i64 0]) rfl (by kernel_rfl)) rfl (so rfl (op_st (cs' := [.int .i64 0, .int .i64 0, .int .i64 0]) 0 rfl rfl rfl rfl rfl rfl (sv (EV.as rfl) rfl (re ?_))))))))))))))
     cases H
     exact rt Try.func102 rfl (.cell 0 (some 3) rfl rfl rfl (.tmp rfl .nil)) rfl [] [] rfl rfl rfl rfl rfl ⟨rfl, rfl, rfl⟩
   ·
    obtain rfl := bF c10
    refine ts 49 rfl rfl (sk rfl (sk rfl (sv (EV.pt rfl rfl rfl) rfl (sv (EV.mv rfl) rfl (sk rfl (sk rfl (sk rfl (sv (EV.pt rfl rfl rfl) rfl (re (pr [2, 11, 57] [0, 1] [] rfl rfl rfl rfl (gt rfl rfl (gs (rg (sv (EV.bd (v := .agg #[.int .i64 0, .int .i64 0, .int .i64 0]) rfl (by kernel_rfl)) rfl (so rfl (op_st (cs' := [.int .i64 0, .int .i64 0, .int .i64 0]) 0 rfl rfl rfl rfl rfl rfl (sv (EV.as rfl) rfl (re ?_))))))))))))))))))
    cases H
    exact rt Try.func102 rfl (.cell 0 (some 3) rfl rfl rfl (.tmp rfl .nil)) rfl [] [] rfl rfl rfl rfl rfl ⟨rfl, rfl, rfl⟩
  ·
   obtain rfl := bF c9
   refine ts 45 rfl rfl (sk rfl (sk rfl (sv (EV.pt rfl rfl rfl) rfl (sv (EV.mv rfl) rfl (sk rfl (sk rfl (sv (EV.pt rfl rfl rfl) rfl (sv (EV.mv rfl) rfl (sk rfl (sk rfl (sk rfl (sv (EV.pt rfl rfl rfl) rfl (re (pr [2, 11, 57] [0, 1] [] rfl rfl rfl rfl (gt rfl rfl (gs (rg (sv (EV.bd (v := .agg #[.int .i64 0, .int .i64 0, .int .i64 0]) rfl (by kernel_rfl)) rfl (so rfl (op_st (cs' := [.int .i64 0, .int .i64 0, .int .i64 0]) 0 rfl rfl rfl rfl rfl rfl (sv (EV.as rfl) rfl (re ?_))))))))))))))))))))))
   cases H
   exact rt Try.func102 rfl (.cell 0 (some 3) rfl rfl rfl (.tmp rfl .nil)) rfl [] [] rfl rfl rfl rfl rfl ⟨rfl, rfl, rfl⟩
 ·
  refine gt rfl (nT c2) (gs (rg (sv (EV.bd (v := .agg #[.int .i64 0, .int .i64 0, .int .i64 0]) rfl (by kernel_rfl)) rfl (so rfl (op_st (cs' := [.int .i64 0, .int .i64 0, .int .i64 0]) 0 rfl rfl rfl rfl rfl rfl (sv (EV.as rfl) rfl (re ?_)))))))
  cases H
  exact rt Try.func102 rfl (.cell 0 (some 3) rfl rfl rfl (.tmp rfl .nil)) rfl [] [] rfl rfl rfl rfl rfl ⟨rfl, rfl, rfl⟩
end Go.Proofs.Ytamjndlkompeeaa.K
namespace Go.Proofs.Ytamjndlkompeeaa.K
open Go Go.RowKit
set_option linter.unusedVariables false
set_option linter.unusedSimpArgs false
def impl_allValid.l0 : Nat → Int → Int → (List S99) → Option (Bool)
 | 0, _, _, _ => none
 | k + 1, x2_6, x2_7, l0 => if x2_7 < x2_6 then (if 0 ≤ x2_7 then (if x2_7 < (l0.length : Int) then ((impl_IsValidRow.f ((rd_T99 l0 x2_7).f0) ((rd_T99 l0 x2_7).f1) ((rd_T99 l0 x2_7).f2)).bind fun t4 => (if t4 = true then (impl_allValid.l0 k x2_6 (wrap64 (x2_7 + 1)) l0) else (some false))) else none) else none) else (some true)
def impl_allValid.f (k : Nat) (l0 : List S99) : Option (Bool) := impl_allValid.l0 k (l0.length : Int) 0 l0
set_option maxHeartbeats 4000000 in
set_option maxRecDepth 100000 in
theorem impl_allValid.ok (k : Nat) (l0 : List S99) (Al0 : Option Addr) (cl0 : Nat) (r0 : Bool) (H : impl_allValid.f k l0 = some r0) : Fn Try.prog 113 [.slice Al0 l0.length cl0] [] [.sl 0 k99 Al0 cl0 l0 0 false] (fun v bx en => v = .bool r0 ∧ bx = [] ∧ en = []) := by
 refine fn_ 15 Try.func113 rfl rfl rfl (fun base T w0 => ?_)
 rw [impl_allValid.f] at H
 refine gs (rg (sv (EV.as rfl) rfl (re (gs (gs (rg (sv (EV.mv rfl) rfl (sv (EV.ln rfl) rfl (sv (EV.mv rfl) rfl (re (gb ?_)))))))))))
 refine lo (fun kk S => ∃ (x2_6 : Int) (x2_7 : Int), impl_allValid.l0 kk x2_6 x2_7 l0 = some r0 ∧ S = ⟨[(5, .slice Al0 l0.length cl0), (6, .int .i64 x2_6), (7, .int .i64 x2_7)], [], [.sl 0 k99 Al0 cl0 l0 0 false]⟩) (fun S hS => ?_) (fun n0 ih0 S hS => ?_) ⟨(l0.length : Int), 0, H, rfl⟩ (fun h => wk [5, 6, 7] [] [⟨0, 0, 0, false⟩] h)
 · clear H; obtain ⟨_, _, H, _⟩ := hS; rw [impl_allValid.l0] at H; cases H
 clear H
 obtain ⟨x2_6, x2_7, H, rfl⟩ := hS
 rw [impl_allValid.l0] at H
 refine gs (rg (sv (EV.lss rfl rfl) rfl (re (gs ?_))))
 revert H; refine ifsI ?_ ?_ <;> intro c1 H
 ·
  refine gt rfl (dT c1) (gk (gs (gb (gs (rg ?_)))))
  revert H; refine ggI ?_; intro g2 H
  revert H; refine ggI ?_; intro g3 H
  refine sv (EV.ix 0 rfl rfl rfl g2 g3 rfl) rfl (sv (EV.le (v := .agg #[.int .i64 ((rd_T99 l0 x2_7).f0), .int .i64 ((rd_T99 l0 x2_7).f1), .int .i64 ((rd_T99 l0 x2_7).f2)]) x2_7 0 (some 3) 0 z99 rfl rfl rfl g2 g3 rfl rfl rfl) rfl (so rfl (op_alloc (cs := [.int .i64 0, .int .i64 0, .int .i64 0]) (by kernel_rfl) rfl fun b4 => (so rfl (op_st (cs' := [.int .i64 ((rd_T99 l0 x2_7).f0), .int .i64 ((rd_T99 l0 x2_7).f1), .int .i64 ((rd_T99 l0 x2_7).f2)]) 0 rfl rfl rfl rfl rfl rfl (re (gs (rg (sv (EV.ld (v := .agg #[.int .i64 ((rd_T99 l0 x2_7).f0), .int .i64 ((rd_T99 l0 x2_7).f1), .int .i64 ((rd_T99 l0 x2_7).f2)]) 0 (some 3) rfl rfl rfl) rfl ?_)))))))))
  revert H; refine bdI ?_; rintro t4 A4 H
  refine so rfl (op_call (impl_IsValidRow.ok ((rd_T99 l0 x2_7).f0) ((rd_T99 l0 x2_7).f1) ((rd_T99 l0 x2_7).f2) _ A4) [] 1 rfl rfl rfl rfl rfl ?_)
  rintro _ _ _ ⟨rfl, rfl, rfl⟩
  refine sv (EV.nt rfl) rfl (re (pr [5, 6, 7, 13] [] [0] rfl rfl rfl rfl ?_))
  revert H; refine ifsI ?_ ?_ <;> intro c5 H
  ·
   subst c5
   exact gf rfl rfl (gk (ge (rg (sv (EV.add rfl rfl) rfl (sv (EV.mv rfl) rfl (re (wk [5, 6, 7] [] [⟨0, 0, 0, false⟩] (ih0 _ (by omega) _ ⟨x2_6, wrap64 (x2_7 + 1), H, rfl⟩))))))))
  ·
   obtain rfl := bF c5
   refine gt rfl rfl (gs (rg (sv (EV.as rfl) rfl (re ?_))))
   cases H
   exact rt Try.func113 rfl (.tmp rfl .nil) rfl [] [] rfl rfl rfl rfl rfl ⟨rfl, rfl, rfl⟩
 ·
  refine gf rfl (dF c1) (gx rfl (gs (rg (sv (EV.as rfl) rfl (re ?_)))))
  cases H
  exact rt Try.func113 rfl (.tmp rfl .nil) rfl [] [] rfl rfl rfl rfl rfl ⟨rfl, rfl, rfl⟩
end Go.Proofs.Ytamjndlkompeeaa.K
namespace Go.Proofs.Ytamjndlkompeeaa.K
open Go Go.RowKit
set_option linter.unusedVariables false
set_option linter.unusedSimpArgs false
def impl_AreValidRows.f (k : Nat) (l0 : List S99) : Option (Bool) := if (l0.length : Int) ≤ 24 then ((impl_allValid.f k l0).bind fun t2 => (some t2)) else (some false)
set_option maxHeartbeats 4000000 in
set_option maxRecDepth 100000 in
theorem impl_AreValidRows.ok (k : Nat) (l0 : List S99) (Al0 : Option Addr) (cl0 : Nat) (r0 : Bool) (H : impl_AreValidRows.f k l0 = some r0) : Fn Try.prog 74 [.slice Al0 l0.length cl0] [] [.sl 0 k99 Al0 cl0 l0 0 false] (fun v bx en => v = .bool r0 ∧ bx = [] ∧ en = []) := by
 refine fn_ 10 Try.func74 rfl rfl rfl (fun base T w0 => ?_)
 rw [impl_AreValidRows.f] at H
 refine gs (rg (sv (EV.as rfl) rfl (re (gs (rg (sv (EV.mv rfl) rfl (sv (EV.ln rfl) rfl (sv (EV.leq rfl rfl) rfl (sv (EV.mv rfl) rfl ?_)))))))))
 revert H; refine ifsI ?_ ?_ <;> intro c1 H
 ·
  refine ts 6 rfl (dT c1) (sv (EV.mv rfl) rfl ?_)
  revert H; refine bdI ?_; rintro t2 A2 H
  refine so rfl (op_call (impl_allValid.ok k l0 Al0 cl0 _ A2) [⟨0, 0, 0, false⟩] 1 rfl rfl rfl rfl rfl ?_)
  rintro _ _ _ ⟨rfl, rfl, rfl⟩
  refine sv (EV.pt rfl rfl rfl) rfl (sv (EV.as rfl) rfl (re (pr [2] [] [] rfl rfl rfl rfl ?_)))
  cases H
  exact rt Try.func74 rfl (.tmp rfl .nil) rfl [] [] rfl rfl rfl rfl rfl ⟨rfl, rfl, rfl⟩
 ·
  refine ts 6 rfl (dF c1) (sk rfl (sk rfl (sv (EV.pf rfl rfl rfl) rfl (sv (EV.as rfl) rfl (re (pr [2] [] [] rfl rfl rfl rfl ?_))))))
  cases H
  exact rt Try.func74 rfl (.tmp rfl .nil) rfl [] [] rfl rfl rfl rfl rfl ⟨rfl, rfl, rfl⟩
end Go.Proofs.Ytamjndlkompeeaa.K
namespace Go.Proofs.Ytamjndlkompeeaa.K
open Go Go.RowKit
set_option linter.unusedVariables false
set_option linter.unusedSimpArgs false
def impl_ParseRows.l0 : Nat → (List S99) → (List ByteArray) → Int → Int → Option ((List S99) × Bool)
 | 0, _, _, _, _ => none
 | k + 1, x2_4, x2_13, x2_14, x2_15 => if x2_15 < x2_14 then (if 0 ≤ x2_15 then (if x2_15 < (x2_13.length : Int) then ((impl_ParseRow.f k (rdOf ByteArray.empty x2_13 x2_15)).bind fun bt7 => (if bt7.2.2.2 = true then (if x2_4.length < 5864062014805 then (impl_ParseRows.l0 k (x2_4 ++ ([(⟨bt7.1, bt7.2.1, bt7.2.2.1⟩ : S99)] : List S99)) x2_13 x2_14 (wrap64 (x2_15 + 1))) else none) else (some ([], false)))) else none) else none) else ((impl_AreValidRows.f k x2_4).bind fun t12 => (if t12 = true then (some (x2_4, true)) else (some ([], false))))
def impl_ParseRows.f (k : Nat) (a0 : ByteArray) : Option ((List S99) × Bool) := if a0.toList = (⟨#[]⟩ : ByteArray).toList then (some ([], true)) else ((impl_cut.f k a0 32).bind fun t3 => (impl_ParseRows.l0 k [] t3 (t3.length : Int) 0))
set_option maxHeartbeats 4000000 in
set_option maxRecDepth 100000 in
theorem impl_ParseRows.ok (k : Nat) (a0 : ByteArray) (r0 : List S99) (r1 : Bool) (H : impl_ParseRows.f k a0 = some (r0, r1)) : Fn Try.prog 57 [.string a0] [] [] (fun v bx en => ∃ A0 c0, v = .tuple #[.slice A0 r0.length c0, .bool r1] ∧ bx = [] ∧ en = [.sl 2 k99 A0 c0 r0 1 true]) := by
 refine fn_ 35 Try.func57 rfl rfl rfl (fun base T w0 => ?_)
 rw [impl_ParseRows.f] at H
 refine gs (rg (sv (EV.as rfl) rfl (sv (EV.as rfl) rfl (re (gs (gs (rg (sv (EV.mv rfl) rfl (sv (EV.eqs rfl rfl) rfl (re ?_))))))))))
 revert H; refine ifsI ?_ ?_ <;> intro c1 H
 ·
  refine gt rfl (dT c1) (gs (rg (sv (EV.as rfl) rfl (sv (EV.as rfl) rfl (re (nil_ k99 1 dq ?_))))))
  cases H
  exact rt Try.func57 rfl (.tmp rfl (.tmp rfl .nil)) rfl [] [⟨0, 2, 1, true⟩] rfl rfl rfl rfl rfl ⟨_, _, rfl, rfl, rfl⟩
 ·
  refine gf rfl (dF c1) (gk (gs (rg (so rfl (op_lit (s := 3) (by_ := 24) k99 ([] : List S99) [] [] 1 [] rfl rfl rfl rfl rfl rfl rfl rfl rfl rfl rfl rfl rfl dq rfl fun A11_2 c11_2 => (sv (EV.as rfl) rfl (re (gs (gs (rg (sv (EV.mv rfl) rfl ?_)))))))))))
  revert H; refine bdI ?_; rintro t3 A3 H
  refine so rfl (op_call (impl_cut.ok k a0 32 _ A3) [] 2 rfl rfl rfl rfl rfl ?_)
  rintro _ _ _ ⟨At3, ct3, rfl, rfl, rfl⟩
  refine sv (EV.ln rfl) rfl (sv (EV.mv rfl) rfl (re (pr [4, 13, 14, 15] [] [0, 1] rfl rfl rfl rfl (gb ?_))))
  refine lo (fun kk S => ∃ (x2_4 : List S99) (Ax2_4 : Option Addr) (cx2_4 : Nat) (x2_13 : List ByteArray) (Ax2_13 : Option Addr) (cx2_13 : Nat) (x2_14 : Int) (x2_15 : Int), impl_ParseRows.l0 kk x2_4 x2_13 x2_14 x2_15 = some (r0, r1) ∧ S = ⟨[(4, .slice Ax2_4 x2_4.length cx2_4), (13, .slice Ax2_13 x2_13.length cx2_13), (14, .int .i64 x2_14), (15, .int .i64 x2_15)], [], [.sl 2 k99 Ax2_4 cx2_4 x2_4 1 true, .sl 2 .str Ax2_13 cx2_13 x2_13 2 true]⟩) (fun S hS => ?_) (fun n0 ih0 S hS => ?_) ⟨[], A11_2, c11_2, t3, At3, ct3, (t3.length : Int), 0, H, rfl⟩ (fun h => wk [4, 13, 14, 15] [] [⟨0, 2, 1, true⟩, ⟨1, 2, 2, true⟩] h)
  · clear H; obtain ⟨_, _, _, _, _, _, _, _, H, _⟩ := hS; rw [impl_ParseRows.l0] at H; cases H
  clear H
  obtain ⟨x2_4, Ax2_4, cx2_4, x2_13, Ax2_13, cx2_13, x2_14, x2_15, H, rfl⟩ := hS
  rw [impl_ParseRows.l0] at H
  refine gs (rg (sv (EV.lss rfl rfl) rfl (re (gs ?_))))
  revert H; refine ifsI ?_ ?_ <;> intro c4 H
  ·
   refine gt rfl (dT c4) (gk (gs (gb (gs (rg ?_)))))
   revert H; refine ggI ?_; intro g5 H
   revert H; refine ggI ?_; intro g6 H
   refine sv (EV.ix 1 rfl rfl rfl g5 g6 rfl) rfl (sv (EV.le (v := .string (rdOf ByteArray.empty x2_13 x2_15)) x2_15 0 none 1 ByteArray.empty rfl rfl rfl g5 g6 rfl rfl rfl) rfl (sv (EV.as rfl) rfl (re (gs (rg (sv (EV.mv rfl) rfl ?_))))))
   revert H; refine bdI ?_; rintro ⟨t7_0, t7_1, t7_2, t7_3⟩ A7 H
   refine so rfl (op_call (impl_ParseRow.ok n0 (rdOf ByteArray.empty x2_13 x2_15) _ _ _ _ A7) [] 3 rfl rfl rfl rfl rfl ?_)
   rintro _ _ _ ⟨rfl, rfl, rfl⟩
   refine sv (EV.mv rfl) rfl (sv (EV.ex rfl rfl) rfl (sv (EV.ex rfl rfl) rfl (so rfl (op_alloc (cs := [.int .i64 0, .int .i64 0, .int .i64 0]) (by kernel_rfl) rfl fun b7 => (so rfl (op_st (cs' := [.int .i64 t7_0, .int .i64 t7_1, .int .i64 t7_2]) 0 rfl rfl rfl rfl rfl rfl (sv (EV.as rfl) rfl (re (pr [4, 7, 8, 13, 14, 15] [0] [0, 1] rfl rfl rfl rfl (gs (gs (rg (sv (EV.mv rfl) rfl (sv (EV.nt rfl) rfl (re ?_)))))))))))))))
   revert H; refine ifsI ?_ ?_ <;> intro c8 H
   ·
    subst c8
    refine gf rfl rfl (gk (rg (sv (EV.mv rfl) rfl (sv (EV.ld (v := .agg #[.int .i64 t7_0, .int .i64 t7_1, .int .i64 t7_2]) 0 (some 3) rfl rfl rfl) rfl (so rfl (op_lit (s := 3) (by_ := 24) k99 ([(⟨t7_0, t7_1, t7_2⟩ : S99)] : List S99) [[]] [] 3 [.tmp 27] rfl rfl rfl rfl rfl rfl rfl rfl rfl rfl rfl rfl rfl dq rfl fun A28_9 c28_9 => ?_))))))
    revert H; refine ggI ?_; intro g10 H
    exact so rfl (op_app (k := k99) (s := 3) (by_ := 24) 0 2 rfl rfl rfl rfl (ap1 g10 dq) (ap1n g10 dq) (.inl rfl) true (fun _ => .inl rfl) rfl rfl fun A29_11 c29_11 => (nmE (en := [.sl 2 .str Ax2_13 cx2_13 x2_13 2 true, .sl 2 k99 A28_9 c28_9 ([(⟨t7_0, t7_1, t7_2⟩ : S99)] : List S99) 3 true, .sl 2 k99 A29_11 c29_11 (x2_4 ++ ([(⟨t7_0, t7_1, t7_2⟩ : S99)] : List S99)) 1 true]) (by kernel_rfl) (sv (EV.as rfl) rfl (re (pr [4, 13, 14, 15] [] [0, 2] rfl rfl rfl rfl (ge (rg (sv (EV.add rfl rfl) rfl (sv (EV.mv rfl) rfl (re (wk [4, 13, 14, 15] [] [⟨1, 2, 1, true⟩, ⟨0, 2, 2, true⟩] (ih0 _ (by omega) _ ⟨x2_4 ++ ([(⟨t7_0, t7_1, t7_2⟩ : S99)] : List S99), A29_11, c29_11, x2_13, Ax2_13, cx2_13, x2_14, wrap64 (x2_15 + 1), H, rfl⟩))))))))))))
   ·
    obtain rfl := bF c8
    refine gt rfl rfl (gs (rg (sv (EV.as rfl) rfl (sv (EV.as rfl) rfl (re (pr [2, 3] [] [] rfl rfl rfl rfl (nil_ k99 1 dq ?_)))))))
    cases H
    exact rt Try.func57 rfl (.tmp rfl (.tmp rfl .nil)) rfl [] [⟨0, 2, 1, true⟩] rfl rfl rfl rfl rfl ⟨_, _, rfl, rfl, rfl⟩
  ·
   refine gf rfl (dF c4) (gx rfl (gs (gs (rg (sv (EV.mv rfl) rfl ?_)))))
   revert H; refine bdI ?_; rintro t12 A12 H
   refine so rfl (op_call (impl_AreValidRows.ok n0 x2_4 Ax2_4 cx2_4 _ A12) [⟨0, 0, 0, false⟩] 3 rfl rfl rfl rfl rfl ?_)
   rintro _ _ _ ⟨rfl, rfl, rfl⟩
   refine sv (EV.nt rfl) rfl (re (pr [4, 33] [] [0] rfl rfl rfl rfl ?_))
   revert H; refine ifsI ?_ ?_ <;> intro c13 H
   ·
    subst c13
    refine gf rfl rfl (gk (gs (rg (sv (EV.mv rfl) rfl (sv (EV.as rfl) rfl (sv (EV.as rfl) rfl (re ?_)))))))
    cases H
    exact rt Try.func57 rfl (.tmp rfl (.tmp rfl .nil)) rfl [] [⟨0, 2, 1, true⟩] rfl rfl rfl rfl rfl ⟨_, _, rfl, rfl, rfl⟩
   ·
    obtain rfl := bF c13
    refine gt rfl rfl (gs (rg (sv (EV.as rfl) rfl (sv (EV.as rfl) rfl (re (nil_ k99 2 dq ?_))))))
    cases H
    exact rt Try.func57 rfl (.tmp rfl (.tmp rfl .nil)) rfl [] [⟨1, 2, 1, true⟩] rfl rfl rfl rfl rfl ⟨_, _, rfl, rfl, rfl⟩
end Go.Proofs.Ytamjndlkompeeaa.K
namespace Go.Proofs.Ytamjndlkompeeaa.K
open Go Go.RowKit
set_option linter.unusedVariables false
set_option linter.unusedSimpArgs false
def impl_IsValidAggregator.l0 : Nat → Int → Int → Int → Int → Bool → (List S102) → Option (Bool)
 | 0, _, _, _, _, _, _ => none
 | k + 1, x2_3, x2_8, x2_9, x2_1_1, x2_1_2, l0_0 => if x2_9 < x2_8 then (if 0 ≤ x2_9 then (if x2_9 < (l0_0.length : Int) then ((impl_AreValidRows.f k ((rd_T102 l0_0 x2_9).f0)).bind fun t5 => (if t5 = true then ((impl_within.f ((rd_T102 l0_0 x2_9).f1) 0 4).bind fun t7 => (if t7 = true then (impl_IsValidAggregator.l0 k (wrap64 (x2_3 + (((rd_T102 l0_0 x2_9).f0).length : Int))) x2_8 (wrap64 (x2_9 + 1)) x2_1_1 x2_1_2 l0_0) else (some false))) else (some false))) else none) else none) else (if (l0_0.length : Int) ≤ 40 then (if x2_3 ≤ 24 then ((impl_within.f x2_1_1 0 100000).bind fun t11 => (some t11)) else (some false)) else (some false))
def impl_IsValidAggregator.f (k : Nat) (l0_0 : List S102) (a0_1 : Int) (a0_2 : Bool) : Option (Bool) := impl_IsValidAggregator.l0 k 0 (l0_0.length : Int) 0 a0_1 a0_2 l0_0
set_option maxHeartbeats 4000000 in
set_option maxRecDepth 100000 in
theorem impl_IsValidAggregator.ok (k : Nat) (l0_0 : List S102) (Al0_0 : Option Addr) (cl0_0 : Nat) (a0_1 : Int) (a0_2 : Bool) (r0 : Bool) (H : impl_IsValidAggregator.f k l0_0 a0_1 a0_2 = some r0) : Fn Try.prog 85 [.agg #[.slice Al0_0 l0_0.length cl0_0, .int .i64 a0_1, .bool a0_2]] [] [.sl 0 k102 Al0_0 cl0_0 l0_0 0 false] (fun v bx en => v = .bool r0 ∧ bx = [] ∧ en = []) := by
 refine fn_ 42 Try.func85 rfl rfl rfl (fun base T w0 => ?_)
 rw [impl_IsValidAggregator.f] at H
 refine gs (rg (so rfl (op_box (cs := [.slice Al0_0 l0_0.length cl0_0, .int .i64 a0_1, .bool a0_2]) rfl rfl rfl fun b1 => (sv (EV.as rfl) rfl (re (gs (rg (sv (EV.as rfl) rfl (re (gs (gs (rg (sv (EV.fa 0 rfl) rfl (sv (EV.ld 0 none rfl rfl rfl) rfl (sv (EV.ln rfl) rfl (sv (EV.mv rfl) rfl (re (gb ?_))))))))))))))))))
 refine lo (fun kk S => ∃ (x2_3 : Int) (x2_8 : Int) (x2_9 : Int) (x2_1_1 : Int) (x2_1_2 : Bool), impl_IsValidAggregator.l0 kk x2_3 x2_8 x2_9 x2_1_1 x2_1_2 l0_0 = some r0 ∧ S = ⟨[(1, .pointer (some ⟨b1, 0, none⟩)), (3, .int .i64 x2_3), (7, .slice Al0_0 l0_0.length cl0_0), (8, .int .i64 x2_8), (9, .int .i64 x2_9)], [⟨b1, 46, [.slice Al0_0 l0_0.length cl0_0, .int .i64 x2_1_1, .bool x2_1_2]⟩], [.sl 0 k102 Al0_0 cl0_0 l0_0 0 false]⟩) (fun S hS => ?_) (fun n0 ih0 S hS => ?_) ⟨0, (l0_0.length : Int), 0, a0_1, a0_2, H, rfl⟩ (fun h => wk [1, 3, 7, 8, 9] [0] [⟨0, 0, 0, false⟩] h)
 · clear H; obtain ⟨_, _, _, _, _, H, _⟩ := hS; rw [impl_IsValidAggregator.l0] at H; cases H
 clear H
 obtain ⟨x2_3, x2_8, x2_9, x2_1_1, x2_1_2, H, rfl⟩ := hS
 rw [impl_IsValidAggregator.l0] at H
 refine gs (rg (sv (EV.lss rfl rfl) rfl (re (gs ?_))))
 revert H; refine ifsI ?_ ?_ <;> intro c1 H
 ·
  refine gt rfl (dT c1) (gk (gs (gb (gs (rg ?_)))))
  revert H; refine ggI ?_; intro g2 H
  revert H; refine ggI ?_; intro g3 H
  refine sv (EV.ix 0 rfl rfl rfl g2 g3 rfl) rfl (opn (i := x2_9) 0 z102 rfl g2 g3 fun A_4 c_4 => (sv (EV.lc (v := .agg #[.slice A_4 ((rd_T102 l0_0 x2_9).f0).length c_4, .int .i64 ((rd_T102 l0_0 x2_9).f1)]) 0 (some 2) 1 rfl rfl rfl rfl) rfl (so rfl (op_alloc (cs := [.slice none 0 0, .int .i64 0]) (by kernel_rfl) rfl fun b5 => (so rfl (op_st (cs' := [.slice A_4 ((rd_T102 l0_0 x2_9).f0).length c_4, .int .i64 ((rd_T102 l0_0 x2_9).f1)]) 1 rfl rfl rfl rfl rfl rfl (re (gs (gs (rg (sv (EV.fa 0 rfl) rfl (sv (EV.ld 1 none rfl rfl rfl) rfl ?_))))))))))))
  revert H; refine bdI ?_; rintro t5 A5 H
  refine so rfl (op_call (impl_AreValidRows.ok n0 ((rd_T102 l0_0 x2_9).f0) A_4 c_4 _ A5) [⟨2, 0, 0, false⟩] 1 rfl rfl rfl rfl rfl ?_)
  rintro _ _ _ ⟨rfl, rfl, rfl⟩
  refine sv (EV.nt rfl) rfl (sv (EV.mv rfl) rfl ?_)
  revert H; refine ifsI ?_ ?_ <;> intro c6 H
  ·
   subst c6
   refine ts 17 rfl rfl (sv (EV.fa 1 rfl) rfl (sv (EV.ld 1 none rfl rfl rfl) rfl ?_))
   revert H; refine bdI ?_; rintro t7 A7 H
   refine so rfl (op_call (impl_within.ok ((rd_T102 l0_0 x2_9).f1) 0 4 _ A7) [] 1 rfl rfl rfl rfl rfl ?_)
   rintro _ _ _ ⟨rfl, rfl, rfl⟩
   refine sv (EV.nt rfl) rfl (sv (EV.pf rfl rfl rfl) rfl (re (pr [1, 3, 5, 7, 8, 9, 18, 19, 20, 21, 22] [0, 1] [0, 1, 2] rfl rfl rfl rfl ?_)))
   revert H; refine ifsI ?_ ?_ <;> intro c8 H
   ·
    subst c8
    exact gf rfl rfl (gk (rg (sv (EV.mv rfl) rfl (sv (EV.fa 0 rfl) rfl (sv (EV.ld 1 none rfl rfl rfl) rfl (sv (EV.ln rfl) rfl (sv (EV.add rfl rfl) rfl (sv (EV.as rfl) rfl (re (pr [1, 3, 7, 8, 9, 18, 19, 20, 21] [0, 1] [0, 1, 2] rfl rfl rfl rfl (ge (rg (sv (EV.add rfl rfl) rfl (sv (EV.mv rfl) rfl (re (wk [1, 3, 7, 8, 9] [0] [⟨0, 0, 0, false⟩] (ih0 _ (by omega) _ ⟨wrap64 (x2_3 + (((rd_T102 l0_0 x2_9).f0).length : Int)), x2_8, wrap64 (x2_9 + 1), x2_1_1, x2_1_2, H, rfl⟩)))))))))))))))))
   ·
    obtain rfl := bF c8
    refine gt rfl rfl (gs (rg (sv (EV.as rfl) rfl (re (pr [2] [] [] rfl rfl rfl rfl ?_)))))
    cases H
    exact rt Try.func85 rfl (.tmp rfl .nil) rfl [] [] rfl rfl rfl rfl rfl ⟨rfl, rfl, rfl⟩
  ·
   obtain rfl := bF c6
   refine ts 17 rfl rfl (sk rfl (sk rfl (sk rfl (sk rfl (sv (EV.pt rfl rfl rfl) rfl (re (pr [1, 3, 5, 7, 8, 9, 22] [0, 1] [0, 1, 2] rfl rfl rfl rfl (gt rfl rfl (gs (rg (sv (EV.as rfl) rfl (re (pr [2] [] [] rfl rfl rfl rfl ?_)))))))))))))
   cases H
   exact rt Try.func85 rfl (.tmp rfl .nil) rfl [] [] rfl rfl rfl rfl rfl ⟨rfl, rfl, rfl⟩
 ·
  refine gf rfl (dF c1) (gx rfl (gs (rg (sv (EV.fa 0 rfl) rfl (sv (EV.ld 0 none rfl rfl rfl) rfl (sv (EV.ln rfl) rfl (sv (EV.leq rfl rfl) rfl (sv (EV.mv rfl) rfl ?_))))))))
  revert H; refine ifsI ?_ ?_ <;> intro c9 H
  ·
   refine ts 33 rfl (dT c9) (sv (EV.mv rfl) rfl (sv (EV.leq rfl rfl) rfl (sv (EV.pt rfl rfl rfl) rfl (sv (EV.mv rfl) rfl ?_))))
   revert H; refine ifsI ?_ ?_ <;> intro c10 H
   ·
    refine ts 37 rfl (dT c10) (sv (EV.fa 1 rfl) rfl (sv (EV.ld 0 none rfl rfl rfl) rfl ?_))
    revert H; refine bdI ?_; rintro t11 A11 H
    refine so rfl (op_call (impl_within.ok x2_1_1 0 100000 _ A11) [] 1 rfl rfl rfl rfl rfl ?_)
    rintro _ _ _ ⟨rfl, rfl, rfl⟩
    refine sv (EV.pt rfl rfl rfl) rfl (sv (EV.as rfl) rfl (re (pr [2] [] [] rfl rfl rfl rfl ?_)))
    cases H
    exact rt Try.func85 rfl (.tmp rfl .nil) rfl [] [] rfl rfl rfl rfl rfl ⟨rfl, rfl, rfl⟩
   ·
    refine ts 37 rfl (dF c10) (sk rfl (sk rfl (sk rfl (sv (EV.pf rfl rfl rfl) rfl (sv (EV.as rfl) rfl (re (pr [2] [] [] rfl rfl rfl rfl ?_)))))))
    cases H
    exact rt Try.func85 rfl (.tmp rfl .nil) rfl [] [] rfl rfl rfl rfl rfl ⟨rfl, rfl, rfl⟩
  ·
   refine ts 33 rfl (dF c9) (sk rfl (sk rfl (sv (EV.pf rfl rfl rfl) rfl (sv (EV.mv rfl) rfl (sk rfl (sk rfl (sk rfl (sv (EV.pf rfl rfl rfl) rfl (sv (EV.as rfl) rfl (re (pr [2] [] [] rfl rfl rfl rfl ?_)))))))))))
   cases H
   exact rt Try.func85 rfl (.tmp rfl .nil) rfl [] [] rfl rfl rfl rfl rfl ⟨rfl, rfl, rfl⟩
end Go.Proofs.Ytamjndlkompeeaa.K
namespace Go.Proofs.Ytamjndlkompeeaa.K
open Go Go.RowKit
set_option linter.unusedVariables false
set_option linter.unusedSimpArgs false
mutual
def impl_ParseAggregator.l0 : Nat → Bool → (List ByteArray) → Int → Int → (List S102) → Int → Bool → (List S102) → Int → Bool → Option ((List S102) × Int × Bool × Bool)
 | 0, _, _, _, _, _, _, _, _, _, _ => none
 | k + 1, x3_6, x3_47, x3_48, x3_49, x3_2_0, x3_2_1, x3_2_2, x3_7_0, x3_7_1, x3_7_2 => if x3_49 < x3_48 then (if 0 ≤ x3_49 then (if x3_49 < (x3_47.length : Int) then ((impl_cut.f k (rdOf ByteArray.empty x3_47 x3_49) 59).bind fun t10 => (if (t10.length : Int) = 2 then (if 0 < (t10.length : Int) then ((impl_ParseInt.f k (rdOf ByteArray.empty t10 0)).bind fun bt13 => (if 1 < (t10.length : Int) then ((impl_ParseRows.f k (rdOf ByteArray.empty t10 1)).bind fun bt15 => (if bt13.2 = true then (if bt15.2 = true then (if x3_7_0.length < 4398046511104 then (impl_ParseAggregator.l0 k x3_6 x3_47 x3_48 (wrap64 (x3_49 + 1)) x3_2_0 x3_2_1 x3_2_2 (x3_7_0 ++ ([(⟨bt15.1, bt13.1⟩ : S102)] : List S102)) x3_7_1 x3_7_2) else none) else (some ([], 0, false, false))) else (some ([], 0, false, false)))) else none)) else none) else (some ([], 0, false, false)))) else none) else none) else (if x3_6 = true then ((impl_IsValidAggregator.f k x3_7_0 x3_7_1 x3_7_2).bind fun t22 => (if t22 = true then (some (x3_7_0, x3_7_1, x3_7_2, true)) else (some ([], 0, false, false)))) else (some ([], 0, false, false)))
def impl_ParseAggregator.j0 : Nat → (List ByteArray) → (List S102) → Int → Bool → Option ((List S102) × Int × Bool × Bool)
 | 0, _, _, _, _ => none
 | k + 1, x1_4, x1_2_0, x1_2_1, x1_2_2 => if 0 < (x1_4.length : Int) then ((impl_ParseInt.f k (rdOf ByteArray.empty x1_4 0)).bind fun bt4 => (if 1 < (x1_4.length : Int) then (if 2 ≤ (x1_4.length : Int) then (impl_ParseAggregator.l0 k bt4.2 (x1_4.drop (2 : Int).toNat) ((x1_4.drop (2 : Int).toNat).length : Int) 0 x1_2_0 x1_2_1 x1_2_2 [] bt4.1 (decide ((rdOf ByteArray.empty x1_4 1).toList = (⟨#[49]⟩ : ByteArray).toList))) else none) else none)) else none
end
def impl_ParseAggregator.f (k : Nat) (a0 : ByteArray) : Option ((List S102) × Int × Bool × Bool) := (impl_cut.f k a0 47).bind fun t1 => (if (t1.length : Int) < 2 then (some ([], 0, false, false)) else (if 1 < (t1.length : Int) then (if (rdOf ByteArray.empty t1 1).toList = (⟨#[48]⟩ : ByteArray).toList then (impl_ParseAggregator.j0 k t1 [] 0 false) else (if (rdOf ByteArray.empty t1 1).toList = (⟨#[49]⟩ : ByteArray).toList then (impl_ParseAggregator.j0 k t1 [] 0 false) else (some ([], 0, false, false)))) else none))
set_option maxHeartbeats 4000000 in
set_option maxRecDepth 100000 in
theorem impl_ParseAggregator.ok (k : Nat) (a0 : ByteArray) (r0 : List S102) (r1 : Int) (r2 : Bool) (r3 : Bool) (H : impl_ParseAggregator.f k a0 = some (r0, r1, r2, r3)) : Fn Try.prog 26 [.string a0] [] [] (fun v bx en => ∃ A0 c0, v = .tuple #[.agg #[.slice A0 r0.length c0, .int .i64 r1, .bool r2], .bool r3] ∧ bx = [] ∧ en = [.sl 2 k102 A0 c0 r0 1 true]) := by
 refine fn_ 98 Try.func26 rfl rfl rfl (fun base T w0 => ?_)
 rw [impl_ParseAggregator.f] at H
 refine gs (rg (so rfl (op_alloc (cs := [.slice none 0 0, .int .i64 0, .bool false]) (by kernel_rfl) rfl fun b2 => (sv (EV.as rfl) rfl (re (gs (rg (sv (EV.mv rfl) rfl ?_))))))))
 revert H; refine bdI ?_; rintro t1 A1 H
 refine so rfl (op_call (impl_cut.ok k a0 47 _ A1) [] 1 rfl rfl rfl rfl rfl ?_)
 rintro _ _ _ ⟨At1, ct1, rfl, rfl, rfl⟩
 refine sv (EV.as rfl) rfl (re ?_)
 refine jo (fun S => ∃ (m : Nat) (x1_4 : List ByteArray) (Ax1_4 : Option Addr) (cx1_4 : Nat) (x1_2_0 : List S102) (Ax1_2_0 : Option Addr) (cx1_2_0 : Nat) (x1_2_1 : Int) (x1_2_2 : Bool), impl_ParseAggregator.j0 m x1_4 x1_2_0 x1_2_1 x1_2_2 = some (r0, r1, r2, r3) ∧ S = ⟨[(2, .pointer (some ⟨b2, 0, none⟩)), (4, .slice Ax1_4 x1_4.length cx1_4)], [⟨b2, 46, [.slice Ax1_2_0 x1_2_0.length cx1_2_0, .int .i64 x1_2_1, .bool x1_2_2]⟩], [.sl 2 .str Ax1_4 cx1_4 x1_4 1 true, .sl 2 k102 Ax1_2_0 cx1_2_0 x1_2_0 2 true]⟩) (fun S hS => ?_) (fun jh0 => ?_)
 ·
  clear H
  obtain ⟨m2, x1_4, Ax1_4, cx1_4, x1_2_0, Ax1_2_0, cx1_2_0, x1_2_1, x1_2_2, H, rfl⟩ := hS
  rcases m2 with _ | m2
  · rw [impl_ParseAggregator.j0] at H; cases H
  rw [impl_ParseAggregator.j0] at H
  refine gs (rg (sv (EV.mv rfl) rfl ?_))
  revert H; refine ggI ?_; intro g3 H
  refine sv (EV.ix 0 rfl rfl rfl dq g3 rfl) rfl (sv (EV.le (v := .string (rdOf ByteArray.empty x1_4 0)) 0 0 none 0 ByteArray.empty rfl rfl rfl dq g3 rfl rfl rfl) rfl ?_)
  revert H; refine bdI ?_; rintro ⟨t4_0, t4_1⟩ A4 H
  refine so rfl (op_call (impl_ParseInt.ok m2 (rdOf ByteArray.empty x1_4 0) _ _ A4) [] 3 rfl rfl rfl rfl rfl ?_)
  rintro _ _ _ ⟨rfl, rfl, rfl⟩
  refine sv (EV.mv rfl) rfl (sv (EV.ex rfl rfl) rfl (sv (EV.ex rfl rfl) rfl (sv (EV.as rfl) rfl (sv (EV.as rfl) rfl (re (pr [2, 4, 5, 6] [0] [0, 1] rfl rfl rfl rfl (gs (rg (sv (EV.mv rfl) rfl (sv (EV.mv rfl) rfl ?_))))))))))
  revert H; refine ggI ?_; intro g5 H
  refine sv (EV.ix 0 rfl rfl rfl dq g5 rfl) rfl (sv (EV.le (v := .string (rdOf ByteArray.empty x1_4 1)) 1 0 none 0 ByteArray.empty rfl rfl rfl dq g5 rfl rfl rfl) rfl (sv (EV.eqs rfl rfl) rfl (sv (EV.bd (v := .agg #[.slice none 0 0, .int .i64 t4_0, .bool (decide ((rdOf ByteArray.empty x1_4 1).toList = (⟨#[49]⟩ : ByteArray).toList))]) rfl (by kernel_rfl)) rfl (so rfl (op_alloc (cs := [.slice none 0 0, .int .i64 0, .bool false]) (by kernel_rfl) rfl fun b7 => (so rfl (op_st (cs' := [.slice none 0 0, .int .i64 t4_0, .bool (decide ((rdOf ByteArray.empty x1_4 1).toList = (⟨#[49]⟩ : ByteArray).toList))]) 1 rfl rfl rfl rfl rfl rfl (re (pr [2, 4, 6, 7] [0, 1] [0, 1] rfl rfl rfl rfl (gs (gs (rg (sv (EV.mv rfl) rfl ?_)))))))))))))
  revert H; refine ggI ?_; intro g6 H
  refine cutp (l' := x1_4.drop (2 : Int).toNat) 2 (x1_4.length : Int) 0 rfl dq g6 (Int.le_refl _) rfl 1 dq (.inl dq) ctl (sv (EV.ct 2 (x1_4.length : Int) 0 rfl rfl rfl rfl dq g6 (Int.le_refl _) rfl rfl ctnl) rfl (sv (EV.ln rfl) rfl (sv (EV.mv rfl) rfl (re (gb (nil_ k102 3 dq ?_))))))
  refine lo (fun kk S => ∃ (x3_6 : Bool) (x3_47 : List ByteArray) (Ax3_47 : Option Addr) (cx3_47 : Nat) (x3_48 : Int) (x3_49 : Int) (x3_2_0 : List S102) (Ax3_2_0 : Option Addr) (cx3_2_0 : Nat) (x3_2_1 : Int) (x3_2_2 : Bool) (x3_7_0 : List S102) (Ax3_7_0 : Option Addr) (cx3_7_0 : Nat) (x3_7_1 : Int) (x3_7_2 : Bool), kk ≤ m2 ∧ impl_ParseAggregator.l0 kk x3_6 x3_47 x3_48 x3_49 x3_2_0 x3_2_1 x3_2_2 x3_7_0 x3_7_1 x3_7_2 = some (r0, r1, r2, r3) ∧ S = ⟨[(2, .pointer (some ⟨b2, 0, none⟩)), (6, .bool x3_6), (7, .pointer (some ⟨b7, 0, none⟩)), (47, .slice Ax3_47 x3_47.length cx3_47), (48, .int .i64 x3_48), (49, .int .i64 x3_49)], [⟨b2, 46, [.slice Ax3_2_0 x3_2_0.length cx3_2_0, .int .i64 x3_2_1, .bool x3_2_2]⟩, ⟨b7, 46, [.slice Ax3_7_0 x3_7_0.length cx3_7_0, .int .i64 x3_7_1, .bool x3_7_2]⟩], [.sl 1 .str Ax3_47 cx3_47 x3_47 1 true, .sl 2 k102 Ax3_2_0 cx3_2_0 x3_2_0 2 true, .sl 2 k102 Ax3_7_0 cx3_7_0 x3_7_0 3 true]⟩) (fun S hS => ?_) (fun n0 ih0 S hS => ?_) ⟨t4_1, x1_4.drop (2 : Int).toNat, (cutA Ax1_4 cx1_4 (2 : Int).toNat 1), (cx1_4 - (2 : Int).toNat), ((x1_4.drop (2 : Int).toNat).length : Int), 0, x1_2_0, Ax1_2_0, cx1_2_0, x1_2_1, x1_2_2, [], none, 0, t4_0, decide ((rdOf ByteArray.empty x1_4 1).toList = (⟨#[49]⟩ : ByteArray).toList), by omega, H, rfl⟩ (fun h => wk [2, 6, 7, 47, 48, 49] [0, 1] [⟨2, 1, 1, true⟩, ⟨1, 2, 2, true⟩, ⟨3, 2, 3, true⟩] h)
  · clear H; obtain ⟨_, _, _, _, _, _, _, _, _, _, _, _, _, _, _, _, _, H, _⟩ := hS; rw [impl_ParseAggregator.l0] at H; cases H
  clear H
  obtain ⟨x3_6, x3_47, Ax3_47, cx3_47, x3_48, x3_49, x3_2_0, Ax3_2_0, cx3_2_0, x3_2_1, x3_2_2, x3_7_0, Ax3_7_0, cx3_7_0, x3_7_1, x3_7_2, lk0, H, rfl⟩ := hS
  rw [impl_ParseAggregator.l0] at H
  refine gs (rg (sv (EV.lss rfl rfl) rfl (re (gs ?_))))
  revert H; refine ifsI ?_ ?_ <;> intro c7 H
  ·
   refine gt rfl (dT c7) (gk (gs (gb (gs (rg ?_)))))
   revert H; refine ggI ?_; intro g8 H
   revert H; refine ggI ?_; intro g9 H
   refine sv (EV.ix 0 rfl rfl rfl g8 g9 rfl) rfl (sv (EV.le (v := .string (rdOf ByteArray.empty x3_47 x3_49)) x3_49 0 none 0 ByteArray.empty rfl rfl rfl g8 g9 rfl rfl rfl) rfl (sv (EV.as rfl) rfl (re (gs (rg (sv (EV.mv rfl) rfl ?_))))))
   revert H; refine bdI ?_; rintro t10 A10 H
   refine so rfl (op_call (impl_cut.ok n0 (rdOf ByteArray.empty x3_47 x3_49) 59 _ A10) [] 4 rfl rfl rfl rfl rfl ?_)
   rintro _ _ _ ⟨At10, ct10, rfl, rfl, rfl⟩
   refine sv (EV.as rfl) rfl (re (pr [2, 6, 7, 10, 47, 48, 49] [0, 1] [0, 1, 2, 3] rfl rfl rfl rfl (gs (gs (rg (sv (EV.mv rfl) rfl (sv (EV.ln rfl) rfl (sv (EV.neq rfl rfl) rfl (re ?_)))))))))
   revert H; refine ifsI ?_ ?_ <;> intro c11 H
   ·
    refine gf rfl (nF c11) (gk (gs (rg (sv (EV.mv rfl) rfl ?_))))
    revert H; refine ggI ?_; intro g12 H
    refine sv (EV.ix 3 rfl rfl rfl dq g12 rfl) rfl (sv (EV.le (v := .string (rdOf ByteArray.empty t10 0)) 0 0 none 3 ByteArray.empty rfl rfl rfl dq g12 rfl rfl rfl) rfl ?_)
    revert H; refine bdI ?_; rintro ⟨t13_0, t13_1⟩ A13 H
    refine so rfl (op_call (impl_ParseInt.ok n0 (rdOf ByteArray.empty t10 0) _ _ A13) [] 6 rfl rfl rfl rfl rfl ?_)
    rintro _ _ _ ⟨rfl, rfl, rfl⟩
    refine sv (EV.mv rfl) rfl (sv (EV.ex rfl rfl) rfl (sv (EV.ex rfl rfl) rfl (sv (EV.as rfl) rfl (sv (EV.as rfl) rfl (re (pr [2, 6, 7, 10, 11, 12, 47, 48, 49] [0, 1] [0, 1, 2, 3] rfl rfl rfl rfl (gs (rg (sv (EV.mv rfl) rfl ?_)))))))))
    revert H; refine ggI ?_; intro g14 H
    refine sv (EV.ix 3 rfl rfl rfl dq g14 rfl) rfl (sv (EV.le (v := .string (rdOf ByteArray.empty t10 1)) 1 0 none 3 ByteArray.empty rfl rfl rfl dq g14 rfl rfl rfl) rfl ?_)
    revert H; refine bdI ?_; rintro ⟨t15_0, t15_1⟩ A15 H
    refine so rfl (op_call (impl_ParseRows.ok n0 (rdOf ByteArray.empty t10 1) _ _ A15) [] 6 rfl rfl rfl rfl rfl ?_)
    rintro _ _ _ ⟨At15_0, ct15_0, rfl, rfl, rfl⟩
    refine sv (EV.mv rfl) rfl (sv (EV.ex rfl rfl) rfl (sv (EV.ex rfl rfl) rfl (sv (EV.as rfl) rfl (sv (EV.as rfl) rfl (re (pr [2, 6, 7, 11, 12, 13, 14, 47, 48, 49] [0, 1] [0, 1, 2, 4] rfl rfl rfl rfl (gs (gs (rg (sv (EV.mv rfl) rfl (sv (EV.nt rfl) rfl (sv (EV.mv rfl) rfl ?_))))))))))))
    revert H; refine ifsI ?_ ?_ <;> intro c16 H
    ·
     subst c16
     refine ts 75 rfl rfl (sv (EV.mv rfl) rfl (sv (EV.nt rfl) rfl (sv (EV.pf rfl rfl rfl) rfl (re ?_))))
     revert H; refine ifsI ?_ ?_ <;> intro c17 H
     ·
      subst c17
      refine gf rfl rfl (gk (rg (sv (EV.fa 0 rfl) rfl (sv (EV.ld 1 none rfl rfl rfl) rfl (sv (EV.mv rfl) rfl (sv (EV.mv rfl) rfl (sv (EV.bd (v := .agg #[.slice At15_0 t15_0.length ct15_0, .int .i64 t13_0]) rfl (by kernel_rfl)) rfl (so rfl (op_lit (s := 2) (by_ := 32) k102 ([(⟨t15_0, t13_0⟩ : S102)] : List S102) [[(At15_0, ct15_0)]] [3] 8 [.tmp 84] rfl rfl rfl rfl rfl rfl rfl rfl rfl rfl rfl rfl rfl dq rfl fun A85_18 c85_18 => (nmE (en := [.sl 1 .str Ax3_47 cx3_47 x3_47 1 true, .sl 2 k102 Ax3_2_0 cx3_2_0 x3_2_0 2 true, .sl 2 k102 Ax3_7_0 cx3_7_0 x3_7_0 3 true, .sl 2 k99 At15_0 ct15_0 t15_0 8 true, .sl 2 k102 A85_18 c85_18 ([(⟨t15_0, t13_0⟩ : S102)] : List S102) 8 true]) (by kernel_rfl) ?_))))))))))
      revert H; refine ggI ?_; intro g19 H
      exact so rfl (op_app (k := k102) (s := 2) (by_ := 32) 2 4 rfl rfl rfl rfl (ap1 g19 dq) (ap1n g19 dq) (.inr ⟨dq, dq, rfl, dq⟩) true (fun _ => .inr ⟨rfl, rfl, dq⟩) rfl rfl fun A86_20 c86_20 => (nmE (en := [.sl 1 .str Ax3_47 cx3_47 x3_47 1 true, .sl 2 k102 Ax3_2_0 cx3_2_0 x3_2_0 2 true, .sl 2 k99 At15_0 ct15_0 t15_0 3 true, .sl 2 k102 A85_18 c85_18 ([(⟨t15_0, t13_0⟩ : S102)] : List S102) 3 true, .sl 2 k102 A86_20 c86_20 (x3_7_0 ++ ([(⟨t15_0, t13_0⟩ : S102)] : List S102)) 3 true]) (by kernel_rfl) (sv (EV.fa 0 rfl) rfl (so rfl (op_st (cs' := [.slice A86_20 (x3_7_0 ++ ([(⟨t15_0, t13_0⟩ : S102)] : List S102)).length c86_20, .int .i64 x3_7_1, .bool x3_7_2]) 1 rfl rfl rfl rfl rfl rfl (re (pr [2, 6, 7, 47, 48, 49, 76, 77] [0, 1] [0, 1, 4] rfl rfl rfl rfl (ge (rg (sv (EV.add rfl rfl) rfl (sv (EV.mv rfl) rfl (re (wk [2, 6, 7, 47, 48, 49] [0, 1] [⟨0, 1, 1, true⟩, ⟨1, 2, 2, true⟩, ⟨2, 2, 3, true⟩] (ih0 _ (by omega) _ ⟨x3_6, x3_47, Ax3_47, cx3_47, x3_48, wrap64 (x3_49 + 1), x3_2_0, Ax3_2_0, cx3_2_0, x3_2_1, x3_2_2, x3_7_0 ++ ([(⟨t15_0, t13_0⟩ : S102)] : List S102), A86_20, c86_20, x3_7_1, x3_7_2, by omega, H, rfl⟩))))))))))))))
     ·
      obtain rfl := bF c17
      refine gt rfl rfl (gs (rg (sv (EV.bd (v := .agg #[.slice none 0 0, .int .i64 0, .bool false]) rfl (by kernel_rfl)) rfl (so rfl (op_st (cs' := [.slice none 0 0, .int .i64 0, .bool false]) 0 rfl rfl rfl rfl rfl rfl (sv (EV.as rfl) rfl (re (pr [2, 3] [0] [] rfl rfl rfl rfl (nil_ k102 1 dq ?_)))))))))
      cases H
      exact rt Try.func26 rfl (.cell 0 (some 3) rfl rfl rfl (.tmp rfl .nil)) rfl [] [⟨0, 2, 1, true⟩] rfl rfl rfl rfl rfl ⟨_, _, rfl, rfl, rfl⟩
    ·
     obtain rfl := bF c16
     refine ts 75 rfl rfl (sk rfl (sk rfl (sv (EV.pt rfl rfl rfl) rfl (re (pr [2, 6, 7, 11, 13, 47, 48, 49, 78] [0, 1] [0, 1, 2, 3] rfl rfl rfl rfl (gt rfl rfl (gs (rg (sv (EV.bd (v := .agg #[.slice none 0 0, .int .i64 0, .bool false]) rfl (by kernel_rfl)) rfl (so rfl (op_st (cs' := [.slice none 0 0, .int .i64 0, .bool false]) 0 rfl rfl rfl rfl rfl rfl (sv (EV.as rfl) rfl (re (pr [2, 3] [0] [] rfl rfl rfl rfl (nil_ k102 1 dq ?_)))))))))))))))
     cases H
     exact rt Try.func26 rfl (.cell 0 (some 3) rfl rfl rfl (.tmp rfl .nil)) rfl [] [⟨0, 2, 1, true⟩] rfl rfl rfl rfl rfl ⟨_, _, rfl, rfl, rfl⟩
   ·
    refine gt rfl (nT c11) (gs (rg (sv (EV.bd (v := .agg #[.slice none 0 0, .int .i64 0, .bool false]) rfl (by kernel_rfl)) rfl (so rfl (op_st (cs' := [.slice none 0 0, .int .i64 0, .bool false]) 0 rfl rfl rfl rfl rfl rfl (sv (EV.as rfl) rfl (re (pr [2, 3] [0] [] rfl rfl rfl rfl (nil_ k102 1 dq ?_)))))))))
    cases H
    exact rt Try.func26 rfl (.cell 0 (some 3) rfl rfl rfl (.tmp rfl .nil)) rfl [] [⟨0, 2, 1, true⟩] rfl rfl rfl rfl rfl ⟨_, _, rfl, rfl, rfl⟩
  ·
   refine gf rfl (dF c7) (gx rfl (gs (gs (rg (sv (EV.mv rfl) rfl (sv (EV.nt rfl) rfl (sv (EV.mv rfl) rfl ?_)))))))
   revert H; refine ifsI ?_ ?_ <;> intro c21 H
   ·
    subst c21
    refine ts 91 rfl rfl (sv (EV.ld (v := .agg #[.slice Ax3_7_0 x3_7_0.length cx3_7_0, .int .i64 x3_7_1, .bool x3_7_2]) 1 (some 3) rfl rfl rfl) rfl ?_)
    revert H; refine bdI ?_; rintro t22 A22 H
    refine so rfl (op_call (impl_IsValidAggregator.ok n0 x3_7_0 Ax3_7_0 cx3_7_0 x3_7_1 x3_7_2 _ A22) [⟨2, 0, 0, false⟩] 4 rfl rfl rfl rfl rfl ?_)
    rintro _ _ _ ⟨rfl, rfl, rfl⟩
    refine sv (EV.nt rfl) rfl (sv (EV.pf rfl rfl rfl) rfl (re (pr [2, 7, 95] [0, 1] [1, 2] rfl rfl rfl rfl ?_)))
    revert H; refine ifsI ?_ ?_ <;> intro c23 H
    ·
     subst c23
     refine gf rfl rfl (gk (gs (rg (sv (EV.ld (v := .agg #[.slice Ax3_7_0 x3_7_0.length cx3_7_0, .int .i64 x3_7_1, .bool x3_7_2]) 1 (some 3) rfl rfl rfl) rfl (so rfl (op_st (cs' := [.slice Ax3_7_0 x3_7_0.length cx3_7_0, .int .i64 x3_7_1, .bool x3_7_2]) 0 rfl rfl rfl rfl rfl rfl (sv (EV.as rfl) rfl (re ?_))))))))
     cases H
     exact rt Try.func26 rfl (.cell 0 (some 3) rfl rfl rfl (.tmp rfl .nil)) rfl [] [⟨1, 2, 1, true⟩] rfl rfl rfl rfl rfl ⟨_, _, rfl, rfl, rfl⟩
    ·
     obtain rfl := bF c23
     refine gt rfl rfl (gs (rg (sv (EV.bd (v := .agg #[.slice none 0 0, .int .i64 0, .bool false]) rfl (by kernel_rfl)) rfl (so rfl (op_st (cs' := [.slice none 0 0, .int .i64 0, .bool false]) 0 rfl rfl rfl rfl rfl rfl (sv (EV.as rfl) rfl (re (nil_ k102 4 dq ?_))))))))
     cases H
     exact rt Try.func26 rfl (.cell 0 (some 3) rfl rfl rfl (.tmp rfl .nil)) rfl [] [⟨2, 2, 1, true⟩] rfl rfl rfl rfl rfl ⟨_, _, rfl, rfl, rfl⟩
   ·
    obtain rfl := bF c21
    refine ts 91 rfl rfl (sk rfl (sk rfl (sk rfl (sv (EV.pt rfl rfl rfl) rfl (re (pr [2, 7, 95] [0, 1] [1, 2] rfl rfl rfl rfl (gt rfl rfl (gs (rg (sv (EV.bd (v := .agg #[.slice none 0 0, .int .i64 0, .bool false]) rfl (by kernel_rfl)) rfl (so rfl (op_st (cs' := [.slice none 0 0, .int .i64 0, .bool false]) 0 rfl rfl rfl rfl rfl rfl (sv (EV.as rfl) rfl (re (nil_ k102 4 dq ?_)))))))))))))))
    cases H
    exact rt Try.func26 rfl (.cell 0 (some 3) rfl rfl rfl (.tmp rfl .nil)) rfl [] [⟨2, 2, 1, true⟩] rfl rfl rfl rfl rfl ⟨_, _, rfl, rfl, rfl⟩
 ·
  refine gs (rg (sv (EV.mv rfl) rfl (sv (EV.ln rfl) rfl (sv (EV.lss rfl rfl) rfl (sv (EV.mv rfl) rfl ?_)))))
  revert H; refine ifsI ?_ ?_ <;> intro c24 H
  ·
   refine ts 20 rfl (dT c24) (sk rfl (sk rfl (sk rfl (sk rfl (sk rfl (sk rfl (sk rfl (sk rfl (sk rfl (sk rfl (sv (EV.pt rfl rfl rfl) rfl (re (pr [2, 4, 31] [0] [0] rfl rfl rfl rfl (gt rfl rfl (gs (rg (sv (EV.bd (v := .agg #[.slice none 0 0, .int .i64 0, .bool false]) rfl (by kernel_rfl)) rfl (so rfl (op_st (cs' := [.slice none 0 0, .int .i64 0, .bool false]) 0 rfl rfl rfl rfl rfl rfl (sv (EV.as rfl) rfl (re (nil_ k102 3 dq ?_))))))))))))))))))))))
   cases H
   exact rt Try.func26 rfl (.cell 0 (some 3) rfl rfl rfl (.tmp rfl .nil)) rfl [] [⟨1, 2, 1, true⟩] rfl rfl rfl rfl rfl ⟨_, _, rfl, rfl, rfl⟩
  ·
   refine ts 20 rfl (dF c24) (sv (EV.mv rfl) rfl ?_)
   revert H; refine ggI ?_; intro g25 H
   refine sv (EV.ix 0 rfl rfl rfl dq g25 rfl) rfl (sv (EV.le (v := .string (rdOf ByteArray.empty t1 1)) 1 0 none 0 ByteArray.empty rfl rfl rfl dq g25 rfl rfl rfl) rfl (sv (EV.nes rfl rfl) rfl (sv (EV.mv rfl) rfl ?_)))
   revert H; refine ifsI ?_ ?_ <;> intro c26 H
   ·
    exact ts 25 rfl (nF c26) (sk rfl (sk rfl (sk rfl (sk rfl (sv (EV.pf rfl rfl rfl) rfl (sv (EV.pf rfl rfl rfl) rfl (re (pr [2, 4, 31] [0] [0] rfl rfl rfl rfl (gf rfl rfl (gk (nil_ k102 3 dq (wk [2, 4] [0] [⟨0, 2, 1, true⟩, ⟨1, 2, 2, true⟩] (jh0 _ ⟨_, t1, At1, ct1, [], none, 0, 0, false, H, rfl⟩)))))))))))))
   ·
    refine ts 25 rfl (nT c26) (sv (EV.mv rfl) rfl (sv (EV.ix 0 rfl rfl rfl dq g25 rfl) rfl (sv (EV.le (v := .string (rdOf ByteArray.empty t1 1)) 1 0 none 0 ByteArray.empty rfl rfl rfl dq g25 rfl rfl rfl) rfl (sv (EV.nes rfl rfl) rfl (sv (EV.pt rfl rfl rfl) rfl (sv (EV.pf rfl rfl rfl) rfl (re (pr [2, 4, 31] [0] [0] rfl rfl rfl rfl ?_))))))))
    revert H; refine ifsI ?_ ?_ <;> intro c27 H
    ·
     exact gf rfl (nF c27) (gk (nil_ k102 3 dq (wk [2, 4] [0] [⟨0, 2, 1, true⟩, ⟨1, 2, 2, true⟩] (jh0 _ ⟨_, t1, At1, ct1, [], none, 0, 0, false, H, rfl⟩))))
    ·
     refine gt rfl (nT c27) (gs (rg (sv (EV.bd (v := .agg #[.slice none 0 0, .int .i64 0, .bool false]) rfl (by kernel_rfl)) rfl (so rfl (op_st (cs' := [.slice none 0 0, .int .i64 0, .bool false]) 0 rfl rfl rfl rfl rfl rfl (sv (EV.as rfl) rfl (re (nil_ k102 3 dq ?_))))))))
     cases H
     exact rt Try.func26 rfl (.cell 0 (some 3) rfl rfl rfl (.tmp rfl .nil)) rfl [] [⟨1, 2, 1, true⟩] rfl rfl rfl rfl rfl ⟨_, _, rfl, rfl, rfl⟩
end Go.Proofs.Ytamjndlkompeeaa.K
namespace Go.Proofs.Ytamjndlkompeeaa.K
open Go Go.RowKit
set_option linter.unusedVariables false
set_option linter.unusedSimpArgs false
def impl_FormatRow.f (k : Nat) (a0_0 : Int) (a0_1 : Int) (a0_2 : Int) : Option (ByteArray) := (impl_IsValidRow.f a0_0 a0_1 a0_2).bind fun t1 => (if t1 = true then ((impl_FormatInt.f k a0_0).bind fun t3 => (if t3.size + (⟨#[46]⟩ : ByteArray).size ≤ 9223372036854775807 then ((impl_FormatInt.f k a0_1).bind fun t5 => (if (t3 ++ (⟨#[46]⟩ : ByteArray)).size + t5.size ≤ 9223372036854775807 then (if ((t3 ++ (⟨#[46]⟩ : ByteArray)) ++ t5).size + (⟨#[46]⟩ : ByteArray).size ≤ 9223372036854775807 then ((impl_FormatInt.f k a0_2).bind fun t8 => (if (((t3 ++ (⟨#[46]⟩ : ByteArray)) ++ t5) ++ (⟨#[46]⟩ : ByteArray)).size + t8.size ≤ 9223372036854775807 then (some ((((t3 ++ (⟨#[46]⟩ : ByteArray)) ++ t5) ++ (⟨#[46]⟩ : ByteArray)) ++ t8)) else none)) else none) else none)) else none)) else (some (⟨#[]⟩ : ByteArray)))
set_option maxHeartbeats 4000000 in
set_option maxRecDepth 100000 in
theorem impl_FormatRow.ok (k : Nat) (a0_0 : Int) (a0_1 : Int) (a0_2 : Int) (r0 : ByteArray) (H : impl_FormatRow.f k a0_0 a0_1 a0_2 = some r0) : Fn Try.prog 122 [.agg #[.int .i64 a0_0, .int .i64 a0_1, .int .i64 a0_2]] [] [] (fun v bx en => v = .string r0 ∧ bx = [] ∧ en = []) := by
 refine fn_ 19 Try.func122 rfl rfl rfl (fun base T w0 => ?_)
 rw [impl_FormatRow.f] at H
 refine gs (rg (so rfl (op_box (cs := [.int .i64 a0_0, .int .i64 a0_1, .int .i64 a0_2]) rfl rfl rfl fun b1 => (sv (EV.as rfl) rfl (re (gs (gs (rg (sv (EV.ld (v := .agg #[.int .i64 a0_0, .int .i64 a0_1, .int .i64 a0_2]) 0 (some 3) rfl rfl rfl) rfl ?_)))))))))
 revert H; refine bdI ?_; rintro t1 A1 H
 refine so rfl (op_call (impl_IsValidRow.ok a0_0 a0_1 a0_2 _ A1) [] 1 rfl rfl rfl rfl rfl ?_)
 rintro _ _ _ ⟨rfl, rfl, rfl⟩
 refine sv (EV.nt rfl) rfl (re ?_)
 revert H; refine ifsI ?_ ?_ <;> intro c2 H
 ·
  subst c2
  refine gf rfl rfl (gk (gs (dr [0] [] [] 14 rfl rfl rfl rfl (xv 0 [0] [] rfl (EV.fa 0 rfl) rfl rfl rfl rfl (xv 1 [0] [] rfl (EV.ld 0 none rfl rfl rfl) rfl rfl rfl rfl (xv 4 [0] [] rfl (EV.fa 1 rfl) rfl rfl rfl rfl (xv 5 [0] [] rfl (EV.ld 0 none rfl rfl rfl) rfl rfl rfl rfl (xv 9 [0] [] rfl (EV.fa 2 rfl) rfl rfl rfl rfl (xv 10 [0] [] rfl (EV.ld 0 none rfl rfl rfl) rfl rfl rfl rfl (one1 2 rfl rfl ?_))))))))))
  revert H; refine bdI ?_; rintro t3 A3 H
  refine op_call (impl_FormatInt.ok k a0_0 _ A3) [] 1 rfl rfl rfl rfl rfl ?_
  rintro _ _ _ ⟨rfl, rfl, rfl⟩
  refine xs [0] [] rfl rfl rfl ?_
  revert H; refine ggI ?_; intro g4 H
  refine xv 3 [0] [] rfl (EV.ads rfl rfl g4) rfl rfl rfl rfl (one1 6 rfl rfl ?_)
  revert H; refine bdI ?_; rintro t5 A5 H
  refine op_call (impl_FormatInt.ok k a0_1 _ A5) [] 1 rfl rfl rfl rfl rfl ?_
  rintro _ _ _ ⟨rfl, rfl, rfl⟩
  refine xs [0] [] rfl rfl rfl ?_
  revert H; refine ggI ?_; intro g6 H
  refine xv 7 [0] [] rfl (EV.ads rfl rfl g6) rfl rfl rfl rfl ?_
  revert H; refine ggI ?_; intro g7 H
  refine xv 8 [0] [] rfl (EV.ads rfl rfl g7) rfl rfl rfl rfl (one1 11 rfl rfl ?_)
  revert H; refine bdI ?_; rintro t8 A8 H
  refine op_call (impl_FormatInt.ok k a0_2 _ A8) [] 1 rfl rfl rfl rfl rfl ?_
  rintro _ _ _ ⟨rfl, rfl, rfl⟩
  refine xs [0] [] rfl rfl rfl ?_
  revert H; refine ggI ?_; intro g9 H
  refine xv 12 [0] [] rfl (EV.ads rfl rfl g9) rfl rfl rfl rfl (xv 13 [0] [] rfl (EV.as rfl) rfl rfl rfl rfl (xd (pr [2] [] [] rfl rfl rfl rfl ?_)))
  cases H
  exact rt Try.func122 rfl (.tmp rfl .nil) rfl [] [] rfl rfl rfl rfl rfl ⟨rfl, rfl, rfl⟩
 ·
  obtain rfl := bF c2
  refine gt rfl rfl (gs (rg (sv (EV.as rfl) rfl (re ?_))))
  cases H
  exact rt Try.func122 rfl (.tmp rfl .nil) rfl [] [] rfl rfl rfl rfl rfl ⟨rfl, rfl, rfl⟩
end Go.Proofs.Ytamjndlkompeeaa.K
namespace Go.Proofs.Ytamjndlkompeeaa.K
open Go Go.RowKit
set_option linter.unusedVariables false
set_option linter.unusedSimpArgs false
mutual
def impl_joined.j0 : Nat → ByteArray → ByteArray → ByteArray → Int → Int → (List ByteArray) → Option (ByteArray)
 | 0, _, _, _, _, _, _ => none
 | k + 1, x10_1, x10_5, x10_7, x10_9, x10_10, l0 => if x10_5.size + x10_7.size ≤ 9223372036854775807 then (impl_joined.l0 k x10_1 (x10_5 ++ x10_7) x10_9 (wrap64 (x10_10 + 1)) l0) else none
def impl_joined.l0 : Nat → ByteArray → ByteArray → Int → Int → (List ByteArray) → Option (ByteArray)
 | 0, _, _, _, _, _ => none
 | k + 1, x6_1, x6_5, x6_9, x6_10, l0 => if x6_10 < x6_9 then (if 0 ≤ x6_10 then (if x6_10 < (l0.length : Int) then (if x6_10 > 0 then (if x6_5.size + x6_1.size ≤ 9223372036854775807 then (impl_joined.j0 k x6_1 (x6_5 ++ x6_1) (rdOf ByteArray.empty l0 x6_10) x6_9 x6_10 l0) else none) else (impl_joined.j0 k x6_1 x6_5 (rdOf ByteArray.empty l0 x6_10) x6_9 x6_10 l0)) else none) else none) else (some x6_5)
end
def impl_joined.f (k : Nat) (l0 : List ByteArray) (a1 : ByteArray) : Option (ByteArray) := impl_joined.l0 k a1 (⟨#[]⟩ : ByteArray) (l0.length : Int) 0 l0
set_option maxHeartbeats 4000000 in
set_option maxRecDepth 100000 in
theorem impl_joined.ok (k : Nat) (l0 : List ByteArray) (Al0 : Option Addr) (cl0 : Nat) (a1 : ByteArray) (r0 : ByteArray) (H : impl_joined.f k l0 a1 = some r0) : Fn Try.prog 58 [.slice Al0 l0.length cl0, .string a1] [] [.sl 0 .str Al0 cl0 l0 0 false] (fun v bx en => v = .string r0 ∧ bx = [] ∧ en = []) := by
 refine fn_ 25 Try.func58 rfl rfl rfl (fun base T w0 => ?_)
 rw [impl_joined.f] at H
 refine gs (rg (sv (EV.as rfl) rfl (re (gs (rg (sv (EV.as rfl) rfl (re (gs (gs (rg (sv (EV.mv rfl) rfl (sv (EV.ln rfl) rfl (sv (EV.mv rfl) rfl (re (gb ?_)))))))))))))))
 refine lo (fun kk S => ∃ (x6_1 : ByteArray) (x6_5 : ByteArray) (x6_9 : Int) (x6_10 : Int), impl_joined.l0 kk x6_1 x6_5 x6_9 x6_10 l0 = some r0 ∧ S = ⟨[(1, .string x6_1), (5, .string x6_5), (8, .slice Al0 l0.length cl0), (9, .int .i64 x6_9), (10, .int .i64 x6_10)], [], [.sl 0 .str Al0 cl0 l0 0 false]⟩) (fun S hS => ?_) (fun n0 ih0 S hS => ?_) ⟨a1, (⟨#[]⟩ : ByteArray), (l0.length : Int), 0, H, rfl⟩ (fun h => wk [1, 5, 8, 9, 10] [] [⟨0, 0, 0, false⟩] h)
 · clear H; obtain ⟨_, _, _, _, H, _⟩ := hS; rw [impl_joined.l0] at H; cases H
 clear H
 obtain ⟨x6_1, x6_5, x6_9, x6_10, H, rfl⟩ := hS
 rw [impl_joined.l0] at H
 refine gs (rg (sv (EV.lss rfl rfl) rfl (re (gs ?_))))
 revert H; refine ifsI ?_ ?_ <;> intro c1 H
 ·
  refine gt rfl (dT c1) (gk (gs (gb (gs (rg (sv (EV.mv rfl) rfl ?_))))))
  revert H; refine ggI ?_; intro g2 H
  revert H; refine ggI ?_; intro g3 H
  refine sv (EV.ix 0 rfl rfl rfl g2 g3 rfl) rfl (sv (EV.le (v := .string (rdOf ByteArray.empty l0 x6_10)) x6_10 0 none 0 ByteArray.empty rfl rfl rfl g2 g3 rfl rfl rfl) rfl (sv (EV.as rfl) rfl (sv (EV.as rfl) rfl (re ?_))))
  refine jo (fun S => ∃ (m : Nat) (x10_1 : ByteArray) (x10_5 : ByteArray) (x10_7 : ByteArray) (x10_9 : Int) (x10_10 : Int), m ≤ n0 ∧ impl_joined.j0 m x10_1 x10_5 x10_7 x10_9 x10_10 l0 = some r0 ∧ S = ⟨[(1, .string x10_1), (5, .string x10_5), (7, .string x10_7), (8, .slice Al0 l0.length cl0), (9, .int .i64 x10_9), (10, .int .i64 x10_10)], [], [.sl 0 .str Al0 cl0 l0 0 false]⟩) (fun S hS => ?_) (fun jh0 => ?_)
  ·
   clear H
   obtain ⟨m4, x10_1, x10_5, x10_7, x10_9, x10_10, lm4, H, rfl⟩ := hS
   rcases m4 with _ | m4
   · rw [impl_joined.j0] at H; cases H
   rw [impl_joined.j0] at H
   refine rg (sv (EV.mv rfl) rfl (sv (EV.mv rfl) rfl ?_))
   revert H; refine ggI ?_; intro g5 H
   exact sv (EV.ads rfl rfl g5) rfl (sv (EV.as rfl) rfl (re (ge (rg (sv (EV.add rfl rfl) rfl (sv (EV.mv rfl) rfl (re (wk [1, 5, 8, 9, 10] [] [⟨0, 0, 0, false⟩] (ih0 _ (by omega) _ ⟨x10_1, x10_5 ++ x10_7, x10_9, wrap64 (x10_10 + 1), H, rfl⟩)))))))))
  ·
   refine gs (rg (sv (EV.mv rfl) rfl (sv (EV.gtr rfl rfl) rfl (re (pr [1, 5, 7, 8, 9, 10, 16] [] [0] rfl rfl rfl rfl ?_)))))
   revert H; refine ifsI ?_ ?_ <;> intro c6 H
   ·
    refine gt rfl (dT c6) (rg (sv (EV.mv rfl) rfl (sv (EV.mv rfl) rfl ?_)))
    revert H; refine ggI ?_; intro g7 H
    exact sv (EV.ads rfl rfl g7) rfl (sv (EV.as rfl) rfl (re (wk [1, 5, 7, 8, 9, 10] [] [⟨0, 0, 0, false⟩] (jh0 _ ⟨_, x6_1, x6_5 ++ x6_1, rdOf ByteArray.empty l0 x6_10, x6_9, x6_10, by omega, H, rfl⟩))))
   ·
    exact gf rfl (dF c6) (gk (wk [1, 5, 7, 8, 9, 10] [] [⟨0, 0, 0, false⟩] (jh0 _ ⟨_, x6_1, x6_5, rdOf ByteArray.empty l0 x6_10, x6_9, x6_10, by omega, H, rfl⟩)))
 ·
  refine gf rfl (dF c1) (gx rfl (gs (rg (sv (EV.mv rfl) rfl (sv (EV.as rfl) rfl (re (pr [4] [] [] rfl rfl rfl rfl ?_)))))))
  cases H
  exact rt Try.func58 rfl (.tmp rfl .nil) rfl [] [] rfl rfl rfl rfl rfl ⟨rfl, rfl, rfl⟩
end Go.Proofs.Ytamjndlkompeeaa.K
namespace Go.Proofs.Ytamjndlkompeeaa.K
open Go Go.RowKit
set_option linter.unusedVariables false
set_option linter.unusedSimpArgs false
def impl_rowTexts.l0 : Nat → (List ByteArray) → Int → Int → (List S99) → Option (ByteArray)
 | 0, _, _, _, _ => none
 | k + 1, x2_3, x2_8, x2_9, l0 => if x2_9 < x2_8 then (if 0 ≤ x2_9 then (if x2_9 < (l0.length : Int) then ((impl_FormatRow.f k ((rd_T99 l0 x2_9).f0) ((rd_T99 l0 x2_9).f1) ((rd_T99 l0 x2_9).f2)).bind fun t5 => (if x2_3.length < 8796093022208 then (impl_rowTexts.l0 k (x2_3 ++ ([t5] : List ByteArray)) x2_8 (wrap64 (x2_9 + 1)) l0) else none)) else none) else none) else ((impl_joined.f k x2_3 (⟨#[32]⟩ : ByteArray)).bind fun t9 => (some t9))
def impl_rowTexts.f (k : Nat) (l0 : List S99) : Option (ByteArray) := impl_rowTexts.l0 k [] (l0.length : Int) 0 l0
set_option maxHeartbeats 4000000 in
set_option maxRecDepth 100000 in
theorem impl_rowTexts.ok (k : Nat) (l0 : List S99) (Al0 : Option Addr) (cl0 : Nat) (r0 : ByteArray) (H : impl_rowTexts.f k l0 = some r0) : Fn Try.prog 104 [.slice Al0 l0.length cl0] [] [.sl 0 k99 Al0 cl0 l0 0 false] (fun v bx en => v = .string r0 ∧ bx = [] ∧ en = []) := by
 refine fn_ 21 Try.func104 rfl rfl rfl (fun base T w0 => ?_)
 rw [impl_rowTexts.f] at H
 refine gs (rg (sv (EV.as rfl) rfl (re (gs (rg (so rfl (op_lit (s := 1) (by_ := 16) .str ([] : List ByteArray) [] [] 1 [] rfl rfl rfl rfl rfl rfl rfl rfl rfl rfl rfl rfl rfl dq rfl fun A6_1 c6_1 => (sv (EV.as rfl) rfl (re (gs (gs (rg (sv (EV.mv rfl) rfl (sv (EV.ln rfl) rfl (sv (EV.mv rfl) rfl (re (gb ?_)))))))))))))))))
 refine lo (fun kk S => ∃ (x2_3 : List ByteArray) (Ax2_3 : Option Addr) (cx2_3 : Nat) (x2_8 : Int) (x2_9 : Int), impl_rowTexts.l0 kk x2_3 x2_8 x2_9 l0 = some r0 ∧ S = ⟨[(3, .slice Ax2_3 x2_3.length cx2_3), (7, .slice Al0 l0.length cl0), (8, .int .i64 x2_8), (9, .int .i64 x2_9)], [], [.sl 2 .str Ax2_3 cx2_3 x2_3 1 true, .sl 0 k99 Al0 cl0 l0 0 false]⟩) (fun S hS => ?_) (fun n0 ih0 S hS => ?_) ⟨[], A6_1, c6_1, (l0.length : Int), 0, H, rfl⟩ (fun h => wk [3, 7, 8, 9] [] [⟨1, 2, 1, true⟩, ⟨0, 0, 0, false⟩] h)
 · clear H; obtain ⟨_, _, _, _, _, H, _⟩ := hS; rw [impl_rowTexts.l0] at H; cases H
 clear H
 obtain ⟨x2_3, Ax2_3, cx2_3, x2_8, x2_9, H, rfl⟩ := hS
 rw [impl_rowTexts.l0] at H
 refine gs (rg (sv (EV.lss rfl rfl) rfl (re (gs ?_))))
 revert H; refine ifsI ?_ ?_ <;> intro c2 H
 ·
  refine gt rfl (dT c2) (gk (gs (gb (gs (rg ?_)))))
  revert H; refine ggI ?_; intro g3 H
  revert H; refine ggI ?_; intro g4 H
  refine sv (EV.ix 1 rfl rfl rfl g3 g4 rfl) rfl (sv (EV.le (v := .agg #[.int .i64 ((rd_T99 l0 x2_9).f0), .int .i64 ((rd_T99 l0 x2_9).f1), .int .i64 ((rd_T99 l0 x2_9).f2)]) x2_9 0 (some 3) 1 z99 rfl rfl rfl g3 g4 rfl rfl rfl) rfl (so rfl (op_alloc (cs := [.int .i64 0, .int .i64 0, .int .i64 0]) (by kernel_rfl) rfl fun b5 => (so rfl (op_st (cs' := [.int .i64 ((rd_T99 l0 x2_9).f0), .int .i64 ((rd_T99 l0 x2_9).f1), .int .i64 ((rd_T99 l0 x2_9).f2)]) 0 rfl rfl rfl rfl rfl rfl (re (rg (sv (EV.mv rfl) rfl (sv (EV.ld (v := .agg #[.int .i64 ((rd_T99 l0 x2_9).f0), .int .i64 ((rd_T99 l0 x2_9).f1), .int .i64 ((rd_T99 l0 x2_9).f2)]) 0 (some 3) rfl rfl rfl) rfl ?_)))))))))
  revert H; refine bdI ?_; rintro t5 A5 H
  refine so rfl (op_call (impl_FormatRow.ok n0 ((rd_T99 l0 x2_9).f0) ((rd_T99 l0 x2_9).f1) ((rd_T99 l0 x2_9).f2) _ A5) [] 2 rfl rfl rfl rfl rfl ?_)
  rintro _ _ _ ⟨rfl, rfl, rfl⟩
  refine so rfl (op_lit (s := 1) (by_ := 16) .str ([t5] : List ByteArray) [[]] [] 2 [.tmp 15] rfl rfl rfl rfl rfl rfl rfl rfl rfl rfl rfl rfl rfl dq rfl fun A16_6 c16_6 => ?_)
  revert H; refine ggI ?_; intro g7 H
  exact so rfl (op_app (k := .str) (s := 1) (by_ := 16) 0 2 rfl rfl rfl rfl (ap1 g7 dq) (ap1n g7 dq) (.inl rfl) true (fun _ => .inl rfl) rfl rfl fun A17_8 c17_8 => (nmE (en := [.sl 0 k99 Al0 cl0 l0 0 false, .sl 2 .str A16_6 c16_6 ([t5] : List ByteArray) 2 true, .sl 2 .str A17_8 c17_8 (x2_3 ++ ([t5] : List ByteArray)) 1 true]) (by kernel_rfl) (sv (EV.as rfl) rfl (re (pr [3, 7, 8, 9] [] [0, 2] rfl rfl rfl rfl (ge (rg (sv (EV.add rfl rfl) rfl (sv (EV.mv rfl) rfl (re (wk [3, 7, 8, 9] [] [⟨1, 2, 1, true⟩, ⟨0, 0, 0, false⟩] (ih0 _ (by omega) _ ⟨x2_3 ++ ([t5] : List ByteArray), A17_8, c17_8, x2_8, wrap64 (x2_9 + 1), H, rfl⟩))))))))))))
 ·
  refine gf rfl (dF c2) (gx rfl (gs (rg (sv (EV.mv rfl) rfl ?_))))
  revert H; refine bdI ?_; rintro t9 A9 H
  refine so rfl (op_call (impl_joined.ok n0 x2_3 Ax2_3 cx2_3 (⟨#[32]⟩ : ByteArray) _ A9) [⟨0, 0, 0, false⟩] 2 rfl rfl rfl rfl rfl ?_)
  rintro _ _ _ ⟨rfl, rfl, rfl⟩
  refine sv (EV.as rfl) rfl (re (pr [2] [] [] rfl rfl rfl rfl ?_))
  cases H
  exact rt Try.func104 rfl (.tmp rfl .nil) rfl [] [] rfl rfl rfl rfl rfl ⟨rfl, rfl, rfl⟩
end Go.Proofs.Ytamjndlkompeeaa.K
