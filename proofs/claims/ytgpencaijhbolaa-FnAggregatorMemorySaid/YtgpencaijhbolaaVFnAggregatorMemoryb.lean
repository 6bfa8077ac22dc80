/- Walks: what the functions compute. Printed by gen.py; no condition. -/
import Derived.Test.YtgpencaijhbolaaVFnAggregatorMemorya
namespace Go.Proofs.Ytgpencaijhbolaa.K
open Go Go.RowKit
set_option linter.unusedVariables false
set_option linter.unusedSimpArgs false
def spec_l22Agger.l0 : Nat → Int → Int → Int → (List S64) → Int → Bool → (List S64) → Int → Bool → (List Int) → Option ((List S64) × Int × Bool × Int × Int)
 | 0, _, _, _, _, _, _, _, _, _, _ => none
 | k + 1, x4_5, x4_1000_1, x4_1000_2, x4_2_0, x4_2_1, x4_2_2, x4_3_0, x4_3_1, x4_3_2, l0_0 => if x4_5 > 0 then ((spec_l1PickInt.f l0_0 x4_1000_1 x4_1000_2 ([8, 9, 12] : List Int)).bind fun bt7 => ((spec_StepAggregator.f k x4_3_0 x4_3_1 x4_3_2 bt7.1).bind fun bt8 => (spec_l22Agger.l0 k (wrap64 (x4_5 - 1)) bt7.2.1 bt7.2.2 x4_2_0 x4_2_1 x4_2_2 bt8.1 bt8.2.1 bt8.2.2.1 l0_0))) else ((spec_l1Below.f l0_0 x4_1000_1 x4_1000_2 14).bind fun bt14 => (if bt14.1 = 0 then (if x4_3_0.length < 4398046511104 then ((spec_l2Bent.f k l0_0 bt14.2.1 bt14.2.2 4).bind fun bt17 => ((spec_l1Below.f l0_0 bt17.2.1 bt17.2.2 7).bind fun bt18 => (some (x4_3_0 ++ ([(⟨bt17.1, wrap64 (bt18.1 - 1)⟩ : S64)] : List S64), x4_3_1, x4_3_2, bt18.2.1, bt18.2.2)))) else none) else (if bt14.1 = 1 then ((spec_l1PickInt.f l0_0 bt14.2.1 bt14.2.2 ([(-1), 100001] : List Int)).bind fun bt23 => (some (x4_3_0, bt23.1, x4_3_2, bt23.2.1, bt23.2.2))) else (some (x4_3_0, x4_3_1, x4_3_2, bt14.2.1, bt14.2.2)))))
def spec_l22Agger.f (k : Nat) (l0_0 : List Int) (a0_1 : Int) (a0_2 : Int) : Option ((List S64) × Int × Bool × Int × Int) := (spec_l2Rows.f k l0_0 a0_1 a0_2 14).bind fun bt1 => ((spec_l1Once.f l0_0 bt1.2.1 bt1.2.2 3).bind fun bt2 => ((spec_NewAggregator.f k bt1.1 bt2.1).bind fun bt3 => ((spec_l1Below.f l0_0 bt2.2.1 bt2.2.2 4).bind fun bt4 => (spec_l22Agger.l0 k bt4.1 bt4.2.1 bt4.2.2 [] 0 false bt3.1 bt3.2.1 bt3.2.2.1 l0_0))))
set_option maxHeartbeats 4000000 in
set_option maxRecDepth 100000 in
theorem spec_l22Agger.ok (k : Nat) (b1000 : Nat) (l0_0 : List Int) (Al0_0 : Option Addr) (cl0_0 : Nat) (a0_1 : Int) (a0_2 : Int) (r0 : List S64) (r1 : Int) (r2 : Bool) (r3 : Int) (r4 : Int) (H : spec_l22Agger.f k l0_0 a0_1 a0_2 = some (r0, r1, r2, r3, r4)) : Fn Try.prog 65 [.pointer (some ⟨b1000, 0, none⟩)] [⟨b1000, 95, [.slice Al0_0 l0_0.length cl0_0, .int .i64 a0_1, .int .i64 a0_2]⟩] [.sl 0 (.int .u8) Al0_0 cl0_0 l0_0 0 false] (fun v bx en => ∃ A0 c0, v = .agg #[.slice A0 r0.length c0, .int .i64 r1, .bool r2] ∧ bx = [⟨b1000, 95, [.slice Al0_0 l0_0.length cl0_0, .int .i64 r3, .int .i64 r4]⟩] ∧ en = [.sl 1 k64 A0 c0 r0 1 true]) := by
 refine fn_ 52 Try.func65 rfl rfl rfl (fun base T w0 => ?_)
 rw [spec_l22Agger.f] at H
 refine gs (rg (so rfl (op_alloc (cs := [.slice none 0 0, .int .i64 0, .bool false]) (by kernel_rfl) rfl fun b2 => (re (gs (rg (sv (EV.mv rfl) rfl ?_)))))))
 revert H; refine bdI ?_; rintro ⟨t1_0, t1_1, t1_2⟩ A1 H
 refine so rfl (op_callM (spec_l2Rows.ok k b1000 l0_0 Al0_0 cl0_0 a0_1 a0_2 14 _ _ _ A1) [⟨0, 0, 0, false⟩] [0] [1] 1 rfl rfl rfl rfl rfl rfl rfl rfl ?_)
 rintro _ _ _ ⟨At1_0, ct1_0, rfl, rfl, rfl⟩
 refine nmE (en := [.sl 0 (.int .u8) Al0_0 cl0_0 l0_0 0 false, .sl 2 k75 At1_0 ct1_0 t1_0 2 true]) (by kernel_rfl) (sv (EV.mv rfl) rfl ?_)
 revert H; refine bdI ?_; rintro ⟨t2_0, t2_1, t2_2⟩ A2 H
 refine so rfl (op_callM (spec_l1Once.ok b1000 l0_0 Al0_0 cl0_0 t1_1 t1_2 3 _ _ _ A2) [⟨0, 0, 0, false⟩] [1] [0] 3 rfl rfl rfl rfl rfl rfl rfl rfl ?_)
 rintro _ _ _ ⟨rfl, rfl, rfl⟩
 refine nmE (en := [.sl 0 (.int .u8) Al0_0 cl0_0 l0_0 0 false, .sl 2 k75 At1_0 ct1_0 t1_0 2 true]) (by kernel_rfl) ?_
 revert H; refine bdI ?_; rintro ⟨t3_0, t3_1, t3_2, t3_3⟩ A3 H
 refine so rfl (op_call (spec_NewAggregator.ok k t1_0 At1_0 ct1_0 t2_0 _ _ _ _ A3) [⟨1, 0, 0, false⟩] 3 rfl rfl rfl rfl rfl ?_)
 rintro _ _ _ ⟨At3_0, ct3_0, rfl, rfl, rfl⟩
 refine sv (EV.mv rfl) rfl (sv (EV.ex rfl rfl) rfl (sv (EV.ex rfl rfl) rfl (so rfl (op_alloc (cs := [.slice none 0 0, .int .i64 0, .bool false]) (by kernel_rfl) rfl fun b3 => (so rfl (op_st (cs' := [.slice At3_0 t3_0.length ct3_0, .int .i64 t3_1, .bool t3_2]) 2 rfl rfl rfl rfl rfl rfl (sv (EV.as rfl) rfl (re (pr [0, 2, 3] [0, 1, 2] [0, 2] rfl rfl rfl rfl (gs (gs (rg (sv (EV.mv rfl) rfl ?_)))))))))))))
 revert H; refine bdI ?_; rintro ⟨t4_0, t4_1, t4_2⟩ A4 H
 refine so rfl (op_callM (spec_l1Below.ok b1000 l0_0 Al0_0 cl0_0 t2_1 t2_2 4 _ _ _ A4) [⟨0, 0, 0, false⟩] [1] [0, 2] 5 rfl rfl rfl rfl rfl rfl rfl rfl ?_)
 rintro _ _ _ ⟨rfl, rfl, rfl⟩
 refine nmE (en := [.sl 0 (.int .u8) Al0_0 cl0_0 l0_0 0 false, .sl 2 k64 At3_0 ct3_0 t3_0 4 true]) (by kernel_rfl) (sv (EV.as rfl) rfl (re (gb (nil_ k64 5 dq ?_))))
 refine lo (fun kk S => ∃ (x4_5 : Int) (x4_1000_1 : Int) (x4_1000_2 : Int) (x4_2_0 : List S64) (Ax4_2_0 : Option Addr) (cx4_2_0 : Nat) (x4_2_1 : Int) (x4_2_2 : Bool) (x4_3_0 : List S64) (Ax4_3_0 : Option Addr) (cx4_3_0 : Nat) (x4_3_1 : Int) (x4_3_2 : Bool), spec_l22Agger.l0 kk x4_5 x4_1000_1 x4_1000_2 x4_2_0 x4_2_1 x4_2_2 x4_3_0 x4_3_1 x4_3_2 l0_0 = some (r0, r1, r2, r3, r4) ∧ S = ⟨[(0, .pointer (some ⟨b1000, 0, none⟩)), (2, .pointer (some ⟨b2, 0, none⟩)), (3, .pointer (some ⟨b3, 0, none⟩)), (5, .int .i64 x4_5)], [⟨b1000, 95, [.slice Al0_0 l0_0.length cl0_0, .int .i64 x4_1000_1, .int .i64 x4_1000_2]⟩, ⟨b2, 54, [.slice Ax4_2_0 x4_2_0.length cx4_2_0, .int .i64 x4_2_1, .bool x4_2_2]⟩, ⟨b3, 54, [.slice Ax4_3_0 x4_3_0.length cx4_3_0, .int .i64 x4_3_1, .bool x4_3_2]⟩], [.sl 2 k64 Ax4_2_0 cx4_2_0 x4_2_0 1 true, .sl 1 k64 Ax4_3_0 cx4_3_0 x4_3_0 2 true, .sl 0 (.int .u8) Al0_0 cl0_0 l0_0 0 false]⟩) (fun S hS => ?_) (fun n0 ih0 S hS => ?_) ⟨t4_0, t4_1, t4_2, [], none, 0, 0, false, t3_0, At3_0, ct3_0, t3_1, t3_2, H, rfl⟩ (fun h => wk [0, 2, 3, 5] [2, 0, 1] [⟨2, 2, 1, true⟩, ⟨1, 1, 2, true⟩, ⟨0, 0, 0, false⟩] h)
 · clear H; obtain ⟨_, _, _, _, _, _, _, _, _, _, _, _, _, H, _⟩ := hS; rw [spec_l22Agger.l0] at H; cases H
 clear H
 obtain ⟨x4_5, x4_1000_1, x4_1000_2, x4_2_0, Ax4_2_0, cx4_2_0, x4_2_1, x4_2_2, x4_3_0, Ax4_3_0, cx4_3_0, x4_3_1, x4_3_2, H, rfl⟩ := hS
 rw [spec_l22Agger.l0] at H
 refine gs (gs (rg (sv (EV.mv rfl) rfl (sv (EV.gtr rfl rfl) rfl (re ?_)))))
 revert H; refine ifsI ?_ ?_ <;> intro c5 H
 ·
  refine gt rfl (dT c5) (gk (gs (gb (dr [] [0, 1, 2] [10] 11 rfl rfl rfl rfl (xv 1 [] [0, 1, 2] rfl (EV.mv rfl) rfl rfl rfl rfl ?_)))))
  refine one2 0 2 rfl rfl rfl rfl ?_ ?_
  ·
   refine ov (EV.ld (v := .agg #[.slice Ax4_3_0 x4_3_0.length cx4_3_0, .int .i64 x4_3_1, .bool x4_3_2]) 2 (some 3) rfl rfl rfl) rfl (xs [] [0, 1, 2] rfl rfl rfl (one1 2 rfl rfl (op_lit (s := 1) (by_ := 8) (.int .i64) ([8, 9, 12] : List Int) [[], [], []] [] 3 [.const (.int .i64 8), .const (.int .i64 9), .const (.int .i64 12)] rfl rfl rfl rfl rfl rfl rfl rfl rfl rfl rfl rfl rfl dq rfl fun A23_6 c23_6 => (xs [] [0, 1, 2] rfl rfl rfl (one1 3 rfl rfl ?_)))))
   revert H; refine bdI ?_; rintro ⟨t7_0, t7_1, t7_2⟩ A7 H
   refine op_callM (spec_l1PickInt.ok b1000 l0_0 Al0_0 cl0_0 x4_1000_1 x4_1000_2 ([8, 9, 12] : List Int) A23_6 c23_6 _ _ _ A7) [⟨2, 0, 0, false⟩, ⟨3, 0, 0, false⟩] [0] [1, 2] 4 rfl rfl rfl rfl rfl rfl rfl rfl ?_
   rintro _ _ _ ⟨rfl, rfl, rfl⟩
   refine nmE (en := [.sl 2 k64 Ax4_2_0 cx4_2_0 x4_2_0 1 true, .sl 1 k64 Ax4_3_0 cx4_3_0 x4_3_0 2 true, .sl 0 (.int .u8) Al0_0 cl0_0 l0_0 0 false, .sl 2 (.int .i64) A23_6 c23_6 ([8, 9, 12] : List Int) 3 true]) (by kernel_rfl) (xs [] [0, 1, 2] rfl rfl rfl (one1 4 rfl rfl ?_))
   revert H; refine bdI ?_; rintro ⟨t8_0, t8_1, t8_2, t8_3, t8_4, t8_5⟩ A8 H
   refine op_call (spec_StepAggregator.ok n0 x4_3_0 Ax4_3_0 cx4_3_0 x4_3_1 x4_3_2 t7_0 _ _ _ _ _ _ A8) [⟨1, 0, 0, false⟩] 4 rfl rfl rfl rfl rfl ?_
   rintro _ _ _ ⟨At8_0, ct8_0, At8_3, ct8_3, rfl, rfl, rfl⟩
   refine xs [] [0, 1, 2] rfl rfl rfl (one1 5 rfl rfl (ov (EV.mv rfl) rfl (xs [] [0, 1, 2] rfl rfl rfl ?_)))
   refine one4 6 7 8 9 rfl rfl rfl rfl rfl rfl rfl rfl ?_ ?_ ?_ ?_
   ·
    refine ov (EV.ex rfl rfl) rfl (xs [] [0, 1, 2] rfl rfl rfl ?_)
    refine one4 7 8 9 10 rfl rfl rfl rfl rfl rfl rfl rfl ?_ ?_ ?_ ?_
    ·
     refine ov (EV.ex rfl rfl) rfl (xs [] [0, 1, 2] rfl rfl rfl ?_)
     refine one3 8 9 10 rfl rfl rfl rfl rfl rfl ?_ ?_ ?_
     ·
      refine ov (EV.ex rfl rfl) rfl (xs [] [0, 1, 2] rfl rfl rfl ?_)
      refine one2 9 10 rfl rfl rfl rfl ?_ ?_
      ·
       exact ov (EV.ex rfl rfl) rfl (xs [] [0, 1, 2] rfl rfl rfl (one1 10 rfl rfl (op_st (cs' := [.slice At8_0 t8_0.length ct8_0, .int .i64 t8_1, .bool t8_2]) 1 rfl rfl rfl rfl rfl rfl (xn rfl (xd (pr [0, 2, 3, 5] [0, 1, 2] [0, 2, 4] rfl rfl rfl rfl (ge (rg (sv (EV.mv rfl) rfl (sv (EV.sub rfl rfl) rfl (sv (EV.as rfl) rfl (re (wk [0, 2, 3, 5] [2, 0, 1] [⟨0, 2, 1, true⟩, ⟨2, 1, 2, true⟩, ⟨1, 0, 0, false⟩] (ih0 _ (by omega) _ ⟨wrap64 (x4_5 - 1), t7_1, t7_2, x4_2_0, Ax4_2_0, cx4_2_0, x4_2_1, x4_2_2, t8_0, At8_0, ct8_0, t8_1, t8_2, H, rfl⟩))))))))))))))
      ·
       exact op_st (cs' := [.slice At8_0 t8_0.length ct8_0, .int .i64 t8_1, .bool t8_2]) 1 rfl rfl rfl rfl rfl rfl (xn rfl (one1 9 rfl rfl (ov (EV.ex rfl rfl) rfl (xs [] [0, 1, 2] rfl rfl rfl (xd (pr [0, 2, 3, 5] [0, 1, 2] [0, 2, 4] rfl rfl rfl rfl (ge (rg (sv (EV.mv rfl) rfl (sv (EV.sub rfl rfl) rfl (sv (EV.as rfl) rfl (re (wk [0, 2, 3, 5] [2, 0, 1] [⟨0, 2, 1, true⟩, ⟨2, 1, 2, true⟩, ⟨1, 0, 0, false⟩] (ih0 _ (by omega) _ ⟨wrap64 (x4_5 - 1), t7_1, t7_2, x4_2_0, Ax4_2_0, cx4_2_0, x4_2_1, x4_2_2, t8_0, At8_0, ct8_0, t8_1, t8_2, H, rfl⟩))))))))))))))
     ·
      refine ov (EV.ex rfl rfl) rfl (xs [] [0, 1, 2] rfl rfl rfl ?_)
      refine one2 8 10 rfl rfl rfl rfl ?_ ?_
      ·
       exact ov (EV.ex rfl rfl) rfl (xs [] [0, 1, 2] rfl rfl rfl (one1 10 rfl rfl (op_st (cs' := [.slice At8_0 t8_0.length ct8_0, .int .i64 t8_1, .bool t8_2]) 1 rfl rfl rfl rfl rfl rfl (xn rfl (xd (pr [0, 2, 3, 5] [0, 1, 2] [0, 2, 4] rfl rfl rfl rfl (ge (rg (sv (EV.mv rfl) rfl (sv (EV.sub rfl rfl) rfl (sv (EV.as rfl) rfl (re (wk [0, 2, 3, 5] [2, 0, 1] [⟨0, 2, 1, true⟩, ⟨2, 1, 2, true⟩, ⟨1, 0, 0, false⟩] (ih0 _ (by omega) _ ⟨wrap64 (x4_5 - 1), t7_1, t7_2, x4_2_0, Ax4_2_0, cx4_2_0, x4_2_1, x4_2_2, t8_0, At8_0, ct8_0, t8_1, t8_2, H, rfl⟩))))))))))))))
      ·
       exact op_st (cs' := [.slice At8_0 t8_0.length ct8_0, .int .i64 t8_1, .bool t8_2]) 1 rfl rfl rfl rfl rfl rfl (xn rfl (one1 8 rfl rfl (ov (EV.ex rfl rfl) rfl (xs [] [0, 1, 2] rfl rfl rfl (xd (pr [0, 2, 3, 5] [0, 1, 2] [0, 2, 4] rfl rfl rfl rfl (ge (rg (sv (EV.mv rfl) rfl (sv (EV.sub rfl rfl) rfl (sv (EV.as rfl) rfl (re (wk [0, 2, 3, 5] [2, 0, 1] [⟨0, 2, 1, true⟩, ⟨2, 1, 2, true⟩, ⟨1, 0, 0, false⟩] (ih0 _ (by omega) _ ⟨wrap64 (x4_5 - 1), t7_1, t7_2, x4_2_0, Ax4_2_0, cx4_2_0, x4_2_1, x4_2_2, t8_0, At8_0, ct8_0, t8_1, t8_2, H, rfl⟩))))))))))))))
     ·
      refine op_st (cs' := [.slice At8_0 t8_0.length ct8_0, .int .i64 t8_1, .bool t8_2]) 1 rfl rfl rfl rfl rfl rfl (xn rfl ?_)
      refine one2 8 9 rfl rfl rfl rfl ?_ ?_
      ·
       exact ov (EV.ex rfl rfl) rfl (xs [] [0, 1, 2] rfl rfl rfl (one1 9 rfl rfl (ov (EV.ex rfl rfl) rfl (xs [] [0, 1, 2] rfl rfl rfl (xd (pr [0, 2, 3, 5] [0, 1, 2] [0, 2, 4] rfl rfl rfl rfl (ge (rg (sv (EV.mv rfl) rfl (sv (EV.sub rfl rfl) rfl (sv (EV.as rfl) rfl (re (wk [0, 2, 3, 5] [2, 0, 1] [⟨0, 2, 1, true⟩, ⟨2, 1, 2, true⟩, ⟨1, 0, 0, false⟩] (ih0 _ (by omega) _ ⟨wrap64 (x4_5 - 1), t7_1, t7_2, x4_2_0, Ax4_2_0, cx4_2_0, x4_2_1, x4_2_2, t8_0, At8_0, ct8_0, t8_1, t8_2, H, rfl⟩))))))))))))))
      ·
       exact ov (EV.ex rfl rfl) rfl (xs [] [0, 1, 2] rfl rfl rfl (one1 8 rfl rfl (ov (EV.ex rfl rfl) rfl (xs [] [0, 1, 2] rfl rfl rfl (xd (pr [0, 2, 3, 5] [0, 1, 2] [0, 2, 4] rfl rfl rfl rfl (ge (rg (sv (EV.mv rfl) rfl (sv (EV.sub rfl rfl) rfl (sv (EV.as rfl) rfl (re (wk [0, 2, 3, 5] [2, 0, 1] [⟨0, 2, 1, true⟩, ⟨2, 1, 2, true⟩, ⟨1, 0, 0, false⟩] (ih0 _ (by omega) _ ⟨wrap64 (x4_5 - 1), t7_1, t7_2, x4_2_0, Ax4_2_0, cx4_2_0, x4_2_1, x4_2_2, t8_0, At8_0, ct8_0, t8_1, t8_2, H, rfl⟩))))))))))))))
    ·
     refine ov (EV.ex rfl rfl) rfl (xs [] [0, 1, 2] rfl rfl rfl ?_)
     refine one3 7 9 10 rfl rfl rfl rfl rfl rfl ?_ ?_ ?_
     ·
      refine ov (EV.ex rfl rfl) rfl (xs [] [0, 1, 2] rfl rfl rfl ?_)
      refine one2 9 10 rfl rfl rfl rfl ?_ ?_
      ·
       exact ov (EV.ex rfl rfl) rfl (xs [] [0, 1, 2] rfl rfl rfl (one1 10 rfl rfl (op_st (cs' := [.slice At8_0 t8_0.length ct8_0, .int .i64 t8_1, .bool t8_2]) 1 rfl rfl rfl rfl rfl rfl (xn rfl (xd (pr [0, 2, 3, 5] [0, 1, 2] [0, 2, 4] rfl rfl rfl rfl (ge (rg (sv (EV.mv rfl) rfl (sv (EV.sub rfl rfl) rfl (sv (EV.as rfl) rfl (re (wk [0, 2, 3, 5] [2, 0, 1] [⟨0, 2, 1, true⟩, ⟨2, 1, 2, true⟩, ⟨1, 0, 0, false⟩] (ih0 _ (by omega) _ ⟨wrap64 (x4_5 - 1), t7_1, t7_2, x4_2_0, Ax4_2_0, cx4_2_0, x4_2_1, x4_2_2, t8_0, At8_0, ct8_0, t8_1, t8_2, H, rfl⟩))))))))))))))
      ·
       exact op_st (cs' := [.slice At8_0 t8_0.length ct8_0, .int .i64 t8_1, .bool t8_2]) 1 rfl rfl rfl rfl rfl rfl (xn rfl (one1 9 rfl rfl (ov (EV.ex rfl rfl) rfl (xs [] [0, 1, 2] rfl rfl rfl (xd (pr [0, 2, 3, 5] [0, 1, 2] [0, 2, 4] rfl rfl rfl rfl (ge (rg (sv (EV.mv rfl) rfl (sv (EV.sub rfl rfl) rfl (sv (EV.as rfl) rfl (re (wk [0, 2, 3, 5] [2, 0, 1] [⟨0, 2, 1, true⟩, ⟨2, 1, 2, true⟩, ⟨1, 0, 0, false⟩] (ih0 _ (by omega) _ ⟨wrap64 (x4_5 - 1), t7_1, t7_2, x4_2_0, Ax4_2_0, cx4_2_0, x4_2_1, x4_2_2, t8_0, At8_0, ct8_0, t8_1, t8_2, H, rfl⟩))))))))))))))
     ·
      refine ov (EV.ex rfl rfl) rfl (xs [] [0, 1, 2] rfl rfl rfl ?_)
      refine one2 7 10 rfl rfl rfl rfl ?_ ?_
      ·
       exact ov (EV.ex rfl rfl) rfl (xs [] [0, 1, 2] rfl rfl rfl (one1 10 rfl rfl (op_st (cs' := [.slice At8_0 t8_0.length ct8_0, .int .i64 t8_1, .bool t8_2]) 1 rfl rfl rfl rfl rfl rfl (xn rfl (xd (pr [0, 2, 3, 5] [0, 1, 2] [0, 2, 4] rfl rfl rfl rfl (ge (rg (sv (EV.mv rfl) rfl (sv (EV.sub rfl rfl) rfl (sv (EV.as rfl) rfl (re (wk [0, 2, 3, 5] [2, 0, 1] [⟨0, 2, 1, true⟩, ⟨2, 1, 2, true⟩, ⟨1, 0, 0, false⟩] (ih0 _ (by omega) _ ⟨wrap64 (x4_5 - 1), t7_1, t7_2, x4_2_0, Ax4_2_0, cx4_2_0, x4_2_1, x4_2_2, t8_0, At8_0, ct8_0, t8_1, t8_2, H, rfl⟩))))))))))))))
      ·
       exact op_st (cs' := [.slice At8_0 t8_0.length ct8_0, .int .i64 t8_1, .bool t8_2]) 1 rfl rfl rfl rfl rfl rfl (xn rfl (one1 7 rfl rfl (ov (EV.ex rfl rfl) rfl (xs [] [0, 1, 2] rfl rfl rfl (xd (pr [0, 2, 3, 5] [0, 1, 2] [0, 2, 4] rfl rfl rfl rfl (ge (rg (sv (EV.mv rfl) rfl (sv (EV.sub rfl rfl) rfl (sv (EV.as rfl) rfl (re (wk [0, 2, 3, 5] [2, 0, 1] [⟨0, 2, 1, true⟩, ⟨2, 1, 2, true⟩, ⟨1, 0, 0, false⟩] (ih0 _ (by omega) _ ⟨wrap64 (x4_5 - 1), t7_1, t7_2, x4_2_0, Ax4_2_0, cx4_2_0, x4_2_1, x4_2_2, t8_0, At8_0, ct8_0, t8_1, t8_2, H, rfl⟩))))))))))))))
     ·
      refine op_st (cs' := [.slice At8_0 t8_0.length ct8_0, .int .i64 t8_1, .bool t8_2]) 1 rfl rfl rfl rfl rfl rfl (xn rfl ?_)
      refine one2 7 9 rfl rfl rfl rfl ?_ ?_
      ·
       exact ov (EV.ex rfl rfl) rfl (xs [] [0, 1, 2] rfl rfl rfl (one1 9 rfl rfl (ov (EV.ex rfl rfl) rfl (xs [] [0, 1, 2] rfl rfl rfl (xd (pr [0, 2, 3, 5] [0, 1, 2] [0, 2, 4] rfl rfl rfl rfl (ge (rg (sv (EV.mv rfl) rfl (sv (EV.sub rfl rfl) rfl (sv (EV.as rfl) rfl (re (wk [0, 2, 3, 5] [2, 0, 1] [⟨0, 2, 1, true⟩, ⟨2, 1, 2, true⟩, ⟨1, 0, 0, false⟩] (ih0 _ (by omega) _ ⟨wrap64 (x4_5 - 1), t7_1, t7_2, x4_2_0, Ax4_2_0, cx4_2_0, x4_2_1, x4_2_2, t8_0, At8_0, ct8_0, t8_1, t8_2, H, rfl⟩))))))))))))))
      ·
       exact ov (EV.ex rfl rfl) rfl (xs [] [0, 1, 2] rfl rfl rfl (one1 7 rfl rfl (ov (EV.ex rfl rfl) rfl (xs [] [0, 1, 2] rfl rfl rfl (xd (pr [0, 2, 3, 5] [0, 1, 2] [0, 2, 4] rfl rfl rfl rfl (ge (rg (sv (EV.mv rfl) rfl (sv (EV.sub rfl rfl) rfl (sv (EV.as rfl) rfl (re (wk [0, 2, 3, 5] [2, 0, 1] [⟨0, 2, 1, true⟩, ⟨2, 1, 2, true⟩, ⟨1, 0, 0, false⟩] (ih0 _ (by omega) _ ⟨wrap64 (x4_5 - 1), t7_1, t7_2, x4_2_0, Ax4_2_0, cx4_2_0, x4_2_1, x4_2_2, t8_0, At8_0, ct8_0, t8_1, t8_2, H, rfl⟩))))))))))))))
    ·
     refine ov (EV.ex rfl rfl) rfl (xs [] [0, 1, 2] rfl rfl rfl ?_)
     refine one3 7 8 10 rfl rfl rfl rfl rfl rfl ?_ ?_ ?_
     ·
      refine ov (EV.ex rfl rfl) rfl (xs [] [0, 1, 2] rfl rfl rfl ?_)
      refine one2 8 10 rfl rfl rfl rfl ?_ ?_
      ·
       exact ov (EV.ex rfl rfl) rfl (xs [] [0, 1, 2] rfl rfl rfl (one1 10 rfl rfl (op_st (cs' := [.slice At8_0 t8_0.length ct8_0, .int .i64 t8_1, .bool t8_2]) 1 rfl rfl rfl rfl rfl rfl (xn rfl (xd (pr [0, 2, 3, 5] [0, 1, 2] [0, 2, 4] rfl rfl rfl rfl (ge (rg (sv (EV.mv rfl) rfl (sv (EV.sub rfl rfl) rfl (sv (EV.as rfl) rfl (re (wk [0, 2, 3, 5] [2, 0, 1] [⟨0, 2, 1, true⟩, ⟨2, 1, 2, true⟩, ⟨1, 0, 0, false⟩] (ih0 _ (by omega) _ ⟨wrap64 (x4_5 - 1), t7_1, t7_2, x4_2_0, Ax4_2_0, cx4_2_0, x4_2_1, x4_2_2, t8_0, At8_0, ct8_0, t8_1, t8_2, H, rfl⟩))))))))))))))
      ·
       exact op_st (cs' := [.slice At8_0 t8_0.length ct8_0, .int .i64 t8_1, .bool t8_2]) 1 rfl rfl rfl rfl rfl rfl (xn rfl (one1 8 rfl rfl (ov (EV.ex rfl rfl) rfl (xs [] [0, 1, 2] rfl rfl rfl (xd (pr [0, 2, 3, 5] [0, 1, 2] [0, 2, 4] rfl rfl rfl rfl (ge (rg (sv (EV.mv rfl) rfl (sv (EV.sub rfl rfl) rfl (sv (EV.as rfl) rfl (re (wk [0, 2, 3, 5] [2, 0, 1] [⟨0, 2, 1, true⟩, ⟨2, 1, 2, true⟩, ⟨1, 0, 0, false⟩] (ih0 _ (by omega) _ ⟨wrap64 (x4_5 - 1), t7_1, t7_2, x4_2_0, Ax4_2_0, cx4_2_0, x4_2_1, x4_2_2, t8_0, At8_0, ct8_0, t8_1, t8_2, H, rfl⟩))))))))))))))
     ·
      refine ov (EV.ex rfl rfl) rfl (xs [] [0, 1, 2] rfl rfl rfl ?_)
      refine one2 7 10 rfl rfl rfl rfl ?_ ?_
      ·
       exact ov (EV.ex rfl rfl) rfl (xs [] [0, 1, 2] rfl rfl rfl (one1 10 rfl rfl (op_st (cs' := [.slice At8_0 t8_0.length ct8_0, .int .i64 t8_1, .bool t8_2]) 1 rfl rfl rfl rfl rfl rfl (xn rfl (xd (pr [0, 2, 3, 5] [0, 1, 2] [0, 2, 4] rfl rfl rfl rfl (ge (rg (sv (EV.mv rfl) rfl (sv (EV.sub rfl rfl) rfl (sv (EV.as rfl) rfl (re (wk [0, 2, 3, 5] [2, 0, 1] [⟨0, 2, 1, true⟩, ⟨2, 1, 2, true⟩, ⟨1, 0, 0, false⟩] (ih0 _ (by omega) _ ⟨wrap64 (x4_5 - 1), t7_1, t7_2, x4_2_0, Ax4_2_0, cx4_2_0, x4_2_1, x4_2_2, t8_0, At8_0, ct8_0, t8_1, t8_2, H, rfl⟩))))))))))))))
      ·
       exact op_st (cs' := [.slice At8_0 t8_0.length ct8_0, .int .i64 t8_1, .bool t8_2]) 1 rfl rfl rfl rfl rfl rfl (xn rfl (one1 7 rfl rfl (ov (EV.ex rfl rfl) rfl (xs [] [0, 1, 2] rfl rfl rfl (xd (pr [0, 2, 3, 5] [0, 1, 2] [0, 2, 4] rfl rfl rfl rfl (ge (rg (sv (EV.mv rfl) rfl (sv (EV.sub rfl rfl) rfl (sv (EV.as rfl) rfl (re (wk [0, 2, 3, 5] [2, 0, 1] [⟨0, 2, 1, true⟩, ⟨2, 1, 2, true⟩, ⟨1, 0, 0, false⟩] (ih0 _ (by omega) _ ⟨wrap64 (x4_5 - 1), t7_1, t7_2, x4_2_0, Ax4_2_0, cx4_2_0, x4_2_1, x4_2_2, t8_0, At8_0, ct8_0, t8_1, t8_2, H, rfl⟩))))))))))))))
     ·
      refine op_st (cs' := [.slice At8_0 t8_0.length ct8_0, .int .i64 t8_1, .bool t8_2]) 1 rfl rfl rfl rfl rfl rfl (xn rfl ?_)
      refine one2 7 8 rfl rfl rfl rfl ?_ ?_
      ·
       exact ov (EV.ex rfl rfl) rfl (xs [] [0, 1, 2] rfl rfl rfl (one1 8 rfl rfl (ov (EV.ex rfl rfl) rfl (xs [] [0, 1, 2] rfl rfl rfl (xd (pr [0, 2, 3, 5] [0, 1, 2] [0, 2, 4] rfl rfl rfl rfl (ge (rg (sv (EV.mv rfl) rfl (sv (EV.sub rfl rfl) rfl (sv (EV.as rfl) rfl (re (wk [0, 2, 3, 5] [2, 0, 1] [⟨0, 2, 1, true⟩, ⟨2, 1, 2, true⟩, ⟨1, 0, 0, false⟩] (ih0 _ (by omega) _ ⟨wrap64 (x4_5 - 1), t7_1, t7_2, x4_2_0, Ax4_2_0, cx4_2_0, x4_2_1, x4_2_2, t8_0, At8_0, ct8_0, t8_1, t8_2, H, rfl⟩))))))))))))))
      ·
       exact ov (EV.ex rfl rfl) rfl (xs [] [0, 1, 2] rfl rfl rfl (one1 7 rfl rfl (ov (EV.ex rfl rfl) rfl (xs [] [0, 1, 2] rfl rfl rfl (xd (pr [0, 2, 3, 5] [0, 1, 2] [0, 2, 4] rfl rfl rfl rfl (ge (rg (sv (EV.mv rfl) rfl (sv (EV.sub rfl rfl) rfl (sv (EV.as rfl) rfl (re (wk [0, 2, 3, 5] [2, 0, 1] [⟨0, 2, 1, true⟩, ⟨2, 1, 2, true⟩, ⟨1, 0, 0, false⟩] (ih0 _ (by omega) _ ⟨wrap64 (x4_5 - 1), t7_1, t7_2, x4_2_0, Ax4_2_0, cx4_2_0, x4_2_1, x4_2_2, t8_0, At8_0, ct8_0, t8_1, t8_2, H, rfl⟩))))))))))))))
    ·
     refine op_st (cs' := [.slice At8_0 t8_0.length ct8_0, .int .i64 t8_1, .bool t8_2]) 1 rfl rfl rfl rfl rfl rfl (xn rfl ?_)
     refine one3 7 8 9 rfl rfl rfl rfl rfl rfl ?_ ?_ ?_
     ·
      refine ov (EV.ex rfl rfl) rfl (xs [] [0, 1, 2] rfl rfl rfl ?_)
      refine one2 8 9 rfl rfl rfl rfl ?_ ?_
      ·
       exact ov (EV.ex rfl rfl) rfl (xs [] [0, 1, 2] rfl rfl rfl (one1 9 rfl rfl (ov (EV.ex rfl rfl) rfl (xs [] [0, 1, 2] rfl rfl rfl (xd (pr [0, 2, 3, 5] [0, 1, 2] [0, 2, 4] rfl rfl rfl rfl (ge (rg (sv (EV.mv rfl) rfl (sv (EV.sub rfl rfl) rfl (sv (EV.as rfl) rfl (re (wk [0, 2, 3, 5] [2, 0, 1] [⟨0, 2, 1, true⟩, ⟨2, 1, 2, true⟩, ⟨1, 0, 0, false⟩] (ih0 _ (by omega) _ ⟨wrap64 (x4_5 - 1), t7_1, t7_2, x4_2_0, Ax4_2_0, cx4_2_0, x4_2_1, x4_2_2, t8_0, At8_0, ct8_0, t8_1, t8_2, H, rfl⟩))))))))))))))
      ·
       exact ov (EV.ex rfl rfl) rfl (xs [] [0, 1, 2] rfl rfl rfl (one1 8 rfl rfl (ov (EV.ex rfl rfl) rfl (xs [] [0, 1, 2] rfl rfl rfl (xd (pr [0, 2, 3, 5] [0, 1, 2] [0, 2, 4] rfl rfl rfl rfl (ge (rg (sv (EV.mv rfl) rfl (sv (EV.sub rfl rfl) rfl (sv (EV.as rfl) rfl (re (wk [0, 2, 3, 5] [2, 0, 1] [⟨0, 2, 1, true⟩, ⟨2, 1, 2, true⟩, ⟨1, 0, 0, false⟩] (ih0 _ (by omega) _ ⟨wrap64 (x4_5 - 1), t7_1, t7_2, x4_2_0, Ax4_2_0, cx4_2_0, x4_2_1, x4_2_2, t8_0, At8_0, ct8_0, t8_1, t8_2, H, rfl⟩))))))))))))))
     ·
      refine ov (EV.ex rfl rfl) rfl (xs [] [0, 1, 2] rfl rfl rfl ?_)
      refine one2 7 9 rfl rfl rfl rfl ?_ ?_
      ·
       exact ov (EV.ex rfl rfl) rfl (xs [] [0, 1, 2] rfl rfl rfl (one1 9 rfl rfl (ov (EV.ex rfl rfl) rfl (xs [] [0, 1, 2] rfl rfl rfl (xd (pr [0, 2, 3, 5] [0, 1, 2] [0, 2, 4] rfl rfl rfl rfl (ge (rg (sv (EV.mv rfl) rfl (sv (EV.sub rfl rfl) rfl (sv (EV.as rfl) rfl (re (wk [0, 2, 3, 5] [2, 0, 1] [⟨0, 2, 1, true⟩, ⟨2, 1, 2, true⟩, ⟨1, 0, 0, false⟩] (ih0 _ (by omega) _ ⟨wrap64 (x4_5 - 1), t7_1, t7_2, x4_2_0, Ax4_2_0, cx4_2_0, x4_2_1, x4_2_2, t8_0, At8_0, ct8_0, t8_1, t8_2, H, rfl⟩))))))))))))))
      ·
       exact ov (EV.ex rfl rfl) rfl (xs [] [0, 1, 2] rfl rfl rfl (one1 7 rfl rfl (ov (EV.ex rfl rfl) rfl (xs [] [0, 1, 2] rfl rfl rfl (xd (pr [0, 2, 3, 5] [0, 1, 2] [0, 2, 4] rfl rfl rfl rfl (ge (rg (sv (EV.mv rfl) rfl (sv (EV.sub rfl rfl) rfl (sv (EV.as rfl) rfl (re (wk [0, 2, 3, 5] [2, 0, 1] [⟨0, 2, 1, true⟩, ⟨2, 1, 2, true⟩, ⟨1, 0, 0, false⟩] (ih0 _ (by omega) _ ⟨wrap64 (x4_5 - 1), t7_1, t7_2, x4_2_0, Ax4_2_0, cx4_2_0, x4_2_1, x4_2_2, t8_0, At8_0, ct8_0, t8_1, t8_2, H, rfl⟩))))))))))))))
     ·
      refine ov (EV.ex rfl rfl) rfl (xs [] [0, 1, 2] rfl rfl rfl ?_)
      refine one2 7 8 rfl rfl rfl rfl ?_ ?_
      ·
       exact ov (EV.ex rfl rfl) rfl (xs [] [0, 1, 2] rfl rfl rfl (one1 8 rfl rfl (ov (EV.ex rfl rfl) rfl (xs [] [0, 1, 2] rfl rfl rfl (xd (pr [0, 2, 3, 5] [0, 1, 2] [0, 2, 4] rfl rfl rfl rfl (ge (rg (sv (EV.mv rfl) rfl (sv (EV.sub rfl rfl) rfl (sv (EV.as rfl) rfl (re (wk [0, 2, 3, 5] [2, 0, 1] [⟨0, 2, 1, true⟩, ⟨2, 1, 2, true⟩, ⟨1, 0, 0, false⟩] (ih0 _ (by omega) _ ⟨wrap64 (x4_5 - 1), t7_1, t7_2, x4_2_0, Ax4_2_0, cx4_2_0, x4_2_1, x4_2_2, t8_0, At8_0, ct8_0, t8_1, t8_2, H, rfl⟩))))))))))))))
      ·
       exact ov (EV.ex rfl rfl) rfl (xs [] [0, 1, 2] rfl rfl rfl (one1 7 rfl rfl (ov (EV.ex rfl rfl) rfl (xs [] [0, 1, 2] rfl rfl rfl (xd (pr [0, 2, 3, 5] [0, 1, 2] [0, 2, 4] rfl rfl rfl rfl (ge (rg (sv (EV.mv rfl) rfl (sv (EV.sub rfl rfl) rfl (sv (EV.as rfl) rfl (re (wk [0, 2, 3, 5] [2, 0, 1] [⟨0, 2, 1, true⟩, ⟨2, 1, 2, true⟩, ⟨1, 0, 0, false⟩] (ih0 _ (by omega) _ ⟨wrap64 (x4_5 - 1), t7_1, t7_2, x4_2_0, Ax4_2_0, cx4_2_0, x4_2_1, x4_2_2, t8_0, At8_0, ct8_0, t8_1, t8_2, H, rfl⟩))))))))))))))
   ·
    refine ov (EV.ex rfl rfl) rfl (xs [] [0, 1, 2] rfl rfl rfl ?_)
    refine one3 6 8 9 rfl rfl rfl rfl rfl rfl ?_ ?_ ?_
    ·
     refine ov (EV.ex rfl rfl) rfl (xs [] [0, 1, 2] rfl rfl rfl ?_)
     refine one3 8 9 10 rfl rfl rfl rfl rfl rfl ?_ ?_ ?_
     ·
      refine ov (EV.ex rfl rfl) rfl (xs [] [0, 1, 2] rfl rfl rfl ?_)
      refine one2 9 10 rfl rfl rfl rfl ?_ ?_
      ·
       exact ov (EV.ex rfl rfl) rfl (xs [] [0, 1, 2] rfl rfl rfl (one1 10 rfl rfl (op_st (cs' := [.slice At8_0 t8_0.length ct8_0, .int .i64 t8_1, .bool t8_2]) 1 rfl rfl rfl rfl rfl rfl (xn rfl (xd (pr [0, 2, 3, 5] [0, 1, 2] [0, 2, 4] rfl rfl rfl rfl (ge (rg (sv (EV.mv rfl) rfl (sv (EV.sub rfl rfl) rfl (sv (EV.as rfl) rfl (re (wk [0, 2, 3, 5] [2, 0, 1] [⟨0, 2, 1, true⟩, ⟨2, 1, 2, true⟩, ⟨1, 0, 0, false⟩] (ih0 _ (by omega) _ ⟨wrap64 (x4_5 - 1), t7_1, t7_2, x4_2_0, Ax4_2_0, cx4_2_0, x4_2_1, x4_2_2, t8_0, At8_0, ct8_0, t8_1, t8_2, H, rfl⟩))))))))))))))
      ·
       exact op_st (cs' := [.slice At8_0 t8_0.length ct8_0, .int .i64 t8_1, .bool t8_2]) 1 rfl rfl rfl rfl rfl rfl (xn rfl (one1 9 rfl rfl (ov (EV.ex rfl rfl) rfl (xs [] [0, 1, 2] rfl rfl rfl (xd (pr [0, 2, 3, 5] [0, 1, 2] [0, 2, 4] rfl rfl rfl rfl (ge (rg (sv (EV.mv rfl) rfl (sv (EV.sub rfl rfl) rfl (sv (EV.as rfl) rfl (re (wk [0, 2, 3, 5] [2, 0, 1] [⟨0, 2, 1, true⟩, ⟨2, 1, 2, true⟩, ⟨1, 0, 0, false⟩] (ih0 _ (by omega) _ ⟨wrap64 (x4_5 - 1), t7_1, t7_2, x4_2_0, Ax4_2_0, cx4_2_0, x4_2_1, x4_2_2, t8_0, At8_0, ct8_0, t8_1, t8_2, H, rfl⟩))))))))))))))
     ·
      refine ov (EV.ex rfl rfl) rfl (xs [] [0, 1, 2] rfl rfl rfl ?_)
      refine one2 8 10 rfl rfl rfl rfl ?_ ?_
      ·
       exact ov (EV.ex rfl rfl) rfl (xs [] [0, 1, 2] rfl rfl rfl (one1 10 rfl rfl (op_st (cs' := [.slice At8_0 t8_0.length ct8_0, .int .i64 t8_1, .bool t8_2]) 1 rfl rfl rfl rfl rfl rfl (xn rfl (xd (pr [0, 2, 3, 5] [0, 1, 2] [0, 2, 4] rfl rfl rfl rfl (ge (rg (sv (EV.mv rfl) rfl (sv (EV.sub rfl rfl) rfl (sv (EV.as rfl) rfl (re (wk [0, 2, 3, 5] [2, 0, 1] [⟨0, 2, 1, true⟩, ⟨2, 1, 2, true⟩, ⟨1, 0, 0, false⟩] (ih0 _ (by omega) _ ⟨wrap64 (x4_5 - 1), t7_1, t7_2, x4_2_0, Ax4_2_0, cx4_2_0, x4_2_1, x4_2_2, t8_0, At8_0, ct8_0, t8_1, t8_2, H, rfl⟩))))))))))))))
      ·
       exact op_st (cs' := [.slice At8_0 t8_0.length ct8_0, .int .i64 t8_1, .bool t8_2]) 1 rfl rfl rfl rfl rfl rfl (xn rfl (one1 8 rfl rfl (ov (EV.ex rfl rfl) rfl (xs [] [0, 1, 2] rfl rfl rfl (xd (pr [0, 2, 3, 5] [0, 1, 2] [0, 2, 4] rfl rfl rfl rfl (ge (rg (sv (EV.mv rfl) rfl (sv (EV.sub rfl rfl) rfl (sv (EV.as rfl) rfl (re (wk [0, 2, 3, 5] [2, 0, 1] [⟨0, 2, 1, true⟩, ⟨2, 1, 2, true⟩, ⟨1, 0, 0, false⟩] (ih0 _ (by omega) _ ⟨wrap64 (x4_5 - 1), t7_1, t7_2, x4_2_0, Ax4_2_0, cx4_2_0, x4_2_1, x4_2_2, t8_0, At8_0, ct8_0, t8_1, t8_2, H, rfl⟩))))))))))))))
     ·
      refine op_st (cs' := [.slice At8_0 t8_0.length ct8_0, .int .i64 t8_1, .bool t8_2]) 1 rfl rfl rfl rfl rfl rfl (xn rfl ?_)
      refine one2 8 9 rfl rfl rfl rfl ?_ ?_
      ·
       exact ov (EV.ex rfl rfl) rfl (xs [] [0, 1, 2] rfl rfl rfl (one1 9 rfl rfl (ov (EV.ex rfl rfl) rfl (xs [] [0, 1, 2] rfl rfl rfl (xd (pr [0, 2, 3, 5] [0, 1, 2] [0, 2, 4] rfl rfl rfl rfl (ge (rg (sv (EV.mv rfl) rfl (sv (EV.sub rfl rfl) rfl (sv (EV.as rfl) rfl (re (wk [0, 2, 3, 5] [2, 0, 1] [⟨0, 2, 1, true⟩, ⟨2, 1, 2, true⟩, ⟨1, 0, 0, false⟩] (ih0 _ (by omega) _ ⟨wrap64 (x4_5 - 1), t7_1, t7_2, x4_2_0, Ax4_2_0, cx4_2_0, x4_2_1, x4_2_2, t8_0, At8_0, ct8_0, t8_1, t8_2, H, rfl⟩))))))))))))))
      ·
       exact ov (EV.ex rfl rfl) rfl (xs [] [0, 1, 2] rfl rfl rfl (one1 8 rfl rfl (ov (EV.ex rfl rfl) rfl (xs [] [0, 1, 2] rfl rfl rfl (xd (pr [0, 2, 3, 5] [0, 1, 2] [0, 2, 4] rfl rfl rfl rfl (ge (rg (sv (EV.mv rfl) rfl (sv (EV.sub rfl rfl) rfl (sv (EV.as rfl) rfl (re (wk [0, 2, 3, 5] [2, 0, 1] [⟨0, 2, 1, true⟩, ⟨2, 1, 2, true⟩, ⟨1, 0, 0, false⟩] (ih0 _ (by omega) _ ⟨wrap64 (x4_5 - 1), t7_1, t7_2, x4_2_0, Ax4_2_0, cx4_2_0, x4_2_1, x4_2_2, t8_0, At8_0, ct8_0, t8_1, t8_2, H, rfl⟩))))))))))))))
    ·
     refine ov (EV.ex rfl rfl) rfl (xs [] [0, 1, 2] rfl rfl rfl ?_)
     refine one2 6 9 rfl rfl rfl rfl ?_ ?_
     ·
      refine ov (EV.ex rfl rfl) rfl (xs [] [0, 1, 2] rfl rfl rfl ?_)
      refine one2 9 10 rfl rfl rfl rfl ?_ ?_
      ·
       exact ov (EV.ex rfl rfl) rfl (xs [] [0, 1, 2] rfl rfl rfl (one1 10 rfl rfl (op_st (cs' := [.slice At8_0 t8_0.length ct8_0, .int .i64 t8_1, .bool t8_2]) 1 rfl rfl rfl rfl rfl rfl (xn rfl (xd (pr [0, 2, 3, 5] [0, 1, 2] [0, 2, 4] rfl rfl rfl rfl (ge (rg (sv (EV.mv rfl) rfl (sv (EV.sub rfl rfl) rfl (sv (EV.as rfl) rfl (re (wk [0, 2, 3, 5] [2, 0, 1] [⟨0, 2, 1, true⟩, ⟨2, 1, 2, true⟩, ⟨1, 0, 0, false⟩] (ih0 _ (by omega) _ ⟨wrap64 (x4_5 - 1), t7_1, t7_2, x4_2_0, Ax4_2_0, cx4_2_0, x4_2_1, x4_2_2, t8_0, At8_0, ct8_0, t8_1, t8_2, H, rfl⟩))))))))))))))
      ·
       exact op_st (cs' := [.slice At8_0 t8_0.length ct8_0, .int .i64 t8_1, .bool t8_2]) 1 rfl rfl rfl rfl rfl rfl (xn rfl (one1 9 rfl rfl (ov (EV.ex rfl rfl) rfl (xs [] [0, 1, 2] rfl rfl rfl (xd (pr [0, 2, 3, 5] [0, 1, 2] [0, 2, 4] rfl rfl rfl rfl (ge (rg (sv (EV.mv rfl) rfl (sv (EV.sub rfl rfl) rfl (sv (EV.as rfl) rfl (re (wk [0, 2, 3, 5] [2, 0, 1] [⟨0, 2, 1, true⟩, ⟨2, 1, 2, true⟩, ⟨1, 0, 0, false⟩] (ih0 _ (by omega) _ ⟨wrap64 (x4_5 - 1), t7_1, t7_2, x4_2_0, Ax4_2_0, cx4_2_0, x4_2_1, x4_2_2, t8_0, At8_0, ct8_0, t8_1, t8_2, H, rfl⟩))))))))))))))
     ·
      exact ov (EV.ex rfl rfl) rfl (xs [] [0, 1, 2] rfl rfl rfl (one1 6 rfl rfl (ov (EV.ex rfl rfl) rfl (xs [] [0, 1, 2] rfl rfl rfl (one1 10 rfl rfl (op_st (cs' := [.slice At8_0 t8_0.length ct8_0, .int .i64 t8_1, .bool t8_2]) 1 rfl rfl rfl rfl rfl rfl (xn rfl (xd (pr [0, 2, 3, 5] [0, 1, 2] [0, 2, 4] rfl rfl rfl rfl (ge (rg (sv (EV.mv rfl) rfl (sv (EV.sub rfl rfl) rfl (sv (EV.as rfl) rfl (re (wk [0, 2, 3, 5] [2, 0, 1] [⟨0, 2, 1, true⟩, ⟨2, 1, 2, true⟩, ⟨1, 0, 0, false⟩] (ih0 _ (by omega) _ ⟨wrap64 (x4_5 - 1), t7_1, t7_2, x4_2_0, Ax4_2_0, cx4_2_0, x4_2_1, x4_2_2, t8_0, At8_0, ct8_0, t8_1, t8_2, H, rfl⟩)))))))))))))))))
    ·
     refine ov (EV.ex rfl rfl) rfl (xs [] [0, 1, 2] rfl rfl rfl ?_)
     refine one2 6 8 rfl rfl rfl rfl ?_ ?_
     ·
      refine ov (EV.ex rfl rfl) rfl (xs [] [0, 1, 2] rfl rfl rfl ?_)
      refine one2 8 10 rfl rfl rfl rfl ?_ ?_
      ·
       exact ov (EV.ex rfl rfl) rfl (xs [] [0, 1, 2] rfl rfl rfl (one1 10 rfl rfl (op_st (cs' := [.slice At8_0 t8_0.length ct8_0, .int .i64 t8_1, .bool t8_2]) 1 rfl rfl rfl rfl rfl rfl (xn rfl (xd (pr [0, 2, 3, 5] [0, 1, 2] [0, 2, 4] rfl rfl rfl rfl (ge (rg (sv (EV.mv rfl) rfl (sv (EV.sub rfl rfl) rfl (sv (EV.as rfl) rfl (re (wk [0, 2, 3, 5] [2, 0, 1] [⟨0, 2, 1, true⟩, ⟨2, 1, 2, true⟩, ⟨1, 0, 0, false⟩] (ih0 _ (by omega) _ ⟨wrap64 (x4_5 - 1), t7_1, t7_2, x4_2_0, Ax4_2_0, cx4_2_0, x4_2_1, x4_2_2, t8_0, At8_0, ct8_0, t8_1, t8_2, H, rfl⟩))))))))))))))
      ·
       exact op_st (cs' := [.slice At8_0 t8_0.length ct8_0, .int .i64 t8_1, .bool t8_2]) 1 rfl rfl rfl rfl rfl rfl (xn rfl (one1 8 rfl rfl (ov (EV.ex rfl rfl) rfl (xs [] [0, 1, 2] rfl rfl rfl (xd (pr [0, 2, 3, 5] [0, 1, 2] [0, 2, 4] rfl rfl rfl rfl (ge (rg (sv (EV.mv rfl) rfl (sv (EV.sub rfl rfl) rfl (sv (EV.as rfl) rfl (re (wk [0, 2, 3, 5] [2, 0, 1] [⟨0, 2, 1, true⟩, ⟨2, 1, 2, true⟩, ⟨1, 0, 0, false⟩] (ih0 _ (by omega) _ ⟨wrap64 (x4_5 - 1), t7_1, t7_2, x4_2_0, Ax4_2_0, cx4_2_0, x4_2_1, x4_2_2, t8_0, At8_0, ct8_0, t8_1, t8_2, H, rfl⟩))))))))))))))
     ·
      exact ov (EV.ex rfl rfl) rfl (xs [] [0, 1, 2] rfl rfl rfl (one1 6 rfl rfl (ov (EV.ex rfl rfl) rfl (xs [] [0, 1, 2] rfl rfl rfl (one1 10 rfl rfl (op_st (cs' := [.slice At8_0 t8_0.length ct8_0, .int .i64 t8_1, .bool t8_2]) 1 rfl rfl rfl rfl rfl rfl (xn rfl (xd (pr [0, 2, 3, 5] [0, 1, 2] [0, 2, 4] rfl rfl rfl rfl (ge (rg (sv (EV.mv rfl) rfl (sv (EV.sub rfl rfl) rfl (sv (EV.as rfl) rfl (re (wk [0, 2, 3, 5] [2, 0, 1] [⟨0, 2, 1, true⟩, ⟨2, 1, 2, true⟩, ⟨1, 0, 0, false⟩] (ih0 _ (by omega) _ ⟨wrap64 (x4_5 - 1), t7_1, t7_2, x4_2_0, Ax4_2_0, cx4_2_0, x4_2_1, x4_2_2, t8_0, At8_0, ct8_0, t8_1, t8_2, H, rfl⟩)))))))))))))))))
   ·
    refine ov (EV.ex rfl rfl) rfl (xs [] [0, 1, 2] rfl rfl rfl ?_)
    refine one3 6 7 9 rfl rfl rfl rfl rfl rfl ?_ ?_ ?_
    ·
     refine ov (EV.ex rfl rfl) rfl (xs [] [0, 1, 2] rfl rfl rfl ?_)
     refine one3 7 9 10 rfl rfl rfl rfl rfl rfl ?_ ?_ ?_
     ·
      refine ov (EV.ex rfl rfl) rfl (xs [] [0, 1, 2] rfl rfl rfl ?_)
      refine one2 9 10 rfl rfl rfl rfl ?_ ?_
      ·
       exact ov (EV.ex rfl rfl) rfl (xs [] [0, 1, 2] rfl rfl rfl (one1 10 rfl rfl (op_st (cs' := [.slice At8_0 t8_0.length ct8_0, .int .i64 t8_1, .bool t8_2]) 1 rfl rfl rfl rfl rfl rfl (xn rfl (xd (pr [0, 2, 3, 5] [0, 1, 2] [0, 2, 4] rfl rfl rfl rfl (ge (rg (sv (EV.mv rfl) rfl (sv (EV.sub rfl rfl) rfl (sv (EV.as rfl) rfl (re (wk [0, 2, 3, 5] [2, 0, 1] [⟨0, 2, 1, true⟩, ⟨2, 1, 2, true⟩, ⟨1, 0, 0, false⟩] (ih0 _ (by omega) _ ⟨wrap64 (x4_5 - 1), t7_1, t7_2, x4_2_0, Ax4_2_0, cx4_2_0, x4_2_1, x4_2_2, t8_0, At8_0, ct8_0, t8_1, t8_2, H, rfl⟩))))))))))))))
      ·
       exact op_st (cs' := [.slice At8_0 t8_0.length ct8_0, .int .i64 t8_1, .bool t8_2]) 1 rfl rfl rfl rfl rfl rfl (xn rfl (one1 9 rfl rfl (ov (EV.ex rfl rfl) rfl (xs [] [0, 1, 2] rfl rfl rfl (xd (pr [0, 2, 3, 5] [0, 1, 2] [0, 2, 4] rfl rfl rfl rfl (ge (rg (sv (EV.mv rfl) rfl (sv (EV.sub rfl rfl) rfl (sv (EV.as rfl) rfl (re (wk [0, 2, 3, 5] [2, 0, 1] [⟨0, 2, 1, true⟩, ⟨2, 1, 2, true⟩, ⟨1, 0, 0, false⟩] (ih0 _ (by omega) _ ⟨wrap64 (x4_5 - 1), t7_1, t7_2, x4_2_0, Ax4_2_0, cx4_2_0, x4_2_1, x4_2_2, t8_0, At8_0, ct8_0, t8_1, t8_2, H, rfl⟩))))))))))))))
     ·
      refine ov (EV.ex rfl rfl) rfl (xs [] [0, 1, 2] rfl rfl rfl ?_)
      refine one2 7 10 rfl rfl rfl rfl ?_ ?_
      ·
       exact ov (EV.ex rfl rfl) rfl (xs [] [0, 1, 2] rfl rfl rfl (one1 10 rfl rfl (op_st (cs' := [.slice At8_0 t8_0.length ct8_0, .int .i64 t8_1, .bool t8_2]) 1 rfl rfl rfl rfl rfl rfl (xn rfl (xd (pr [0, 2, 3, 5] [0, 1, 2] [0, 2, 4] rfl rfl rfl rfl (ge (rg (sv (EV.mv rfl) rfl (sv (EV.sub rfl rfl) rfl (sv (EV.as rfl) rfl (re (wk [0, 2, 3, 5] [2, 0, 1] [⟨0, 2, 1, true⟩, ⟨2, 1, 2, true⟩, ⟨1, 0, 0, false⟩] (ih0 _ (by omega) _ ⟨wrap64 (x4_5 - 1), t7_1, t7_2, x4_2_0, Ax4_2_0, cx4_2_0, x4_2_1, x4_2_2, t8_0, At8_0, ct8_0, t8_1, t8_2, H, rfl⟩))))))))))))))
      ·
       exact op_st (cs' := [.slice At8_0 t8_0.length ct8_0, .int .i64 t8_1, .bool t8_2]) 1 rfl rfl rfl rfl rfl rfl (xn rfl (one1 7 rfl rfl (ov (EV.ex rfl rfl) rfl (xs [] [0, 1, 2] rfl rfl rfl (xd (pr [0, 2, 3, 5] [0, 1, 2] [0, 2, 4] rfl rfl rfl rfl (ge (rg (sv (EV.mv rfl) rfl (sv (EV.sub rfl rfl) rfl (sv (EV.as rfl) rfl (re (wk [0, 2, 3, 5] [2, 0, 1] [⟨0, 2, 1, true⟩, ⟨2, 1, 2, true⟩, ⟨1, 0, 0, false⟩] (ih0 _ (by omega) _ ⟨wrap64 (x4_5 - 1), t7_1, t7_2, x4_2_0, Ax4_2_0, cx4_2_0, x4_2_1, x4_2_2, t8_0, At8_0, ct8_0, t8_1, t8_2, H, rfl⟩))))))))))))))
     ·
      refine op_st (cs' := [.slice At8_0 t8_0.length ct8_0, .int .i64 t8_1, .bool t8_2]) 1 rfl rfl rfl rfl rfl rfl (xn rfl ?_)
      refine one2 7 9 rfl rfl rfl rfl ?_ ?_
      ·
       exact ov (EV.ex rfl rfl) rfl (xs [] [0, 1, 2] rfl rfl rfl (one1 9 rfl rfl (ov (EV.ex rfl rfl) rfl (xs [] [0, 1, 2] rfl rfl rfl (xd (pr [0, 2, 3, 5] [0, 1, 2] [0, 2, 4] rfl rfl rfl rfl (ge (rg (sv (EV.mv rfl) rfl (sv (EV.sub rfl rfl) rfl (sv (EV.as rfl) rfl (re (wk [0, 2, 3, 5] [2, 0, 1] [⟨0, 2, 1, true⟩, ⟨2, 1, 2, true⟩, ⟨1, 0, 0, false⟩] (ih0 _ (by omega) _ ⟨wrap64 (x4_5 - 1), t7_1, t7_2, x4_2_0, Ax4_2_0, cx4_2_0, x4_2_1, x4_2_2, t8_0, At8_0, ct8_0, t8_1, t8_2, H, rfl⟩))))))))))))))
      ·
       exact ov (EV.ex rfl rfl) rfl (xs [] [0, 1, 2] rfl rfl rfl (one1 7 rfl rfl (ov (EV.ex rfl rfl) rfl (xs [] [0, 1, 2] rfl rfl rfl (xd (pr [0, 2, 3, 5] [0, 1, 2] [0, 2, 4] rfl rfl rfl rfl (ge (rg (sv (EV.mv rfl) rfl (sv (EV.sub rfl rfl) rfl (sv (EV.as rfl) rfl (re (wk [0, 2, 3, 5] [2, 0, 1] [⟨0, 2, 1, true⟩, ⟨2, 1, 2, true⟩, ⟨1, 0, 0, false⟩] (ih0 _ (by omega) _ ⟨wrap64 (x4_5 - 1), t7_1, t7_2, x4_2_0, Ax4_2_0, cx4_2_0, x4_2_1, x4_2_2, t8_0, At8_0, ct8_0, t8_1, t8_2, H, rfl⟩))))))))))))))
    ·
     refine ov (EV.ex rfl rfl) rfl (xs [] [0, 1, 2] rfl rfl rfl ?_)
     refine one2 6 9 rfl rfl rfl rfl ?_ ?_
     ·
      refine ov (EV.ex rfl rfl) rfl (xs [] [0, 1, 2] rfl rfl rfl ?_)
      refine one2 9 10 rfl rfl rfl rfl ?_ ?_
      ·
       exact ov (EV.ex rfl rfl) rfl (xs [] [0, 1, 2] rfl rfl rfl (one1 10 rfl rfl (op_st (cs' := [.slice At8_0 t8_0.length ct8_0, .int .i64 t8_1, .bool t8_2]) 1 rfl rfl rfl rfl rfl rfl (xn rfl (xd (pr [0, 2, 3, 5] [0, 1, 2] [0, 2, 4] rfl rfl rfl rfl (ge (rg (sv (EV.mv rfl) rfl (sv (EV.sub rfl rfl) rfl (sv (EV.as rfl) rfl (re (wk [0, 2, 3, 5] [2, 0, 1] [⟨0, 2, 1, true⟩, ⟨2, 1, 2, true⟩, ⟨1, 0, 0, false⟩] (ih0 _ (by omega) _ ⟨wrap64 (x4_5 - 1), t7_1, t7_2, x4_2_0, Ax4_2_0, cx4_2_0, x4_2_1, x4_2_2, t8_0, At8_0, ct8_0, t8_1, t8_2, H, rfl⟩))))))))))))))
      ·
       exact op_st (cs' := [.slice At8_0 t8_0.length ct8_0, .int .i64 t8_1, .bool t8_2]) 1 rfl rfl rfl rfl rfl rfl (xn rfl (one1 9 rfl rfl (ov (EV.ex rfl rfl) rfl (xs [] [0, 1, 2] rfl rfl rfl (xd (pr [0, 2, 3, 5] [0, 1, 2] [0, 2, 4] rfl rfl rfl rfl (ge (rg (sv (EV.mv rfl) rfl (sv (EV.sub rfl rfl) rfl (sv (EV.as rfl) rfl (re (wk [0, 2, 3, 5] [2, 0, 1] [⟨0, 2, 1, true⟩, ⟨2, 1, 2, true⟩, ⟨1, 0, 0, false⟩] (ih0 _ (by omega) _ ⟨wrap64 (x4_5 - 1), t7_1, t7_2, x4_2_0, Ax4_2_0, cx4_2_0, x4_2_1, x4_2_2, t8_0, At8_0, ct8_0, t8_1, t8_2, H, rfl⟩))))))))))))))
     ·
      exact ov (EV.ex rfl rfl) rfl (xs [] [0, 1, 2] rfl rfl rfl (one1 6 rfl rfl (ov (EV.ex rfl rfl) rfl (xs [] [0, 1, 2] rfl rfl rfl (one1 10 rfl rfl (op_st (cs' := [.slice At8_0 t8_0.length ct8_0, .int .i64 t8_1, .bool t8_2]) 1 rfl rfl rfl rfl rfl rfl (xn rfl (xd (pr [0, 2, 3, 5] [0, 1, 2] [0, 2, 4] rfl rfl rfl rfl (ge (rg (sv (EV.mv rfl) rfl (sv (EV.sub rfl rfl) rfl (sv (EV.as rfl) rfl (re (wk [0, 2, 3, 5] [2, 0, 1] [⟨0, 2, 1, true⟩, ⟨2, 1, 2, true⟩, ⟨1, 0, 0, false⟩] (ih0 _ (by omega) _ ⟨wrap64 (x4_5 - 1), t7_1, t7_2, x4_2_0, Ax4_2_0, cx4_2_0, x4_2_1, x4_2_2, t8_0, At8_0, ct8_0, t8_1, t8_2, H, rfl⟩)))))))))))))))))
    ·
     refine ov (EV.ex rfl rfl) rfl (xs [] [0, 1, 2] rfl rfl rfl ?_)
     refine one2 6 7 rfl rfl rfl rfl ?_ ?_
     ·
      refine ov (EV.ex rfl rfl) rfl (xs [] [0, 1, 2] rfl rfl rfl ?_)
      refine one2 7 10 rfl rfl rfl rfl ?_ ?_
      ·
       exact ov (EV.ex rfl rfl) rfl (xs [] [0, 1, 2] rfl rfl rfl (one1 10 rfl rfl (op_st (cs' := [.slice At8_0 t8_0.length ct8_0, .int .i64 t8_1, .bool t8_2]) 1 rfl rfl rfl rfl rfl rfl (xn rfl (xd (pr [0, 2, 3, 5] [0, 1, 2] [0, 2, 4] rfl rfl rfl rfl (ge (rg (sv (EV.mv rfl) rfl (sv (EV.sub rfl rfl) rfl (sv (EV.as rfl) rfl (re (wk [0, 2, 3, 5] [2, 0, 1] [⟨0, 2, 1, true⟩, ⟨2, 1, 2, true⟩, ⟨1, 0, 0, false⟩] (ih0 _ (by omega) _ ⟨wrap64 (x4_5 - 1), t7_1, t7_2, x4_2_0, Ax4_2_0, cx4_2_0, x4_2_1, x4_2_2, t8_0, At8_0, ct8_0, t8_1, t8_2, H, rfl⟩))))))))))))))
      ·
       exact op_st (cs' := [.slice At8_0 t8_0.length ct8_0, .int .i64 t8_1, .bool t8_2]) 1 rfl rfl rfl rfl rfl rfl (xn rfl (one1 7 rfl rfl (ov (EV.ex rfl rfl) rfl (xs [] [0, 1, 2] rfl rfl rfl (xd (pr [0, 2, 3, 5] [0, 1, 2] [0, 2, 4] rfl rfl rfl rfl (ge (rg (sv (EV.mv rfl) rfl (sv (EV.sub rfl rfl) rfl (sv (EV.as rfl) rfl (re (wk [0, 2, 3, 5] [2, 0, 1] [⟨0, 2, 1, true⟩, ⟨2, 1, 2, true⟩, ⟨1, 0, 0, false⟩] (ih0 _ (by omega) _ ⟨wrap64 (x4_5 - 1), t7_1, t7_2, x4_2_0, Ax4_2_0, cx4_2_0, x4_2_1, x4_2_2, t8_0, At8_0, ct8_0, t8_1, t8_2, H, rfl⟩))))))))))))))
     ·
      exact ov (EV.ex rfl rfl) rfl (xs [] [0, 1, 2] rfl rfl rfl (one1 6 rfl rfl (ov (EV.ex rfl rfl) rfl (xs [] [0, 1, 2] rfl rfl rfl (one1 10 rfl rfl (op_st (cs' := [.slice At8_0 t8_0.length ct8_0, .int .i64 t8_1, .bool t8_2]) 1 rfl rfl rfl rfl rfl rfl (xn rfl (xd (pr [0, 2, 3, 5] [0, 1, 2] [0, 2, 4] rfl rfl rfl rfl (ge (rg (sv (EV.mv rfl) rfl (sv (EV.sub rfl rfl) rfl (sv (EV.as rfl) rfl (re (wk [0, 2, 3, 5] [2, 0, 1] [⟨0, 2, 1, true⟩, ⟨2, 1, 2, true⟩, ⟨1, 0, 0, false⟩] (ih0 _ (by omega) _ ⟨wrap64 (x4_5 - 1), t7_1, t7_2, x4_2_0, Ax4_2_0, cx4_2_0, x4_2_1, x4_2_2, t8_0, At8_0, ct8_0, t8_1, t8_2, H, rfl⟩)))))))))))))))))
   ·
    refine ov (EV.ex rfl rfl) rfl (xs [] [0, 1, 2] rfl rfl rfl ?_)
    refine one3 6 7 8 rfl rfl rfl rfl rfl rfl ?_ ?_ ?_
    ·
     refine ov (EV.ex rfl rfl) rfl (xs [] [0, 1, 2] rfl rfl rfl ?_)
     refine one3 7 8 10 rfl rfl rfl rfl rfl rfl ?_ ?_ ?_
     ·
      refine ov (EV.ex rfl rfl) rfl (xs [] [0, 1, 2] rfl rfl rfl ?_)
      refine one2 8 10 rfl rfl rfl rfl ?_ ?_
      ·
       exact ov (EV.ex rfl rfl) rfl (xs [] [0, 1, 2] rfl rfl rfl (one1 10 rfl rfl (op_st (cs' := [.slice At8_0 t8_0.length ct8_0, .int .i64 t8_1, .bool t8_2]) 1 rfl rfl rfl rfl rfl rfl (xn rfl (xd (pr [0, 2, 3, 5] [0, 1, 2] [0, 2, 4] rfl rfl rfl rfl (ge (rg (sv (EV.mv rfl) rfl (sv (EV.sub rfl rfl) rfl (sv (EV.as rfl) rfl (re (wk [0, 2, 3, 5] [2, 0, 1] [⟨0, 2, 1, true⟩, ⟨2, 1, 2, true⟩, ⟨1, 0, 0, false⟩] (ih0 _ (by omega) _ ⟨wrap64 (x4_5 - 1), t7_1, t7_2, x4_2_0, Ax4_2_0, cx4_2_0, x4_2_1, x4_2_2, t8_0, At8_0, ct8_0, t8_1, t8_2, H, rfl⟩))))))))))))))
      ·
       exact op_st (cs' := [.slice At8_0 t8_0.length ct8_0, .int .i64 t8_1, .bool t8_2]) 1 rfl rfl rfl rfl rfl rfl (xn rfl (one1 8 rfl rfl (ov (EV.ex rfl rfl) rfl (xs [] [0, 1, 2] rfl rfl rfl (xd (pr [0, 2, 3, 5] [0, 1, 2] [0, 2, 4] rfl rfl rfl rfl (ge (rg (sv (EV.mv rfl) rfl (sv (EV.sub rfl rfl) rfl (sv (EV.as rfl) rfl (re (wk [0, 2, 3, 5] [2, 0, 1] [⟨0, 2, 1, true⟩, ⟨2, 1, 2, true⟩, ⟨1, 0, 0, false⟩] (ih0 _ (by omega) _ ⟨wrap64 (x4_5 - 1), t7_1, t7_2, x4_2_0, Ax4_2_0, cx4_2_0, x4_2_1, x4_2_2, t8_0, At8_0, ct8_0, t8_1, t8_2, H, rfl⟩))))))))))))))
     ·
      refine ov (EV.ex rfl rfl) rfl (xs [] [0, 1, 2] rfl rfl rfl ?_)
      refine one2 7 10 rfl rfl rfl rfl ?_ ?_
      ·
       exact ov (EV.ex rfl rfl) rfl (xs [] [0, 1, 2] rfl rfl rfl (one1 10 rfl rfl (op_st (cs' := [.slice At8_0 t8_0.length ct8_0, .int .i64 t8_1, .bool t8_2]) 1 rfl rfl rfl rfl rfl rfl (xn rfl (xd (pr [0, 2, 3, 5] [0, 1, 2] [0, 2, 4] rfl rfl rfl rfl (ge (rg (sv (EV.mv rfl) rfl (sv (EV.sub rfl rfl) rfl (sv (EV.as rfl) rfl (re (wk [0, 2, 3, 5] [2, 0, 1] [⟨0, 2, 1, true⟩, ⟨2, 1, 2, true⟩, ⟨1, 0, 0, false⟩] (ih0 _ (by omega) _ ⟨wrap64 (x4_5 - 1), t7_1, t7_2, x4_2_0, Ax4_2_0, cx4_2_0, x4_2_1, x4_2_2, t8_0, At8_0, ct8_0, t8_1, t8_2, H, rfl⟩))))))))))))))
      ·
       exact op_st (cs' := [.slice At8_0 t8_0.length ct8_0, .int .i64 t8_1, .bool t8_2]) 1 rfl rfl rfl rfl rfl rfl (xn rfl (one1 7 rfl rfl (ov (EV.ex rfl rfl) rfl (xs [] [0, 1, 2] rfl rfl rfl (xd (pr [0, 2, 3, 5] [0, 1, 2] [0, 2, 4] rfl rfl rfl rfl (ge (rg (sv (EV.mv rfl) rfl (sv (EV.sub rfl rfl) rfl (sv (EV.as rfl) rfl (re (wk [0, 2, 3, 5] [2, 0, 1] [⟨0, 2, 1, true⟩, ⟨2, 1, 2, true⟩, ⟨1, 0, 0, false⟩] (ih0 _ (by omega) _ ⟨wrap64 (x4_5 - 1), t7_1, t7_2, x4_2_0, Ax4_2_0, cx4_2_0, x4_2_1, x4_2_2, t8_0, At8_0, ct8_0, t8_1, t8_2, H, rfl⟩))))))))))))))
     ·
      refine op_st (cs' := [.slice At8_0 t8_0.length ct8_0, .int .i64 t8_1, .bool t8_2]) 1 rfl rfl rfl rfl rfl rfl (xn rfl ?_)
      refine one2 7 8 rfl rfl rfl rfl ?_ ?_
      ·
       exact ov (EV.ex rfl rfl) rfl (xs [] [0, 1, 2] rfl rfl rfl (one1 8 rfl rfl (ov (EV.ex rfl rfl) rfl (xs [] [0, 1, 2] rfl rfl rfl (xd (pr [0, 2, 3, 5] [0, 1, 2] [0, 2, 4] rfl rfl rfl rfl (ge (rg (sv (EV.mv rfl) rfl (sv (EV.sub rfl rfl) rfl (sv (EV.as rfl) rfl (re (wk [0, 2, 3, 5] [2, 0, 1] [⟨0, 2, 1, true⟩, ⟨2, 1, 2, true⟩, ⟨1, 0, 0, false⟩] (ih0 _ (by omega) _ ⟨wrap64 (x4_5 - 1), t7_1, t7_2, x4_2_0, Ax4_2_0, cx4_2_0, x4_2_1, x4_2_2, t8_0, At8_0, ct8_0, t8_1, t8_2, H, rfl⟩))))))))))))))
      ·
       exact ov (EV.ex rfl rfl) rfl (xs [] [0, 1, 2] rfl rfl rfl (one1 7 rfl rfl (ov (EV.ex rfl rfl) rfl (xs [] [0, 1, 2] rfl rfl rfl (xd (pr [0, 2, 3, 5] [0, 1, 2] [0, 2, 4] rfl rfl rfl rfl (ge (rg (sv (EV.mv rfl) rfl (sv (EV.sub rfl rfl) rfl (sv (EV.as rfl) rfl (re (wk [0, 2, 3, 5] [2, 0, 1] [⟨0, 2, 1, true⟩, ⟨2, 1, 2, true⟩, ⟨1, 0, 0, false⟩] (ih0 _ (by omega) _ ⟨wrap64 (x4_5 - 1), t7_1, t7_2, x4_2_0, Ax4_2_0, cx4_2_0, x4_2_1, x4_2_2, t8_0, At8_0, ct8_0, t8_1, t8_2, H, rfl⟩))))))))))))))
    ·
     refine ov (EV.ex rfl rfl) rfl (xs [] [0, 1, 2] rfl rfl rfl ?_)
     refine one2 6 8 rfl rfl rfl rfl ?_ ?_
     ·
      refine ov (EV.ex rfl rfl) rfl (xs [] [0, 1, 2] rfl rfl rfl ?_)
      refine one2 8 10 rfl rfl rfl rfl ?_ ?_
      ·
       exact ov (EV.ex rfl rfl) rfl (xs [] [0, 1, 2] rfl rfl rfl (one1 10 rfl rfl (op_st (cs' := [.slice At8_0 t8_0.length ct8_0, .int .i64 t8_1, .bool t8_2]) 1 rfl rfl rfl rfl rfl rfl (xn rfl (xd (pr [0, 2, 3, 5] [0, 1, 2] [0, 2, 4] rfl rfl rfl rfl (ge (rg (sv (EV.mv rfl) rfl (sv (EV.sub rfl rfl) rfl (sv (EV.as rfl) rfl (re (wk [0, 2, 3, 5] [2, 0, 1] [⟨0, 2, 1, true⟩, ⟨2, 1, 2, true⟩, ⟨1, 0, 0, false⟩] (ih0 _ (by omega) _ ⟨wrap64 (x4_5 - 1), t7_1, t7_2, x4_2_0, Ax4_2_0, cx4_2_0, x4_2_1, x4_2_2, t8_0, At8_0, ct8_0, t8_1, t8_2, H, rfl⟩))))))))))))))
      ·
       exact op_st (cs' := [.slice At8_0 t8_0.length ct8_0, .int .i64 t8_1, .bool t8_2]) 1 rfl rfl rfl rfl rfl rfl (xn rfl (one1 8 rfl rfl (ov (EV.ex rfl rfl) rfl (xs [] [0, 1, 2] rfl rfl rfl (xd (pr [0, 2, 3, 5] [0, 1, 2] [0, 2, 4] rfl rfl rfl rfl (ge (rg (sv (EV.mv rfl) rfl (sv (EV.sub rfl rfl) rfl (sv (EV.as rfl) rfl (re (wk [0, 2, 3, 5] [2, 0, 1] [⟨0, 2, 1, true⟩, ⟨2, 1, 2, true⟩, ⟨1, 0, 0, false⟩] (ih0 _ (by omega) _ ⟨wrap64 (x4_5 - 1), t7_1, t7_2, x4_2_0, Ax4_2_0, cx4_2_0, x4_2_1, x4_2_2, t8_0, At8_0, ct8_0, t8_1, t8_2, H, rfl⟩))))))))))))))
     ·
      exact ov (EV.ex rfl rfl) rfl (xs [] [0, 1, 2] rfl rfl rfl (one1 6 rfl rfl (ov (EV.ex rfl rfl) rfl (xs [] [0, 1, 2] rfl rfl rfl (one1 10 rfl rfl (op_st (cs' := [.slice At8_0 t8_0.length ct8_0, .int .i64 t8_1, .bool t8_2]) 1 rfl rfl rfl rfl rfl rfl (xn rfl (xd (pr [0, 2, 3, 5] [0, 1, 2] [0, 2, 4] rfl rfl rfl rfl (ge (rg (sv (EV.mv rfl) rfl (sv (EV.sub rfl rfl) rfl (sv (EV.as rfl) rfl (re (wk [0, 2, 3, 5] [2, 0, 1] [⟨0, 2, 1, true⟩, ⟨2, 1, 2, true⟩, ⟨1, 0, 0, false⟩] (ih0 _ (by omega) _ ⟨wrap64 (x4_5 - 1), t7_1, t7_2, x4_2_0, Ax4_2_0, cx4_2_0, x4_2_1, x4_2_2, t8_0, At8_0, ct8_0, t8_1, t8_2, H, rfl⟩)))))))))))))))))
    ·
     refine ov (EV.ex rfl rfl) rfl (xs [] [0, 1, 2] rfl rfl rfl ?_)
     refine one2 6 7 rfl rfl rfl rfl ?_ ?_
     ·
      refine ov (EV.ex rfl rfl) rfl (xs [] [0, 1, 2] rfl rfl rfl ?_)
      refine one2 7 10 rfl rfl rfl rfl ?_ ?_
      ·
       exact ov (EV.ex rfl rfl) rfl (xs [] [0, 1, 2] rfl rfl rfl (one1 10 rfl rfl (op_st (cs' := [.slice At8_0 t8_0.length ct8_0, .int .i64 t8_1, .bool t8_2]) 1 rfl rfl rfl rfl rfl rfl (xn rfl (xd (pr [0, 2, 3, 5] [0, 1, 2] [0, 2, 4] rfl rfl rfl rfl (ge (rg (sv (EV.mv rfl) rfl (sv (EV.sub rfl rfl) rfl (sv (EV.as rfl) rfl (re (wk [0, 2, 3, 5] [2, 0, 1] [⟨0, 2, 1, true⟩, ⟨2, 1, 2, true⟩, ⟨1, 0, 0, false⟩] (ih0 _ (by omega) _ ⟨wrap64 (x4_5 - 1), t7_1, t7_2, x4_2_0, Ax4_2_0, cx4_2_0, x4_2_1, x4_2_2, t8_0, At8_0, ct8_0, t8_1, t8_2, H, rfl⟩))))))))))))))
      ·
       exact op_st (cs' := [.slice At8_0 t8_0.length ct8_0, .int .i64 t8_1, .bool t8_2]) 1 rfl rfl rfl rfl rfl rfl (xn rfl (one1 7 rfl rfl (ov (EV.ex rfl rfl) rfl (xs [] [0, 1, 2] rfl rfl rfl (xd (pr [0, 2, 3, 5] [0, 1, 2] [0, 2, 4] rfl rfl rfl rfl (ge (rg (sv (EV.mv rfl) rfl (sv (EV.sub rfl rfl) rfl (sv (EV.as rfl) rfl (re (wk [0, 2, 3, 5] [2, 0, 1] [⟨0, 2, 1, true⟩, ⟨2, 1, 2, true⟩, ⟨1, 0, 0, false⟩] (ih0 _ (by omega) _ ⟨wrap64 (x4_5 - 1), t7_1, t7_2, x4_2_0, Ax4_2_0, cx4_2_0, x4_2_1, x4_2_2, t8_0, At8_0, ct8_0, t8_1, t8_2, H, rfl⟩))))))))))))))
     ·
      exact ov (EV.ex rfl rfl) rfl (xs [] [0, 1, 2] rfl rfl rfl (one1 6 rfl rfl (ov (EV.ex rfl rfl) rfl (xs [] [0, 1, 2] rfl rfl rfl (one1 10 rfl rfl (op_st (cs' := [.slice At8_0 t8_0.length ct8_0, .int .i64 t8_1, .bool t8_2]) 1 rfl rfl rfl rfl rfl rfl (xn rfl (xd (pr [0, 2, 3, 5] [0, 1, 2] [0, 2, 4] rfl rfl rfl rfl (ge (rg (sv (EV.mv rfl) rfl (sv (EV.sub rfl rfl) rfl (sv (EV.as rfl) rfl (re (wk [0, 2, 3, 5] [2, 0, 1] [⟨0, 2, 1, true⟩, ⟨2, 1, 2, true⟩, ⟨1, 0, 0, false⟩] (ih0 _ (by omega) _ ⟨wrap64 (x4_5 - 1), t7_1, t7_2, x4_2_0, Ax4_2_0, cx4_2_0, x4_2_1, x4_2_2, t8_0, At8_0, ct8_0, t8_1, t8_2, H, rfl⟩)))))))))))))))))
  ·
   refine op_lit (s := 1) (by_ := 8) (.int .i64) ([8, 9, 12] : List Int) [[], [], []] [] 3 [.const (.int .i64 8), .const (.int .i64 9), .const (.int .i64 12)] rfl rfl rfl rfl rfl rfl rfl rfl rfl rfl rfl rfl rfl dq rfl fun A23_9 c23_9 => (xs [] [0, 1, 2] rfl rfl rfl ?_)
   refine one2 0 3 rfl rfl rfl rfl ?_ ?_
   ·
    refine ov (EV.ld (v := .agg #[.slice Ax4_3_0 x4_3_0.length cx4_3_0, .int .i64 x4_3_1, .bool x4_3_2]) 2 (some 3) rfl rfl rfl) rfl (xs [] [0, 1, 2] rfl rfl rfl (one1 3 rfl rfl ?_))
    revert H; refine bdI ?_; rintro ⟨t10_0, t10_1, t10_2⟩ A10 H
    refine op_callM (spec_l1PickInt.ok b1000 l0_0 Al0_0 cl0_0 x4_1000_1 x4_1000_2 ([8, 9, 12] : List Int) A23_9 c23_9 _ _ _ A10) [⟨2, 0, 0, false⟩, ⟨3, 0, 0, false⟩] [0] [1, 2] 4 rfl rfl rfl rfl rfl rfl rfl rfl ?_
    rintro _ _ _ ⟨rfl, rfl, rfl⟩
    refine nmE (en := [.sl 2 k64 Ax4_2_0 cx4_2_0 x4_2_0 1 true, .sl 1 k64 Ax4_3_0 cx4_3_0 x4_3_0 2 true, .sl 0 (.int .u8) Al0_0 cl0_0 l0_0 0 false, .sl 2 (.int .i64) A23_9 c23_9 ([8, 9, 12] : List Int) 3 true]) (by kernel_rfl) (xs [] [0, 1, 2] rfl rfl rfl (one1 4 rfl rfl ?_))
    revert H; refine bdI ?_; rintro ⟨t11_0, t11_1, t11_2, t11_3, t11_4, t11_5⟩ A11 H
    refine op_call (spec_StepAggregator.ok n0 x4_3_0 Ax4_3_0 cx4_3_0 x4_3_1 x4_3_2 t10_0 _ _ _ _ _ _ A11) [⟨1, 0, 0, false⟩] 4 rfl rfl rfl rfl rfl ?_
    rintro _ _ _ ⟨At11_0, ct11_0, At11_3, ct11_3, rfl, rfl, rfl⟩
    refine xs [] [0, 1, 2] rfl rfl rfl (one1 5 rfl rfl (ov (EV.mv rfl) rfl (xs [] [0, 1, 2] rfl rfl rfl ?_)))
    refine one4 6 7 8 9 rfl rfl rfl rfl rfl rfl rfl rfl ?_ ?_ ?_ ?_
    ·
     refine ov (EV.ex rfl rfl) rfl (xs [] [0, 1, 2] rfl rfl rfl ?_)
     refine one4 7 8 9 10 rfl rfl rfl rfl rfl rfl rfl rfl ?_ ?_ ?_ ?_
     ·
      refine ov (EV.ex rfl rfl) rfl (xs [] [0, 1, 2] rfl rfl rfl ?_)
      refine one3 8 9 10 rfl rfl rfl rfl rfl rfl ?_ ?_ ?_
      ·
       refine ov (EV.ex rfl rfl) rfl (xs [] [0, 1, 2] rfl rfl rfl ?_)
       refine one2 9 10 rfl rfl rfl rfl ?_ ?_
       ·
        exact ov (EV.ex rfl rfl) rfl (xs [] [0, 1, 2] rfl rfl rfl (one1 10 rfl rfl (op_st (cs' := [.slice At11_0 t11_0.length ct11_0, .int .i64 t11_1, .bool t11_2]) 1 rfl rfl rfl rfl rfl rfl (xn rfl (xd (pr [0, 2, 3, 5] [0, 1, 2] [0, 2, 4] rfl rfl rfl rfl (ge (rg (sv (EV.mv rfl) rfl (sv (EV.sub rfl rfl) rfl (sv (EV.as rfl) rfl (re (wk [0, 2, 3, 5] [2, 0, 1] [⟨0, 2, 1, true⟩, ⟨2, 1, 2, true⟩, ⟨1, 0, 0, false⟩] (ih0 _ (by omega) _ ⟨wrap64 (x4_5 - 1), t10_1, t10_2, x4_2_0, Ax4_2_0, cx4_2_0, x4_2_1, x4_2_2, t11_0, At11_0, ct11_0, t11_1, t11_2, H, rfl⟩))))))))))))))
       ·
        exact op_st (cs' := [.slice At11_0 t11_0.length ct11_0, .int .i64 t11_1, .bool t11_2]) 1 rfl rfl rfl rfl rfl rfl (xn rfl (one1 9 rfl rfl (ov (EV.ex rfl rfl) rfl (xs [] [0, 1, 2] rfl rfl rfl (xd (pr [0, 2, 3, 5] [0, 1, 2] [0, 2, 4] rfl rfl rfl rfl (ge (rg (sv (EV.mv rfl) rfl (sv (EV.sub rfl rfl) rfl (sv (EV.as rfl) rfl (re (wk [0, 2, 3, 5] [2, 0, 1] [⟨0, 2, 1, true⟩, ⟨2, 1, 2, true⟩, ⟨1, 0, 0, false⟩] (ih0 _ (by omega) _ ⟨wrap64 (x4_5 - 1), t10_1, t10_2, x4_2_0, Ax4_2_0, cx4_2_0, x4_2_1, x4_2_2, t11_0, At11_0, ct11_0, t11_1, t11_2, H, rfl⟩))))))))))))))
      ·
       refine ov (EV.ex rfl rfl) rfl (xs [] [0, 1, 2] rfl rfl rfl ?_)
       refine one2 8 10 rfl rfl rfl rfl ?_ ?_
       ·
        exact ov (EV.ex rfl rfl) rfl (xs [] [0, 1, 2] rfl rfl rfl (one1 10 rfl rfl (op_st (cs' := [.slice At11_0 t11_0.length ct11_0, .int .i64 t11_1, .bool t11_2]) 1 rfl rfl rfl rfl rfl rfl (xn rfl (xd (pr [0, 2, 3, 5] [0, 1, 2] [0, 2, 4] rfl rfl rfl rfl (ge (rg (sv (EV.mv rfl) rfl (sv (EV.sub rfl rfl) rfl (sv (EV.as rfl) rfl (re (wk [0, 2, 3, 5] [2, 0, 1] [⟨0, 2, 1, true⟩, ⟨2, 1, 2, true⟩, ⟨1, 0, 0, false⟩] (ih0 _ (by omega) _ ⟨wrap64 (x4_5 - 1), t10_1, t10_2, x4_2_0, Ax4_2_0, cx4_2_0, x4_2_1, x4_2_2, t11_0, At11_0, ct11_0, t11_1, t11_2, H, rfl⟩))))))))))))))
       ·
        exact op_st (cs' := [.slice At11_0 t11_0.length ct11_0, .int .i64 t11_1, .bool t11_2]) 1 rfl rfl rfl rfl rfl rfl (xn rfl (one1 8 rfl rfl (ov (EV.ex rfl rfl) rfl (xs [] [0, 1, 2] rfl rfl rfl (xd (pr [0, 2, 3, 5] [0, 1, 2] [0, 2, 4] rfl rfl rfl rfl (ge (rg (sv (EV.mv rfl) rfl (sv (EV.sub rfl rfl) rfl (sv (EV.as rfl) rfl (re (wk [0, 2, 3, 5] [2, 0, 1] [⟨0, 2, 1, true⟩, ⟨2, 1, 2, true⟩, ⟨1, 0, 0, false⟩] (ih0 _ (by omega) _ ⟨wrap64 (x4_5 - 1), t10_1, t10_2, x4_2_0, Ax4_2_0, cx4_2_0, x4_2_1, x4_2_2, t11_0, At11_0, ct11_0, t11_1, t11_2, H, rfl⟩))))))))))))))
      ·
       refine op_st (cs' := [.slice At11_0 t11_0.length ct11_0, .int .i64 t11_1, .bool t11_2]) 1 rfl rfl rfl rfl rfl rfl (xn rfl ?_)
       refine one2 8 9 rfl rfl rfl rfl ?_ ?_
       ·
        exact ov (EV.ex rfl rfl) rfl (xs [] [0, 1, 2] rfl rfl rfl (one1 9 rfl rfl (ov (EV.ex rfl rfl) rfl (xs [] [0, 1, 2] rfl rfl rfl (xd (pr [0, 2, 3, 5] [0, 1, 2] [0, 2, 4] rfl rfl rfl rfl (ge (rg (sv (EV.mv rfl) rfl (sv (EV.sub rfl rfl) rfl (sv (EV.as rfl) rfl (re (wk [0, 2, 3, 5] [2, 0, 1] [⟨0, 2, 1, true⟩, ⟨2, 1, 2, true⟩, ⟨1, 0, 0, false⟩] (ih0 _ (by omega) _ ⟨wrap64 (x4_5 - 1), t10_1, t10_2, x4_2_0, Ax4_2_0, cx4_2_0, x4_2_1, x4_2_2, t11_0, At11_0, ct11_0, t11_1, t11_2, H, rfl⟩))))))))))))))
       ·
        exact ov (EV.ex rfl rfl) rfl (xs [] [0, 1, 2] rfl rfl rfl (one1 8 rfl rfl (ov (EV.ex rfl rfl) rfl (xs [] [0, 1, 2] rfl rfl rfl (xd (pr [0, 2, 3, 5] [0, 1, 2] [0, 2, 4] rfl rfl rfl rfl (ge (rg (sv (EV.mv rfl) rfl (sv (EV.sub rfl rfl) rfl (sv (EV.as rfl) rfl (re (wk [0, 2, 3, 5] [2, 0, 1] [⟨0, 2, 1, true⟩, ⟨2, 1, 2, true⟩, ⟨1, 0, 0, false⟩] (ih0 _ (by omega) _ ⟨wrap64 (x4_5 - 1), t10_1, t10_2, x4_2_0, Ax4_2_0, cx4_2_0, x4_2_1, x4_2_2, t11_0, At11_0, ct11_0, t11_1, t11_2, H, rfl⟩))))))))))))))
     ·
      refine ov (EV.ex rfl rfl) rfl (xs [] [0, 1, 2] rfl rfl rfl ?_)
      refine one3 7 9 10 rfl rfl rfl rfl rfl rfl ?_ ?_ ?_
      ·
       refine ov (EV.ex rfl rfl) rfl (xs [] [0, 1, 2] rfl rfl rfl ?_)
       refine one2 9 10 rfl rfl rfl rfl ?_ ?_
       ·
        exact ov (EV.ex rfl rfl) rfl (xs [] [0, 1, 2] rfl rfl rfl (one1 10 rfl rfl (op_st (cs' := [.slice At11_0 t11_0.length ct11_0, .int .i64 t11_1, .bool t11_2]) 1 rfl rfl rfl rfl rfl rfl (xn rfl (xd (pr [0, 2, 3, 5] [0, 1, 2] [0, 2, 4] rfl rfl rfl rfl (ge (rg (sv (EV.mv rfl) rfl (sv (EV.sub rfl rfl) rfl (sv (EV.as rfl) rfl (re (wk [0, 2, 3, 5] [2, 0, 1] [⟨0, 2, 1, true⟩, ⟨2, 1, 2, true⟩, ⟨1, 0, 0, false⟩] (ih0 _ (by omega) _ ⟨wrap64 (x4_5 - 1), t10_1, t10_2, x4_2_0, Ax4_2_0, cx4_2_0, x4_2_1, x4_2_2, t11_0, At11_0, ct11_0, t11_1, t11_2, H, rfl⟩))))))))))))))
       ·
        exact op_st (cs' := [.slice At11_0 t11_0.length ct11_0, .int .i64 t11_1, .bool t11_2]) 1 rfl rfl rfl rfl rfl rfl (xn rfl (one1 9 rfl rfl (ov (EV.ex rfl rfl) rfl (xs [] [0, 1, 2] rfl rfl rfl (xd (pr [0, 2, 3, 5] [0, 1, 2] [0, 2, 4] rfl rfl rfl rfl (ge (rg (sv (EV.mv rfl) rfl (sv (EV.sub rfl rfl) rfl (sv (EV.as rfl) rfl (re (wk [0, 2, 3, 5] [2, 0, 1] [⟨0, 2, 1, true⟩, ⟨2, 1, 2, true⟩, ⟨1, 0, 0, false⟩] (ih0 _ (by omega) _ ⟨wrap64 (x4_5 - 1), t10_1, t10_2, x4_2_0, Ax4_2_0, cx4_2_0, x4_2_1, x4_2_2, t11_0, At11_0, ct11_0, t11_1, t11_2, H, rfl⟩))))))))))))))
      ·
       refine ov (EV.ex rfl rfl) rfl (xs [] [0, 1, 2] rfl rfl rfl ?_)
       refine one2 7 10 rfl rfl rfl rfl ?_ ?_
       ·
        exact ov (EV.ex rfl rfl) rfl (xs [] [0, 1, 2] rfl rfl rfl (one1 10 rfl rfl (op_st (cs' := [.slice At11_0 t11_0.length ct11_0, .int .i64 t11_1, .bool t11_2]) 1 rfl rfl rfl rfl rfl rfl (xn rfl (xd (pr [0, 2, 3, 5] [0, 1, 2] [0, 2, 4] rfl rfl rfl rfl (ge (rg (sv (EV.mv rfl) rfl (sv (EV.sub rfl rfl) rfl (sv (EV.as rfl) rfl (re (wk [0, 2, 3, 5] [2, 0, 1] [⟨0, 2, 1, true⟩, ⟨2, 1, 2, true⟩, ⟨1, 0, 0, false⟩] (ih0 _ (by omega) _ ⟨wrap64 (x4_5 - 1), t10_1, t10_2, x4_2_0, Ax4_2_0, cx4_2_0, x4_2_1, x4_2_2, t11_0, At11_0, ct11_0, t11_1, t11_2, H, rfl⟩))))))))))))))
       ·
        exact op_st (cs' := [.slice At11_0 t11_0.length ct11_0, .int .i64 t11_1, .bool t11_2]) 1 rfl rfl rfl rfl rfl rfl (xn rfl (one1 7 rfl rfl (ov (EV.ex rfl rfl) rfl (xs [] [0, 1, 2] rfl rfl rfl (xd (pr [0, 2, 3, 5] [0, 1, 2] [0, 2, 4] rfl rfl rfl rfl (ge (rg (sv (EV.mv rfl) rfl (sv (EV.sub rfl rfl) rfl (sv (EV.as rfl) rfl (re (wk [0, 2, 3, 5] [2, 0, 1] [⟨0, 2, 1, true⟩, ⟨2, 1, 2, true⟩, ⟨1, 0, 0, false⟩] (ih0 _ (by omega) _ ⟨wrap64 (x4_5 - 1), t10_1, t10_2, x4_2_0, Ax4_2_0, cx4_2_0, x4_2_1, x4_2_2, t11_0, At11_0, ct11_0, t11_1, t11_2, H, rfl⟩))))))))))))))
      ·
       refine op_st (cs' := [.slice At11_0 t11_0.length ct11_0, .int .i64 t11_1, .bool t11_2]) 1 rfl rfl rfl rfl rfl rfl (xn rfl ?_)
       refine one2 7 9 rfl rfl rfl rfl ?_ ?_
       ·
        exact ov (EV.ex rfl rfl) rfl (xs [] [0, 1, 2] rfl rfl rfl (one1 9 rfl rfl (ov (EV.ex rfl rfl) rfl (xs [] [0, 1, 2] rfl rfl rfl (xd (pr [0, 2, 3, 5] [0, 1, 2] [0, 2, 4] rfl rfl rfl rfl (ge (rg (sv (EV.mv rfl) rfl (sv (EV.sub rfl rfl) rfl (sv (EV.as rfl) rfl (re (wk [0, 2, 3, 5] [2, 0, 1] [⟨0, 2, 1, true⟩, ⟨2, 1, 2, true⟩, ⟨1, 0, 0, false⟩] (ih0 _ (by omega) _ ⟨wrap64 (x4_5 - 1), t10_1, t10_2, x4_2_0, Ax4_2_0, cx4_2_0, x4_2_1, x4_2_2, t11_0, At11_0, ct11_0, t11_1, t11_2, H, rfl⟩))))))))))))))
       ·
        exact ov (EV.ex rfl rfl) rfl (xs [] [0, 1, 2] rfl rfl rfl (one1 7 rfl rfl (ov (EV.ex rfl rfl) rfl (xs [] [0, 1, 2] rfl rfl rfl (xd (pr [0, 2, 3, 5] [0, 1, 2] [0, 2, 4] rfl rfl rfl rfl (ge (rg (sv (EV.mv rfl) rfl (sv (EV.sub rfl rfl) rfl (sv (EV.as rfl) rfl (re (wk [0, 2, 3, 5] [2, 0, 1] [⟨0, 2, 1, true⟩, ⟨2, 1, 2, true⟩, ⟨1, 0, 0, false⟩] (ih0 _ (by omega) _ ⟨wrap64 (x4_5 - 1), t10_1, t10_2, x4_2_0, Ax4_2_0, cx4_2_0, x4_2_1, x4_2_2, t11_0, At11_0, ct11_0, t11_1, t11_2, H, rfl⟩))))))))))))))
     ·
      refine ov (EV.ex rfl rfl) rfl (xs [] [0, 1, 2] rfl rfl rfl ?_)
      refine one3 7 8 10 rfl rfl rfl rfl rfl rfl ?_ ?_ ?_
      ·
       refine ov (EV.ex rfl rfl) rfl (xs [] [0, 1, 2] rfl rfl rfl ?_)
       refine one2 8 10 rfl rfl rfl rfl ?_ ?_
       ·
        exact ov (EV.ex rfl rfl) rfl (xs [] [0, 1, 2] rfl rfl rfl (one1 10 rfl rfl (op_st (cs' := [.slice At11_0 t11_0.length ct11_0, .int .i64 t11_1, .bool t11_2]) 1 rfl rfl rfl rfl rfl rfl (xn rfl (xd (pr [0, 2, 3, 5] [0, 1, 2] [0, 2, 4] rfl rfl rfl rfl (ge (rg (sv (EV.mv rfl) rfl (sv (EV.sub rfl rfl) rfl (sv (EV.as rfl) rfl (re (wk [0, 2, 3, 5] [2, 0, 1] [⟨0, 2, 1, true⟩, ⟨2, 1, 2, true⟩, ⟨1, 0, 0, false⟩] (ih0 _ (by omega) _ ⟨wrap64 (x4_5 - 1), t10_1, t10_2, x4_2_0, Ax4_2_0, cx4_2_0, x4_2_1, x4_2_2, t11_0, At11_0, ct11_0, t11_1, t11_2, H, rfl⟩))))))))))))))
       ·
        exact op_st (cs' := [.slice At11_0 t11_0.length ct11_0, .int .i64 t11_1, .bool t11_2]) 1 rfl rfl rfl rfl rfl rfl (xn rfl (one1 8 rfl rfl (ov (EV.ex rfl rfl) rfl (xs [] [0, 1, 2] rfl rfl rfl (xd (pr [0, 2, 3, 5] [0, 1, 2] [0, 2, 4] rfl rfl rfl rfl (ge (rg (sv (EV.mv rfl) rfl (sv (EV.sub rfl rfl) rfl (sv (EV.as rfl) rfl (re (wk [0, 2, 3, 5] [2, 0, 1] [⟨0, 2, 1, true⟩, ⟨2, 1, 2, true⟩, ⟨1, 0, 0, false⟩] (ih0 _ (by omega) _ ⟨wrap64 (x4_5 - 1), t10_1, t10_2, x4_2_0, Ax4_2_0, cx4_2_0, x4_2_1, x4_2_2, t11_0, At11_0, ct11_0, t11_1, t11_2, H, rfl⟩))))))))))))))
      ·
       refine ov (EV.ex rfl rfl) rfl (xs [] [0, 1, 2] rfl rfl rfl ?_)
       refine one2 7 10 rfl rfl rfl rfl ?_ ?_
       ·
        exact ov (EV.ex rfl rfl) rfl (xs [] [0, 1, 2] rfl rfl rfl (one1 10 rfl rfl (op_st (cs' := [.slice At11_0 t11_0.length ct11_0, .int .i64 t11_1, .bool t11_2]) 1 rfl rfl rfl rfl rfl rfl (xn rfl (xd (pr [0, 2, 3, 5] [0, 1, 2] [0, 2, 4] rfl rfl rfl rfl (ge (rg (sv (EV.mv rfl) rfl (sv (EV.sub rfl rfl) rfl (sv (EV.as rfl) rfl (re (wk [0, 2, 3, 5] [2, 0, 1] [⟨0, 2, 1, true⟩, ⟨2, 1, 2, true⟩, ⟨1, 0, 0, false⟩] (ih0 _ (by omega) _ ⟨wrap64 (x4_5 - 1), t10_1, t10_2, x4_2_0, Ax4_2_0, cx4_2_0, x4_2_1, x4_2_2, t11_0, At11_0, ct11_0, t11_1, t11_2, H, rfl⟩))))))))))))))
       ·
        exact op_st (cs' := [.slice At11_0 t11_0.length ct11_0, .int .i64 t11_1, .bool t11_2]) 1 rfl rfl rfl rfl rfl rfl (xn rfl (one1 7 rfl rfl (ov (EV.ex rfl rfl) rfl (xs [] [0, 1, 2] rfl rfl rfl (xd (pr [0, 2, 3, 5] [0, 1, 2] [0, 2, 4] rfl rfl rfl rfl (ge (rg (sv (EV.mv rfl) rfl (sv (EV.sub rfl rfl) rfl (sv (EV.as rfl) rfl (re (wk [0, 2, 3, 5] [2, 0, 1] [⟨0, 2, 1, true⟩, ⟨2, 1, 2, true⟩, ⟨1, 0, 0, false⟩] (ih0 _ (by omega) _ ⟨wrap64 (x4_5 - 1), t10_1, t10_2, x4_2_0, Ax4_2_0, cx4_2_0, x4_2_1, x4_2_2, t11_0, At11_0, ct11_0, t11_1, t11_2, H, rfl⟩))))))))))))))
      ·
       refine op_st (cs' := [.slice At11_0 t11_0.length ct11_0, .int .i64 t11_1, .bool t11_2]) 1 rfl rfl rfl rfl rfl rfl (xn rfl ?_)
       refine one2 7 8 rfl rfl rfl rfl ?_ ?_
       ·
        exact ov (EV.ex rfl rfl) rfl (xs [] [0, 1, 2] rfl rfl rfl (one1 8 rfl rfl (ov (EV.ex rfl rfl) rfl (xs [] [0, 1, 2] rfl rfl rfl (xd (pr [0, 2, 3, 5] [0, 1, 2] [0, 2, 4] rfl rfl rfl rfl (ge (rg (sv (EV.mv rfl) rfl (sv (EV.sub rfl rfl) rfl (sv (EV.as rfl) rfl (re (wk [0, 2, 3, 5] [2, 0, 1] [⟨0, 2, 1, true⟩, ⟨2, 1, 2, true⟩, ⟨1, 0, 0, false⟩] (ih0 _ (by omega) _ ⟨wrap64 (x4_5 - 1), t10_1, t10_2, x4_2_0, Ax4_2_0, cx4_2_0, x4_2_1, x4_2_2, t11_0, At11_0, ct11_0, t11_1, t11_2, H, rfl⟩))))))))))))))
       ·
        exact ov (EV.ex rfl rfl) rfl (xs [] [0, 1, 2] rfl rfl rfl (one1 7 rfl rfl (ov (EV.ex rfl rfl) rfl (xs [] [0, 1, 2] rfl rfl rfl (xd (pr [0, 2, 3, 5] [0, 1, 2] [0, 2, 4] rfl rfl rfl rfl (ge (rg (sv (EV.mv rfl) rfl (sv (EV.sub rfl rfl) rfl (sv (EV.as rfl) rfl (re (wk [0, 2, 3, 5] [2, 0, 1] [⟨0, 2, 1, true⟩, ⟨2, 1, 2, true⟩, ⟨1, 0, 0, false⟩] (ih0 _ (by omega) _ ⟨wrap64 (x4_5 - 1), t10_1, t10_2, x4_2_0, Ax4_2_0, cx4_2_0, x4_2_1, x4_2_2, t11_0, At11_0, ct11_0, t11_1, t11_2, H, rfl⟩))))))))))))))
     ·
      refine op_st (cs' := [.slice At11_0 t11_0.length ct11_0, .int .i64 t11_1, .bool t11_2]) 1 rfl rfl rfl rfl rfl rfl (xn rfl ?_)
      refine one3 7 8 9 rfl rfl rfl rfl rfl rfl ?_ ?_ ?_
      ·
       refine ov (EV.ex rfl rfl) rfl (xs [] [0, 1, 2] rfl rfl rfl ?_)
       refine one2 8 9 rfl rfl rfl rfl ?_ ?_
       ·
        exact ov (EV.ex rfl rfl) rfl (xs [] [0, 1, 2] rfl rfl rfl (one1 9 rfl rfl (ov (EV.ex rfl rfl) rfl (xs [] [0, 1, 2] rfl rfl rfl (xd (pr [0, 2, 3, 5] [0, 1, 2] [0, 2, 4] rfl rfl rfl rfl (ge (rg (sv (EV.mv rfl) rfl (sv (EV.sub rfl rfl) rfl (sv (EV.as rfl) rfl (re (wk [0, 2, 3, 5] [2, 0, 1] [⟨0, 2, 1, true⟩, ⟨2, 1, 2, true⟩, ⟨1, 0, 0, false⟩] (ih0 _ (by omega) _ ⟨wrap64 (x4_5 - 1), t10_1, t10_2, x4_2_0, Ax4_2_0, cx4_2_0, x4_2_1, x4_2_2, t11_0, At11_0, ct11_0, t11_1, t11_2, H, rfl⟩))))))))))))))
       ·
        exact ov (EV.ex rfl rfl) rfl (xs [] [0, 1, 2] rfl rfl rfl (one1 8 rfl rfl (ov (EV.ex rfl rfl) rfl (xs [] [0, 1, 2] rfl rfl rfl (xd (pr [0, 2, 3, 5] [0, 1, 2] [0, 2, 4] rfl rfl rfl rfl (ge (rg (sv (EV.mv rfl) rfl (sv (EV.sub rfl rfl) rfl (sv (EV.as rfl) rfl (re (wk [0, 2, 3, 5] [2, 0, 1] [⟨0, 2, 1, true⟩, ⟨2, 1, 2, true⟩, ⟨1, 0, 0, false⟩] (ih0 _ (by omega) _ ⟨wrap64 (x4_5 - 1), t10_1, t10_2, x4_2_0, Ax4_2_0, cx4_2_0, x4_2_1, x4_2_2, t11_0, At11_0, ct11_0, t11_1, t11_2, H, rfl⟩))))))))))))))
      ·
       refine ov (EV.ex rfl rfl) rfl (xs [] [0, 1, 2] rfl rfl rfl ?_)
       refine one2 7 9 rfl rfl rfl rfl ?_ ?_
       ·
        exact ov (EV.ex rfl rfl) rfl (xs [] [0, 1, 2] rfl rfl rfl (one1 9 rfl rfl (ov (EV.ex rfl rfl) rfl (xs [] [0, 1, 2] rfl rfl rfl (xd (pr [0, 2, 3, 5] [0, 1, 2] [0, 2, 4] rfl rfl rfl rfl (ge (rg (sv (EV.mv rfl) rfl (sv (EV.sub rfl rfl) rfl (sv (EV.as rfl) rfl (re (wk [0, 2, 3, 5] [2, 0, 1] [⟨0, 2, 1, true⟩, ⟨2, 1, 2, true⟩, ⟨1, 0, 0, false⟩] (ih0 _ (by omega) _ ⟨wrap64 (x4_5 - 1), t10_1, t10_2, x4_2_0, Ax4_2_0, cx4_2_0, x4_2_1, x4_2_2, t11_0, At11_0, ct11_0, t11_1, t11_2, H, rfl⟩))))))))))))))
       ·
        exact ov (EV.ex rfl rfl) rfl (xs [] [0, 1, 2] rfl rfl rfl (one1 7 rfl rfl (ov (EV.ex rfl rfl) rfl (xs [] [0, 1, 2] rfl rfl rfl (xd (pr [0, 2, 3, 5] [0, 1, 2] [0, 2, 4] rfl rfl rfl rfl (ge (rg (sv (EV.mv rfl) rfl (sv (EV.sub rfl rfl) rfl (sv (EV.as rfl) rfl (re (wk [0, 2, 3, 5] [2, 0, 1] [⟨0, 2, 1, true⟩, ⟨2, 1, 2, true⟩, ⟨1, 0, 0, false⟩] (ih0 _ (by omega) _ ⟨wrap64 (x4_5 - 1), t10_1, t10_2, x4_2_0, Ax4_2_0, cx4_2_0, x4_2_1, x4_2_2, t11_0, At11_0, ct11_0, t11_1, t11_2, H, rfl⟩))))))))))))))
      ·
       refine ov (EV.ex rfl rfl) rfl (xs [] [0, 1, 2] rfl rfl rfl ?_)
       refine one2 7 8 rfl rfl rfl rfl ?_ ?_
       ·
        exact ov (EV.ex rfl rfl) rfl (xs [] [0, 1, 2] rfl rfl rfl (one1 8 rfl rfl (ov (EV.ex rfl rfl) rfl (xs [] [0, 1, 2] rfl rfl rfl (xd (pr [0, 2, 3, 5] [0, 1, 2] [0, 2, 4] rfl rfl rfl rfl (ge (rg (sv (EV.mv rfl) rfl (sv (EV.sub rfl rfl) rfl (sv (EV.as rfl) rfl (re (wk [0, 2, 3, 5] [2, 0, 1] [⟨0, 2, 1, true⟩, ⟨2, 1, 2, true⟩, ⟨1, 0, 0, false⟩] (ih0 _ (by omega) _ ⟨wrap64 (x4_5 - 1), t10_1, t10_2, x4_2_0, Ax4_2_0, cx4_2_0, x4_2_1, x4_2_2, t11_0, At11_0, ct11_0, t11_1, t11_2, H, rfl⟩))))))))))))))
       ·
        exact ov (EV.ex rfl rfl) rfl (xs [] [0, 1, 2] rfl rfl rfl (one1 7 rfl rfl (ov (EV.ex rfl rfl) rfl (xs [] [0, 1, 2] rfl rfl rfl (xd (pr [0, 2, 3, 5] [0, 1, 2] [0, 2, 4] rfl rfl rfl rfl (ge (rg (sv (EV.mv rfl) rfl (sv (EV.sub rfl rfl) rfl (sv (EV.as rfl) rfl (re (wk [0, 2, 3, 5] [2, 0, 1] [⟨0, 2, 1, true⟩, ⟨2, 1, 2, true⟩, ⟨1, 0, 0, false⟩] (ih0 _ (by omega) _ ⟨wrap64 (x4_5 - 1), t10_1, t10_2, x4_2_0, Ax4_2_0, cx4_2_0, x4_2_1, x4_2_2, t11_0, At11_0, ct11_0, t11_1, t11_2, H, rfl⟩))))))))))))))
    ·
     refine ov (EV.ex rfl rfl) rfl (xs [] [0, 1, 2] rfl rfl rfl ?_)
     refine one3 6 8 9 rfl rfl rfl rfl rfl rfl ?_ ?_ ?_
     ·
      refine ov (EV.ex rfl rfl) rfl (xs [] [0, 1, 2] rfl rfl rfl ?_)
      refine one3 8 9 10 rfl rfl rfl rfl rfl rfl ?_ ?_ ?_
      ·
       refine ov (EV.ex rfl rfl) rfl (xs [] [0, 1, 2] rfl rfl rfl ?_)
       refine one2 9 10 rfl rfl rfl rfl ?_ ?_
       ·
        exact ov (EV.ex rfl rfl) rfl (xs [] [0, 1, 2] rfl rfl rfl (one1 10 rfl rfl (op_st (cs' := [.slice At11_0 t11_0.length ct11_0, .int .i64 t11_1, .bool t11_2]) 1 rfl rfl rfl rfl rfl rfl (xn rfl (xd (pr [0, 2, 3, 5] [0, 1, 2] [0, 2, 4] rfl rfl rfl rfl (ge (rg (sv (EV.mv rfl) rfl (sv (EV.sub rfl rfl) rfl (sv (EV.as rfl) rfl (re (wk [0, 2, 3, 5] [2, 0, 1] [⟨0, 2, 1, true⟩, ⟨2, 1, 2, true⟩, ⟨1, 0, 0, false⟩] (ih0 _ (by omega) _ ⟨wrap64 (x4_5 - 1), t10_1, t10_2, x4_2_0, Ax4_2_0, cx4_2_0, x4_2_1, x4_2_2, t11_0, At11_0, ct11_0, t11_1, t11_2, H, rfl⟩))))))))))))))
       ·
        exact op_st (cs' := [.slice At11_0 t11_0.length ct11_0, .int .i64 t11_1, .bool t11_2]) 1 rfl rfl rfl rfl rfl rfl (xn rfl (one1 9 rfl rfl (ov (EV.ex rfl rfl) rfl (xs [] [0, 1, 2] rfl rfl rfl (xd (pr [0, 2, 3, 5] [0, 1, 2] [0, 2, 4] rfl rfl rfl rfl (ge (rg (sv (EV.mv rfl) rfl (sv (EV.sub rfl rfl) rfl (sv (EV.as rfl) rfl (re (wk [0, 2, 3, 5] [2, 0, 1] [⟨0, 2, 1, true⟩, ⟨2, 1, 2, true⟩, ⟨1, 0, 0, false⟩] (ih0 _ (by omega) _ ⟨wrap64 (x4_5 - 1), t10_1, t10_2, x4_2_0, Ax4_2_0, cx4_2_0, x4_2_1, x4_2_2, t11_0, At11_0, ct11_0, t11_1, t11_2, H, rfl⟩))))))))))))))
      ·
       refine ov (EV.ex rfl rfl) rfl (xs [] [0, 1, 2] rfl rfl rfl ?_)
       refine one2 8 10 rfl rfl rfl rfl ?_ ?_
       ·
        exact ov (EV.ex rfl rfl) rfl (xs [] [0, 1, 2] rfl rfl rfl (one1 10 rfl rfl (op_st (cs' := [.slice At11_0 t11_0.length ct11_0, .int .i64 t11_1, .bool t11_2]) 1 rfl rfl rfl rfl rfl rfl (xn rfl (xd (pr [0, 2, 3, 5] [0, 1, 2] [0, 2, 4] rfl rfl rfl rfl (ge (rg (sv (EV.mv rfl) rfl (sv (EV.sub rfl rfl) rfl (sv (EV.as rfl) rfl (re (wk [0, 2, 3, 5] [2, 0, 1] [⟨0, 2, 1, true⟩, ⟨2, 1, 2, true⟩, ⟨1, 0, 0, false⟩] (ih0 _ (by omega) _ ⟨wrap64 (x4_5 - 1), t10_1, t10_2, x4_2_0, Ax4_2_0, cx4_2_0, x4_2_1, x4_2_2, t11_0, At11_0, ct11_0, t11_1, t11_2, H, rfl⟩))))))))))))))
       ·
        exact op_st (cs' := [.slice At11_0 t11_0.length ct11_0, .int .i64 t11_1, .bool t11_2]) 1 rfl rfl rfl rfl rfl rfl (xn rfl (one1 8 rfl rfl (ov (EV.ex rfl rfl) rfl (xs [] [0, 1, 2] rfl rfl rfl (xd (pr [0, 2, 3, 5] [0, 1, 2] [0, 2, 4] rfl rfl rfl rfl (ge (rg (sv (EV.mv rfl) rfl (sv (EV.sub rfl rfl) rfl (sv (EV.as rfl) rfl (re (wk [0, 2, 3, 5] [2, 0, 1] [⟨0, 2, 1, true⟩, ⟨2, 1, 2, true⟩, ⟨1, 0, 0, false⟩] (ih0 _ (by omega) _ ⟨wrap64 (x4_5 - 1), t10_1, t10_2, x4_2_0, Ax4_2_0, cx4_2_0, x4_2_1, x4_2_2, t11_0, At11_0, ct11_0, t11_1, t11_2, H, rfl⟩))))))))))))))
      ·
       refine op_st (cs' := [.slice At11_0 t11_0.length ct11_0, .int .i64 t11_1, .bool t11_2]) 1 rfl rfl rfl rfl rfl rfl (xn rfl ?_)
       refine one2 8 9 rfl rfl rfl rfl ?_ ?_
       ·
        exact ov (EV.ex rfl rfl) rfl (xs [] [0, 1, 2] rfl rfl rfl (one1 9 rfl rfl (ov (EV.ex rfl rfl) rfl (xs [] [0, 1, 2] rfl rfl rfl (xd (pr [0, 2, 3, 5] [0, 1, 2] [0, 2, 4] rfl rfl rfl rfl (ge (rg (sv (EV.mv rfl) rfl (sv (EV.sub rfl rfl) rfl (sv (EV.as rfl) rfl (re (wk [0, 2, 3, 5] [2, 0, 1] [⟨0, 2, 1, true⟩, ⟨2, 1, 2, true⟩, ⟨1, 0, 0, false⟩] (ih0 _ (by omega) _ ⟨wrap64 (x4_5 - 1), t10_1, t10_2, x4_2_0, Ax4_2_0, cx4_2_0, x4_2_1, x4_2_2, t11_0, At11_0, ct11_0, t11_1, t11_2, H, rfl⟩))))))))))))))
       ·
        exact ov (EV.ex rfl rfl) rfl (xs [] [0, 1, 2] rfl rfl rfl (one1 8 rfl rfl (ov (EV.ex rfl rfl) rfl (xs [] [0, 1, 2] rfl rfl rfl (xd (pr [0, 2, 3, 5] [0, 1, 2] [0, 2, 4] rfl rfl rfl rfl (ge (rg (sv (EV.mv rfl) rfl (sv (EV.sub rfl rfl) rfl (sv (EV.as rfl) rfl (re (wk [0, 2, 3, 5] [2, 0, 1] [⟨0, 2, 1, true⟩, ⟨2, 1, 2, true⟩, ⟨1, 0, 0, false⟩] (ih0 _ (by omega) _ ⟨wrap64 (x4_5 - 1), t10_1, t10_2, x4_2_0, Ax4_2_0, cx4_2_0, x4_2_1, x4_2_2, t11_0, At11_0, ct11_0, t11_1, t11_2, H, rfl⟩))))))))))))))
     ·
      refine ov (EV.ex rfl rfl) rfl (xs [] [0, 1, 2] rfl rfl rfl ?_)
      refine one2 6 9 rfl rfl rfl rfl ?_ ?_
      ·
       refine ov (EV.ex rfl rfl) rfl (xs [] [0, 1, 2] rfl rfl rfl ?_)
       refine one2 9 10 rfl rfl rfl rfl ?_ ?_
       ·
        exact ov (EV.ex rfl rfl) rfl (xs [] [0, 1, 2] rfl rfl rfl (one1 10 rfl rfl (op_st (cs' := [.slice At11_0 t11_0.length ct11_0, .int .i64 t11_1, .bool t11_2]) 1 rfl rfl rfl rfl rfl rfl (xn rfl (xd (pr [0, 2, 3, 5] [0, 1, 2] [0, 2, 4] rfl rfl rfl rfl (ge (rg (sv (EV.mv rfl) rfl (sv (EV.sub rfl rfl) rfl (sv (EV.as rfl) rfl (re (wk [0, 2, 3, 5] [2, 0, 1] [⟨0, 2, 1, true⟩, ⟨2, 1, 2, true⟩, ⟨1, 0, 0, false⟩] (ih0 _ (by omega) _ ⟨wrap64 (x4_5 - 1), t10_1, t10_2, x4_2_0, Ax4_2_0, cx4_2_0, x4_2_1, x4_2_2, t11_0, At11_0, ct11_0, t11_1, t11_2, H, rfl⟩))))))))))))))
       ·
        exact op_st (cs' := [.slice At11_0 t11_0.length ct11_0, .int .i64 t11_1, .bool t11_2]) 1 rfl rfl rfl rfl rfl rfl (xn rfl (one1 9 rfl rfl (ov (EV.ex rfl rfl) rfl (xs [] [0, 1, 2] rfl rfl rfl (xd (pr [0, 2, 3, 5] [0, 1, 2] [0, 2, 4] rfl rfl rfl rfl (ge (rg (sv (EV.mv rfl) rfl (sv (EV.sub rfl rfl) rfl (sv (EV.as rfl) rfl (re (wk [0, 2, 3, 5] [2, 0, 1] [⟨0, 2, 1, true⟩, ⟨2, 1, 2, true⟩, ⟨1, 0, 0, false⟩] (ih0 _ (by omega) _ ⟨wrap64 (x4_5 - 1), t10_1, t10_2, x4_2_0, Ax4_2_0, cx4_2_0, x4_2_1, x4_2_2, t11_0, At11_0, ct11_0, t11_1, t11_2, H, rfl⟩))))))))))))))
      ·
       exact ov (EV.ex rfl rfl) rfl (xs [] [0, 1, 2] rfl rfl rfl (one1 6 rfl rfl (ov (EV.ex rfl rfl) rfl (xs [] [0, 1, 2] rfl rfl rfl (one1 10 rfl rfl (op_st (cs' := [.slice At11_0 t11_0.length ct11_0, .int .i64 t11_1, .bool t11_2]) 1 rfl rfl rfl rfl rfl rfl (xn rfl (xd (pr [0, 2, 3, 5] [0, 1, 2] [0, 2, 4] rfl rfl rfl rfl (ge (rg (sv (EV.mv rfl) rfl (sv (EV.sub rfl rfl) rfl (sv (EV.as rfl) rfl (re (wk [0, 2, 3, 5] [2, 0, 1] [⟨0, 2, 1, true⟩, ⟨2, 1, 2, true⟩, ⟨1, 0, 0, false⟩] (ih0 _ (by omega) _ ⟨wrap64 (x4_5 - 1), t10_1, t10_2, x4_2_0, Ax4_2_0, cx4_2_0, x4_2_1, x4_2_2, t11_0, At11_0, ct11_0, t11_1, t11_2, H, rfl⟩)))))))))))))))))
     ·
      refine ov (EV.ex rfl rfl) rfl (xs [] [0, 1, 2] rfl rfl rfl ?_)
      refine one2 6 8 rfl rfl rfl rfl ?_ ?_
      ·
       refine ov (EV.ex rfl rfl) rfl (xs [] [0, 1, 2] rfl rfl rfl ?_)
       refine one2 8 10 rfl rfl rfl rfl ?_ ?_
       ·
        exact ov (EV.ex rfl rfl) rfl (xs [] [0, 1, 2] rfl rfl rfl (one1 10 rfl rfl (op_st (cs' := [.slice At11_0 t11_0.length ct11_0, .int .i64 t11_1, .bool t11_2]) 1 rfl rfl rfl rfl rfl rfl (xn rfl (xd (pr [0, 2, 3, 5] [0, 1, 2] [0, 2, 4] rfl rfl rfl rfl (ge (rg (sv (EV.mv rfl) rfl (sv (EV.sub rfl rfl) rfl (sv (EV.as rfl) rfl (re (wk [0, 2, 3, 5] [2, 0, 1] [⟨0, 2, 1, true⟩, ⟨2, 1, 2, true⟩, ⟨1, 0, 0, false⟩] (ih0 _ (by omega) _ ⟨wrap64 (x4_5 - 1), t10_1, t10_2, x4_2_0, Ax4_2_0, cx4_2_0, x4_2_1, x4_2_2, t11_0, At11_0, ct11_0, t11_1, t11_2, H, rfl⟩))))))))))))))
       ·
        exact op_st (cs' := [.slice At11_0 t11_0.length ct11_0, .int .i64 t11_1, .bool t11_2]) 1 rfl rfl rfl rfl rfl rfl (xn rfl (one1 8 rfl rfl (ov (EV.ex rfl rfl) rfl (xs [] [0, 1, 2] rfl rfl rfl (xd (pr [0, 2, 3, 5] [0, 1, 2] [0, 2, 4] rfl rfl rfl rfl (ge (rg (sv (EV.mv rfl) rfl (sv (EV.sub rfl rfl) rfl (sv (EV.as rfl) rfl (re (wk [0, 2, 3, 5] [2, 0, 1] [⟨0, 2, 1, true⟩, ⟨2, 1, 2, true⟩, ⟨1, 0, 0, false⟩] (ih0 _ (by omega) _ ⟨wrap64 (x4_5 - 1), t10_1, t10_2, x4_2_0, Ax4_2_0, cx4_2_0, x4_2_1, x4_2_2, t11_0, At11_0, ct11_0, t11_1, t11_2, H, rfl⟩))))))))))))))
      ·
       exact ov (EV.ex rfl rfl) rfl (xs [] [0, 1, 2] rfl rfl rfl (one1 6 rfl rfl (ov (EV.ex rfl rfl) rfl (xs [] [0, 1, 2] rfl rfl rfl (one1 10 rfl rfl (op_st (cs' := [.slice At11_0 t11_0.length ct11_0, .int .i64 t11_1, .bool t11_2]) 1 rfl rfl rfl rfl rfl rfl (xn rfl (xd (pr [0, 2, 3, 5] [0, 1, 2] [0, 2, 4] rfl rfl rfl rfl (ge (rg (sv (EV.mv rfl) rfl (sv (EV.sub rfl rfl) rfl (sv (EV.as rfl) rfl (re (wk [0, 2, 3, 5] [2, 0, 1] [⟨0, 2, 1, true⟩, ⟨2, 1, 2, true⟩, ⟨1, 0, 0, false⟩] (ih0 _ (by omega) _ ⟨wrap64 (x4_5 - 1), t10_1, t10_2, x4_2_0, Ax4_2_0, cx4_2_0, x4_2_1, x4_2_2, t11_0, At11_0, ct11_0, t11_1, t11_2, H, rfl⟩)))))))))))))))))
    ·
     refine ov (EV.ex rfl rfl) rfl (xs [] [0, 1, 2] rfl rfl rfl ?_)
     refine one3 6 7 9 rfl rfl rfl rfl rfl rfl ?_ ?_ ?_
     ·
      refine ov (EV.ex rfl rfl) rfl (xs [] [0, 1, 2] rfl rfl rfl ?_)
      refine one3 7 9 10 rfl rfl rfl rfl rfl rfl ?_ ?_ ?_
      ·
       refine ov (EV.ex rfl rfl) rfl (xs [] [0, 1, 2] rfl rfl rfl ?_)
       refine one2 9 10 rfl rfl rfl rfl ?_ ?_
       ·
        exact ov (EV.ex rfl rfl) rfl (xs [] [0, 1, 2] rfl rfl rfl (one1 10 rfl rfl (op_st (cs' := [.slice At11_0 t11_0.length ct11_0, .int .i64 t11_1, .bool t11_2]) 1 rfl rfl rfl rfl rfl rfl (xn rfl (xd (pr [0, 2, 3, 5] [0, 1, 2] [0, 2, 4] rfl rfl rfl rfl (ge (rg (sv (EV.mv rfl) rfl (sv (EV.sub rfl rfl) rfl (sv (EV.as rfl) rfl (re (wk [0, 2, 3, 5] [2, 0, 1] [⟨0, 2, 1, true⟩, ⟨2, 1, 2, true⟩, ⟨1, 0, 0, false⟩] (ih0 _ (by omega) _ ⟨wrap64 (x4_5 - 1), t10_1, t10_2, x4_2_0, Ax4_2_0, cx4_2_0, x4_2_1, x4_2_2, t11_0, At11_0, ct11_0, t11_1, t11_2, H, rfl⟩))))))))))))))
       ·
        exact op_st (cs' := [.slice At11_0 t11_0.length ct11_0, .int .i64 t11_1, .bool t11_2]) 1 rfl rfl rfl rfl rfl rfl (xn rfl (one1 9 rfl rfl (ov (EV.ex rfl rfl) rfl (xs [] [0, 1, 2] rfl rfl rfl (xd (pr [0, 2, 3, 5] [0, 1, 2] [0, 2, 4] rfl rfl rfl rfl (ge (rg (sv (EV.mv rfl) rfl (sv (EV.sub rfl rfl) rfl (sv (EV.as rfl) rfl (re (wk [0, 2, 3, 5] [2, 0, 1] [⟨0, 2, 1, true⟩, ⟨2, 1, 2, true⟩, ⟨1, 0, 0, false⟩] (ih0 _ (by omega) _ ⟨wrap64 (x4_5 - 1), t10_1, t10_2, x4_2_0, Ax4_2_0, cx4_2_0, x4_2_1, x4_2_2, t11_0, At11_0, ct11_0, t11_1, t11_2, H, rfl⟩))))))))))))))
      ·
       refine ov (EV.ex rfl rfl) rfl (xs [] [0, 1, 2] rfl rfl rfl ?_)
       refine one2 7 10 rfl rfl rfl rfl ?_ ?_
       ·
        exact ov (EV.ex rfl rfl) rfl (xs [] [0, 1, 2] rfl rfl rfl (one1 10 rfl rfl (op_st (cs' := [.slice At11_0 t11_0.length ct11_0, .int .i64 t11_1, .bool t11_2]) 1 rfl rfl rfl rfl rfl rfl (xn rfl (xd (pr [0, 2, 3, 5] [0, 1, 2] [0, 2, 4] rfl rfl rfl rfl (ge (rg (sv (EV.mv rfl) rfl (sv (EV.sub rfl rfl) rfl (sv (EV.as rfl) rfl (re (wk [0, 2, 3, 5] [2, 0, 1] [⟨0, 2, 1, true⟩, ⟨2, 1, 2, true⟩, ⟨1, 0, 0, false⟩] (ih0 _ (by omega) _ ⟨wrap64 (x4_5 - 1), t10_1, t10_2, x4_2_0, Ax4_2_0, cx4_2_0, x4_2_1, x4_2_2, t11_0, At11_0, ct11_0, t11_1, t11_2, H, rfl⟩))))))))))))))
       ·
        exact op_st (cs' := [.slice At11_0 t11_0.length ct11_0, .int .i64 t11_1, .bool t11_2]) 1 rfl rfl rfl rfl rfl rfl (xn rfl (one1 7 rfl rfl (ov (EV.ex rfl rfl) rfl (xs [] [0, 1, 2] rfl rfl rfl (xd (pr [0, 2, 3, 5] [0, 1, 2] [0, 2, 4] rfl rfl rfl rfl (ge (rg (sv (EV.mv rfl) rfl (sv (EV.sub rfl rfl) rfl (sv (EV.as rfl) rfl (re (wk [0, 2, 3, 5] [2, 0, 1] [⟨0, 2, 1, true⟩, ⟨2, 1, 2, true⟩, ⟨1, 0, 0, false⟩] (ih0 _ (by omega) _ ⟨wrap64 (x4_5 - 1), t10_1, t10_2, x4_2_0, Ax4_2_0, cx4_2_0, x4_2_1, x4_2_2, t11_0, At11_0, ct11_0, t11_1, t11_2, H, rfl⟩))))))))))))))
      ·
       refine op_st (cs' := [.slice At11_0 t11_0.length ct11_0, .int .i64 t11_1, .bool t11_2]) 1 rfl rfl rfl rfl rfl rfl (xn rfl ?_)
       refine one2 7 9 rfl rfl rfl rfl ?_ ?_
       ·
        exact ov (EV.ex rfl rfl) rfl (xs [] [0, 1, 2] rfl rfl rfl (one1 9 rfl rfl (ov (EV.ex rfl rfl) rfl (xs [] [0, 1, 2] rfl rfl rfl (xd (pr [0, 2, 3, 5] [0, 1, 2] [0, 2, 4] rfl rfl rfl rfl (ge (rg (sv (EV.mv rfl) rfl (sv (EV.sub rfl rfl) rfl (sv (EV.as rfl) rfl (re (wk [0, 2, 3, 5] [2, 0, 1] [⟨0, 2, 1, true⟩, ⟨2, 1, 2, true⟩, ⟨1, 0, 0, false⟩] (ih0 _ (by omega) _ ⟨wrap64 (x4_5 - 1), t10_1, t10_2, x4_2_0, Ax4_2_0, cx4_2_0, x4_2_1, x4_2_2, t11_0, At11_0, ct11_0, t11_1, t11_2, H, rfl⟩))))))))))))))
       ·
        exact ov (EV.ex rfl rfl) rfl (xs [] [0, 1, 2] rfl rfl rfl (one1 7 rfl rfl (ov (EV.ex rfl rfl) rfl (xs [] [0, 1, 2] rfl rfl rfl (xd (pr [0, 2, 3, 5] [0, 1, 2] [0, 2, 4] rfl rfl rfl rfl (ge (rg (sv (EV.mv rfl) rfl (sv (EV.sub rfl rfl) rfl (sv (EV.as rfl) rfl (re (wk [0, 2, 3, 5] [2, 0, 1] [⟨0, 2, 1, true⟩, ⟨2, 1, 2, true⟩, ⟨1, 0, 0, false⟩] (ih0 _ (by omega) _ ⟨wrap64 (x4_5 - 1), t10_1, t10_2, x4_2_0, Ax4_2_0, cx4_2_0, x4_2_1, x4_2_2, t11_0, At11_0, ct11_0, t11_1, t11_2, H, rfl⟩))))))))))))))
     ·
      refine ov (EV.ex rfl rfl) rfl (xs [] [0, 1, 2] rfl rfl rfl ?_)
      refine one2 6 9 rfl rfl rfl rfl ?_ ?_
      ·
       refine ov (EV.ex rfl rfl) rfl (xs [] [0, 1, 2] rfl rfl rfl ?_)
       refine one2 9 10 rfl rfl rfl rfl ?_ ?_
       ·
        exact ov (EV.ex rfl rfl) rfl (xs [] [0, 1, 2] rfl rfl rfl (one1 10 rfl rfl (op_st (cs' := [.slice At11_0 t11_0.length ct11_0, .int .i64 t11_1, .bool t11_2]) 1 rfl rfl rfl rfl rfl rfl (xn rfl (xd (pr [0, 2, 3, 5] [0, 1, 2] [0, 2, 4] rfl rfl rfl rfl (ge (rg (sv (EV.mv rfl) rfl (sv (EV.sub rfl rfl) rfl (sv (EV.as rfl) rfl (re (wk [0, 2, 3, 5] [2, 0, 1] [⟨0, 2, 1, true⟩, ⟨2, 1, 2, true⟩, ⟨1, 0, 0, false⟩] (ih0 _ (by omega) _ ⟨wrap64 (x4_5 - 1), t10_1, t10_2, x4_2_0, Ax4_2_0, cx4_2_0, x4_2_1, x4_2_2, t11_0, At11_0, ct11_0, t11_1, t11_2, H, rfl⟩))))))))))))))
       ·
        exact op_st (cs' := [.slice At11_0 t11_0.length ct11_0, .int .i64 t11_1, .bool t11_2]) 1 rfl rfl rfl rfl rfl rfl (xn rfl (one1 9 rfl rfl (ov (EV.ex rfl rfl) rfl (xs [] [0, 1, 2] rfl rfl rfl (xd (pr [0, 2, 3, 5] [0, 1, 2] [0, 2, 4] rfl rfl rfl rfl (ge (rg (sv (EV.mv rfl) rfl (sv (EV.sub rfl rfl) rfl (sv (EV.as rfl) rfl (re (wk [0, 2, 3, 5] [2, 0, 1] [⟨0, 2, 1, true⟩, ⟨2, 1, 2, true⟩, ⟨1, 0, 0, false⟩] (ih0 _ (by omega) _ ⟨wrap64 (x4_5 - 1), t10_1, t10_2, x4_2_0, Ax4_2_0, cx4_2_0, x4_2_1, x4_2_2, t11_0, At11_0, ct11_0, t11_1, t11_2, H, rfl⟩))))))))))))))
      ·
       exact ov (EV.ex rfl rfl) rfl (xs [] [0, 1, 2] rfl rfl rfl (one1 6 rfl rfl (ov (EV.ex rfl rfl) rfl (xs [] [0, 1, 2] rfl rfl rfl (one1 10 rfl rfl (op_st (cs' := [.slice At11_0 t11_0.length ct11_0, .int .i64 t11_1, .bool t11_2]) 1 rfl rfl rfl rfl rfl rfl (xn rfl (xd (pr [0, 2, 3, 5] [0, 1, 2] [0, 2, 4] rfl rfl rfl rfl (ge (rg (sv (EV.mv rfl) rfl (sv (EV.sub rfl rfl) rfl (sv (EV.as rfl) rfl (re (wk [0, 2, 3, 5] [2, 0, 1] [⟨0, 2, 1, true⟩, ⟨2, 1, 2, true⟩, ⟨1, 0, 0, false⟩] (ih0 _ (by omega) _ ⟨wrap64 (x4_5 - 1), t10_1, t10_2, x4_2_0, Ax4_2_0, cx4_2_0, x4_2_1, x4_2_2, t11_0, At11_0, ct11_0, t11_1, t11_2, H, rfl⟩)))))))))))))))))
     ·
      refine ov (EV.ex rfl rfl) rfl (xs [] [0, 1, 2] rfl rfl rfl ?_)
      refine one2 6 7 rfl rfl rfl rfl ?_ ?_
      ·
       refine ov (EV.ex rfl rfl) rfl (xs [] [0, 1, 2] rfl rfl rfl ?_)
       refine one2 7 10 rfl rfl rfl rfl ?_ ?_
       ·
        exact ov (EV.ex rfl rfl) rfl (xs [] [0, 1, 2] rfl rfl rfl (one1 10 rfl rfl (op_st (cs' := [.slice At11_0 t11_0.length ct11_0, .int .i64 t11_1, .bool t11_2]) 1 rfl rfl rfl rfl rfl rfl (xn rfl (xd (pr [0, 2, 3, 5] [0, 1, 2] [0, 2, 4] rfl rfl rfl rfl (ge (rg (sv (EV.mv rfl) rfl (sv (EV.sub rfl rfl) rfl (sv (EV.as rfl) rfl (re (wk [0, 2, 3, 5] [2, 0, 1] [⟨0, 2, 1, true⟩, ⟨2, 1, 2, true⟩, ⟨1, 0, 0, false⟩] (ih0 _ (by omega) _ ⟨wrap64 (x4_5 - 1), t10_1, t10_2, x4_2_0, Ax4_2_0, cx4_2_0, x4_2_1, x4_2_2, t11_0, At11_0, ct11_0, t11_1, t11_2, H, rfl⟩))))))))))))))
       ·
        exact op_st (cs' := [.slice At11_0 t11_0.length ct11_0, .int .i64 t11_1, .bool t11_2]) 1 rfl rfl rfl rfl rfl rfl (xn rfl (one1 7 rfl rfl (ov (EV.ex rfl rfl) rfl (xs [] [0, 1, 2] rfl rfl rfl (xd (pr [0, 2, 3, 5] [0, 1, 2] [0, 2, 4] rfl rfl rfl rfl (ge (rg (sv (EV.mv rfl) rfl (sv (EV.sub rfl rfl) rfl (sv (EV.as rfl) rfl (re (wk [0, 2, 3, 5] [2, 0, 1] [⟨0, 2, 1, true⟩, ⟨2, 1, 2, true⟩, ⟨1, 0, 0, false⟩] (ih0 _ (by omega) _ ⟨wrap64 (x4_5 - 1), t10_1, t10_2, x4_2_0, Ax4_2_0, cx4_2_0, x4_2_1, x4_2_2, t11_0, At11_0, ct11_0, t11_1, t11_2, H, rfl⟩))))))))))))))
      ·
       exact ov (EV.ex rfl rfl) rfl (xs [] [0, 1, 2] rfl rfl rfl (one1 6 rfl rfl (ov (EV.ex rfl rfl) rfl (xs [] [0, 1, 2] rfl rfl rfl (one1 10 rfl rfl (op_st (cs' := [.slice At11_0 t11_0.length ct11_0, .int .i64 t11_1, .bool t11_2]) 1 rfl rfl rfl rfl rfl rfl (xn rfl (xd (pr [0, 2, 3, 5] [0, 1, 2] [0, 2, 4] rfl rfl rfl rfl (ge (rg (sv (EV.mv rfl) rfl (sv (EV.sub rfl rfl) rfl (sv (EV.as rfl) rfl (re (wk [0, 2, 3, 5] [2, 0, 1] [⟨0, 2, 1, true⟩, ⟨2, 1, 2, true⟩, ⟨1, 0, 0, false⟩] (ih0 _ (by omega) _ ⟨wrap64 (x4_5 - 1), t10_1, t10_2, x4_2_0, Ax4_2_0, cx4_2_0, x4_2_1, x4_2_2, t11_0, At11_0, ct11_0, t11_1, t11_2, H, rfl⟩)))))))))))))))))
    ·
     refine ov (EV.ex rfl rfl) rfl (xs [] [0, 1, 2] rfl rfl rfl ?_)
     refine one3 6 7 8 rfl rfl rfl rfl rfl rfl ?_ ?_ ?_
     ·
      refine ov (EV.ex rfl rfl) rfl (xs [] [0, 1, 2] rfl rfl rfl ?_)
      refine one3 7 8 10 rfl rfl rfl rfl rfl rfl ?_ ?_ ?_
      ·
       refine ov (EV.ex rfl rfl) rfl (xs [] [0, 1, 2] rfl rfl rfl ?_)
       refine one2 8 10 rfl rfl rfl rfl ?_ ?_
       ·
        exact ov (EV.ex rfl rfl) rfl (xs [] [0, 1, 2] rfl rfl rfl (one1 10 rfl rfl (op_st (cs' := [.slice At11_0 t11_0.length ct11_0, .int .i64 t11_1, .bool t11_2]) 1 rfl rfl rfl rfl rfl rfl (xn rfl (xd (pr [0, 2, 3, 5] [0, 1, 2] [0, 2, 4] rfl rfl rfl rfl (ge (rg (sv (EV.mv rfl) rfl (sv (EV.sub rfl rfl) rfl (sv (EV.as rfl) rfl (re (wk [0, 2, 3, 5] [2, 0, 1] [⟨0, 2, 1, true⟩, ⟨2, 1, 2, true⟩, ⟨1, 0, 0, false⟩] (ih0 _ (by omega) _ ⟨wrap64 (x4_5 - 1), t10_1, t10_2, x4_2_0, Ax4_2_0, cx4_2_0, x4_2_1, x4_2_2, t11_0, At11_0, ct11_0, t11_1, t11_2, H, rfl⟩))))))))))))))
       ·
        exact op_st (cs' := [.slice At11_0 t11_0.length ct11_0, .int .i64 t11_1, .bool t11_2]) 1 rfl rfl rfl rfl rfl rfl (xn rfl (one1 8 rfl rfl (ov (EV.ex rfl rfl) rfl (xs [] [0, 1, 2] rfl rfl rfl (xd (pr [0, 2, 3, 5] [0, 1, 2] [0, 2, 4] rfl rfl rfl rfl (ge (rg (sv (EV.mv rfl) rfl (sv (EV.sub rfl rfl) rfl (sv (EV.as rfl) rfl (re (wk [0, 2, 3, 5] [2, 0, 1] [⟨0, 2, 1, true⟩, ⟨2, 1, 2, true⟩, ⟨1, 0, 0, false⟩] (ih0 _ (by omega) _ ⟨wrap64 (x4_5 - 1), t10_1, t10_2, x4_2_0, Ax4_2_0, cx4_2_0, x4_2_1, x4_2_2, t11_0, At11_0, ct11_0, t11_1, t11_2, H, rfl⟩))))))))))))))
      ·
       refine ov (EV.ex rfl rfl) rfl (xs [] [0, 1, 2] rfl rfl rfl ?_)
       refine one2 7 10 rfl rfl rfl rfl ?_ ?_
       ·
        exact ov (EV.ex rfl rfl) rfl (xs [] [0, 1, 2] rfl rfl rfl (one1 10 rfl rfl (op_st (cs' := [.slice At11_0 t11_0.length ct11_0, .int .i64 t11_1, .bool t11_2]) 1 rfl rfl rfl rfl rfl rfl (xn rfl (xd (pr [0, 2, 3, 5] [0, 1, 2] [0, 2, 4] rfl rfl rfl rfl (ge (rg (sv (EV.mv rfl) rfl (sv (EV.sub rfl rfl) rfl (sv (EV.as rfl) rfl (re (wk [0, 2, 3, 5] [2, 0, 1] [⟨0, 2, 1, true⟩, ⟨2, 1, 2, true⟩, ⟨1, 0, 0, false⟩] (ih0 _ (by omega) _ ⟨wrap64 (x4_5 - 1), t10_1, t10_2, x4_2_0, Ax4_2_0, cx4_2_0, x4_2_1, x4_2_2, t11_0, At11_0, ct11_0, t11_1, t11_2, H, rfl⟩))))))))))))))
       ·
        exact op_st (cs' := [.slice At11_0 t11_0.length ct11_0, .int .i64 t11_1, .bool t11_2]) 1 rfl rfl rfl rfl rfl rfl (xn rfl (one1 7 rfl rfl (ov (EV.ex rfl rfl) rfl (xs [] [0, 1, 2] rfl rfl rfl (xd (pr [0, 2, 3, 5] [0, 1, 2] [0, 2, 4] rfl rfl rfl rfl (ge (rg (sv (EV.mv rfl) rfl (sv (EV.sub rfl rfl) rfl (sv (EV.as rfl) rfl (re (wk [0, 2, 3, 5] [2, 0, 1] [⟨0, 2, 1, true⟩, ⟨2, 1, 2, true⟩, ⟨1, 0, 0, false⟩] (ih0 _ (by omega) _ ⟨wrap64 (x4_5 - 1), t10_1, t10_2, x4_2_0, Ax4_2_0, cx4_2_0, x4_2_1, x4_2_2, t11_0, At11_0, ct11_0, t11_1, t11_2, H, rfl⟩))))))))))))))
      ·
       refine op_st (cs' := [.slice At11_0 t11_0.length ct11_0, .int .i64 t11_1, .bool t11_2]) 1 rfl rfl rfl rfl rfl rfl (xn rfl ?_)
       refine one2 7 8 rfl rfl rfl rfl ?_ ?_
       ·
        exact ov (EV.ex rfl rfl) rfl (xs [] [0, 1, 2] rfl rfl rfl (one1 8 rfl rfl (ov (EV.ex rfl rfl) rfl (xs [] [0, 1, 2] rfl rfl rfl (xd (pr [0, 2, 3, 5] [0, 1, 2] [0, 2, 4] rfl rfl rfl rfl (ge (rg (sv (EV.mv rfl) rfl (sv (EV.sub rfl rfl) rfl (sv (EV.as rfl) rfl (re (wk [0, 2, 3, 5] [2, 0, 1] [⟨0, 2, 1, true⟩, ⟨2, 1, 2, true⟩, ⟨1, 0, 0, false⟩] (ih0 _ (by omega) _ ⟨wrap64 (x4_5 - 1), t10_1, t10_2, x4_2_0, Ax4_2_0, cx4_2_0, x4_2_1, x4_2_2, t11_0, At11_0, ct11_0, t11_1, t11_2, H, rfl⟩))))))))))))))
       ·
        exact ov (EV.ex rfl rfl) rfl (xs [] [0, 1, 2] rfl rfl rfl (one1 7 rfl rfl (ov (EV.ex rfl rfl) rfl (xs [] [0, 1, 2] rfl rfl rfl (xd (pr [0, 2, 3, 5] [0, 1, 2] [0, 2, 4] rfl rfl rfl rfl (ge (rg (sv (EV.mv rfl) rfl (sv (EV.sub rfl rfl) rfl (sv (EV.as rfl) rfl (re (wk [0, 2, 3, 5] [2, 0, 1] [⟨0, 2, 1, true⟩, ⟨2, 1, 2, true⟩, ⟨1, 0, 0, false⟩] (ih0 _ (by omega) _ ⟨wrap64 (x4_5 - 1), t10_1, t10_2, x4_2_0, Ax4_2_0, cx4_2_0, x4_2_1, x4_2_2, t11_0, At11_0, ct11_0, t11_1, t11_2, H, rfl⟩))))))))))))))
     ·
      refine ov (EV.ex rfl rfl) rfl (xs [] [0, 1, 2] rfl rfl rfl ?_)
      refine one2 6 8 rfl rfl rfl rfl ?_ ?_
      ·
       refine ov (EV.ex rfl rfl) rfl (xs [] [0, 1, 2] rfl rfl rfl ?_)
       refine one2 8 10 rfl rfl rfl rfl ?_ ?_
       ·
        exact ov (EV.ex rfl rfl) rfl (xs [] [0, 1, 2] rfl rfl rfl (one1 10 rfl rfl (op_st (cs' := [.slice At11_0 t11_0.length ct11_0, .int .i64 t11_1, .bool t11_2]) 1 rfl rfl rfl rfl rfl rfl (xn rfl (xd (pr [0, 2, 3, 5] [0, 1, 2] [0, 2, 4] rfl rfl rfl rfl (ge (rg (sv (EV.mv rfl) rfl (sv (EV.sub rfl rfl) rfl (sv (EV.as rfl) rfl (re (wk [0, 2, 3, 5] [2, 0, 1] [⟨0, 2, 1, true⟩, ⟨2, 1, 2, true⟩, ⟨1, 0, 0, false⟩] (ih0 _ (by omega) _ ⟨wrap64 (x4_5 - 1), t10_1, t10_2, x4_2_0, Ax4_2_0, cx4_2_0, x4_2_1, x4_2_2, t11_0, At11_0, ct11_0, t11_1, t11_2, H, rfl⟩))))))))))))))
       ·
        exact op_st (cs' := [.slice At11_0 t11_0.length ct11_0, .int .i64 t11_1, .bool t11_2]) 1 rfl rfl rfl rfl rfl rfl (xn rfl (one1 8 rfl rfl (ov (EV.ex rfl rfl) rfl (xs [] [0, 1, 2] rfl rfl rfl (xd (pr [0, 2, 3, 5] [0, 1, 2] [0, 2, 4] rfl rfl rfl rfl (ge (rg (sv (EV.mv rfl) rfl (sv (EV.sub rfl rfl) rfl (sv (EV.as rfl) rfl (re (wk [0, 2, 3, 5] [2, 0, 1] [⟨0, 2, 1, true⟩, ⟨2, 1, 2, true⟩, ⟨1, 0, 0, false⟩] (ih0 _ (by omega) _ ⟨wrap64 (x4_5 - 1), t10_1, t10_2, x4_2_0, Ax4_2_0, cx4_2_0, x4_2_1, x4_2_2, t11_0, At11_0, ct11_0, t11_1, t11_2, H, rfl⟩))))))))))))))
      ·
       exact ov (EV.ex rfl rfl) rfl (xs [] [0, 1, 2] rfl rfl rfl (one1 6 rfl rfl (ov (EV.ex rfl rfl) rfl (xs [] [0, 1, 2] rfl rfl rfl (one1 10 rfl rfl (op_st (cs' := [.slice At11_0 t11_0.length ct11_0, .int .i64 t11_1, .bool t11_2]) 1 rfl rfl rfl rfl rfl rfl (xn rfl (xd (pr [0, 2, 3, 5] [0, 1, 2] [0, 2, 4] rfl rfl rfl rfl (ge (rg (sv (EV.mv rfl) rfl (sv (EV.sub rfl rfl) rfl (sv (EV.as rfl) rfl (re (wk [0, 2, 3, 5] [2, 0, 1] [⟨0, 2, 1, true⟩, ⟨2, 1, 2, true⟩, ⟨1, 0, 0, false⟩] (ih0 _ (by omega) _ ⟨wrap64 (x4_5 - 1), t10_1, t10_2, x4_2_0, Ax4_2_0, cx4_2_0, x4_2_1, x4_2_2, t11_0, At11_0, ct11_0, t11_1, t11_2, H, rfl⟩)))))))))))))))))
     ·
      refine ov (EV.ex rfl rfl) rfl (xs [] [0, 1, 2] rfl rfl rfl ?_)
      refine one2 6 7 rfl rfl rfl rfl ?_ ?_
      ·
       refine ov (EV.ex rfl rfl) rfl (xs [] [0, 1, 2] rfl rfl rfl ?_)
       refine one2 7 10 rfl rfl rfl rfl ?_ ?_
       ·
        exact ov (EV.ex rfl rfl) rfl (xs [] [0, 1, 2] rfl rfl rfl (one1 10 rfl rfl (op_st (cs' := [.slice At11_0 t11_0.length ct11_0, .int .i64 t11_1, .bool t11_2]) 1 rfl rfl rfl rfl rfl rfl (xn rfl (xd (pr [0, 2, 3, 5] [0, 1, 2] [0, 2, 4] rfl rfl rfl rfl (ge (rg (sv (EV.mv rfl) rfl (sv (EV.sub rfl rfl) rfl (sv (EV.as rfl) rfl (re (wk [0, 2, 3, 5] [2, 0, 1] [⟨0, 2, 1, true⟩, ⟨2, 1, 2, true⟩, ⟨1, 0, 0, false⟩] (ih0 _ (by omega) _ ⟨wrap64 (x4_5 - 1), t10_1, t10_2, x4_2_0, Ax4_2_0, cx4_2_0, x4_2_1, x4_2_2, t11_0, At11_0, ct11_0, t11_1, t11_2, H, rfl⟩))))))))))))))
       ·
        exact op_st (cs' := [.slice At11_0 t11_0.length ct11_0, .int .i64 t11_1, .bool t11_2]) 1 rfl rfl rfl rfl rfl rfl (xn rfl (one1 7 rfl rfl (ov (EV.ex rfl rfl) rfl (xs [] [0, 1, 2] rfl rfl rfl (xd (pr [0, 2, 3, 5] [0, 1, 2] [0, 2, 4] rfl rfl rfl rfl (ge (rg (sv (EV.mv rfl) rfl (sv (EV.sub rfl rfl) rfl (sv (EV.as rfl) rfl (re (wk [0, 2, 3, 5] [2, 0, 1] [⟨0, 2, 1, true⟩, ⟨2, 1, 2, true⟩, ⟨1, 0, 0, false⟩] (ih0 _ (by omega) _ ⟨wrap64 (x4_5 - 1), t10_1, t10_2, x4_2_0, Ax4_2_0, cx4_2_0, x4_2_1, x4_2_2, t11_0, At11_0, ct11_0, t11_1, t11_2, H, rfl⟩))))))))))))))
      ·
       exact ov (EV.ex rfl rfl) rfl (xs [] [0, 1, 2] rfl rfl rfl (one1 6 rfl rfl (ov (EV.ex rfl rfl) rfl (xs [] [0, 1, 2] rfl rfl rfl (one1 10 rfl rfl (op_st (cs' := [.slice At11_0 t11_0.length ct11_0, .int .i64 t11_1, .bool t11_2]) 1 rfl rfl rfl rfl rfl rfl (xn rfl (xd (pr [0, 2, 3, 5] [0, 1, 2] [0, 2, 4] rfl rfl rfl rfl (ge (rg (sv (EV.mv rfl) rfl (sv (EV.sub rfl rfl) rfl (sv (EV.as rfl) rfl (re (wk [0, 2, 3, 5] [2, 0, 1] [⟨0, 2, 1, true⟩, ⟨2, 1, 2, true⟩, ⟨1, 0, 0, false⟩] (ih0 _ (by omega) _ ⟨wrap64 (x4_5 - 1), t10_1, t10_2, x4_2_0, Ax4_2_0, cx4_2_0, x4_2_1, x4_2_2, t11_0, At11_0, ct11_0, t11_1, t11_2, H, rfl⟩)))))))))))))))))
   ·
    revert H; refine bdI ?_; rintro ⟨t12_0, t12_1, t12_2⟩ A12 H
    refine op_callM (spec_l1PickInt.ok b1000 l0_0 Al0_0 cl0_0 x4_1000_1 x4_1000_2 ([8, 9, 12] : List Int) A23_9 c23_9 _ _ _ A12) [⟨2, 0, 0, false⟩, ⟨3, 0, 0, false⟩] [0] [1, 2] 4 rfl rfl rfl rfl rfl rfl rfl rfl ?_
    rintro _ _ _ ⟨rfl, rfl, rfl⟩
    refine nmE (en := [.sl 2 k64 Ax4_2_0 cx4_2_0 x4_2_0 1 true, .sl 1 k64 Ax4_3_0 cx4_3_0 x4_3_0 2 true, .sl 0 (.int .u8) Al0_0 cl0_0 l0_0 0 false, .sl 2 (.int .i64) A23_9 c23_9 ([8, 9, 12] : List Int) 3 true]) (by kernel_rfl) (xs [] [0, 1, 2] rfl rfl rfl (one1 0 rfl rfl (ov (EV.ld (v := .agg #[.slice Ax4_3_0 x4_3_0.length cx4_3_0, .int .i64 x4_3_1, .bool x4_3_2]) 1 (some 3) rfl rfl rfl) rfl (xs [] [0, 1, 2] rfl rfl rfl (one1 4 rfl rfl ?_)))))
    revert H; refine bdI ?_; rintro ⟨t13_0, t13_1, t13_2, t13_3, t13_4, t13_5⟩ A13 H
    refine op_call (spec_StepAggregator.ok n0 x4_3_0 Ax4_3_0 cx4_3_0 x4_3_1 x4_3_2 t12_0 _ _ _ _ _ _ A13) [⟨1, 0, 0, false⟩] 4 rfl rfl rfl rfl rfl ?_
    rintro _ _ _ ⟨At13_0, ct13_0, At13_3, ct13_3, rfl, rfl, rfl⟩
    refine xs [] [0, 1, 2] rfl rfl rfl (one1 5 rfl rfl (ov (EV.mv rfl) rfl (xs [] [0, 1, 2] rfl rfl rfl ?_)))
    refine one4 6 7 8 9 rfl rfl rfl rfl rfl rfl rfl rfl ?_ ?_ ?_ ?_
    ·
     refine ov (EV.ex rfl rfl) rfl (xs [] [0, 1, 2] rfl rfl rfl ?_)
     refine one4 7 8 9 10 rfl rfl rfl rfl rfl rfl rfl rfl ?_ ?_ ?_ ?_
     ·
      refine ov (EV.ex rfl rfl) rfl (xs [] [0, 1, 2] rfl rfl rfl ?_)
      refine one3 8 9 10 rfl rfl rfl rfl rfl rfl ?_ ?_ ?_
      ·
       refine ov (EV.ex rfl rfl) rfl (xs [] [0, 1, 2] rfl rfl rfl ?_)
       refine one2 9 10 rfl rfl rfl rfl ?_ ?_
       ·
        exact ov (EV.ex rfl rfl) rfl (xs [] [0, 1, 2] rfl rfl rfl (one1 10 rfl rfl (op_st (cs' := [.slice At13_0 t13_0.length ct13_0, .int .i64 t13_1, .bool t13_2]) 1 rfl rfl rfl rfl rfl rfl (xn rfl (xd (pr [0, 2, 3, 5] [0, 1, 2] [0, 2, 4] rfl rfl rfl rfl (ge (rg (sv (EV.mv rfl) rfl (sv (EV.sub rfl rfl) rfl (sv (EV.as rfl) rfl (re (wk [0, 2, 3, 5] [2, 0, 1] [⟨0, 2, 1, true⟩, ⟨2, 1, 2, true⟩, ⟨1, 0, 0, false⟩] (ih0 _ (by omega) _ ⟨wrap64 (x4_5 - 1), t12_1, t12_2, x4_2_0, Ax4_2_0, cx4_2_0, x4_2_1, x4_2_2, t13_0, At13_0, ct13_0, t13_1, t13_2, H, rfl⟩))))))))))))))
       ·
        exact op_st (cs' := [.slice At13_0 t13_0.length ct13_0, .int .i64 t13_1, .bool t13_2]) 1 rfl rfl rfl rfl rfl rfl (xn rfl (one1 9 rfl rfl (ov (EV.ex rfl rfl) rfl (xs [] [0, 1, 2] rfl rfl rfl (xd (pr [0, 2, 3, 5] [0, 1, 2] [0, 2, 4] rfl rfl rfl rfl (ge (rg (sv (EV.mv rfl) rfl (sv (EV.sub rfl rfl) rfl (sv (EV.as rfl) rfl (re (wk [0, 2, 3, 5] [2, 0, 1] [⟨0, 2, 1, true⟩, ⟨2, 1, 2, true⟩, ⟨1, 0, 0, false⟩] (ih0 _ (by omega) _ ⟨wrap64 (x4_5 - 1), t12_1, t12_2, x4_2_0, Ax4_2_0, cx4_2_0, x4_2_1, x4_2_2, t13_0, At13_0, ct13_0, t13_1, t13_2, H, rfl⟩))))))))))))))
      ·
       refine ov (EV.ex rfl rfl) rfl (xs [] [0, 1, 2] rfl rfl rfl ?_)
       refine one2 8 10 rfl rfl rfl rfl ?_ ?_
       ·
        exact ov (EV.ex rfl rfl) rfl (xs [] [0, 1, 2] rfl rfl rfl (one1 10 rfl rfl (op_st (cs' := [.slice At13_0 t13_0.length ct13_0, .int .i64 t13_1, .bool t13_2]) 1 rfl rfl rfl rfl rfl rfl (xn rfl (xd (pr [0, 2, 3, 5] [0, 1, 2] [0, 2, 4] rfl rfl rfl rfl (ge (rg (sv (EV.mv rfl) rfl (sv (EV.sub rfl rfl) rfl (sv (EV.as rfl) rfl (re (wk [0, 2, 3, 5] [2, 0, 1] [⟨0, 2, 1, true⟩, ⟨2, 1, 2, true⟩, ⟨1, 0, 0, false⟩] (ih0 _ (by omega) _ ⟨wrap64 (x4_5 - 1), t12_1, t12_2, x4_2_0, Ax4_2_0, cx4_2_0, x4_2_1, x4_2_2, t13_0, At13_0, ct13_0, t13_1, t13_2, H, rfl⟩))))))))))))))
       ·
        exact op_st (cs' := [.slice At13_0 t13_0.length ct13_0, .int .i64 t13_1, .bool t13_2]) 1 rfl rfl rfl rfl rfl rfl (xn rfl (one1 8 rfl rfl (ov (EV.ex rfl rfl) rfl (xs [] [0, 1, 2] rfl rfl rfl (xd (pr [0, 2, 3, 5] [0, 1, 2] [0, 2, 4] rfl rfl rfl rfl (ge (rg (sv (EV.mv rfl) rfl (sv (EV.sub rfl rfl) rfl (sv (EV.as rfl) rfl (re (wk [0, 2, 3, 5] [2, 0, 1] [⟨0, 2, 1, true⟩, ⟨2, 1, 2, true⟩, ⟨1, 0, 0, false⟩] (ih0 _ (by omega) _ ⟨wrap64 (x4_5 - 1), t12_1, t12_2, x4_2_0, Ax4_2_0, cx4_2_0, x4_2_1, x4_2_2, t13_0, At13_0, ct13_0, t13_1, t13_2, H, rfl⟩))))))))))))))
      ·
       refine op_st (cs' := [.slice At13_0 t13_0.length ct13_0, .int .i64 t13_1, .bool t13_2]) 1 rfl rfl rfl rfl rfl rfl (xn rfl ?_)
       refine one2 8 9 rfl rfl rfl rfl ?_ ?_
       ·
        exact ov (EV.ex rfl rfl) rfl (xs [] [0, 1, 2] rfl rfl rfl (one1 9 rfl rfl (ov (EV.ex rfl rfl) rfl (xs [] [0, 1, 2] rfl rfl rfl (xd (pr [0, 2, 3, 5] [0, 1, 2] [0, 2, 4] rfl rfl rfl rfl (ge (rg (sv (EV.mv rfl) rfl (sv (EV.sub rfl rfl) rfl (sv (EV.as rfl) rfl (re (wk [0, 2, 3, 5] [2, 0, 1] [⟨0, 2, 1, true⟩, ⟨2, 1, 2, true⟩, ⟨1, 0, 0, false⟩] (ih0 _ (by omega) _ ⟨wrap64 (x4_5 - 1), t12_1, t12_2, x4_2_0, Ax4_2_0, cx4_2_0, x4_2_1, x4_2_2, t13_0, At13_0, ct13_0, t13_1, t13_2, H, rfl⟩))))))))))))))
       ·
        exact ov (EV.ex rfl rfl) rfl (xs [] [0, 1, 2] rfl rfl rfl (one1 8 rfl rfl (ov (EV.ex rfl rfl) rfl (xs [] [0, 1, 2] rfl rfl rfl (xd (pr [0, 2, 3, 5] [0, 1, 2] [0, 2, 4] rfl rfl rfl rfl (ge (rg (sv (EV.mv rfl) rfl (sv (EV.sub rfl rfl) rfl (sv (EV.as rfl) rfl (re (wk [0, 2, 3, 5] [2, 0, 1] [⟨0, 2, 1, true⟩, ⟨2, 1, 2, true⟩, ⟨1, 0, 0, false⟩] (ih0 _ (by omega) _ ⟨wrap64 (x4_5 - 1), t12_1, t12_2, x4_2_0, Ax4_2_0, cx4_2_0, x4_2_1, x4_2_2, t13_0, At13_0, ct13_0, t13_1, t13_2, H, rfl⟩))))))))))))))
     ·
      refine ov (EV.ex rfl rfl) rfl (xs [] [0, 1, 2] rfl rfl rfl ?_)
      refine one3 7 9 10 rfl rfl rfl rfl rfl rfl ?_ ?_ ?_
      ·
       refine ov (EV.ex rfl rfl) rfl (xs [] [0, 1, 2] rfl rfl rfl ?_)
       refine one2 9 10 rfl rfl rfl rfl ?_ ?_
       ·
        exact ov (EV.ex rfl rfl) rfl (xs [] [0, 1, 2] rfl rfl rfl (one1 10 rfl rfl (op_st (cs' := [.slice At13_0 t13_0.length ct13_0, .int .i64 t13_1, .bool t13_2]) 1 rfl rfl rfl rfl rfl rfl (xn rfl (xd (pr [0, 2, 3, 5] [0, 1, 2] [0, 2, 4] rfl rfl rfl rfl (ge (rg (sv (EV.mv rfl) rfl (sv (EV.sub rfl rfl) rfl (sv (EV.as rfl) rfl (re (wk [0, 2, 3, 5] [2, 0, 1] [⟨0, 2, 1, true⟩, ⟨2, 1, 2, true⟩, ⟨1, 0, 0, false⟩] (ih0 _ (by omega) _ ⟨wrap64 (x4_5 - 1), t12_1, t12_2, x4_2_0, Ax4_2_0, cx4_2_0, x4_2_1, x4_2_2, t13_0, At13_0, ct13_0, t13_1, t13_2, H, rfl⟩))))))))))))))
       ·
        exact op_st (cs' := [.slice At13_0 t13_0.length ct13_0, .int .i64 t13_1, .bool t13_2]) 1 rfl rfl rfl rfl rfl rfl (xn rfl (one1 9 rfl rfl (ov (EV.ex rfl rfl) rfl (xs [] [0, 1, 2] rfl rfl rfl (xd (pr [0, 2, 3, 5] [0, 1, 2] [0, 2, 4] rfl rfl rfl rfl (ge (rg (sv (EV.mv rfl) rfl (sv (EV.sub rfl rfl) rfl (sv (EV.as rfl) rfl (re (wk [0, 2, 3, 5] [2, 0, 1] [⟨0, 2, 1, true⟩, ⟨2, 1, 2, true⟩, ⟨1, 0, 0, false⟩] (ih0 _ (by omega) _ ⟨wrap64 (x4_5 - 1), t12_1, t12_2, x4_2_0, Ax4_2_0, cx4_2_0, x4_2_1, x4_2_2, t13_0, At13_0, ct13_0, t13_1, t13_2, H, rfl⟩))))))))))))))
      ·
       refine ov (EV.ex rfl rfl) rfl (xs [] [0, 1, 2] rfl rfl rfl ?_)
       refine one2 7 10 rfl rfl rfl rfl ?_ ?_
       ·
        exact ov (EV.ex rfl rfl) rfl (xs [] [0, 1, 2] rfl rfl rfl (one1 10 rfl rfl (op_st (cs' := [.slice At13_0 t13_0.length ct13_0, .int .i64 t13_1, .bool t13_2]) 1 rfl rfl rfl rfl rfl rfl (xn rfl (xd (pr [0, 2, 3, 5] [0, 1, 2] [0, 2, 4] rfl rfl rfl rfl (ge (rg (sv (EV.mv rfl) rfl (sv (EV.sub rfl rfl) rfl (sv (EV.as rfl) rfl (re (wk [0, 2, 3, 5] [2, 0, 1] [⟨0, 2, 1, true⟩, ⟨2, 1, 2, true⟩, ⟨1, 0, 0, false⟩] (ih0 _ (by omega) _ ⟨wrap64 (x4_5 - 1), t12_1, t12_2, x4_2_0, Ax4_2_0, cx4_2_0, x4_2_1, x4_2_2, t13_0, At13_0, ct13_0, t13_1, t13_2, H, rfl⟩))))))))))))))
       ·
        exact op_st (cs' := [.slice At13_0 t13_0.length ct13_0, .int .i64 t13_1, .bool t13_2]) 1 rfl rfl rfl rfl rfl rfl (xn rfl (one1 7 rfl rfl (ov (EV.ex rfl rfl) rfl (xs [] [0, 1, 2] rfl rfl rfl (xd (pr [0, 2, 3, 5] [0, 1, 2] [0, 2, 4] rfl rfl rfl rfl (ge (rg (sv (EV.mv rfl) rfl (sv (EV.sub rfl rfl) rfl (sv (EV.as rfl) rfl (re (wk [0, 2, 3, 5] [2, 0, 1] [⟨0, 2, 1, true⟩, ⟨2, 1, 2, true⟩, ⟨1, 0, 0, false⟩] (ih0 _ (by omega) _ ⟨wrap64 (x4_5 - 1), t12_1, t12_2, x4_2_0, Ax4_2_0, cx4_2_0, x4_2_1, x4_2_2, t13_0, At13_0, ct13_0, t13_1, t13_2, H, rfl⟩))))))))))))))
      ·
       refine op_st (cs' := [.slice At13_0 t13_0.length ct13_0, .int .i64 t13_1, .bool t13_2]) 1 rfl rfl rfl rfl rfl rfl (xn rfl ?_)
       refine one2 7 9 rfl rfl rfl rfl ?_ ?_
       ·
        exact ov (EV.ex rfl rfl) rfl (xs [] [0, 1, 2] rfl rfl rfl (one1 9 rfl rfl (ov (EV.ex rfl rfl) rfl (xs [] [0, 1, 2] rfl rfl rfl (xd (pr [0, 2, 3, 5] [0, 1, 2] [0, 2, 4] rfl rfl rfl rfl (ge (rg (sv (EV.mv rfl) rfl (sv (EV.sub rfl rfl) rfl (sv (EV.as rfl) rfl (re (wk [0, 2, 3, 5] [2, 0, 1] [⟨0, 2, 1, true⟩, ⟨2, 1, 2, true⟩, ⟨1, 0, 0, false⟩] (ih0 _ (by omega) _ ⟨wrap64 (x4_5 - 1), t12_1, t12_2, x4_2_0, Ax4_2_0, cx4_2_0, x4_2_1, x4_2_2, t13_0, At13_0, ct13_0, t13_1, t13_2, H, rfl⟩))))))))))))))
       ·
        exact ov (EV.ex rfl rfl) rfl (xs [] [0, 1, 2] rfl rfl rfl (one1 7 rfl rfl (ov (EV.ex rfl rfl) rfl (xs [] [0, 1, 2] rfl rfl rfl (xd (pr [0, 2, 3, 5] [0, 1, 2] [0, 2, 4] rfl rfl rfl rfl (ge (rg (sv (EV.mv rfl) rfl (sv (EV.sub rfl rfl) rfl (sv (EV.as rfl) rfl (re (wk [0, 2, 3, 5] [2, 0, 1] [⟨0, 2, 1, true⟩, ⟨2, 1, 2, true⟩, ⟨1, 0, 0, false⟩] (ih0 _ (by omega) _ ⟨wrap64 (x4_5 - 1), t12_1, t12_2, x4_2_0, Ax4_2_0, cx4_2_0, x4_2_1, x4_2_2, t13_0, At13_0, ct13_0, t13_1, t13_2, H, rfl⟩))))))))))))))
     ·
      refine ov (EV.ex rfl rfl) rfl (xs [] [0, 1, 2] rfl rfl rfl ?_)
      refine one3 7 8 10 rfl rfl rfl rfl rfl rfl ?_ ?_ ?_
      ·
       refine ov (EV.ex rfl rfl) rfl (xs [] [0, 1, 2] rfl rfl rfl ?_)
       refine one2 8 10 rfl rfl rfl rfl ?_ ?_
       ·
        exact ov (EV.ex rfl rfl) rfl (xs [] [0, 1, 2] rfl rfl rfl (one1 10 rfl rfl (op_st (cs' := [.slice At13_0 t13_0.length ct13_0, .int .i64 t13_1, .bool t13_2]) 1 rfl rfl rfl rfl rfl rfl (xn rfl (xd (pr [0, 2, 3, 5] [0, 1, 2] [0, 2, 4] rfl rfl rfl rfl (ge (rg (sv (EV.mv rfl) rfl (sv (EV.sub rfl rfl) rfl (sv (EV.as rfl) rfl (re (wk [0, 2, 3, 5] [2, 0, 1] [⟨0, 2, 1, true⟩, ⟨2, 1, 2, true⟩, ⟨1, 0, 0, false⟩] (ih0 _ (by omega) _ ⟨wrap64 (x4_5 - 1), t12_1, t12_2, x4_2_0, Ax4_2_0, cx4_2_0, x4_2_1, x4_2_2, t13_0, At13_0, ct13_0, t13_1, t13_2, H, rfl⟩))))))))))))))
       ·
        exact op_st (cs' := [.slice At13_0 t13_0.length ct13_0, .int .i64 t13_1, .bool t13_2]) 1 rfl rfl rfl rfl rfl rfl (xn rfl (one1 8 rfl rfl (ov (EV.ex rfl rfl) rfl (xs [] [0, 1, 2] rfl rfl rfl (xd (pr [0, 2, 3, 5] [0, 1, 2] [0, 2, 4] rfl rfl rfl rfl (ge (rg (sv (EV.mv rfl) rfl (sv (EV.sub rfl rfl) rfl (sv (EV.as rfl) rfl (re (wk [0, 2, 3, 5] [2, 0, 1] [⟨0, 2, 1, true⟩, ⟨2, 1, 2, true⟩, ⟨1, 0, 0, false⟩] (ih0 _ (by omega) _ ⟨wrap64 (x4_5 - 1), t12_1, t12_2, x4_2_0, Ax4_2_0, cx4_2_0, x4_2_1, x4_2_2, t13_0, At13_0, ct13_0, t13_1, t13_2, H, rfl⟩))))))))))))))
      ·
       refine ov (EV.ex rfl rfl) rfl (xs [] [0, 1, 2] rfl rfl rfl ?_)
       refine one2 7 10 rfl rfl rfl rfl ?_ ?_
       ·
        exact ov (EV.ex rfl rfl) rfl (xs [] [0, 1, 2] rfl rfl rfl (one1 10 rfl rfl (op_st (cs' := [.slice At13_0 t13_0.length ct13_0, .int .i64 t13_1, .bool t13_2]) 1 rfl rfl rfl rfl rfl rfl (xn rfl (xd (pr [0, 2, 3, 5] [0, 1, 2] [0, 2, 4] rfl rfl rfl rfl (ge (rg (sv (EV.mv rfl) rfl (sv (EV.sub rfl rfl) rfl (sv (EV.as rfl) rfl (re (wk [0, 2, 3, 5] [2, 0, 1] [⟨0, 2, 1, true⟩, ⟨2, 1, 2, true⟩, ⟨1, 0, 0, false⟩] (ih0 _ (by omega) _ ⟨wrap64 (x4_5 - 1), t12_1, t12_2, x4_2_0, Ax4_2_0, cx4_2_0, x4_2_1, x4_2_2, t13_0, At13_0, ct13_0, t13_1, t13_2, H, rfl⟩))))))))))))))
       ·
        exact op_st (cs' := [.slice At13_0 t13_0.length ct13_0, .int .i64 t13_1, .bool t13_2]) 1 rfl rfl rfl rfl rfl rfl (xn rfl (one1 7 rfl rfl (ov (EV.ex rfl rfl) rfl (xs [] [0, 1, 2] rfl rfl rfl (xd (pr [0, 2, 3, 5] [0, 1, 2] [0, 2, 4] rfl rfl rfl rfl (ge (rg (sv (EV.mv rfl) rfl (sv (EV.sub rfl rfl) rfl (sv (EV.as rfl) rfl (re (wk [0, 2, 3, 5] [2, 0, 1] [⟨0, 2, 1, true⟩, ⟨2, 1, 2, true⟩, ⟨1, 0, 0, false⟩] (ih0 _ (by omega) _ ⟨wrap64 (x4_5 - 1), t12_1, t12_2, x4_2_0, Ax4_2_0, cx4_2_0, x4_2_1, x4_2_2, t13_0, At13_0, ct13_0, t13_1, t13_2, H, rfl⟩))))))))))))))
      ·
       refine op_st (cs' := [.slice At13_0 t13_0.length ct13_0, .int .i64 t13_1, .bool t13_2]) 1 rfl rfl rfl rfl rfl rfl (xn rfl ?_)
       refine one2 7 8 rfl rfl rfl rfl ?_ ?_
       ·
        exact ov (EV.ex rfl rfl) rfl (xs [] [0, 1, 2] rfl rfl rfl (one1 8 rfl rfl (ov (EV.ex rfl rfl) rfl (xs [] [0, 1, 2] rfl rfl rfl (xd (pr [0, 2, 3, 5] [0, 1, 2] [0, 2, 4] rfl rfl rfl rfl (ge (rg (sv (EV.mv rfl) rfl (sv (EV.sub rfl rfl) rfl (sv (EV.as rfl) rfl (re (wk [0, 2, 3, 5] [2, 0, 1] [⟨0, 2, 1, true⟩, ⟨2, 1, 2, true⟩, ⟨1, 0, 0, false⟩] (ih0 _ (by omega) _ ⟨wrap64 (x4_5 - 1), t12_1, t12_2, x4_2_0, Ax4_2_0, cx4_2_0, x4_2_1, x4_2_2, t13_0, At13_0, ct13_0, t13_1, t13_2, H, rfl⟩))))))))))))))
       ·
        exact ov (EV.ex rfl rfl) rfl (xs [] [0, 1, 2] rfl rfl rfl (one1 7 rfl rfl (ov (EV.ex rfl rfl) rfl (xs [] [0, 1, 2] rfl rfl rfl (xd (pr [0, 2, 3, 5] [0, 1, 2] [0, 2, 4] rfl rfl rfl rfl (ge (rg (sv (EV.mv rfl) rfl (sv (EV.sub rfl rfl) rfl (sv (EV.as rfl) rfl (re (wk [0, 2, 3, 5] [2, 0, 1] [⟨0, 2, 1, true⟩, ⟨2, 1, 2, true⟩, ⟨1, 0, 0, false⟩] (ih0 _ (by omega) _ ⟨wrap64 (x4_5 - 1), t12_1, t12_2, x4_2_0, Ax4_2_0, cx4_2_0, x4_2_1, x4_2_2, t13_0, At13_0, ct13_0, t13_1, t13_2, H, rfl⟩))))))))))))))
     ·
      refine op_st (cs' := [.slice At13_0 t13_0.length ct13_0, .int .i64 t13_1, .bool t13_2]) 1 rfl rfl rfl rfl rfl rfl (xn rfl ?_)
      refine one3 7 8 9 rfl rfl rfl rfl rfl rfl ?_ ?_ ?_
      ·
       refine ov (EV.ex rfl rfl) rfl (xs [] [0, 1, 2] rfl rfl rfl ?_)
       refine one2 8 9 rfl rfl rfl rfl ?_ ?_
       ·
        exact ov (EV.ex rfl rfl) rfl (xs [] [0, 1, 2] rfl rfl rfl (one1 9 rfl rfl (ov (EV.ex rfl rfl) rfl (xs [] [0, 1, 2] rfl rfl rfl (xd (pr [0, 2, 3, 5] [0, 1, 2] [0, 2, 4] rfl rfl rfl rfl (ge (rg (sv (EV.mv rfl) rfl (sv (EV.sub rfl rfl) rfl (sv (EV.as rfl) rfl (re (wk [0, 2, 3, 5] [2, 0, 1] [⟨0, 2, 1, true⟩, ⟨2, 1, 2, true⟩, ⟨1, 0, 0, false⟩] (ih0 _ (by omega) _ ⟨wrap64 (x4_5 - 1), t12_1, t12_2, x4_2_0, Ax4_2_0, cx4_2_0, x4_2_1, x4_2_2, t13_0, At13_0, ct13_0, t13_1, t13_2, H, rfl⟩))))))))))))))
       ·
        exact ov (EV.ex rfl rfl) rfl (xs [] [0, 1, 2] rfl rfl rfl (one1 8 rfl rfl (ov (EV.ex rfl rfl) rfl (xs [] [0, 1, 2] rfl rfl rfl (xd (pr [0, 2, 3, 5] [0, 1, 2] [0, 2, 4] rfl rfl rfl rfl (ge (rg (sv (EV.mv rfl) rfl (sv (EV.sub rfl rfl) rfl (sv (EV.as rfl) rfl (re (wk [0, 2, 3, 5] [2, 0, 1] [⟨0, 2, 1, true⟩, ⟨2, 1, 2, true⟩, ⟨1, 0, 0, false⟩] (ih0 _ (by omega) _ ⟨wrap64 (x4_5 - 1), t12_1, t12_2, x4_2_0, Ax4_2_0, cx4_2_0, x4_2_1, x4_2_2, t13_0, At13_0, ct13_0, t13_1, t13_2, H, rfl⟩))))))))))))))
      ·
       refine ov (EV.ex rfl rfl) rfl (xs [] [0, 1, 2] rfl rfl rfl ?_)
       refine one2 7 9 rfl rfl rfl rfl ?_ ?_
       ·
        exact ov (EV.ex rfl rfl) rfl (xs [] [0, 1, 2] rfl rfl rfl (one1 9 rfl rfl (ov (EV.ex rfl rfl) rfl (xs [] [0, 1, 2] rfl rfl rfl (xd (pr [0, 2, 3, 5] [0, 1, 2] [0, 2, 4] rfl rfl rfl rfl (ge (rg (sv (EV.mv rfl) rfl (sv (EV.sub rfl rfl) rfl (sv (EV.as rfl) rfl (re (wk [0, 2, 3, 5] [2, 0, 1] [⟨0, 2, 1, true⟩, ⟨2, 1, 2, true⟩, ⟨1, 0, 0, false⟩] (ih0 _ (by omega) _ ⟨wrap64 (x4_5 - 1), t12_1, t12_2, x4_2_0, Ax4_2_0, cx4_2_0, x4_2_1, x4_2_2, t13_0, At13_0, ct13_0, t13_1, t13_2, H, rfl⟩))))))))))))))
       ·
        exact ov (EV.ex rfl rfl) rfl (xs [] [0, 1, 2] rfl rfl rfl (one1 7 rfl rfl (ov (EV.ex rfl rfl) rfl (xs [] [0, 1, 2] rfl rfl rfl (xd (pr [0, 2, 3, 5] [0, 1, 2] [0, 2, 4] rfl rfl rfl rfl (ge (rg (sv (EV.mv rfl) rfl (sv (EV.sub rfl rfl) rfl (sv (EV.as rfl) rfl (re (wk [0, 2, 3, 5] [2, 0, 1] [⟨0, 2, 1, true⟩, ⟨2, 1, 2, true⟩, ⟨1, 0, 0, false⟩] (ih0 _ (by omega) _ ⟨wrap64 (x4_5 - 1), t12_1, t12_2, x4_2_0, Ax4_2_0, cx4_2_0, x4_2_1, x4_2_2, t13_0, At13_0, ct13_0, t13_1, t13_2, H, rfl⟩))))))))))))))
      ·
       refine ov (EV.ex rfl rfl) rfl (xs [] [0, 1, 2] rfl rfl rfl ?_)
       refine one2 7 8 rfl rfl rfl rfl ?_ ?_
       ·
        exact ov (EV.ex rfl rfl) rfl (xs [] [0, 1, 2] rfl rfl rfl (one1 8 rfl rfl (ov (EV.ex rfl rfl) rfl (xs [] [0, 1, 2] rfl rfl rfl (xd (pr [0, 2, 3, 5] [0, 1, 2] [0, 2, 4] rfl rfl rfl rfl (ge (rg (sv (EV.mv rfl) rfl (sv (EV.sub rfl rfl) rfl (sv (EV.as rfl) rfl (re (wk [0, 2, 3, 5] [2, 0, 1] [⟨0, 2, 1, true⟩, ⟨2, 1, 2, true⟩, ⟨1, 0, 0, false⟩] (ih0 _ (by omega) _ ⟨wrap64 (x4_5 - 1), t12_1, t12_2, x4_2_0, Ax4_2_0, cx4_2_0, x4_2_1, x4_2_2, t13_0, At13_0, ct13_0, t13_1, t13_2, H, rfl⟩))))))))))))))
       ·
        exact ov (EV.ex rfl rfl) rfl (xs [] [0, 1, 2] rfl rfl rfl (one1 7 rfl rfl (ov (EV.ex rfl rfl) rfl (xs [] [0, 1, 2] rfl rfl rfl (xd (pr [0, 2, 3, 5] [0, 1, 2] [0, 2, 4] rfl rfl rfl rfl (ge (rg (sv (EV.mv rfl) rfl (sv (EV.sub rfl rfl) rfl (sv (EV.as rfl) rfl (re (wk [0, 2, 3, 5] [2, 0, 1] [⟨0, 2, 1, true⟩, ⟨2, 1, 2, true⟩, ⟨1, 0, 0, false⟩] (ih0 _ (by omega) _ ⟨wrap64 (x4_5 - 1), t12_1, t12_2, x4_2_0, Ax4_2_0, cx4_2_0, x4_2_1, x4_2_2, t13_0, At13_0, ct13_0, t13_1, t13_2, H, rfl⟩))))))))))))))
    ·
     refine ov (EV.ex rfl rfl) rfl (xs [] [0, 1, 2] rfl rfl rfl ?_)
     refine one3 6 8 9 rfl rfl rfl rfl rfl rfl ?_ ?_ ?_
     ·
      refine ov (EV.ex rfl rfl) rfl (xs [] [0, 1, 2] rfl rfl rfl ?_)
      refine one3 8 9 10 rfl rfl rfl rfl rfl rfl ?_ ?_ ?_
      ·
       refine ov (EV.ex rfl rfl) rfl (xs [] [0, 1, 2] rfl rfl rfl ?_)
       refine one2 9 10 rfl rfl rfl rfl ?_ ?_
       ·
        exact ov (EV.ex rfl rfl) rfl (xs [] [0, 1, 2] rfl rfl rfl (one1 10 rfl rfl (op_st (cs' := [.slice At13_0 t13_0.length ct13_0, .int .i64 t13_1, .bool t13_2]) 1 rfl rfl rfl rfl rfl rfl (xn rfl (xd (pr [0, 2, 3, 5] [0, 1, 2] [0, 2, 4] rfl rfl rfl rfl (ge (rg (sv (EV.mv rfl) rfl (sv (EV.sub rfl rfl) rfl (sv (EV.as rfl) rfl (re (wk [0, 2, 3, 5] [2, 0, 1] [⟨0, 2, 1, true⟩, ⟨2, 1, 2, true⟩, ⟨1, 0, 0, false⟩] (ih0 _ (by omega) _ ⟨wrap64 (x4_5 - 1), t12_1, t12_2, x4_2_0, Ax4_2_0, cx4_2_0, x4_2_1, x4_2_2, t13_0, At13_0, ct13_0, t13_1, t13_2, H, rfl⟩))))))))))))))
       ·
        exact op_st (cs' := [.slice At13_0 t13_0.length ct13_0, .int .i64 t13_1, .bool t13_2]) 1 rfl rfl rfl rfl rfl rfl (xn rfl (one1 9 rfl rfl (ov (EV.ex rfl rfl) rfl (xs [] [0, 1, 2] rfl rfl rfl (xd (pr [0, 2, 3, 5] [0, 1, 2] [0, 2, 4] rfl rfl rfl rfl (ge (rg (sv (EV.mv rfl) rfl (sv (EV.sub rfl rfl) rfl (sv (EV.as rfl) rfl (re (wk [0, 2, 3, 5] [2, 0, 1] [⟨0, 2, 1, true⟩, ⟨2, 1, 2, true⟩, ⟨1, 0, 0, false⟩] (ih0 _ (by omega) _ ⟨wrap64 (x4_5 - 1), t12_1, t12_2, x4_2_0, Ax4_2_0, cx4_2_0, x4_2_1, x4_2_2, t13_0, At13_0, ct13_0, t13_1, t13_2, H, rfl⟩))))))))))))))
      ·
       refine ov (EV.ex rfl rfl) rfl (xs [] [0, 1, 2] rfl rfl rfl ?_)
       refine one2 8 10 rfl rfl rfl rfl ?_ ?_
       ·
        exact ov (EV.ex rfl rfl) rfl (xs [] [0, 1, 2] rfl rfl rfl (one1 10 rfl rfl (op_st (cs' := [.slice At13_0 t13_0.length ct13_0, .int .i64 t13_1, .bool t13_2]) 1 rfl rfl rfl rfl rfl rfl (xn rfl (xd (pr [0, 2, 3, 5] [0, 1, 2] [0, 2, 4] rfl rfl rfl rfl (ge (rg (sv (EV.mv rfl) rfl (sv (EV.sub rfl rfl) rfl (sv (EV.as rfl) rfl (re (wk [0, 2, 3, 5] [2, 0, 1] [⟨0, 2, 1, true⟩, ⟨2, 1, 2, true⟩, ⟨1, 0, 0, false⟩] (ih0 _ (by omega) _ ⟨wrap64 (x4_5 - 1), t12_1, t12_2, x4_2_0, Ax4_2_0, cx4_2_0, x4_2_1, x4_2_2, t13_0, At13_0, ct13_0, t13_1, t13_2, H, rfl⟩))))))))))))))
       ·
        exact op_st (cs' := [.slice At13_0 t13_0.length ct13_0, .int .i64 t13_1, .bool t13_2]) 1 rfl rfl rfl rfl rfl rfl (xn rfl (one1 8 rfl rfl (ov (EV.ex rfl rfl) rfl (xs [] [0, 1, 2] rfl rfl rfl (xd (pr [0, 2, 3, 5] [0, 1, 2] [0, 2, 4] rfl rfl rfl rfl (ge (rg (sv (EV.mv rfl) rfl (sv (EV.sub rfl rfl) rfl (sv (EV.as rfl) rfl (re (wk [0, 2, 3, 5] [2, 0, 1] [⟨0, 2, 1, true⟩, ⟨2, 1, 2, true⟩, ⟨1, 0, 0, false⟩] (ih0 _ (by omega) _ ⟨wrap64 (x4_5 - 1), t12_1, t12_2, x4_2_0, Ax4_2_0, cx4_2_0, x4_2_1, x4_2_2, t13_0, At13_0, ct13_0, t13_1, t13_2, H, rfl⟩))))))))))))))
      ·
       refine op_st (cs' := [.slice At13_0 t13_0.length ct13_0, .int .i64 t13_1, .bool t13_2]) 1 rfl rfl rfl rfl rfl rfl (xn rfl ?_)
       refine one2 8 9 rfl rfl rfl rfl ?_ ?_
       ·
        exact ov (EV.ex rfl rfl) rfl (xs [] [0, 1, 2] rfl rfl rfl (one1 9 rfl rfl (ov (EV.ex rfl rfl) rfl (xs [] [0, 1, 2] rfl rfl rfl (xd (pr [0, 2, 3, 5] [0, 1, 2] [0, 2, 4] rfl rfl rfl rfl (ge (rg (sv (EV.mv rfl) rfl (sv (EV.sub rfl rfl) rfl (sv (EV.as rfl) rfl (re (wk [0, 2, 3, 5] [2, 0, 1] [⟨0, 2, 1, true⟩, ⟨2, 1, 2, true⟩, ⟨1, 0, 0, false⟩] (ih0 _ (by omega) _ ⟨wrap64 (x4_5 - 1), t12_1, t12_2, x4_2_0, Ax4_2_0, cx4_2_0, x4_2_1, x4_2_2, t13_0, At13_0, ct13_0, t13_1, t13_2, H, rfl⟩))))))))))))))
       ·
        exact ov (EV.ex rfl rfl) rfl (xs [] [0, 1, 2] rfl rfl rfl (one1 8 rfl rfl (ov (EV.ex rfl rfl) rfl (xs [] [0, 1, 2] rfl rfl rfl (xd (pr [0, 2, 3, 5] [0, 1, 2] [0, 2, 4] rfl rfl rfl rfl (ge (rg (sv (EV.mv rfl) rfl (sv (EV.sub rfl rfl) rfl (sv (EV.as rfl) rfl (re (wk [0, 2, 3, 5] [2, 0, 1] [⟨0, 2, 1, true⟩, ⟨2, 1, 2, true⟩, ⟨1, 0, 0, false⟩] (ih0 _ (by omega) _ ⟨wrap64 (x4_5 - 1), t12_1, t12_2, x4_2_0, Ax4_2_0, cx4_2_0, x4_2_1, x4_2_2, t13_0, At13_0, ct13_0, t13_1, t13_2, H, rfl⟩))))))))))))))
     ·
      refine ov (EV.ex rfl rfl) rfl (xs [] [0, 1, 2] rfl rfl rfl ?_)
      refine one2 6 9 rfl rfl rfl rfl ?_ ?_
      ·
       refine ov (EV.ex rfl rfl) rfl (xs [] [0, 1, 2] rfl rfl rfl ?_)
       refine one2 9 10 rfl rfl rfl rfl ?_ ?_
       ·
        exact ov (EV.ex rfl rfl) rfl (xs [] [0, 1, 2] rfl rfl rfl (one1 10 rfl rfl (op_st (cs' := [.slice At13_0 t13_0.length ct13_0, .int .i64 t13_1, .bool t13_2]) 1 rfl rfl rfl rfl rfl rfl (xn rfl (xd (pr [0, 2, 3, 5] [0, 1, 2] [0, 2, 4] rfl rfl rfl rfl (ge (rg (sv (EV.mv rfl) rfl (sv (EV.sub rfl rfl) rfl (sv (EV.as rfl) rfl (re (wk [0, 2, 3, 5] [2, 0, 1] [⟨0, 2, 1, true⟩, ⟨2, 1, 2, true⟩, ⟨1, 0, 0, false⟩] (ih0 _ (by omega) _ ⟨wrap64 (x4_5 - 1), t12_1, t12_2, x4_2_0, Ax4_2_0, cx4_2_0, x4_2_1, x4_2_2, t13_0, At13_0, ct13_0, t13_1, t13_2, H, rfl⟩))))))))))))))
       ·
        exact op_st (cs' := [.slice At13_0 t13_0.length ct13_0, .int .i64 t13_1, .bool t13_2]) 1 rfl rfl rfl rfl rfl rfl (xn rfl (one1 9 rfl rfl (ov (EV.ex rfl rfl) rfl (xs [] [0, 1, 2] rfl rfl rfl (xd (pr [0, 2, 3, 5] [0, 1, 2] [0, 2, 4] rfl rfl rfl rfl (ge (rg (sv (EV.mv rfl) rfl (sv (EV.sub rfl rfl) rfl (sv (EV.as rfl) rfl (re (wk [0, 2, 3, 5] [2, 0, 1] [⟨0, 2, 1, true⟩, ⟨2, 1, 2, true⟩, ⟨1, 0, 0, false⟩] (ih0 _ (by omega) _ ⟨wrap64 (x4_5 - 1), t12_1, t12_2, x4_2_0, Ax4_2_0, cx4_2_0, x4_2_1, x4_2_2, t13_0, At13_0, ct13_0, t13_1, t13_2, H, rfl⟩))))))))))))))
      ·
       exact ov (EV.ex rfl rfl) rfl (xs [] [0, 1, 2] rfl rfl rfl (one1 6 rfl rfl (ov (EV.ex rfl rfl) rfl (xs [] [0, 1, 2] rfl rfl rfl (one1 10 rfl rfl (op_st (cs' := [.slice At13_0 t13_0.length ct13_0, .int .i64 t13_1, .bool t13_2]) 1 rfl rfl rfl rfl rfl rfl (xn rfl (xd (pr [0, 2, 3, 5] [0, 1, 2] [0, 2, 4] rfl rfl rfl rfl (ge (rg (sv (EV.mv rfl) rfl (sv (EV.sub rfl rfl) rfl (sv (EV.as rfl) rfl (re (wk [0, 2, 3, 5] [2, 0, 1] [⟨0, 2, 1, true⟩, ⟨2, 1, 2, true⟩, ⟨1, 0, 0, false⟩] (ih0 _ (by omega) _ ⟨wrap64 (x4_5 - 1), t12_1, t12_2, x4_2_0, Ax4_2_0, cx4_2_0, x4_2_1, x4_2_2, t13_0, At13_0, ct13_0, t13_1, t13_2, H, rfl⟩)))))))))))))))))
     ·
      refine ov (EV.ex rfl rfl) rfl (xs [] [0, 1, 2] rfl rfl rfl ?_)
      refine one2 6 8 rfl rfl rfl rfl ?_ ?_
      ·
       refine ov (EV.ex rfl rfl) rfl (xs [] [0, 1, 2] rfl rfl rfl ?_)
       refine one2 8 10 rfl rfl rfl rfl ?_ ?_
       ·
        exact ov (EV.ex rfl rfl) rfl (xs [] [0, 1, 2] rfl rfl rfl (one1 10 rfl rfl (op_st (cs' := [.slice At13_0 t13_0.length ct13_0, .int .i64 t13_1, .bool t13_2]) 1 rfl rfl rfl rfl rfl rfl (xn rfl (xd (pr [0, 2, 3, 5] [0, 1, 2] [0, 2, 4] rfl rfl rfl rfl (ge (rg (sv (EV.mv rfl) rfl (sv (EV.sub rfl rfl) rfl (sv (EV.as rfl) rfl (re (wk [0, 2, 3, 5] [2, 0, 1] [⟨0, 2, 1, true⟩, ⟨2, 1, 2, true⟩, ⟨1, 0, 0, false⟩] (ih0 _ (by omega) _ ⟨wrap64 (x4_5 - 1), t12_1, t12_2, x4_2_0, Ax4_2_0, cx4_2_0, x4_2_1, x4_2_2, t13_0, At13_0, ct13_0, t13_1, t13_2, H, rfl⟩))))))))))))))
       ·
        exact op_st (cs' := [.slice At13_0 t13_0.length ct13_0, .int .i64 t13_1, .bool t13_2]) 1 rfl rfl rfl rfl rfl rfl (xn rfl (one1 8 rfl rfl (ov (EV.ex rfl rfl) rfl (xs [] [0, 1, 2] rfl rfl rfl (xd (pr [0, 2, 3, 5] [0, 1, 2] [0, 2, 4] rfl rfl rfl rfl (ge (rg (sv (EV.mv rfl) rfl (sv (EV.sub rfl rfl) rfl (sv (EV.as rfl) rfl (re (wk [0, 2, 3, 5] [2, 0, 1] [⟨0, 2, 1, true⟩, ⟨2, 1, 2, true⟩, ⟨1, 0, 0, false⟩] (ih0 _ (by omega) _ ⟨wrap64 (x4_5 - 1), t12_1, t12_2, x4_2_0, Ax4_2_0, cx4_2_0, x4_2_1, x4_2_2, t13_0, At13_0, ct13_0, t13_1, t13_2, H, rfl⟩))))))))))))))
      ·
       exact ov (EV.ex rfl rfl) rfl (xs [] [0, 1, 2] rfl rfl rfl (one1 6 rfl rfl (ov (EV.ex rfl rfl) rfl (xs [] [0, 1, 2] rfl rfl rfl (one1 10 rfl rfl (op_st (cs' := [.slice At13_0 t13_0.length ct13_0, .int .i64 t13_1, .bool t13_2]) 1 rfl rfl rfl rfl rfl rfl (xn rfl (xd (pr [0, 2, 3, 5] [0, 1, 2] [0, 2, 4] rfl rfl rfl rfl (ge (rg (sv (EV.mv rfl) rfl (sv (EV.sub rfl rfl) rfl (sv (EV.as rfl) rfl (re (wk [0, 2, 3, 5] [2, 0, 1] [⟨0, 2, 1, true⟩, ⟨2, 1, 2, true⟩, ⟨1, 0, 0, false⟩] (ih0 _ (by omega) _ ⟨wrap64 (x4_5 - 1), t12_1, t12_2, x4_2_0, Ax4_2_0, cx4_2_0, x4_2_1, x4_2_2, t13_0, At13_0, ct13_0, t13_1, t13_2, H, rfl⟩)))))))))))))))))
    ·
     refine ov (EV.ex rfl rfl) rfl (xs [] [0, 1, 2] rfl rfl rfl ?_)
     refine one3 6 7 9 rfl rfl rfl rfl rfl rfl ?_ ?_ ?_
     ·
      refine ov (EV.ex rfl rfl) rfl (xs [] [0, 1, 2] rfl rfl rfl ?_)
      refine one3 7 9 10 rfl rfl rfl rfl rfl rfl ?_ ?_ ?_
      ·
       refine ov (EV.ex rfl rfl) rfl (xs [] [0, 1, 2] rfl rfl rfl ?_)
       refine one2 9 10 rfl rfl rfl rfl ?_ ?_
       ·
        exact ov (EV.ex rfl rfl) rfl (xs [] [0, 1, 2] rfl rfl rfl (one1 10 rfl rfl (op_st (cs' := [.slice At13_0 t13_0.length ct13_0, .int .i64 t13_1, .bool t13_2]) 1 rfl rfl rfl rfl rfl rfl (xn rfl (xd (pr [0, 2, 3, 5] [0, 1, 2] [0, 2, 4] rfl rfl rfl rfl (ge (rg (sv (EV.mv rfl) rfl (sv (EV.sub rfl rfl) rfl (sv (EV.as rfl) rfl (re (wk [0, 2, 3, 5] [2, 0, 1] [⟨0, 2, 1, true⟩, ⟨2, 1, 2, true⟩, ⟨1, 0, 0, false⟩] (ih0 _ (by omega) _ ⟨wrap64 (x4_5 - 1), t12_1, t12_2, x4_2_0, Ax4_2_0, cx4_2_0, x4_2_1, x4_2_2, t13_0, At13_0, ct13_0, t13_1, t13_2, H, rfl⟩))))))))))))))
       ·
        exact op_st (cs' := [.slice At13_0 t13_0.length ct13_0, .int .i64 t13_1, .bool t13_2]) 1 rfl rfl rfl rfl rfl rfl (xn rfl (one1 9 rfl rfl (ov (EV.ex rfl rfl) rfl (xs [] [0, 1, 2] rfl rfl rfl (xd (pr [0, 2, 3, 5] [0, 1, 2] [0, 2, 4] rfl rfl rfl rfl (ge (rg (sv (EV.mv rfl) rfl (sv (EV.sub rfl rfl) rfl (sv (EV.as rfl) rfl (re (wk [0, 2, 3, 5] [2, 0, 1] [⟨0, 2, 1, true⟩, ⟨2, 1, 2, true⟩, ⟨1, 0, 0, false⟩] (ih0 _ (by omega) _ ⟨wrap64 (x4_5 - 1), t12_1, t12_2, x4_2_0, Ax4_2_0, cx4_2_0, x4_2_1, x4_2_2, t13_0, At13_0, ct13_0, t13_1, t13_2, H, rfl⟩))))))))))))))
      ·
       refine ov (EV.ex rfl rfl) rfl (xs [] [0, 1, 2] rfl rfl rfl ?_)
       refine one2 7 10 rfl rfl rfl rfl ?_ ?_
       ·
        exact ov (EV.ex rfl rfl) rfl (xs [] [0, 1, 2] rfl rfl rfl (one1 10 rfl rfl (op_st (cs' := [.slice At13_0 t13_0.length ct13_0, .int .i64 t13_1, .bool t13_2]) 1 rfl rfl rfl rfl rfl rfl (xn rfl (xd (pr [0, 2, 3, 5] [0, 1, 2] [0, 2, 4] rfl rfl rfl rfl (ge (rg (sv (EV.mv rfl) rfl (sv (EV.sub rfl rfl) rfl (sv (EV.as rfl) rfl (re (wk [0, 2, 3, 5] [2, 0, 1] [⟨0, 2, 1, true⟩, ⟨2, 1, 2, true⟩, ⟨1, 0, 0, false⟩] (ih0 _ (by omega) _ ⟨wrap64 (x4_5 - 1), t12_1, t12_2, x4_2_0, Ax4_2_0, cx4_2_0, x4_2_1, x4_2_2, t13_0, At13_0, ct13_0, t13_1, t13_2, H, rfl⟩))))))))))))))
       ·
        exact op_st (cs' := [.slice At13_0 t13_0.length ct13_0, .int .i64 t13_1, .bool t13_2]) 1 rfl rfl rfl rfl rfl rfl (xn rfl (one1 7 rfl rfl (ov (EV.ex rfl rfl) rfl (xs [] [0, 1, 2] rfl rfl rfl (xd (pr [0, 2, 3, 5] [0, 1, 2] [0, 2, 4] rfl rfl rfl rfl (ge (rg (sv (EV.mv rfl) rfl (sv (EV.sub rfl rfl) rfl (sv (EV.as rfl) rfl (re (wk [0, 2, 3, 5] [2, 0, 1] [⟨0, 2, 1, true⟩, ⟨2, 1, 2, true⟩, ⟨1, 0, 0, false⟩] (ih0 _ (by omega) _ ⟨wrap64 (x4_5 - 1), t12_1, t12_2, x4_2_0, Ax4_2_0, cx4_2_0, x4_2_1, x4_2_2, t13_0, At13_0, ct13_0, t13_1, t13_2, H, rfl⟩))))))))))))))
      ·
       refine op_st (cs' := [.slice At13_0 t13_0.length ct13_0, .int .i64 t13_1, .bool t13_2]) 1 rfl rfl rfl rfl rfl rfl (xn rfl ?_)
       refine one2 7 9 rfl rfl rfl rfl ?_ ?_
       ·
        exact ov (EV.ex rfl rfl) rfl (xs [] [0, 1, 2] rfl rfl rfl (one1 9 rfl rfl (ov (EV.ex rfl rfl) rfl (xs [] [0, 1, 2] rfl rfl rfl (xd (pr [0, 2, 3, 5] [0, 1, 2] [0, 2, 4] rfl rfl rfl rfl (ge (rg (sv (EV.mv rfl) rfl (sv (EV.sub rfl rfl) rfl (sv (EV.as rfl) rfl (re (wk [0, 2, 3, 5] [2, 0, 1] [⟨0, 2, 1, true⟩, ⟨2, 1, 2, true⟩, ⟨1, 0, 0, false⟩] (ih0 _ (by omega) _ ⟨wrap64 (x4_5 - 1), t12_1, t12_2, x4_2_0, Ax4_2_0, cx4_2_0, x4_2_1, x4_2_2, t13_0, At13_0, ct13_0, t13_1, t13_2, H, rfl⟩))))))))))))))
       ·
        exact ov (EV.ex rfl rfl) rfl (xs [] [0, 1, 2] rfl rfl rfl (one1 7 rfl rfl (ov (EV.ex rfl rfl) rfl (xs [] [0, 1, 2] rfl rfl rfl (xd (pr [0, 2, 3, 5] [0, 1, 2] [0, 2, 4] rfl rfl rfl rfl (ge (rg (sv (EV.mv rfl) rfl (sv (EV.sub rfl rfl) rfl (sv (EV.as rfl) rfl (re (wk [0, 2, 3, 5] [2, 0, 1] [⟨0, 2, 1, true⟩, ⟨2, 1, 2, true⟩, ⟨1, 0, 0, false⟩] (ih0 _ (by omega) _ ⟨wrap64 (x4_5 - 1), t12_1, t12_2, x4_2_0, Ax4_2_0, cx4_2_0, x4_2_1, x4_2_2, t13_0, At13_0, ct13_0, t13_1, t13_2, H, rfl⟩))))))))))))))
     ·
      refine ov (EV.ex rfl rfl) rfl (xs [] [0, 1, 2] rfl rfl rfl ?_)
      refine one2 6 9 rfl rfl rfl rfl ?_ ?_
      ·
       refine ov (EV.ex rfl rfl) rfl (xs [] [0, 1, 2] rfl rfl rfl ?_)
       refine one2 9 10 rfl rfl rfl rfl ?_ ?_
       ·
        exact ov (EV.ex rfl rfl) rfl (xs [] [0, 1, 2] rfl rfl rfl (one1 10 rfl rfl (op_st (cs' := [.slice At13_0 t13_0.length ct13_0, .int .i64 t13_1, .bool t13_2]) 1 rfl rfl rfl rfl rfl rfl (xn rfl (xd (pr [0, 2, 3, 5] [0, 1, 2] [0, 2, 4] rfl rfl rfl rfl (ge (rg (sv (EV.mv rfl) rfl (sv (EV.sub rfl rfl) rfl (sv (EV.as rfl) rfl (re (wk [0, 2, 3, 5] [2, 0, 1] [⟨0, 2, 1, true⟩, ⟨2, 1, 2, true⟩, ⟨1, 0, 0, false⟩] (ih0 _ (by omega) _ ⟨wrap64 (x4_5 - 1), t12_1, t12_2, x4_2_0, Ax4_2_0, cx4_2_0, x4_2_1, x4_2_2, t13_0, At13_0, ct13_0, t13_1, t13_2, H, rfl⟩))))))))))))))
       ·
        exact op_st (cs' := [.slice At13_0 t13_0.length ct13_0, .int .i64 t13_1, .bool t13_2]) 1 rfl rfl rfl rfl rfl rfl (xn rfl (one1 9 rfl rfl (ov (EV.ex rfl rfl) rfl (xs [] [0, 1, 2] rfl rfl rfl (xd (pr [0, 2, 3, 5] [0, 1, 2] [0, 2, 4] rfl rfl rfl rfl (ge (rg (sv (EV.mv rfl) rfl (sv (EV.sub rfl rfl) rfl (sv (EV.as rfl) rfl (re (wk [0, 2, 3, 5] [2, 0, 1] [⟨0, 2, 1, true⟩, ⟨2, 1, 2, true⟩, ⟨1, 0, 0, false⟩] (ih0 _ (by omega) _ ⟨wrap64 (x4_5 - 1), t12_1, t12_2, x4_2_0, Ax4_2_0, cx4_2_0, x4_2_1, x4_2_2, t13_0, At13_0, ct13_0, t13_1, t13_2, H, rfl⟩))))))))))))))
      ·
       exact ov (EV.ex rfl rfl) rfl (xs [] [0, 1, 2] rfl rfl rfl (one1 6 rfl rfl (ov (EV.ex rfl rfl) rfl (xs [] [0, 1, 2] rfl rfl rfl (one1 10 rfl rfl (op_st (cs' := [.slice At13_0 t13_0.length ct13_0, .int .i64 t13_1, .bool t13_2]) 1 rfl rfl rfl rfl rfl rfl (xn rfl (xd (pr [0, 2, 3, 5] [0, 1, 2] [0, 2, 4] rfl rfl rfl rfl (ge (rg (sv (EV.mv rfl) rfl (sv (EV.sub rfl rfl) rfl (sv (EV.as rfl) rfl (re (wk [0, 2, 3, 5] [2, 0, 1] [⟨0, 2, 1, true⟩, ⟨2, 1, 2, true⟩, ⟨1, 0, 0, false⟩] (ih0 _ (by omega) _ ⟨wrap64 (x4_5 - 1), t12_1, t12_2, x4_2_0, Ax4_2_0, cx4_2_0, x4_2_1, x4_2_2, t13_0, At13_0, ct13_0, t13_1, t13_2, H, rfl⟩)))))))))))))))))
     ·
      refine ov (EV.ex rfl rfl) rfl (xs [] [0, 1, 2] rfl rfl rfl ?_)
      refine one2 6 7 rfl rfl rfl rfl ?_ ?_
      ·
       refine ov (EV.ex rfl rfl) rfl (xs [] [0, 1, 2] rfl rfl rfl ?_)
       refine one2 7 10 rfl rfl rfl rfl ?_ ?_
       ·
        exact ov (EV.ex rfl rfl) rfl (xs [] [0, 1, 2] rfl rfl rfl (one1 10 rfl rfl (op_st (cs' := [.slice At13_0 t13_0.length ct13_0, .int .i64 t13_1, .bool t13_2]) 1 rfl rfl rfl rfl rfl rfl (xn rfl (xd (pr [0, 2, 3, 5] [0, 1, 2] [0, 2, 4] rfl rfl rfl rfl (ge (rg (sv (EV.mv rfl) rfl (sv (EV.sub rfl rfl) rfl (sv (EV.as rfl) rfl (re (wk [0, 2, 3, 5] [2, 0, 1] [⟨0, 2, 1, true⟩, ⟨2, 1, 2, true⟩, ⟨1, 0, 0, false⟩] (ih0 _ (by omega) _ ⟨wrap64 (x4_5 - 1), t12_1, t12_2, x4_2_0, Ax4_2_0, cx4_2_0, x4_2_1, x4_2_2, t13_0, At13_0, ct13_0, t13_1, t13_2, H, rfl⟩))))))))))))))
       ·
        exact op_st (cs' := [.slice At13_0 t13_0.length ct13_0, .int .i64 t13_1, .bool t13_2]) 1 rfl rfl rfl rfl rfl rfl (xn rfl (one1 7 rfl rfl (ov (EV.ex rfl rfl) rfl (xs [] [0, 1, 2] rfl rfl rfl (xd (pr [0, 2, 3, 5] [0, 1, 2] [0, 2, 4] rfl rfl rfl rfl (ge (rg (sv (EV.mv rfl) rfl (sv (EV.sub rfl rfl) rfl (sv (EV.as rfl) rfl (re (wk [0, 2, 3, 5] [2, 0, 1] [⟨0, 2, 1, true⟩, ⟨2, 1, 2, true⟩, ⟨1, 0, 0, false⟩] (ih0 _ (by omega) _ ⟨wrap64 (x4_5 - 1), t12_1, t12_2, x4_2_0, Ax4_2_0, cx4_2_0, x4_2_1, x4_2_2, t13_0, At13_0, ct13_0, t13_1, t13_2, H, rfl⟩))))))))))))))
      ·
       exact ov (EV.ex rfl rfl) rfl (xs [] [0, 1, 2] rfl rfl rfl (one1 6 rfl rfl (ov (EV.ex rfl rfl) rfl (xs [] [0, 1, 2] rfl rfl rfl (one1 10 rfl rfl (op_st (cs' := [.slice At13_0 t13_0.length ct13_0, .int .i64 t13_1, .bool t13_2]) 1 rfl rfl rfl rfl rfl rfl (xn rfl (xd (pr [0, 2, 3, 5] [0, 1, 2] [0, 2, 4] rfl rfl rfl rfl (ge (rg (sv (EV.mv rfl) rfl (sv (EV.sub rfl rfl) rfl (sv (EV.as rfl) rfl (re (wk [0, 2, 3, 5] [2, 0, 1] [⟨0, 2, 1, true⟩, ⟨2, 1, 2, true⟩, ⟨1, 0, 0, false⟩] (ih0 _ (by omega) _ ⟨wrap64 (x4_5 - 1), t12_1, t12_2, x4_2_0, Ax4_2_0, cx4_2_0, x4_2_1, x4_2_2, t13_0, At13_0, ct13_0, t13_1, t13_2, H, rfl⟩)))))))))))))))))
    ·
     refine ov (EV.ex rfl rfl) rfl (xs [] [0, 1, 2] rfl rfl rfl ?_)
     refine one3 6 7 8 rfl rfl rfl rfl rfl rfl ?_ ?_ ?_
     ·
      refine ov (EV.ex rfl rfl) rfl (xs [] [0, 1, 2] rfl rfl rfl ?_)
      refine one3 7 8 10 rfl rfl rfl rfl rfl rfl ?_ ?_ ?_
      ·
       refine ov (EV.ex rfl rfl) rfl (xs [] [0, 1, 2] rfl rfl rfl ?_)
       refine one2 8 10 rfl rfl rfl rfl ?_ ?_
       ·
        exact ov (EV.ex rfl rfl) rfl (xs [] [0, 1, 2] rfl rfl rfl (one1 10 rfl rfl (op_st (cs' := [.slice At13_0 t13_0.length ct13_0, .int .i64 t13_1, .bool t13_2]) 1 rfl rfl rfl rfl rfl rfl (xn rfl (xd (pr [0, 2, 3, 5] [0, 1, 2] [0, 2, 4] rfl rfl rfl rfl (ge (rg (sv (EV.mv rfl) rfl (sv (EV.sub rfl rfl) rfl (sv (EV.as rfl) rfl (re (wk [0, 2, 3, 5] [2, 0, 1] [⟨0, 2, 1, true⟩, ⟨2, 1, 2, true⟩, ⟨1, 0, 0, false⟩] (ih0 _ (by omega) _ ⟨wrap64 (x4_5 - 1), t12_1, t12_2, x4_2_0, Ax4_2_0, cx4_2_0, x4_2_1, x4_2_2, t13_0, At13_0, ct13_0, t13_1, t13_2, H, rfl⟩))))))))))))))
       ·
        exact op_st (cs' := [.slice At13_0 t13_0.length ct13_0, .int .i64 t13_1, .bool t13_2]) 1 rfl rfl rfl rfl rfl rfl (xn rfl (one1 8 rfl rfl (ov (EV.ex rfl rfl) rfl (xs [] [0, 1, 2] rfl rfl rfl (xd (pr [0, 2, 3, 5] [0, 1, 2] [0, 2, 4] rfl rfl rfl rfl (ge (rg (sv (EV.mv rfl) rfl (sv (EV.sub rfl rfl) rfl (sv (EV.as rfl) rfl (re (wk [0, 2, 3, 5] [2, 0, 1] [⟨0, 2, 1, true⟩, ⟨2, 1, 2, true⟩, ⟨1, 0, 0, false⟩] (ih0 _ (by omega) _ ⟨wrap64 (x4_5 - 1), t12_1, t12_2, x4_2_0, Ax4_2_0, cx4_2_0, x4_2_1, x4_2_2, t13_0, At13_0, ct13_0, t13_1, t13_2, H, rfl⟩))))))))))))))
      ·
       refine ov (EV.ex rfl rfl) rfl (xs [] [0, 1, 2] rfl rfl rfl ?_)
       refine one2 7 10 rfl rfl rfl rfl ?_ ?_
       ·
        exact ov (EV.ex rfl rfl) rfl (xs [] [0, 1, 2] rfl rfl rfl (one1 10 rfl rfl (op_st (cs' := [.slice At13_0 t13_0.length ct13_0, .int .i64 t13_1, .bool t13_2]) 1 rfl rfl rfl rfl rfl rfl (xn rfl (xd (pr [0, 2, 3, 5] [0, 1, 2] [0, 2, 4] rfl rfl rfl rfl (ge (rg (sv (EV.mv rfl) rfl (sv (EV.sub rfl rfl) rfl (sv (EV.as rfl) rfl (re (wk [0, 2, 3, 5] [2, 0, 1] [⟨0, 2, 1, true⟩, ⟨2, 1, 2, true⟩, ⟨1, 0, 0, false⟩] (ih0 _ (by omega) _ ⟨wrap64 (x4_5 - 1), t12_1, t12_2, x4_2_0, Ax4_2_0, cx4_2_0, x4_2_1, x4_2_2, t13_0, At13_0, ct13_0, t13_1, t13_2, H, rfl⟩))))))))))))))
       ·
        exact op_st (cs' := [.slice At13_0 t13_0.length ct13_0, .int .i64 t13_1, .bool t13_2]) 1 rfl rfl rfl rfl rfl rfl (xn rfl (one1 7 rfl rfl (ov (EV.ex rfl rfl) rfl (xs [] [0, 1, 2] rfl rfl rfl (xd (pr [0, 2, 3, 5] [0, 1, 2] [0, 2, 4] rfl rfl rfl rfl (ge (rg (sv (EV.mv rfl) rfl (sv (EV.sub rfl rfl) rfl (sv (EV.as rfl) rfl (re (wk [0, 2, 3, 5] [2, 0, 1] [⟨0, 2, 1, true⟩, ⟨2, 1, 2, true⟩, ⟨1, 0, 0, false⟩] (ih0 _ (by omega) _ ⟨wrap64 (x4_5 - 1), t12_1, t12_2, x4_2_0, Ax4_2_0, cx4_2_0, x4_2_1, x4_2_2, t13_0, At13_0, ct13_0, t13_1, t13_2, H, rfl⟩))))))))))))))
      ·
       refine op_st (cs' := [.slice At13_0 t13_0.length ct13_0, .int .i64 t13_1, .bool t13_2]) 1 rfl rfl rfl rfl rfl rfl (xn rfl ?_)
       refine one2 7 8 rfl rfl rfl rfl ?_ ?_
       ·
        exact ov (EV.ex rfl rfl) rfl (xs [] [0, 1, 2] rfl rfl rfl (one1 8 rfl rfl (ov (EV.ex rfl rfl) rfl (xs [] [0, 1, 2] rfl rfl rfl (xd (pr [0, 2, 3, 5] [0, 1, 2] [0, 2, 4] rfl rfl rfl rfl (ge (rg (sv (EV.mv rfl) rfl (sv (EV.sub rfl rfl) rfl (sv (EV.as rfl) rfl (re (wk [0, 2, 3, 5] [2, 0, 1] [⟨0, 2, 1, true⟩, ⟨2, 1, 2, true⟩, ⟨1, 0, 0, false⟩] (ih0 _ (by omega) _ ⟨wrap64 (x4_5 - 1), t12_1, t12_2, x4_2_0, Ax4_2_0, cx4_2_0, x4_2_1, x4_2_2, t13_0, At13_0, ct13_0, t13_1, t13_2, H, rfl⟩))))))))))))))
       ·
        exact ov (EV.ex rfl rfl) rfl (xs [] [0, 1, 2] rfl rfl rfl (one1 7 rfl rfl (ov (EV.ex rfl rfl) rfl (xs [] [0, 1, 2] rfl rfl rfl (xd (pr [0, 2, 3, 5] [0, 1, 2] [0, 2, 4] rfl rfl rfl rfl (ge (rg (sv (EV.mv rfl) rfl (sv (EV.sub rfl rfl) rfl (sv (EV.as rfl) rfl (re (wk [0, 2, 3, 5] [2, 0, 1] [⟨0, 2, 1, true⟩, ⟨2, 1, 2, true⟩, ⟨1, 0, 0, false⟩] (ih0 _ (by omega) _ ⟨wrap64 (x4_5 - 1), t12_1, t12_2, x4_2_0, Ax4_2_0, cx4_2_0, x4_2_1, x4_2_2, t13_0, At13_0, ct13_0, t13_1, t13_2, H, rfl⟩))))))))))))))
     ·
      refine ov (EV.ex rfl rfl) rfl (xs [] [0, 1, 2] rfl rfl rfl ?_)
      refine one2 6 8 rfl rfl rfl rfl ?_ ?_
      ·
       refine ov (EV.ex rfl rfl) rfl (xs [] [0, 1, 2] rfl rfl rfl ?_)
       refine one2 8 10 rfl rfl rfl rfl ?_ ?_
       ·
        exact ov (EV.ex rfl rfl) rfl (xs [] [0, 1, 2] rfl rfl rfl (one1 10 rfl rfl (op_st (cs' := [.slice At13_0 t13_0.length ct13_0, .int .i64 t13_1, .bool t13_2]) 1 rfl rfl rfl rfl rfl rfl (xn rfl (xd (pr [0, 2, 3, 5] [0, 1, 2] [0, 2, 4] rfl rfl rfl rfl (ge (rg (sv (EV.mv rfl) rfl (sv (EV.sub rfl rfl) rfl (sv (EV.as rfl) rfl (re (wk [0, 2, 3, 5] [2, 0, 1] [⟨0, 2, 1, true⟩, ⟨2, 1, 2, true⟩, ⟨1, 0, 0, false⟩] (ih0 _ (by omega) _ ⟨wrap64 (x4_5 - 1), t12_1, t12_2, x4_2_0, Ax4_2_0, cx4_2_0, x4_2_1, x4_2_2, t13_0, At13_0, ct13_0, t13_1, t13_2, H, rfl⟩))))))))))))))
       ·
        exact op_st (cs' := [.slice At13_0 t13_0.length ct13_0, .int .i64 t13_1, .bool t13_2]) 1 rfl rfl rfl rfl rfl rfl (xn rfl (one1 8 rfl rfl (ov (EV.ex rfl rfl) rfl (xs [] [0, 1, 2] rfl rfl rfl (xd (pr [0, 2, 3, 5] [0, 1, 2] [0, 2, 4] rfl rfl rfl rfl (ge (rg (sv (EV.mv rfl) rfl (sv (EV.sub rfl rfl) rfl (sv (EV.as rfl) rfl (re (wk [0, 2, 3, 5] [2, 0, 1] [⟨0, 2, 1, true⟩, ⟨2, 1, 2, true⟩, ⟨1, 0, 0, false⟩] (ih0 _ (by omega) _ ⟨wrap64 (x4_5 - 1), t12_1, t12_2, x4_2_0, Ax4_2_0, cx4_2_0, x4_2_1, x4_2_2, t13_0, At13_0, ct13_0, t13_1, t13_2, H, rfl⟩))))))))))))))
      ·
       exact ov (EV.ex rfl rfl) rfl (xs [] [0, 1, 2] rfl rfl rfl (one1 6 rfl rfl (ov (EV.ex rfl rfl) rfl (xs [] [0, 1, 2] rfl rfl rfl (one1 10 rfl rfl (op_st (cs' := [.slice At13_0 t13_0.length ct13_0, .int .i64 t13_1, .bool t13_2]) 1 rfl rfl rfl rfl rfl rfl (xn rfl (xd (pr [0, 2, 3, 5] [0, 1, 2] [0, 2, 4] rfl rfl rfl rfl (ge (rg (sv (EV.mv rfl) rfl (sv (EV.sub rfl rfl) rfl (sv (EV.as rfl) rfl (re (wk [0, 2, 3, 5] [2, 0, 1] [⟨0, 2, 1, true⟩, ⟨2, 1, 2, true⟩, ⟨1, 0, 0, false⟩] (ih0 _ (by omega) _ ⟨wrap64 (x4_5 - 1), t12_1, t12_2, x4_2_0, Ax4_2_0, cx4_2_0, x4_2_1, x4_2_2, t13_0, At13_0, ct13_0, t13_1, t13_2, H, rfl⟩)))))))))))))))))
     ·
      refine ov (EV.ex rfl rfl) rfl (xs [] [0, 1, 2] rfl rfl rfl ?_)
      refine one2 6 7 rfl rfl rfl rfl ?_ ?_
      ·
       refine ov (EV.ex rfl rfl) rfl (xs [] [0, 1, 2] rfl rfl rfl ?_)
       refine one2 7 10 rfl rfl rfl rfl ?_ ?_
       ·
        exact ov (EV.ex rfl rfl) rfl (xs [] [0, 1, 2] rfl rfl rfl (one1 10 rfl rfl (op_st (cs' := [.slice At13_0 t13_0.length ct13_0, .int .i64 t13_1, .bool t13_2]) 1 rfl rfl rfl rfl rfl rfl (xn rfl (xd (pr [0, 2, 3, 5] [0, 1, 2] [0, 2, 4] rfl rfl rfl rfl (ge (rg (sv (EV.mv rfl) rfl (sv (EV.sub rfl rfl) rfl (sv (EV.as rfl) rfl (re (wk [0, 2, 3, 5] [2, 0, 1] [⟨0, 2, 1, true⟩, ⟨2, 1, 2, true⟩, ⟨1, 0, 0, false⟩] (ih0 _ (by omega) _ ⟨wrap64 (x4_5 - 1), t12_1, t12_2, x4_2_0, Ax4_2_0, cx4_2_0, x4_2_1, x4_2_2, t13_0, At13_0, ct13_0, t13_1, t13_2, H, rfl⟩))))))))))))))
       ·
        exact op_st (cs' := [.slice At13_0 t13_0.length ct13_0, .int .i64 t13_1, .bool t13_2]) 1 rfl rfl rfl rfl rfl rfl (xn rfl (one1 7 rfl rfl (ov (EV.ex rfl rfl) rfl (xs [] [0, 1, 2] rfl rfl rfl (xd (pr [0, 2, 3, 5] [0, 1, 2] [0, 2, 4] rfl rfl rfl rfl (ge (rg (sv (EV.mv rfl) rfl (sv (EV.sub rfl rfl) rfl (sv (EV.as rfl) rfl (re (wk [0, 2, 3, 5] [2, 0, 1] [⟨0, 2, 1, true⟩, ⟨2, 1, 2, true⟩, ⟨1, 0, 0, false⟩] (ih0 _ (by omega) _ ⟨wrap64 (x4_5 - 1), t12_1, t12_2, x4_2_0, Ax4_2_0, cx4_2_0, x4_2_1, x4_2_2, t13_0, At13_0, ct13_0, t13_1, t13_2, H, rfl⟩))))))))))))))
      ·
       exact ov (EV.ex rfl rfl) rfl (xs [] [0, 1, 2] rfl rfl rfl (one1 6 rfl rfl (ov (EV.ex rfl rfl) rfl (xs [] [0, 1, 2] rfl rfl rfl (one1 10 rfl rfl (op_st (cs' := [.slice At13_0 t13_0.length ct13_0, .int .i64 t13_1, .bool t13_2]) 1 rfl rfl rfl rfl rfl rfl (xn rfl (xd (pr [0, 2, 3, 5] [0, 1, 2] [0, 2, 4] rfl rfl rfl rfl (ge (rg (sv (EV.mv rfl) rfl (sv (EV.sub rfl rfl) rfl (sv (EV.as rfl) rfl (re (wk [0, 2, 3, 5] [2, 0, 1] [⟨0, 2, 1, true⟩, ⟨2, 1, 2, true⟩, ⟨1, 0, 0, false⟩] (ih0 _ (by omega) _ ⟨wrap64 (x4_5 - 1), t12_1, t12_2, x4_2_0, Ax4_2_0, cx4_2_0, x4_2_1, x4_2_2, t13_0, At13_0, ct13_0, t13_1, t13_2, H, rfl⟩)))))))))))))))))
 ·
  refine gf rfl (dF c5) (gx rfl (gs (gs (rg (sv (EV.mv rfl) rfl ?_)))))
  revert H; refine bdI ?_; rintro ⟨t14_0, t14_1, t14_2⟩ A14 H
  refine so rfl (op_callM (spec_l1Below.ok b1000 l0_0 Al0_0 cl0_0 x4_1000_1 x4_1000_2 14 _ _ _ A14) [⟨2, 0, 0, false⟩] [0] [1, 2] 3 rfl rfl rfl rfl rfl rfl rfl rfl ?_)
  rintro _ _ _ ⟨rfl, rfl, rfl⟩
  refine nmE (en := [.sl 2 k64 Ax4_2_0 cx4_2_0 x4_2_0 1 true, .sl 1 k64 Ax4_3_0 cx4_3_0 x4_3_0 2 true, .sl 0 (.int .u8) Al0_0 cl0_0 l0_0 0 false]) (by kernel_rfl) (re (gb (gs (rg (sv (EV.eql rfl rfl) rfl (sv (EV.as rfl) rfl (re ?_)))))))
  revert H; refine ifsI ?_ ?_ <;> intro c15 H
  ·
   refine gt rfl (dT c15) ?_
   revert H; refine ggI ?_; intro g16 H
   refine dr [0, 1] [0, 2] [10, 11] 12 rfl rfl rfl rfl (xv 0 [0, 1] [0, 2] rfl (EV.fa 0 rfl) rfl rfl rfl rfl (xv 1 [0, 1] [0, 2] rfl (EV.ld 1 none rfl rfl rfl) rfl rfl rfl rfl (xv 2 [0, 1] [0, 2] rfl (EV.mv rfl) rfl rfl rfl rfl (xv 4 [0, 1] [0, 2] rfl (EV.mv rfl) rfl rfl rfl rfl (one1 3 rfl rfl ?_)))))
   revert H; refine bdI ?_; rintro ⟨t17_0, t17_1, t17_2⟩ A17 H
   refine op_callM (spec_l2Bent.ok n0 b1000 l0_0 Al0_0 cl0_0 t14_1 t14_2 4 _ _ _ A17) [⟨2, 0, 0, false⟩] [2] [0, 1] 3 rfl rfl rfl rfl rfl rfl rfl rfl ?_
   rintro _ _ _ ⟨At17_0, ct17_0, rfl, rfl, rfl⟩
   refine nmE (en := [.sl 2 k64 Ax4_2_0 cx4_2_0 x4_2_0 1 true, .sl 1 k64 Ax4_3_0 cx4_3_0 x4_3_0 2 true, .sl 0 (.int .u8) Al0_0 cl0_0 l0_0 0 false, .sl 2 k75 At17_0 ct17_0 t17_0 4 true]) (by kernel_rfl) (xs [0, 1] [0, 2] rfl rfl rfl (one1 5 rfl rfl ?_))
   revert H; refine bdI ?_; rintro ⟨t18_0, t18_1, t18_2⟩ A18 H
   refine op_callM (spec_l1Below.ok b1000 l0_0 Al0_0 cl0_0 t17_1 t17_2 7 _ _ _ A18) [⟨2, 0, 0, false⟩] [2] [0, 1] 5 rfl rfl rfl rfl rfl rfl rfl rfl ?_
   rintro _ _ _ ⟨rfl, rfl, rfl⟩
   refine nmE (en := [.sl 2 k64 Ax4_2_0 cx4_2_0 x4_2_0 1 true, .sl 1 k64 Ax4_3_0 cx4_3_0 x4_3_0 2 true, .sl 0 (.int .u8) Al0_0 cl0_0 l0_0 0 false, .sl 2 k75 At17_0 ct17_0 t17_0 4 true]) (by kernel_rfl) (xs [0, 1] [0, 2] rfl rfl rfl (one1 6 rfl rfl (ov (EV.sub rfl rfl) rfl (xs [0, 1] [0, 2] rfl rfl rfl (one1 7 rfl rfl (ov (EV.bd (v := .agg #[.slice At17_0 t17_0.length ct17_0, .int .i64 (wrap64 (t18_0 - 1))]) rfl (by kernel_rfl)) rfl (xs [0, 1] [0, 2] rfl rfl rfl (one1 8 rfl rfl (op_lit (s := 2) (by_ := 32) k64 ([(⟨t17_0, wrap64 (t18_0 - 1)⟩ : S64)] : List S64) [[(At17_0, ct17_0)]] [3] 5 [.tmp 41] rfl rfl rfl rfl rfl rfl rfl rfl rfl rfl rfl rfl rfl dq rfl fun A42_19 c42_19 => (nmE (en := [.sl 2 k64 Ax4_2_0 cx4_2_0 x4_2_0 1 true, .sl 1 k64 Ax4_3_0 cx4_3_0 x4_3_0 2 true, .sl 0 (.int .u8) Al0_0 cl0_0 l0_0 0 false, .sl 2 k75 At17_0 ct17_0 t17_0 5 true, .sl 2 k64 A42_19 c42_19 ([(⟨t17_0, wrap64 (t18_0 - 1)⟩ : S64)] : List S64) 5 true]) (by kernel_rfl) (xs [0, 1] [0, 2] rfl rfl rfl (one1 9 rfl rfl (op_app (k := k64) (s := 2) (by_ := 32) 1 4 rfl rfl rfl rfl (ap1 g16 dq) (ap1n g16 dq) (.inr ⟨dq, dq, rfl, dq⟩) true (fun _ => .inr ⟨rfl, rfl, dq⟩) rfl rfl fun A43_20 c43_20 => (nmE (en := [.sl 2 k64 Ax4_2_0 cx4_2_0 x4_2_0 1 true, .sl 0 (.int .u8) Al0_0 cl0_0 l0_0 0 false, .sl 2 k75 At17_0 ct17_0 t17_0 2 true, .sl 2 k64 A42_19 c42_19 ([(⟨t17_0, wrap64 (t18_0 - 1)⟩ : S64)] : List S64) 2 true, .sl 1 k64 A43_20 c43_20 (x4_3_0 ++ ([(⟨t17_0, wrap64 (t18_0 - 1)⟩ : S64)] : List S64)) 2 true]) (by kernel_rfl) (xs [0, 1] [0, 1] rfl rfl rfl (one1 10 rfl rfl (ov (EV.fa 0 rfl) rfl (xn rfl (one1 11 rfl rfl (op_st (cs' := [.slice A43_20 (x4_3_0 ++ ([(⟨t17_0, wrap64 (t18_0 - 1)⟩ : S64)] : List S64)).length c43_20, .int .i64 x4_3_1, .bool x4_3_2]) 1 rfl rfl rfl rfl rfl rfl (xn rfl (xd (pr [2, 3] [0, 1, 2] [0, 1, 4] rfl rfl rfl rfl (ge (gs (rg (sv (EV.ld (v := .agg #[.slice A43_20 (x4_3_0 ++ ([(⟨t17_0, wrap64 (t18_0 - 1)⟩ : S64)] : List S64)).length c43_20, .int .i64 x4_3_1, .bool x4_3_2]) 1 (some 3) rfl rfl rfl) rfl (so rfl (op_st (cs' := [.slice A43_20 (x4_3_0 ++ ([(⟨t17_0, wrap64 (t18_0 - 1)⟩ : S64)] : List S64)).length c43_20, .int .i64 x4_3_1, .bool x4_3_2]) 0 rfl rfl rfl rfl rfl rfl ?_)))))))))))))))))))))))))))))
   refine re ?_
   cases H
   exact rt Try.func65 rfl (.cell 0 (some 3) rfl rfl rfl .nil) rfl [2] [⟨2, 1, 1, true⟩] rfl rfl rfl rfl rfl ⟨_, _, rfl, rfl, rfl⟩
  ·
   refine gf rfl (dF c15) (gs (rg (sv (EV.eql rfl rfl) rfl (sv (EV.as rfl) rfl (re (pr [0, 2, 3, 45] [0, 1, 2] [0, 1, 2] rfl rfl rfl rfl ?_))))))
   revert H; refine ifsI ?_ ?_ <;> intro c21 H
   ·
    refine gt rfl (dT c21) (rg (sv (EV.mv rfl) rfl (so rfl (op_lit (s := 1) (by_ := 8) (.int .i64) ([(-1), 100001] : List Int) [[], []] [] 3 [.const (.int .i64 (-1)), .const (.int .i64 100001)] rfl rfl rfl rfl rfl rfl rfl rfl rfl rfl rfl rfl rfl dq rfl fun A48_22 c48_22 => ?_))))
    revert H; refine bdI ?_; rintro ⟨t23_0, t23_1, t23_2⟩ A23 H
    refine so rfl (op_callM (spec_l1PickInt.ok b1000 l0_0 Al0_0 cl0_0 t14_1 t14_2 ([(-1), 100001] : List Int) A48_22 c48_22 _ _ _ A23) [⟨2, 0, 0, false⟩, ⟨3, 0, 0, false⟩] [2] [0, 1] 4 rfl rfl rfl rfl rfl rfl rfl rfl ?_)
    rintro _ _ _ ⟨rfl, rfl, rfl⟩
    refine nmE (en := [.sl 2 k64 Ax4_2_0 cx4_2_0 x4_2_0 1 true, .sl 1 k64 Ax4_3_0 cx4_3_0 x4_3_0 2 true, .sl 0 (.int .u8) Al0_0 cl0_0 l0_0 0 false, .sl 2 (.int .i64) A48_22 c48_22 ([(-1), 100001] : List Int) 3 true]) (by kernel_rfl) (sv (EV.fa 1 rfl) rfl (so rfl (op_st (cs' := [.slice Ax4_3_0 x4_3_0.length cx4_3_0, .int .i64 t23_0, .bool x4_3_2]) 1 rfl rfl rfl rfl rfl rfl (re (pr [2, 3] [0, 1, 2] [0, 1, 2] rfl rfl rfl rfl (ge (gs (rg (sv (EV.ld (v := .agg #[.slice Ax4_3_0 x4_3_0.length cx4_3_0, .int .i64 t23_0, .bool x4_3_2]) 1 (some 3) rfl rfl rfl) rfl (so rfl (op_st (cs' := [.slice Ax4_3_0 x4_3_0.length cx4_3_0, .int .i64 t23_0, .bool x4_3_2]) 0 rfl rfl rfl rfl rfl rfl (re ?_))))))))))))
    cases H
    exact rt Try.func65 rfl (.cell 0 (some 3) rfl rfl rfl .nil) rfl [2] [⟨1, 1, 1, true⟩] rfl rfl rfl rfl rfl ⟨_, _, rfl, rfl, rfl⟩
   ·
    refine gf rfl (dF c21) (gk (ge (gs (rg (sv (EV.ld (v := .agg #[.slice Ax4_3_0 x4_3_0.length cx4_3_0, .int .i64 x4_3_1, .bool x4_3_2]) 1 (some 3) rfl rfl rfl) rfl (so rfl (op_st (cs' := [.slice Ax4_3_0 x4_3_0.length cx4_3_0, .int .i64 x4_3_1, .bool x4_3_2]) 0 rfl rfl rfl rfl rfl rfl (re ?_))))))))
    cases H
    exact rt Try.func65 rfl (.cell 0 (some 3) rfl rfl rfl .nil) rfl [2] [⟨1, 1, 1, true⟩] rfl rfl rfl rfl rfl ⟨_, _, rfl, rfl, rfl⟩
def spec_l11Grant.f (l0_0 : List Int) (a0_1 : Int) (a0_2 : Int) : Option (Int × Int × Int) := (spec_l1Once.f l0_0 a0_1 a0_2 14).bind fun bt1 => (if bt1.1 = true then ((spec_l1PickInt.f l0_0 bt1.2.1 bt1.2.2 ([7, 61] : List Int)).bind fun bt4 => (some (bt4.1, bt4.2.1, bt4.2.2))) else ((spec_l1PickInt.f l0_0 bt1.2.1 bt1.2.2 ([8, 8, 9, 12, 20, 60] : List Int)).bind fun bt6 => (some (bt6.1, bt6.2.1, bt6.2.2))))
set_option maxHeartbeats 4000000 in
set_option maxRecDepth 100000 in
theorem spec_l11Grant.ok (b1000 : Nat) (l0_0 : List Int) (Al0_0 : Option Addr) (cl0_0 : Nat) (a0_1 : Int) (a0_2 : Int) (r0 : Int) (r1 : Int) (r2 : Int) (H : spec_l11Grant.f l0_0 a0_1 a0_2 = some (r0, r1, r2)) : Fn Try.prog 66 [.pointer (some ⟨b1000, 0, none⟩)] [⟨b1000, 95, [.slice Al0_0 l0_0.length cl0_0, .int .i64 a0_1, .int .i64 a0_2]⟩] [.sl 0 (.int .u8) Al0_0 cl0_0 l0_0 0 false] (fun v bx en => v = .int .i64 r0 ∧ bx = [⟨b1000, 95, [.slice Al0_0 l0_0.length cl0_0, .int .i64 r1, .int .i64 r2]⟩] ∧ en = []) := by
 refine fn_ 11 Try.func66 rfl rfl rfl (fun base T w0 => ?_)
 rw [spec_l11Grant.f] at H
 refine gs (rg (sv (EV.as rfl) rfl (re (gs (gs (rg (sv (EV.mv rfl) rfl ?_)))))))
 revert H; refine bdI ?_; rintro ⟨t1_0, t1_1, t1_2⟩ A1 H
 refine so rfl (op_callM (spec_l1Once.ok b1000 l0_0 Al0_0 cl0_0 a0_1 a0_2 14 _ _ _ A1) [⟨0, 0, 0, false⟩] [0] [] 1 rfl rfl rfl rfl rfl rfl rfl rfl ?_)
 rintro _ _ _ ⟨rfl, rfl, rfl⟩
 refine nmE (en := [.sl 0 (.int .u8) Al0_0 cl0_0 l0_0 0 false]) (by kernel_rfl) (re ?_)
 revert H; refine ifsI ?_ ?_ <;> intro c2 H
 ·
  subst c2
  refine gt rfl rfl (gs (rg (sv (EV.mv rfl) rfl (so rfl (op_lit (s := 1) (by_ := 8) (.int .i64) ([7, 61] : List Int) [[], []] [] 1 [.const (.int .i64 7), .const (.int .i64 61)] rfl rfl rfl rfl rfl rfl rfl rfl rfl rfl rfl rfl rfl dq rfl fun A6_3 c6_3 => ?_)))))
  revert H; refine bdI ?_; rintro ⟨t4_0, t4_1, t4_2⟩ A4 H
  refine so rfl (op_callM (spec_l1PickInt.ok b1000 l0_0 Al0_0 cl0_0 t1_1 t1_2 ([7, 61] : List Int) A6_3 c6_3 _ _ _ A4) [⟨0, 0, 0, false⟩, ⟨1, 0, 0, false⟩] [0] [] 2 rfl rfl rfl rfl rfl rfl rfl rfl ?_)
  rintro _ _ _ ⟨rfl, rfl, rfl⟩
  refine nmE (en := [.sl 0 (.int .u8) Al0_0 cl0_0 l0_0 0 false, .sl 2 (.int .i64) A6_3 c6_3 ([7, 61] : List Int) 1 true]) (by kernel_rfl) (sv (EV.as rfl) rfl (re (pr [2] [0] [0] rfl rfl rfl rfl ?_)))
  cases H
  exact rt Try.func66 rfl (.tmp rfl .nil) rfl [0] [] rfl rfl rfl rfl rfl ⟨rfl, rfl, rfl⟩
 ·
  obtain rfl := bF c2
  refine gf rfl rfl (gk (gs (rg (sv (EV.mv rfl) rfl (so rfl (op_lit (s := 1) (by_ := 8) (.int .i64) ([8, 8, 9, 12, 20, 60] : List Int) [[], [], [], [], [], []] [] 1 [.const (.int .i64 8), .const (.int .i64 8), .const (.int .i64 9), .const (.int .i64 12), .const (.int .i64 20), .const (.int .i64 60)] rfl rfl rfl rfl rfl rfl rfl rfl rfl rfl rfl rfl rfl dq rfl fun A9_5 c9_5 => ?_))))))
  revert H; refine bdI ?_; rintro ⟨t6_0, t6_1, t6_2⟩ A6 H
  refine so rfl (op_callM (spec_l1PickInt.ok b1000 l0_0 Al0_0 cl0_0 t1_1 t1_2 ([8, 8, 9, 12, 20, 60] : List Int) A9_5 c9_5 _ _ _ A6) [⟨0, 0, 0, false⟩, ⟨1, 0, 0, false⟩] [0] [] 2 rfl rfl rfl rfl rfl rfl rfl rfl ?_)
  rintro _ _ _ ⟨rfl, rfl, rfl⟩
  refine nmE (en := [.sl 0 (.int .u8) Al0_0 cl0_0 l0_0 0 false, .sl 2 (.int .i64) A9_5 c9_5 ([8, 8, 9, 12, 20, 60] : List Int) 1 true]) (by kernel_rfl) (sv (EV.as rfl) rfl (re (pr [2] [0] [0] rfl rfl rfl rfl ?_)))
  cases H
  exact rt Try.func66 rfl (.tmp rfl .nil) rfl [0] [] rfl rfl rfl rfl rfl ⟨rfl, rfl, rfl⟩
def spec_DrawStepAggregator.f (k : Nat) (l0 : List Int) : Option ((List S64) × Int × Bool × Int) := (spec_l1New.f k l0).bind fun bt1 => ((spec_l22Agger.f k l0 bt1.1 bt1.2).bind fun bt2 => ((spec_l11Grant.f l0 bt2.2.2.2.1 bt2.2.2.2.2).bind fun bt3 => (some (bt2.1, bt2.2.1, bt2.2.2.1, bt3.1))))
set_option maxHeartbeats 4000000 in
set_option maxRecDepth 100000 in
theorem spec_DrawStepAggregator.ok (k : Nat) (l0 : List Int) (Al0 : Option Addr) (cl0 : Nat) (r0 : List S64) (r1 : Int) (r2 : Bool) (r3 : Int) (H : spec_DrawStepAggregator.f k l0 = some (r0, r1, r2, r3)) : Fn Try.prog 33 [.slice Al0 l0.length cl0] [] [.sl 0 (.int .u8) Al0 cl0 l0 0 false] (fun v bx en => ∃ A0 c0, v = .tuple #[.agg #[.slice A0 r0.length c0, .int .i64 r1, .bool r2], .int .i64 r3] ∧ bx = [] ∧ en = [.sl 1 k64 A0 c0 r0 1 true]) := by
 refine fn_ 11 Try.func33 rfl rfl rfl (fun base T w0 => ?_)
 rw [spec_DrawStepAggregator.f] at H
 refine gs (rg (so rfl (op_alloc (cs := [.slice none 0 0, .int .i64 0, .bool false]) (by kernel_rfl) rfl fun b2 => (sv (EV.as rfl) rfl (re (gs (rg (sv (EV.mv rfl) rfl ?_))))))))
 revert H; refine bdI ?_; rintro ⟨t1_0, t1_1⟩ A1 H
 refine so rfl (op_callM (spec_l1New.ok k l0 Al0 cl0 _ _ A1) [⟨0, 0, 0, false⟩] [] [0] 1 rfl rfl rfl rfl rfl rfl rfl rfl ?_)
 rintro _ _ _ ⟨b2001, rfl, rfl, rfl⟩
 refine nmE (en := [.sl 0 (.int .u8) Al0 cl0 l0 0 false]) (by kernel_rfl) (sv (EV.as rfl) rfl (re (gs (rg (sv (EV.mv rfl) rfl ?_)))))
 revert H; refine bdI ?_; rintro ⟨t2_0, t2_1, t2_2, t2_3, t2_4⟩ A2 H
 refine so rfl (op_callM (spec_l22Agger.ok k b2001 l0 Al0 cl0 t1_0 t1_1 _ _ _ _ _ A2) [⟨0, 0, 0, false⟩] [1] [0] 1 rfl rfl rfl rfl rfl rfl rfl rfl ?_)
 rintro _ _ _ ⟨At2_0, ct2_0, rfl, rfl, rfl⟩
 refine nmE (en := [.sl 0 (.int .u8) Al0 cl0 l0 0 false, .sl 1 k64 At2_0 ct2_0 t2_0 2 true]) (by kernel_rfl) (sv (EV.mv rfl) rfl ?_)
 revert H; refine bdI ?_; rintro ⟨t3_0, t3_1, t3_2⟩ A3 H
 refine so rfl (op_callM (spec_l11Grant.ok b2001 l0 Al0 cl0 t2_3 t2_4 _ _ _ A3) [⟨0, 0, 0, false⟩] [1] [0] 3 rfl rfl rfl rfl rfl rfl rfl rfl ?_)
 rintro _ _ _ ⟨rfl, rfl, rfl⟩
 refine nmE (en := [.sl 0 (.int .u8) Al0 cl0 l0 0 false, .sl 1 k64 At2_0 ct2_0 t2_0 2 true]) (by kernel_rfl) (so rfl (op_st (cs' := [.slice At2_0 t2_0.length ct2_0, .int .i64 t2_1, .bool t2_2]) 0 rfl rfl rfl rfl rfl rfl (sv (EV.as rfl) rfl (re (pr [2, 3] [0] [1] rfl rfl rfl rfl ?_)))))
 cases H
 exact rt Try.func33 rfl (.cell 0 (some 3) rfl rfl rfl (.tmp rfl .nil)) rfl [] [⟨0, 1, 1, true⟩] rfl rfl rfl rfl rfl ⟨_, _, rfl, rfl, rfl⟩
def impl_order.f (a0 : Int) (a1 : Int) : Option (Int) := if a0 < a1 then (some (-1)) else (if a0 > a1 then (some 1) else (some 0))
set_option maxHeartbeats 4000000 in
set_option maxRecDepth 100000 in
theorem impl_order.ok (a0 : Int) (a1 : Int) (r0 : Int) (H : impl_order.f a0 a1 = some r0) : Fn Try.prog 84 [.int .i64 a0, .int .i64 a1] [] [] (fun v bx en => v = .int .i64 r0 ∧ bx = [] ∧ en = []) := by
 refine fn_ 13 Try.func84 rfl rfl rfl (fun base T w0 => ?_)
 rw [impl_order.f] at H
 refine gs (rg (sv (EV.as rfl) rfl (re (gs (gb (gs (rg (sv (EV.mv rfl) rfl (sv (EV.mv rfl) rfl (sv (EV.lss rfl rfl) rfl (sv (EV.as rfl) rfl (re ?_))))))))))))
 revert H; refine ifsI ?_ ?_ <;> intro c1 H
 ·
  refine gt rfl (dT c1) (gs (rg (sv (EV.as rfl) rfl (re (pr [4] [] [] rfl rfl rfl rfl ?_)))))
  cases H
  exact rt Try.func84 rfl (.tmp rfl .nil) rfl [] [] rfl rfl rfl rfl rfl ⟨rfl, rfl, rfl⟩
 ·
  refine gf rfl (dF c1) (gs (rg (sv (EV.mv rfl) rfl (sv (EV.mv rfl) rfl (sv (EV.gtr rfl rfl) rfl (sv (EV.as rfl) rfl (re (pr [9] [] [] rfl rfl rfl rfl ?_))))))))
  revert H; refine ifsI ?_ ?_ <;> intro c2 H
  ·
   refine gt rfl (dT c2) (gs (rg (sv (EV.as rfl) rfl (re ?_))))
   cases H
   exact rt Try.func84 rfl (.tmp rfl .nil) rfl [] [] rfl rfl rfl rfl rfl ⟨rfl, rfl, rfl⟩
  ·
   refine gf rfl (dF c2) (gk (ge (gs (rg (sv (EV.as rfl) rfl (re ?_))))))
   cases H
   exact rt Try.func84 rfl (.tmp rfl .nil) rfl [] [] rfl rfl rfl rfl rfl ⟨rfl, rfl, rfl⟩
def impl_MergeGroups_1.f (a0_0 : Int) (a0_1 : Int) (a0_2 : Int) (a0_3 : Int) (a0_4 : Int) (a1_0 : Int) (a1_1 : Int) (a1_2 : Int) (a1_3 : Int) (a1_4 : Int) : Option (Int) := (impl_order.f a0_0 a1_0).bind fun t1 => (some t1)
set_option maxHeartbeats 4000000 in
set_option maxRecDepth 100000 in
theorem impl_MergeGroups_1.ok (a0_0 : Int) (a0_1 : Int) (a0_2 : Int) (a0_3 : Int) (a0_4 : Int) (a1_0 : Int) (a1_1 : Int) (a1_2 : Int) (a1_3 : Int) (a1_4 : Int) (r0 : Int) (H : impl_MergeGroups_1.f a0_0 a0_1 a0_2 a0_3 a0_4 a1_0 a1_1 a1_2 a1_3 a1_4 = some r0) : Fn Try.prog 83 [.agg #[.int .i64 a0_0, .int .i64 a0_1, .int .i64 a0_2, .int .i64 a0_3, .int .i64 a0_4], .agg #[.int .i64 a1_0, .int .i64 a1_1, .int .i64 a1_2, .int .i64 a1_3, .int .i64 a1_4]] [] [] (fun v bx en => v = .int .i64 r0 ∧ bx = [] ∧ en = []) := by
 refine fn_ 10 Try.func83 rfl rfl rfl (fun base T w0 => ?_)
 rw [impl_MergeGroups_1.f] at H
 refine gs (rg (so rfl (op_box (cs := [.int .i64 a0_0, .int .i64 a0_1, .int .i64 a0_2, .int .i64 a0_3, .int .i64 a0_4]) rfl rfl rfl fun b2 => (so rfl (op_box (cs := [.int .i64 a1_0, .int .i64 a1_1, .int .i64 a1_2, .int .i64 a1_3, .int .i64 a1_4]) rfl rfl rfl fun b3 => (sv (EV.as rfl) rfl (re (gs (rg (sv (EV.fa 0 rfl) rfl (sv (EV.ld 0 none rfl rfl rfl) rfl (sv (EV.fa 0 rfl) rfl (sv (EV.ld 1 none rfl rfl rfl) rfl ?_)))))))))))))
 revert H; refine bdI ?_; rintro t1 A1 H
 refine so rfl (op_call (impl_order.ok a0_0 a1_0 _ A1) [] 1 rfl rfl rfl rfl rfl ?_)
 rintro _ _ _ ⟨rfl, rfl, rfl⟩
 refine sv (EV.as rfl) rfl (re (pr [4] [] [] rfl rfl rfl rfl ?_))
 cases H
 exact rt Try.func83 rfl (.tmp rfl .nil) rfl [] [] rfl rfl rfl rfl rfl ⟨rfl, rfl, rfl⟩
mutual
def slices_insertionSortCmpFunc_impl_Group_at83.l1 : Nat → (List S49) → Int → Int → Int → Int → Option ((List S49))
 | 0, _, _, _, _, _ => none
 | k + 1, x5_ml0, x5_1, x5_2, x5_8, x5_9 => if x5_9 > x5_1 then (if 0 ≤ x5_9 then (if x5_9 < (x5_ml0.length : Int) then (if 0 ≤ (wrap64 (x5_9 - 1)) then (if (wrap64 (x5_9 - 1)) < (x5_ml0.length : Int) then ((impl_MergeGroups_1.f ((rd_T49 x5_ml0 x5_9).f0) ((rd_T49 x5_ml0 x5_9).f1) ((rd_T49 x5_ml0 x5_9).f2) ((rd_T49 x5_ml0 x5_9).f3) ((rd_T49 x5_ml0 x5_9).f4) ((rd_T49 x5_ml0 (wrap64 (x5_9 - 1))).f0) ((rd_T49 x5_ml0 (wrap64 (x5_9 - 1))).f1) ((rd_T49 x5_ml0 (wrap64 (x5_9 - 1))).f2) ((rd_T49 x5_ml0 (wrap64 (x5_9 - 1))).f3) ((rd_T49 x5_ml0 (wrap64 (x5_9 - 1))).f4)).bind fun t7 => (if t7 < 0 then ((some (x5_ml0.set x5_9.toNat (⟨(rd_T49 x5_ml0 (wrap64 (x5_9 - 1))).f0, (rd_T49 x5_ml0 (wrap64 (x5_9 - 1))).f1, (rd_T49 x5_ml0 (wrap64 (x5_9 - 1))).f2, (rd_T49 x5_ml0 (wrap64 (x5_9 - 1))).f3, (rd_T49 x5_ml0 (wrap64 (x5_9 - 1))).f4⟩ : S49))).bind fun s9 => (if (wrap64 (x5_9 - 1)) < (s9.length : Int) then ((some (s9.set (wrap64 (x5_9 - 1)).toNat (⟨(rd_T49 x5_ml0 x5_9).f0, (rd_T49 x5_ml0 x5_9).f1, (rd_T49 x5_ml0 x5_9).f2, (rd_T49 x5_ml0 x5_9).f3, (rd_T49 x5_ml0 x5_9).f4⟩ : S49))).bind fun s11 => (slices_insertionSortCmpFunc_impl_Group_at83.l1 k s11 x5_1 x5_2 x5_8 (wrap64 (x5_9 - 1)))) else none)) else (slices_insertionSortCmpFunc_impl_Group_at83.l0 k x5_ml0 x5_1 x5_2 (wrap64 (x5_8 + 1))))) else none) else none) else none) else none) else (slices_insertionSortCmpFunc_impl_Group_at83.l0 k x5_ml0 x5_1 x5_2 (wrap64 (x5_8 + 1)))
def slices_insertionSortCmpFunc_impl_Group_at83.l0 : Nat → (List S49) → Int → Int → Int → Option ((List S49))
 | 0, _, _, _, _ => none
 | k + 1, x1_ml0, x1_1, x1_2, x1_8 => if x1_8 < x1_2 then (slices_insertionSortCmpFunc_impl_Group_at83.l1 k x1_ml0 x1_1 x1_2 x1_8 x1_8) else (some x1_ml0)
end
def slices_insertionSortCmpFunc_impl_Group_at83.f (k : Nat) (l0 : List S49) (a1 : Int) (a2 : Int) : Option ((List S49)) := slices_insertionSortCmpFunc_impl_Group_at83.l0 k l0 a1 a2 (wrap64 (a1 + 1))
set_option maxHeartbeats 4000000 in
set_option maxRecDepth 100000 in
theorem slices_insertionSortCmpFunc_impl_Group_at83.ok (k : Nat) (l0 : List S49) (Al0 : Option Addr) (cl0 : Nat) (a1 : Int) (a2 : Int) (r0 : List S49) (H : slices_insertionSortCmpFunc_impl_Group_at83.f k l0 a1 a2 = some r0) : Fn Try.prog 97 [.slice Al0 l0.length cl0, .int .i64 a1, .int .i64 a2, .func (.func 83) #[] #[]] [] [.sl 1 k49 Al0 cl0 l0 1 false] (fun v bx en => v = .tuple #[] ∧ bx = [] ∧ en = [.sl 1 k49 Al0 cl0 r0 1 false] ∧ r0.length = l0.length) := by
 refine fn_ 53 Try.func97 rfl rfl rfl (fun base T w0 => ?_)
 rw [slices_insertionSortCmpFunc_impl_Group_at83.f] at H
 refine gs (rg (sv (EV.mv rfl) rfl (sv (EV.add rfl rfl) rfl (sv (EV.as rfl) rfl (re (gb ?_))))))
 refine lo (fun kk S => ∃ (x1_ml0 : List S49) (x1_1 : Int) (x1_2 : Int) (x1_8 : Int), slices_insertionSortCmpFunc_impl_Group_at83.l0 kk x1_ml0 x1_1 x1_2 x1_8 = some r0 ∧ x1_ml0.length = l0.length ∧ S = ⟨[(0, .slice Al0 x1_ml0.length cl0), (1, .int .i64 x1_1), (2, .int .i64 x1_2), (3, .func (.func 83) #[] #[]), (8, .int .i64 x1_8)], [], [.sl 1 k49 Al0 cl0 x1_ml0 1 false]⟩) (fun S hS => ?_) (fun n0 ih0 S hS => ?_) ⟨l0, a1, a2, wrap64 (a1 + 1), H, (by first | rfl | assumption | omega | (simp only [List.length_set]; first | done | assumption | omega)), rfl⟩ (fun h => wk [0, 1, 2, 3, 8] [] [⟨0, 1, 1, false⟩] h)
 · clear H; obtain ⟨_, _, _, _, H, _⟩ := hS; rw [slices_insertionSortCmpFunc_impl_Group_at83.l0] at H; cases H
 clear H
 obtain ⟨x1_ml0, x1_1, x1_2, x1_8, H, ex1_ml0, rfl⟩ := hS
 rw [slices_insertionSortCmpFunc_impl_Group_at83.l0] at H
 refine gs (gs (rg (sv (EV.mv rfl) rfl (sv (EV.mv rfl) rfl (sv (EV.lss rfl rfl) rfl (re ?_))))))
 revert H; refine ifsI ?_ ?_ <;> intro c1 H
 ·
  refine gt rfl (dT c1) (gk (gs (gb (gs (rg (sv (EV.mv rfl) rfl (sv (EV.as rfl) rfl (re (gb ?_)))))))))
  refine lo (fun kk S => ∃ (x5_ml0 : List S49) (x5_1 : Int) (x5_2 : Int) (x5_8 : Int) (x5_9 : Int), kk ≤ n0 ∧ slices_insertionSortCmpFunc_impl_Group_at83.l1 kk x5_ml0 x5_1 x5_2 x5_8 x5_9 = some r0 ∧ x5_ml0.length = l0.length ∧ S = ⟨[(0, .slice Al0 x5_ml0.length cl0), (1, .int .i64 x5_1), (2, .int .i64 x5_2), (3, .func (.func 83) #[] #[]), (8, .int .i64 x5_8), (9, .int .i64 x5_9)], [], [.sl 1 k49 Al0 cl0 x5_ml0 1 false]⟩) (fun S hS => ?_) (fun n1 ih1 S hS => ?_) ⟨x1_ml0, x1_1, x1_2, x1_8, x1_8, by omega, H, (by first | rfl | assumption | omega | (simp only [List.length_set]; first | done | assumption | omega)), rfl⟩ (fun h => wk [0, 1, 2, 3, 8, 9] [] [⟨0, 1, 1, false⟩] h)
  · clear H; obtain ⟨_, _, _, _, _, _, H, _⟩ := hS; rw [slices_insertionSortCmpFunc_impl_Group_at83.l1] at H; cases H
  clear H
  obtain ⟨x5_ml0, x5_1, x5_2, x5_8, x5_9, lk1, H, ex5_ml0, rfl⟩ := hS
  rw [slices_insertionSortCmpFunc_impl_Group_at83.l1] at H
  refine gs (gs (dr [] [0] [] 17 rfl rfl rfl rfl (xv 0 [] [0] rfl (EV.mv rfl) rfl rfl rfl rfl (xv 1 [] [0] rfl (EV.mv rfl) rfl rfl rfl rfl (xv 2 [] [0] rfl (EV.gtr rfl rfl) rfl rfl rfl rfl (xv 3 [] [0] rfl (EV.mv rfl) rfl rfl rfl rfl ?_))))))
  revert H; refine ifsI ?_ ?_ <;> intro c2 H
  ·
   refine ts 21 rfl (dT c2) (xv 4 [] [0] rfl (EV.mv rfl) rfl rfl rfl rfl (xv 5 [] [0] rfl (EV.mv rfl) rfl rfl rfl rfl (xv 6 [] [0] rfl (EV.mv rfl) rfl rfl rfl rfl ?_)))
   revert H; refine ggI ?_; intro g3 H
   revert H; refine ggI ?_; intro g4 H
   refine xv 7 [] [0] rfl (EV.ix 0 rfl rfl rfl g3 g4 rfl) rfl rfl rfl rfl (xv 8 [] [0] rfl (EV.le (v := .agg #[.int .i64 ((rd_T49 x5_ml0 x5_9).f0), .int .i64 ((rd_T49 x5_ml0 x5_9).f1), .int .i64 ((rd_T49 x5_ml0 x5_9).f2), .int .i64 ((rd_T49 x5_ml0 x5_9).f3), .int .i64 ((rd_T49 x5_ml0 x5_9).f4)]) x5_9 0 (some 5) 0 z49 rfl rfl rfl g3 g4 rfl rfl rfl) rfl rfl rfl rfl (xv 9 [] [0] rfl (EV.mv rfl) rfl rfl rfl rfl (xv 10 [] [0] rfl (EV.mv rfl) rfl rfl rfl rfl (xv 11 [] [0] rfl (EV.sub rfl rfl) rfl rfl rfl rfl ?_))))
   revert H; refine ggI ?_; intro g5 H
   revert H; refine ggI ?_; intro g6 H
   refine xv 12 [] [0] rfl (EV.ix 0 rfl rfl rfl g5 g6 rfl) rfl rfl rfl rfl (xv 13 [] [0] rfl (EV.le (v := .agg #[.int .i64 ((rd_T49 x5_ml0 (wrap64 (x5_9 - 1))).f0), .int .i64 ((rd_T49 x5_ml0 (wrap64 (x5_9 - 1))).f1), .int .i64 ((rd_T49 x5_ml0 (wrap64 (x5_9 - 1))).f2), .int .i64 ((rd_T49 x5_ml0 (wrap64 (x5_9 - 1))).f3), .int .i64 ((rd_T49 x5_ml0 (wrap64 (x5_9 - 1))).f4)]) (wrap64 (x5_9 - 1)) 0 (some 5) 0 z49 rfl rfl rfl g5 g6 rfl rfl rfl) rfl rfl rfl rfl (one1 14 rfl rfl ?_))
   revert H; refine bdI ?_; rintro t7 A7 H
   refine cvf (f := 83) rfl (op_call (impl_MergeGroups_1.ok ((rd_T49 x5_ml0 x5_9).f0) ((rd_T49 x5_ml0 x5_9).f1) ((rd_T49 x5_ml0 x5_9).f2) ((rd_T49 x5_ml0 x5_9).f3) ((rd_T49 x5_ml0 x5_9).f4) ((rd_T49 x5_ml0 (wrap64 (x5_9 - 1))).f0) ((rd_T49 x5_ml0 (wrap64 (x5_9 - 1))).f1) ((rd_T49 x5_ml0 (wrap64 (x5_9 - 1))).f2) ((rd_T49 x5_ml0 (wrap64 (x5_9 - 1))).f3) ((rd_T49 x5_ml0 (wrap64 (x5_9 - 1))).f4) _ A7) [] 2 rfl rfl rfl rfl rfl ?_)
   rintro _ _ _ ⟨rfl, rfl, rfl⟩
   refine xs [] [0] rfl rfl rfl (xv 15 [] [0] rfl (EV.lss rfl rfl) rfl rfl rfl rfl (xv 16 [] [0] rfl (EV.pt rfl rfl rfl) rfl rfl rfl rfl (xd ?_)))
   revert H; refine ifsI ?_ ?_ <;> intro c8 H
   ·
    refine gt rfl (dT c8) (gk (gs (gb (dr [] [] [16, 17] 18 rfl rfl rfl rfl (xv 0 [] [] rfl (EV.mv rfl) rfl rfl rfl rfl (xv 1 [] [] rfl (EV.mv rfl) rfl rfl rfl rfl (xv 2 [] [] rfl (EV.mv rfl) rfl rfl rfl rfl (xv 3 [] [] rfl (EV.mv rfl) rfl rfl rfl rfl (xv 4 [] [] rfl (EV.sub rfl rfl) rfl rfl rfl rfl (xv 5 [] [] rfl (EV.mv rfl) rfl rfl rfl rfl (xv 6 [] [] rfl (EV.mv rfl) rfl rfl rfl rfl (xv 7 [] [] rfl (EV.sub rfl rfl) rfl rfl rfl rfl (xv 10 [] [] rfl (EV.mv rfl) rfl rfl rfl rfl (xv 11 [] [] rfl (EV.mv rfl) rfl rfl rfl rfl ?_))))))))))))))
    refine one2 8 12 rfl rfl rfl rfl ?_ ?_
    ·
     refine ov (EV.ix 0 rfl rfl rfl g5 g6 rfl) rfl (xs [] [] rfl rfl rfl ?_)
     refine one2 9 12 rfl rfl rfl rfl ?_ ?_
     ·
      refine ov (EV.le (v := .agg #[.int .i64 ((rd_T49 x5_ml0 (wrap64 (x5_9 - 1))).f0), .int .i64 ((rd_T49 x5_ml0 (wrap64 (x5_9 - 1))).f1), .int .i64 ((rd_T49 x5_ml0 (wrap64 (x5_9 - 1))).f2), .int .i64 ((rd_T49 x5_ml0 (wrap64 (x5_9 - 1))).f3), .int .i64 ((rd_T49 x5_ml0 (wrap64 (x5_9 - 1))).f4)]) (wrap64 (x5_9 - 1)) 0 (some 5) 0 z49 rfl rfl rfl g5 g6 rfl rfl rfl) rfl (xs [] [] rfl rfl rfl (one1 12 rfl rfl (ov (EV.ix 0 rfl rfl rfl g3 g4 rfl) rfl (xs [] [] rfl rfl rfl (one1 13 rfl rfl (ov (EV.le (v := .agg #[.int .i64 ((rd_T49 x5_ml0 x5_9).f0), .int .i64 ((rd_T49 x5_ml0 x5_9).f1), .int .i64 ((rd_T49 x5_ml0 x5_9).f2), .int .i64 ((rd_T49 x5_ml0 x5_9).f3), .int .i64 ((rd_T49 x5_ml0 x5_9).f4)]) x5_9 0 (some 5) 0 z49 rfl rfl rfl g3 g4 rfl rfl rfl) rfl (xs [] [] rfl rfl rfl (one1 14 rfl rfl (ov (EV.ix 0 rfl rfl rfl g3 g4 rfl) rfl (xs [] [] rfl rfl rfl (one1 15 rfl rfl ?_)))))))))))
      revert H; refine bdI ?_; intro s9 A9 H; have q9 := stl (Option.some.inj A9)
      refine op_stg x5_9 0 0 z49 (⟨(rd_T49 x5_ml0 (wrap64 (x5_9 - 1))).f0, (rd_T49 x5_ml0 (wrap64 (x5_9 - 1))).f1, (rd_T49 x5_ml0 (wrap64 (x5_9 - 1))).f2, (rd_T49 x5_ml0 (wrap64 (x5_9 - 1))).f3, (rd_T49 x5_ml0 (wrap64 (x5_9 - 1))).f4⟩ : S49) (Option.some.inj A9) rfl rfl rfl rfl g3 g4 rfl rfl rfl rfl dq rfl (rlT 0 (v' := .slice Al0 s9.length cl0) rfl (slq _ _ q9) (rlT 23 (v' := .slice Al0 s9.length cl0) rfl (slq _ _ q9) (rlT 27 (v' := .slice Al0 s9.length cl0) rfl (slq _ _ q9) (rlT 37 (v' := .slice Al0 s9.length cl0) rfl (slq _ _ q9) (rlT 39 (v' := .slice Al0 s9.length cl0) rfl (slq _ _ q9) (rlT 42 (v' := .slice Al0 s9.length cl0) rfl (slq _ _ q9) (rlT 47 (v' := .slice Al0 s9.length cl0) rfl (slq _ _ q9) (nmE (en := [.sl 1 k49 Al0 cl0 s9 1 true]) (by kernel_rfl) (xs [] [] rfl rfl rfl (one1 16 rfl rfl ?_))))))))))
      revert H; refine ggI ?_; intro g10 H
      refine ov (EV.ix 0 rfl rfl rfl g5 g10 rfl) rfl (xn rfl (one1 17 rfl rfl ?_))
      revert H; refine bdI ?_; intro s11 A11 H; have q11 := stl (Option.some.inj A11)
      exact op_stg (wrap64 (x5_9 - 1)) 0 0 z49 (⟨(rd_T49 x5_ml0 x5_9).f0, (rd_T49 x5_ml0 x5_9).f1, (rd_T49 x5_ml0 x5_9).f2, (rd_T49 x5_ml0 x5_9).f3, (rd_T49 x5_ml0 x5_9).f4⟩ : S49) (Option.some.inj A11) rfl rfl rfl rfl g5 g10 rfl rfl rfl rfl dq rfl (rlT 0 (v' := .slice Al0 s11.length cl0) rfl (slq _ _ q11) (rlT 23 (v' := .slice Al0 s11.length cl0) rfl (slq _ _ q11) (rlT 27 (v' := .slice Al0 s11.length cl0) rfl (slq _ _ q11) (rlT 37 (v' := .slice Al0 s11.length cl0) rfl (slq _ _ q11) (rlT 39 (v' := .slice Al0 s11.length cl0) rfl (slq _ _ q11) (rlT 42 (v' := .slice Al0 s11.length cl0) rfl (slq _ _ q11) (rlT 47 (v' := .slice Al0 s11.length cl0) rfl (slq _ _ q11) (nmE (en := [.sl 1 k49 Al0 cl0 s11 1 true]) (by kernel_rfl) (xn rfl (xd (pr [0, 1, 2, 3, 8, 9, 22, 23, 24, 26, 27, 28, 29, 31, 32, 33] [] [0] rfl rfl rfl rfl (ge (rg (sv (EV.mv rfl) rfl (sv (EV.sub rfl rfl) rfl (sv (EV.as rfl) rfl (re (wk [0, 1, 2, 3, 8, 9] [] [⟨0, 1, 1, false⟩] (ih1 _ (by omega) _ ⟨s11, x5_1, x5_2, x5_8, wrap64 (x5_9 - 1), by omega, H, (by first | rfl | assumption | omega | (simp only [List.length_set]; first | done | assumption | omega)), rfl⟩)))))))))))))))))))
     ·
      refine ov (EV.ix 0 rfl rfl rfl g3 g4 rfl) rfl (xs [] [] rfl rfl rfl ?_)
      refine one2 9 13 rfl rfl rfl rfl ?_ ?_
      ·
       refine ov (EV.le (v := .agg #[.int .i64 ((rd_T49 x5_ml0 (wrap64 (x5_9 - 1))).f0), .int .i64 ((rd_T49 x5_ml0 (wrap64 (x5_9 - 1))).f1), .int .i64 ((rd_T49 x5_ml0 (wrap64 (x5_9 - 1))).f2), .int .i64 ((rd_T49 x5_ml0 (wrap64 (x5_9 - 1))).f3), .int .i64 ((rd_T49 x5_ml0 (wrap64 (x5_9 - 1))).f4)]) (wrap64 (x5_9 - 1)) 0 (some 5) 0 z49 rfl rfl rfl g5 g6 rfl rfl rfl) rfl (xs [] [] rfl rfl rfl (one1 13 rfl rfl (ov (EV.le (v := .agg #[.int .i64 ((rd_T49 x5_ml0 x5_9).f0), .int .i64 ((rd_T49 x5_ml0 x5_9).f1), .int .i64 ((rd_T49 x5_ml0 x5_9).f2), .int .i64 ((rd_T49 x5_ml0 x5_9).f3), .int .i64 ((rd_T49 x5_ml0 x5_9).f4)]) x5_9 0 (some 5) 0 z49 rfl rfl rfl g3 g4 rfl rfl rfl) rfl (xs [] [] rfl rfl rfl (one1 14 rfl rfl (ov (EV.ix 0 rfl rfl rfl g3 g4 rfl) rfl (xs [] [] rfl rfl rfl (one1 15 rfl rfl ?_))))))))
       revert H; refine bdI ?_; intro s12 A12 H; have q12 := stl (Option.some.inj A12)
       refine op_stg x5_9 0 0 z49 (⟨(rd_T49 x5_ml0 (wrap64 (x5_9 - 1))).f0, (rd_T49 x5_ml0 (wrap64 (x5_9 - 1))).f1, (rd_T49 x5_ml0 (wrap64 (x5_9 - 1))).f2, (rd_T49 x5_ml0 (wrap64 (x5_9 - 1))).f3, (rd_T49 x5_ml0 (wrap64 (x5_9 - 1))).f4⟩ : S49) (Option.some.inj A12) rfl rfl rfl rfl g3 g4 rfl rfl rfl rfl dq rfl (rlT 0 (v' := .slice Al0 s12.length cl0) rfl (slq _ _ q12) (rlT 23 (v' := .slice Al0 s12.length cl0) rfl (slq _ _ q12) (rlT 27 (v' := .slice Al0 s12.length cl0) rfl (slq _ _ q12) (rlT 37 (v' := .slice Al0 s12.length cl0) rfl (slq _ _ q12) (rlT 39 (v' := .slice Al0 s12.length cl0) rfl (slq _ _ q12) (rlT 42 (v' := .slice Al0 s12.length cl0) rfl (slq _ _ q12) (rlT 47 (v' := .slice Al0 s12.length cl0) rfl (slq _ _ q12) (nmE (en := [.sl 1 k49 Al0 cl0 s12 1 true]) (by kernel_rfl) (xs [] [] rfl rfl rfl (one1 16 rfl rfl ?_))))))))))
       revert H; refine ggI ?_; intro g13 H
       refine ov (EV.ix 0 rfl rfl rfl g5 g13 rfl) rfl (xn rfl (one1 17 rfl rfl ?_))
       revert H; refine bdI ?_; intro s14 A14 H; have q14 := stl (Option.some.inj A14)
       exact op_stg (wrap64 (x5_9 - 1)) 0 0 z49 (⟨(rd_T49 x5_ml0 x5_9).f0, (rd_T49 x5_ml0 x5_9).f1, (rd_T49 x5_ml0 x5_9).f2, (rd_T49 x5_ml0 x5_9).f3, (rd_T49 x5_ml0 x5_9).f4⟩ : S49) (Option.some.inj A14) rfl rfl rfl rfl g5 g13 rfl rfl rfl rfl dq rfl (rlT 0 (v' := .slice Al0 s14.length cl0) rfl (slq _ _ q14) (rlT 23 (v' := .slice Al0 s14.length cl0) rfl (slq _ _ q14) (rlT 27 (v' := .slice Al0 s14.length cl0) rfl (slq _ _ q14) (rlT 37 (v' := .slice Al0 s14.length cl0) rfl (slq _ _ q14) (rlT 39 (v' := .slice Al0 s14.length cl0) rfl (slq _ _ q14) (rlT 42 (v' := .slice Al0 s14.length cl0) rfl (slq _ _ q14) (rlT 47 (v' := .slice Al0 s14.length cl0) rfl (slq _ _ q14) (nmE (en := [.sl 1 k49 Al0 cl0 s14 1 true]) (by kernel_rfl) (xn rfl (xd (pr [0, 1, 2, 3, 8, 9, 22, 23, 24, 26, 27, 28, 29, 31, 32, 33] [] [0] rfl rfl rfl rfl (ge (rg (sv (EV.mv rfl) rfl (sv (EV.sub rfl rfl) rfl (sv (EV.as rfl) rfl (re (wk [0, 1, 2, 3, 8, 9] [] [⟨0, 1, 1, false⟩] (ih1 _ (by omega) _ ⟨s14, x5_1, x5_2, x5_8, wrap64 (x5_9 - 1), by omega, H, (by first | rfl | assumption | omega | (simp only [List.length_set]; first | done | assumption | omega)), rfl⟩)))))))))))))))))))
      ·
       refine ov (EV.le (v := .agg #[.int .i64 ((rd_T49 x5_ml0 x5_9).f0), .int .i64 ((rd_T49 x5_ml0 x5_9).f1), .int .i64 ((rd_T49 x5_ml0 x5_9).f2), .int .i64 ((rd_T49 x5_ml0 x5_9).f3), .int .i64 ((rd_T49 x5_ml0 x5_9).f4)]) x5_9 0 (some 5) 0 z49 rfl rfl rfl g3 g4 rfl rfl rfl) rfl (xs [] [] rfl rfl rfl (one1 9 rfl rfl (ov (EV.le (v := .agg #[.int .i64 ((rd_T49 x5_ml0 (wrap64 (x5_9 - 1))).f0), .int .i64 ((rd_T49 x5_ml0 (wrap64 (x5_9 - 1))).f1), .int .i64 ((rd_T49 x5_ml0 (wrap64 (x5_9 - 1))).f2), .int .i64 ((rd_T49 x5_ml0 (wrap64 (x5_9 - 1))).f3), .int .i64 ((rd_T49 x5_ml0 (wrap64 (x5_9 - 1))).f4)]) (wrap64 (x5_9 - 1)) 0 (some 5) 0 z49 rfl rfl rfl g5 g6 rfl rfl rfl) rfl (xs [] [] rfl rfl rfl (one1 14 rfl rfl (ov (EV.ix 0 rfl rfl rfl g3 g4 rfl) rfl (xs [] [] rfl rfl rfl (one1 15 rfl rfl ?_))))))))
       revert H; refine bdI ?_; intro s15 A15 H; have q15 := stl (Option.some.inj A15)
       refine op_stg x5_9 0 0 z49 (⟨(rd_T49 x5_ml0 (wrap64 (x5_9 - 1))).f0, (rd_T49 x5_ml0 (wrap64 (x5_9 - 1))).f1, (rd_T49 x5_ml0 (wrap64 (x5_9 - 1))).f2, (rd_T49 x5_ml0 (wrap64 (x5_9 - 1))).f3, (rd_T49 x5_ml0 (wrap64 (x5_9 - 1))).f4⟩ : S49) (Option.some.inj A15) rfl rfl rfl rfl g3 g4 rfl rfl rfl rfl dq rfl (rlT 0 (v' := .slice Al0 s15.length cl0) rfl (slq _ _ q15) (rlT 23 (v' := .slice Al0 s15.length cl0) rfl (slq _ _ q15) (rlT 27 (v' := .slice Al0 s15.length cl0) rfl (slq _ _ q15) (rlT 37 (v' := .slice Al0 s15.length cl0) rfl (slq _ _ q15) (rlT 39 (v' := .slice Al0 s15.length cl0) rfl (slq _ _ q15) (rlT 42 (v' := .slice Al0 s15.length cl0) rfl (slq _ _ q15) (rlT 47 (v' := .slice Al0 s15.length cl0) rfl (slq _ _ q15) (nmE (en := [.sl 1 k49 Al0 cl0 s15 1 true]) (by kernel_rfl) (xs [] [] rfl rfl rfl (one1 16 rfl rfl ?_))))))))))
       revert H; refine ggI ?_; intro g16 H
       refine ov (EV.ix 0 rfl rfl rfl g5 g16 rfl) rfl (xn rfl (one1 17 rfl rfl ?_))
       revert H; refine bdI ?_; intro s17 A17 H; have q17 := stl (Option.some.inj A17)
       exact op_stg (wrap64 (x5_9 - 1)) 0 0 z49 (⟨(rd_T49 x5_ml0 x5_9).f0, (rd_T49 x5_ml0 x5_9).f1, (rd_T49 x5_ml0 x5_9).f2, (rd_T49 x5_ml0 x5_9).f3, (rd_T49 x5_ml0 x5_9).f4⟩ : S49) (Option.some.inj A17) rfl rfl rfl rfl g5 g16 rfl rfl rfl rfl dq rfl (rlT 0 (v' := .slice Al0 s17.length cl0) rfl (slq _ _ q17) (rlT 23 (v' := .slice Al0 s17.length cl0) rfl (slq _ _ q17) (rlT 27 (v' := .slice Al0 s17.length cl0) rfl (slq _ _ q17) (rlT 37 (v' := .slice Al0 s17.length cl0) rfl (slq _ _ q17) (rlT 39 (v' := .slice Al0 s17.length cl0) rfl (slq _ _ q17) (rlT 42 (v' := .slice Al0 s17.length cl0) rfl (slq _ _ q17) (rlT 47 (v' := .slice Al0 s17.length cl0) rfl (slq _ _ q17) (nmE (en := [.sl 1 k49 Al0 cl0 s17 1 true]) (by kernel_rfl) (xn rfl (xd (pr [0, 1, 2, 3, 8, 9, 22, 23, 24, 26, 27, 28, 29, 31, 32, 33] [] [0] rfl rfl rfl rfl (ge (rg (sv (EV.mv rfl) rfl (sv (EV.sub rfl rfl) rfl (sv (EV.as rfl) rfl (re (wk [0, 1, 2, 3, 8, 9] [] [⟨0, 1, 1, false⟩] (ih1 _ (by omega) _ ⟨s17, x5_1, x5_2, x5_8, wrap64 (x5_9 - 1), by omega, H, (by first | rfl | assumption | omega | (simp only [List.length_set]; first | done | assumption | omega)), rfl⟩)))))))))))))))))))
    ·
     refine ov (EV.ix 0 rfl rfl rfl g3 g4 rfl) rfl (xs [] [] rfl rfl rfl ?_)
     refine one2 8 13 rfl rfl rfl rfl ?_ ?_
     ·
      refine ov (EV.ix 0 rfl rfl rfl g5 g6 rfl) rfl (xs [] [] rfl rfl rfl ?_)
      refine one2 9 13 rfl rfl rfl rfl ?_ ?_
      ·
       refine ov (EV.le (v := .agg #[.int .i64 ((rd_T49 x5_ml0 (wrap64 (x5_9 - 1))).f0), .int .i64 ((rd_T49 x5_ml0 (wrap64 (x5_9 - 1))).f1), .int .i64 ((rd_T49 x5_ml0 (wrap64 (x5_9 - 1))).f2), .int .i64 ((rd_T49 x5_ml0 (wrap64 (x5_9 - 1))).f3), .int .i64 ((rd_T49 x5_ml0 (wrap64 (x5_9 - 1))).f4)]) (wrap64 (x5_9 - 1)) 0 (some 5) 0 z49 rfl rfl rfl g5 g6 rfl rfl rfl) rfl (xs [] [] rfl rfl rfl (one1 13 rfl rfl (ov (EV.le (v := .agg #[.int .i64 ((rd_T49 x5_ml0 x5_9).f0), .int .i64 ((rd_T49 x5_ml0 x5_9).f1), .int .i64 ((rd_T49 x5_ml0 x5_9).f2), .int .i64 ((rd_T49 x5_ml0 x5_9).f3), .int .i64 ((rd_T49 x5_ml0 x5_9).f4)]) x5_9 0 (some 5) 0 z49 rfl rfl rfl g3 g4 rfl rfl rfl) rfl (xs [] [] rfl rfl rfl (one1 14 rfl rfl (ov (EV.ix 0 rfl rfl rfl g3 g4 rfl) rfl (xs [] [] rfl rfl rfl (one1 15 rfl rfl ?_))))))))
       revert H; refine bdI ?_; intro s18 A18 H; have q18 := stl (Option.some.inj A18)
       refine op_stg x5_9 0 0 z49 (⟨(rd_T49 x5_ml0 (wrap64 (x5_9 - 1))).f0, (rd_T49 x5_ml0 (wrap64 (x5_9 - 1))).f1, (rd_T49 x5_ml0 (wrap64 (x5_9 - 1))).f2, (rd_T49 x5_ml0 (wrap64 (x5_9 - 1))).f3, (rd_T49 x5_ml0 (wrap64 (x5_9 - 1))).f4⟩ : S49) (Option.some.inj A18) rfl rfl rfl rfl g3 g4 rfl rfl rfl rfl dq rfl (rlT 0 (v' := .slice Al0 s18.length cl0) rfl (slq _ _ q18) (rlT 23 (v' := .slice Al0 s18.length cl0) rfl (slq _ _ q18) (rlT 27 (v' := .slice Al0 s18.length cl0) rfl (slq _ _ q18) (rlT 37 (v' := .slice Al0 s18.length cl0) rfl (slq _ _ q18) (rlT 39 (v' := .slice Al0 s18.length cl0) rfl (slq _ _ q18) (rlT 42 (v' := .slice Al0 s18.length cl0) rfl (slq _ _ q18) (rlT 47 (v' := .slice Al0 s18.length cl0) rfl (slq _ _ q18) (nmE (en := [.sl 1 k49 Al0 cl0 s18 1 true]) (by kernel_rfl) (xs [] [] rfl rfl rfl (one1 16 rfl rfl ?_))))))))))
       revert H; refine ggI ?_; intro g19 H
       refine ov (EV.ix 0 rfl rfl rfl g5 g19 rfl) rfl (xn rfl (one1 17 rfl rfl ?_))
       revert H; refine bdI ?_; intro s20 A20 H; have q20 := stl (Option.some.inj A20)
       exact op_stg (wrap64 (x5_9 - 1)) 0 0 z49 (⟨(rd_T49 x5_ml0 x5_9).f0, (rd_T49 x5_ml0 x5_9).f1, (rd_T49 x5_ml0 x5_9).f2, (rd_T49 x5_ml0 x5_9).f3, (rd_T49 x5_ml0 x5_9).f4⟩ : S49) (Option.some.inj A20) rfl rfl rfl rfl g5 g19 rfl rfl rfl rfl dq rfl (rlT 0 (v' := .slice Al0 s20.length cl0) rfl (slq _ _ q20) (rlT 23 (v' := .slice Al0 s20.length cl0) rfl (slq _ _ q20) (rlT 27 (v' := .slice Al0 s20.length cl0) rfl (slq _ _ q20) (rlT 37 (v' := .slice Al0 s20.length cl0) rfl (slq _ _ q20) (rlT 39 (v' := .slice Al0 s20.length cl0) rfl (slq _ _ q20) (rlT 42 (v' := .slice Al0 s20.length cl0) rfl (slq _ _ q20) (rlT 47 (v' := .slice Al0 s20.length cl0) rfl (slq _ _ q20) (nmE (en := [.sl 1 k49 Al0 cl0 s20 1 true]) (by kernel_rfl) (xn rfl (xd (pr [0, 1, 2, 3, 8, 9, 22, 23, 24, 26, 27, 28, 29, 31, 32, 33] [] [0] rfl rfl rfl rfl (ge (rg (sv (EV.mv rfl) rfl (sv (EV.sub rfl rfl) rfl (sv (EV.as rfl) rfl (re (wk [0, 1, 2, 3, 8, 9] [] [⟨0, 1, 1, false⟩] (ih1 _ (by omega) _ ⟨s20, x5_1, x5_2, x5_8, wrap64 (x5_9 - 1), by omega, H, (by first | rfl | assumption | omega | (simp only [List.length_set]; first | done | assumption | omega)), rfl⟩)))))))))))))))))))
      ·
       refine ov (EV.le (v := .agg #[.int .i64 ((rd_T49 x5_ml0 x5_9).f0), .int .i64 ((rd_T49 x5_ml0 x5_9).f1), .int .i64 ((rd_T49 x5_ml0 x5_9).f2), .int .i64 ((rd_T49 x5_ml0 x5_9).f3), .int .i64 ((rd_T49 x5_ml0 x5_9).f4)]) x5_9 0 (some 5) 0 z49 rfl rfl rfl g3 g4 rfl rfl rfl) rfl (xs [] [] rfl rfl rfl (one1 9 rfl rfl (ov (EV.le (v := .agg #[.int .i64 ((rd_T49 x5_ml0 (wrap64 (x5_9 - 1))).f0), .int .i64 ((rd_T49 x5_ml0 (wrap64 (x5_9 - 1))).f1), .int .i64 ((rd_T49 x5_ml0 (wrap64 (x5_9 - 1))).f2), .int .i64 ((rd_T49 x5_ml0 (wrap64 (x5_9 - 1))).f3), .int .i64 ((rd_T49 x5_ml0 (wrap64 (x5_9 - 1))).f4)]) (wrap64 (x5_9 - 1)) 0 (some 5) 0 z49 rfl rfl rfl g5 g6 rfl rfl rfl) rfl (xs [] [] rfl rfl rfl (one1 14 rfl rfl (ov (EV.ix 0 rfl rfl rfl g3 g4 rfl) rfl (xs [] [] rfl rfl rfl (one1 15 rfl rfl ?_))))))))
       revert H; refine bdI ?_; intro s21 A21 H; have q21 := stl (Option.some.inj A21)
       refine op_stg x5_9 0 0 z49 (⟨(rd_T49 x5_ml0 (wrap64 (x5_9 - 1))).f0, (rd_T49 x5_ml0 (wrap64 (x5_9 - 1))).f1, (rd_T49 x5_ml0 (wrap64 (x5_9 - 1))).f2, (rd_T49 x5_ml0 (wrap64 (x5_9 - 1))).f3, (rd_T49 x5_ml0 (wrap64 (x5_9 - 1))).f4⟩ : S49) (Option.some.inj A21) rfl rfl rfl rfl g3 g4 rfl rfl rfl rfl dq rfl (rlT 0 (v' := .slice Al0 s21.length cl0) rfl (slq _ _ q21) (rlT 23 (v' := .slice Al0 s21.length cl0) rfl (slq _ _ q21) (rlT 27 (v' := .slice Al0 s21.length cl0) rfl (slq _ _ q21) (rlT 37 (v' := .slice Al0 s21.length cl0) rfl (slq _ _ q21) (rlT 39 (v' := .slice Al0 s21.length cl0) rfl (slq _ _ q21) (rlT 42 (v' := .slice Al0 s21.length cl0) rfl (slq _ _ q21) (rlT 47 (v' := .slice Al0 s21.length cl0) rfl (slq _ _ q21) (nmE (en := [.sl 1 k49 Al0 cl0 s21 1 true]) (by kernel_rfl) (xs [] [] rfl rfl rfl (one1 16 rfl rfl ?_))))))))))
       revert H; refine ggI ?_; intro g22 H
       refine ov (EV.ix 0 rfl rfl rfl g5 g22 rfl) rfl (xn rfl (one1 17 rfl rfl ?_))
       revert H; refine bdI ?_; intro s23 A23 H; have q23 := stl (Option.some.inj A23)
       exact op_stg (wrap64 (x5_9 - 1)) 0 0 z49 (⟨(rd_T49 x5_ml0 x5_9).f0, (rd_T49 x5_ml0 x5_9).f1, (rd_T49 x5_ml0 x5_9).f2, (rd_T49 x5_ml0 x5_9).f3, (rd_T49 x5_ml0 x5_9).f4⟩ : S49) (Option.some.inj A23) rfl rfl rfl rfl g5 g22 rfl rfl rfl rfl dq rfl (rlT 0 (v' := .slice Al0 s23.length cl0) rfl (slq _ _ q23) (rlT 23 (v' := .slice Al0 s23.length cl0) rfl (slq _ _ q23) (rlT 27 (v' := .slice Al0 s23.length cl0) rfl (slq _ _ q23) (rlT 37 (v' := .slice Al0 s23.length cl0) rfl (slq _ _ q23) (rlT 39 (v' := .slice Al0 s23.length cl0) rfl (slq _ _ q23) (rlT 42 (v' := .slice Al0 s23.length cl0) rfl (slq _ _ q23) (rlT 47 (v' := .slice Al0 s23.length cl0) rfl (slq _ _ q23) (nmE (en := [.sl 1 k49 Al0 cl0 s23 1 true]) (by kernel_rfl) (xn rfl (xd (pr [0, 1, 2, 3, 8, 9, 22, 23, 24, 26, 27, 28, 29, 31, 32, 33] [] [0] rfl rfl rfl rfl (ge (rg (sv (EV.mv rfl) rfl (sv (EV.sub rfl rfl) rfl (sv (EV.as rfl) rfl (re (wk [0, 1, 2, 3, 8, 9] [] [⟨0, 1, 1, false⟩] (ih1 _ (by omega) _ ⟨s23, x5_1, x5_2, x5_8, wrap64 (x5_9 - 1), by omega, H, (by first | rfl | assumption | omega | (simp only [List.length_set]; first | done | assumption | omega)), rfl⟩)))))))))))))))))))
     ·
      refine ov (EV.le (v := .agg #[.int .i64 ((rd_T49 x5_ml0 x5_9).f0), .int .i64 ((rd_T49 x5_ml0 x5_9).f1), .int .i64 ((rd_T49 x5_ml0 x5_9).f2), .int .i64 ((rd_T49 x5_ml0 x5_9).f3), .int .i64 ((rd_T49 x5_ml0 x5_9).f4)]) x5_9 0 (some 5) 0 z49 rfl rfl rfl g3 g4 rfl rfl rfl) rfl (xs [] [] rfl rfl rfl (one1 8 rfl rfl (ov (EV.ix 0 rfl rfl rfl g5 g6 rfl) rfl (xs [] [] rfl rfl rfl (one1 9 rfl rfl (ov (EV.le (v := .agg #[.int .i64 ((rd_T49 x5_ml0 (wrap64 (x5_9 - 1))).f0), .int .i64 ((rd_T49 x5_ml0 (wrap64 (x5_9 - 1))).f1), .int .i64 ((rd_T49 x5_ml0 (wrap64 (x5_9 - 1))).f2), .int .i64 ((rd_T49 x5_ml0 (wrap64 (x5_9 - 1))).f3), .int .i64 ((rd_T49 x5_ml0 (wrap64 (x5_9 - 1))).f4)]) (wrap64 (x5_9 - 1)) 0 (some 5) 0 z49 rfl rfl rfl g5 g6 rfl rfl rfl) rfl (xs [] [] rfl rfl rfl (one1 14 rfl rfl (ov (EV.ix 0 rfl rfl rfl g3 g4 rfl) rfl (xs [] [] rfl rfl rfl (one1 15 rfl rfl ?_)))))))))))
      revert H; refine bdI ?_; intro s24 A24 H; have q24 := stl (Option.some.inj A24)
      refine op_stg x5_9 0 0 z49 (⟨(rd_T49 x5_ml0 (wrap64 (x5_9 - 1))).f0, (rd_T49 x5_ml0 (wrap64 (x5_9 - 1))).f1, (rd_T49 x5_ml0 (wrap64 (x5_9 - 1))).f2, (rd_T49 x5_ml0 (wrap64 (x5_9 - 1))).f3, (rd_T49 x5_ml0 (wrap64 (x5_9 - 1))).f4⟩ : S49) (Option.some.inj A24) rfl rfl rfl rfl g3 g4 rfl rfl rfl rfl dq rfl (rlT 0 (v' := .slice Al0 s24.length cl0) rfl (slq _ _ q24) (rlT 23 (v' := .slice Al0 s24.length cl0) rfl (slq _ _ q24) (rlT 27 (v' := .slice Al0 s24.length cl0) rfl (slq _ _ q24) (rlT 37 (v' := .slice Al0 s24.length cl0) rfl (slq _ _ q24) (rlT 39 (v' := .slice Al0 s24.length cl0) rfl (slq _ _ q24) (rlT 42 (v' := .slice Al0 s24.length cl0) rfl (slq _ _ q24) (rlT 47 (v' := .slice Al0 s24.length cl0) rfl (slq _ _ q24) (nmE (en := [.sl 1 k49 Al0 cl0 s24 1 true]) (by kernel_rfl) (xs [] [] rfl rfl rfl (one1 16 rfl rfl ?_))))))))))
      revert H; refine ggI ?_; intro g25 H
      refine ov (EV.ix 0 rfl rfl rfl g5 g25 rfl) rfl (xn rfl (one1 17 rfl rfl ?_))
      revert H; refine bdI ?_; intro s26 A26 H; have q26 := stl (Option.some.inj A26)
      exact op_stg (wrap64 (x5_9 - 1)) 0 0 z49 (⟨(rd_T49 x5_ml0 x5_9).f0, (rd_T49 x5_ml0 x5_9).f1, (rd_T49 x5_ml0 x5_9).f2, (rd_T49 x5_ml0 x5_9).f3, (rd_T49 x5_ml0 x5_9).f4⟩ : S49) (Option.some.inj A26) rfl rfl rfl rfl g5 g25 rfl rfl rfl rfl dq rfl (rlT 0 (v' := .slice Al0 s26.length cl0) rfl (slq _ _ q26) (rlT 23 (v' := .slice Al0 s26.length cl0) rfl (slq _ _ q26) (rlT 27 (v' := .slice Al0 s26.length cl0) rfl (slq _ _ q26) (rlT 37 (v' := .slice Al0 s26.length cl0) rfl (slq _ _ q26) (rlT 39 (v' := .slice Al0 s26.length cl0) rfl (slq _ _ q26) (rlT 42 (v' := .slice Al0 s26.length cl0) rfl (slq _ _ q26) (rlT 47 (v' := .slice Al0 s26.length cl0) rfl (slq _ _ q26) (nmE (en := [.sl 1 k49 Al0 cl0 s26 1 true]) (by kernel_rfl) (xn rfl (xd (pr [0, 1, 2, 3, 8, 9, 22, 23, 24, 26, 27, 28, 29, 31, 32, 33] [] [0] rfl rfl rfl rfl (ge (rg (sv (EV.mv rfl) rfl (sv (EV.sub rfl rfl) rfl (sv (EV.as rfl) rfl (re (wk [0, 1, 2, 3, 8, 9] [] [⟨0, 1, 1, false⟩] (ih1 _ (by omega) _ ⟨s26, x5_1, x5_2, x5_8, wrap64 (x5_9 - 1), by omega, H, (by first | rfl | assumption | omega | (simp only [List.length_set]; first | done | assumption | omega)), rfl⟩)))))))))))))))))))
   ·
    exact gf rfl (dF c8) (gx rfl (ge (rg (sv (EV.mv rfl) rfl (sv (EV.add rfl rfl) rfl (sv (EV.as rfl) rfl (re (pr [0, 1, 2, 3, 8, 22, 23, 24, 25, 26, 27, 28, 29, 30, 31, 32, 33] [] [0] rfl rfl rfl rfl (wk [0, 1, 2, 3, 8] [] [⟨0, 1, 1, false⟩] (ih0 _ (by omega) _ ⟨x5_ml0, x5_1, x5_2, wrap64 (x5_8 + 1), H, (by first | rfl | assumption | omega | (simp only [List.length_set]; first | done | assumption | omega)), rfl⟩))))))))))
  ·
   exact ts 21 rfl (dF c2) (xk 4 [] [0] rfl rfl rfl rfl rfl (xk 5 [] [0] rfl rfl rfl rfl rfl (xk 6 [] [0] rfl rfl rfl rfl rfl (xk 7 [] [0] rfl rfl rfl rfl rfl (xk 8 [] [0] rfl rfl rfl rfl rfl (xk 9 [] [0] rfl rfl rfl rfl rfl (xk 10 [] [0] rfl rfl rfl rfl rfl (xk 11 [] [0] rfl rfl rfl rfl rfl (xk 12 [] [0] rfl rfl rfl rfl rfl (xk 13 [] [0] rfl rfl rfl rfl rfl (xk 14 [] [0] rfl rfl rfl rfl rfl (xk 15 [] [0] rfl rfl rfl rfl rfl (xv 16 [] [0] rfl (EV.pf rfl rfl rfl) rfl rfl rfl rfl (xd (pr [0, 1, 2, 3, 8, 9, 34] [] [0] rfl rfl rfl rfl (gf rfl rfl (gx rfl (ge (rg (sv (EV.mv rfl) rfl (sv (EV.add rfl rfl) rfl (sv (EV.as rfl) rfl (re (wk [0, 1, 2, 3, 8] [] [⟨0, 1, 1, false⟩] (ih0 _ (by omega) _ ⟨x5_ml0, x5_1, x5_2, wrap64 (x5_8 + 1), H, (by first | rfl | assumption | omega | (simp only [List.length_set]; first | done | assumption | omega)), rfl⟩)))))))))))))))))))))))))
 ·
  refine gf rfl (dF c1) (gx rfl ?_)
  cases H
  exact rt0 Try.func97 rfl .nil rfl [] [⟨0, 1, 1, false⟩] rfl rfl rfl rfl rfl ⟨rfl, rfl, rfl, by first | rfl | assumption | omega | (simp only [List.length_set]; first | done | assumption | omega)⟩
def slices_pdqsortCmpFunc_impl_Group_at83.l0 : Nat → (List S49) → Int → Int → Int → Bool → Bool → Option ((List S49))
 | 0, _, _, _, _, _, _ => none
 | k + 1, x1_ml0, x1_1, x1_2, x1_3, x1_10, x1_11 => if (wrap64 (x1_2 - x1_1)) ≤ 12 then ((slices_insertionSortCmpFunc_impl_Group_at83.f k x1_ml0 x1_1 x1_2).bind fun t2 => (some t2)) else (if x1_3 = 0 then (none) else (if x1_10 = true then (none) else (none)))
def slices_pdqsortCmpFunc_impl_Group_at83.f : Nat → (List S49) → Int → Int → Int → Option ((List S49))
 | 0, _, _, _, _ => none
 | k + 1, l0, a1, a2, a3 => slices_pdqsortCmpFunc_impl_Group_at83.l0 k l0 a1 a2 a3 true true
set_option maxHeartbeats 4000000 in
set_option maxRecDepth 100000 in
theorem slices_pdqsortCmpFunc_impl_Group_at83.ok : ∀ (k : Nat) (l0 : List S49) (Al0 : Option Addr) (cl0 : Nat) (a1 : Int) (a2 : Int) (a3 : Int) (r0 : List S49) (h : slices_pdqsortCmpFunc_impl_Group_at83.f k l0 a1 a2 a3 = some r0), Fn Try.prog 94 [.slice Al0 l0.length cl0, .int .i64 a1, .int .i64 a2, .int .i64 a3, .func (.func 83) #[] #[]] [] [.sl 1 k49 Al0 cl0 l0 1 false] (fun v bx en => v = .tuple #[] ∧ bx = [] ∧ en = [.sl 1 k49 Al0 cl0 r0 1 false] ∧ r0.length = l0.length) := by
 intro k
 induction k with
 | zero => intro l0 Al0 cl0 a1 a2 a3 r0 h; rw [slices_pdqsortCmpFunc_impl_Group_at83.f] at h; cases h
 | succ k ih =>
 intro l0 Al0 cl0 a1 a2 a3 r0 H
 refine fn_ 148 Try.func94 rfl rfl rfl (fun base T w0 => ?_)
 rw [slices_pdqsortCmpFunc_impl_Group_at83.f] at H
 refine gs (rg (sv (EV.as rfl) rfl (re (gs (rg (sv (EV.as rfl) rfl (re (gb ?_))))))))
 refine lo (fun kk S => ∃ (x1_ml0 : List S49) (x1_1 : Int) (x1_2 : Int) (x1_3 : Int) (x1_10 : Bool) (x1_11 : Bool), slices_pdqsortCmpFunc_impl_Group_at83.l0 kk x1_ml0 x1_1 x1_2 x1_3 x1_10 x1_11 = some r0 ∧ x1_ml0.length = l0.length ∧ S = ⟨[(0, .slice Al0 x1_ml0.length cl0), (1, .int .i64 x1_1), (2, .int .i64 x1_2), (3, .int .i64 x1_3), (4, .func (.func 83) #[] #[]), (10, .bool x1_10), (11, .bool x1_11)], [], [.sl 1 k49 Al0 cl0 x1_ml0 1 false]⟩) (fun S hS => ?_) (fun n0 ih0 S hS => ?_) ⟨l0, a1, a2, a3, true, true, H, (by first | rfl | assumption | omega | (simp only [List.length_set]; first | done | assumption | omega)), rfl⟩ (fun h => wk [0, 1, 2, 3, 4, 10, 11] [] [⟨0, 1, 1, false⟩] h)
 · clear H; obtain ⟨_, _, _, _, _, _, H, _⟩ := hS; rw [slices_pdqsortCmpFunc_impl_Group_at83.l0] at H; cases H
 clear H
 obtain ⟨x1_ml0, x1_1, x1_2, x1_3, x1_10, x1_11, H, ex1_ml0, rfl⟩ := hS
 rw [slices_pdqsortCmpFunc_impl_Group_at83.l0] at H
 refine gb (gs (rg (sv (EV.mv rfl) rfl (sv (EV.mv rfl) rfl (sv (EV.sub rfl rfl) rfl (sv (EV.as rfl) rfl (re (gs (gs (rg (sv (EV.mv rfl) rfl (sv (EV.leq rfl rfl) rfl (re ?_)))))))))))))
 revert H; refine ifsI ?_ ?_ <;> intro c1 H
 ·
  refine gt rfl (dT c1) (gs (rg (sv (EV.mv rfl) rfl (sv (EV.mv rfl) rfl (sv (EV.mv rfl) rfl (sv (EV.mv rfl) rfl ?_))))))
  revert H; refine bdI ?_; rintro t2 A2 H
  refine so rfl (op_callM (slices_insertionSortCmpFunc_impl_Group_at83.ok n0 x1_ml0 Al0 cl0 x1_1 x1_2 _ A2) [⟨0, 1, 1, false⟩] [] [] 2 rfl rfl rfl rfl rfl rfl rfl rfl ?_)
  rintro _ _ _ ⟨rfl, rfl, rfl, q2_0⟩
  refine rlT 0 (v' := .slice Al0 t2.length cl0) rfl (slq _ _ q2_0) (rlT 26 (v' := .slice Al0 t2.length cl0) rfl (slq _ _ q2_0) (nmE (en := [.sl 1 k49 Al0 cl0 t2 3 false]) (by kernel_rfl) (re (pr [] [] [0] rfl rfl rfl rfl ?_))))
  cases H
  exact rt Try.func94 rfl .nil rfl [] [⟨0, 1, 1, false⟩] rfl rfl rfl rfl rfl ⟨rfl, rfl, rfl, by first | rfl | assumption | omega | (simp only [List.length_set]; first | done | assumption | omega)⟩
 ·
  refine gf rfl (dF c1) (gk (gs (gs (rg (sv (EV.mv rfl) rfl (sv (EV.eql rfl rfl) rfl (re (pr [0, 1, 2, 3, 4, 10, 11, 12, 32] [] [0] rfl rfl rfl rfl ?_))))))))
  revert H; refine ifsI ?_ ?_ <;> intro c3 H
  ·
   refine gt rfl (dT c3) (gs (rg (sv (EV.mv rfl) rfl (sv (EV.mv rfl) rfl (sv (EV.mv rfl) rfl (sv (EV.mv rfl) rfl ?_))))))
   cases H
  ·
   refine gf rfl (dF c3) (gk (gs (gs (rg (sv (EV.mv rfl) rfl (sv (EV.nt rfl) rfl (re ?_)))))))
   revert H; refine ifsI ?_ ?_ <;> intro c4 H
   ·
    subst c4
    refine gf rfl rfl (gk (gs (rg (sv (EV.mv rfl) rfl (sv (EV.mv rfl) rfl (sv (EV.mv rfl) rfl (sv (EV.mv rfl) rfl ?_)))))))
    cases H
   ·
    obtain rfl := bF c4
    refine gt rfl rfl (gs (rg (sv (EV.mv rfl) rfl (sv (EV.mv rfl) rfl (sv (EV.mv rfl) rfl (sv (EV.mv rfl) rfl ?_))))))
    cases H
mutual
def bits_Len64.j2 : Nat → Int → Int → Option (Int)
 | 0, _, _ => none
 | k + 1, x3_0, x3_2 => if 0 ≤ (IntKind.u8.wrap x3_0) then (if (IntKind.u8.wrap x3_0) < ((⟨#[0, 1, 2, 2, 3, 3, 3, 3, 4, 4, 4, 4, 4, 4, 4, 4, 5, 5, 5, 5, 5, 5, 5, 5, 5, 5, 5, 5, 5, 5, 5, 5, 6, 6, 6, 6, 6, 6, 6, 6, 6, 6, 6, 6, 6, 6, 6, 6, 6, 6, 6, 6, 6, 6, 6, 6, 6, 6, 6, 6, 6, 6, 6, 6, 7, 7, 7, 7, 7, 7, 7, 7, 7, 7, 7, 7, 7, 7, 7, 7, 7, 7, 7, 7, 7, 7, 7, 7, 7, 7, 7, 7, 7, 7, 7, 7, 7, 7, 7, 7, 7, 7, 7, 7, 7, 7, 7, 7, 7, 7, 7, 7, 7, 7, 7, 7, 7, 7, 7, 7, 7, 7, 7, 7, 7, 7, 7, 7, 8, 8, 8, 8, 8, 8, 8, 8, 8, 8, 8, 8, 8, 8, 8, 8, 8, 8, 8, 8, 8, 8, 8, 8, 8, 8, 8, 8, 8, 8, 8, 8, 8, 8, 8, 8, 8, 8, 8, 8, 8, 8, 8, 8, 8, 8, 8, 8, 8, 8, 8, 8, 8, 8, 8, 8, 8, 8, 8, 8, 8, 8, 8, 8, 8, 8, 8, 8, 8, 8, 8, 8, 8, 8, 8, 8, 8, 8, 8, 8, 8, 8, 8, 8, 8, 8, 8, 8, 8, 8, 8, 8, 8, 8, 8, 8, 8, 8, 8, 8, 8, 8, 8, 8, 8, 8, 8, 8, 8, 8, 8, 8, 8, 8, 8, 8, 8, 8, 8, 8, 8, 8, 8, 8, 8, 8, 8, 8]⟩ : ByteArray).size : Int) then (some (wrap64 (x3_2 + (IntKind.i64.wrap (bt (⟨#[0, 1, 2, 2, 3, 3, 3, 3, 4, 4, 4, 4, 4, 4, 4, 4, 5, 5, 5, 5, 5, 5, 5, 5, 5, 5, 5, 5, 5, 5, 5, 5, 6, 6, 6, 6, 6, 6, 6, 6, 6, 6, 6, 6, 6, 6, 6, 6, 6, 6, 6, 6, 6, 6, 6, 6, 6, 6, 6, 6, 6, 6, 6, 6, 7, 7, 7, 7, 7, 7, 7, 7, 7, 7, 7, 7, 7, 7, 7, 7, 7, 7, 7, 7, 7, 7, 7, 7, 7, 7, 7, 7, 7, 7, 7, 7, 7, 7, 7, 7, 7, 7, 7, 7, 7, 7, 7, 7, 7, 7, 7, 7, 7, 7, 7, 7, 7, 7, 7, 7, 7, 7, 7, 7, 7, 7, 7, 7, 8, 8, 8, 8, 8, 8, 8, 8, 8, 8, 8, 8, 8, 8, 8, 8, 8, 8, 8, 8, 8, 8, 8, 8, 8, 8, 8, 8, 8, 8, 8, 8, 8, 8, 8, 8, 8, 8, 8, 8, 8, 8, 8, 8, 8, 8, 8, 8, 8, 8, 8, 8, 8, 8, 8, 8, 8, 8, 8, 8, 8, 8, 8, 8, 8, 8, 8, 8, 8, 8, 8, 8, 8, 8, 8, 8, 8, 8, 8, 8, 8, 8, 8, 8, 8, 8, 8, 8, 8, 8, 8, 8, 8, 8, 8, 8, 8, 8, 8, 8, 8, 8, 8, 8, 8, 8, 8, 8, 8, 8, 8, 8, 8, 8, 8, 8, 8, 8, 8, 8, 8, 8, 8, 8, 8, 8, 8, 8]⟩ : ByteArray) (IntKind.u8.wrap x3_0)))))) else none) else none
def bits_Len64.j1 : Nat → Int → Int → Option (Int)
 | 0, _, _ => none
 | k + 1, x2_0, x2_2 => if x2_0 ≥ 256 then (bits_Len64.j2 k (shrI x2_0 8) (wrap64 (x2_2 + 8))) else (bits_Len64.j2 k x2_0 x2_2)
def bits_Len64.j0 : Nat → Int → Int → Option (Int)
 | 0, _, _ => none
 | k + 1, x1_0, x1_2 => if x1_0 ≥ 65536 then (bits_Len64.j1 k (shrI x1_0 16) (wrap64 (x1_2 + 16))) else (bits_Len64.j1 k x1_0 x1_2)
end
def bits_Len64.f (k : Nat) (a0 : Int) : Option (Int) := if a0 ≥ 4294967296 then (bits_Len64.j0 k (shrI a0 32) 32) else (bits_Len64.j0 k a0 0)
set_option maxHeartbeats 4000000 in
set_option maxRecDepth 100000 in
theorem bits_Len64.ok (k : Nat) (a0 : Int) (r0 : Int) (H : bits_Len64.f k a0 = some r0) : Fn Try.prog 106 [.int .u64 a0] [] [] (fun v bx en => v = .int .i64 r0 ∧ bx = [] ∧ en = []) := by
 refine fn_ 25 Try.func106 rfl rfl rfl (fun base T w0 => ?_)
 rw [bits_Len64.f] at H
 refine gs (rg (sv (EV.as rfl) rfl (re ?_)))
 refine jo (fun S => ∃ (m : Nat) (x1_0 : Int) (x1_2 : Int), bits_Len64.j0 m x1_0 x1_2 = some r0 ∧ S = ⟨[(0, .int .u64 x1_0), (2, .int .i64 x1_2)], [], []⟩) (fun S hS => ?_) (fun jh0 => ?_)
 ·
  clear H
  obtain ⟨m1, x1_0, x1_2, H, rfl⟩ := hS
  rcases m1 with _ | m1
  · rw [bits_Len64.j0] at H; cases H
  rw [bits_Len64.j0] at H
  refine jo (fun S => ∃ (m : Nat) (x2_0 : Int) (x2_2 : Int), m ≤ m1 ∧ bits_Len64.j1 m x2_0 x2_2 = some r0 ∧ S = ⟨[(0, .int .u64 x2_0), (2, .int .i64 x2_2)], [], []⟩) (fun S hS => ?_) (fun jh1 => ?_)
  ·
   clear H
   obtain ⟨m2, x2_0, x2_2, lm2, H, rfl⟩ := hS
   rcases m2 with _ | m2
   · rw [bits_Len64.j1] at H; cases H
   rw [bits_Len64.j1] at H
   refine jo (fun S => ∃ (m : Nat) (x3_0 : Int) (x3_2 : Int), m ≤ m2 ∧ bits_Len64.j2 m x3_0 x3_2 = some r0 ∧ S = ⟨[(0, .int .u64 x3_0), (2, .int .i64 x3_2)], [], []⟩) (fun S hS => ?_) (fun jh2 => ?_)
   ·
    clear H
    obtain ⟨m3, x3_0, x3_2, lm3, H, rfl⟩ := hS
    rcases m3 with _ | m3
    · rw [bits_Len64.j2] at H; cases H
    rw [bits_Len64.j2] at H
    refine gs (rg (sv (EV.mv rfl) rfl (sv (EV.mv rfl) rfl (sv (EV.cv (k' := .u8) rfl) rfl ?_))))
    revert H; refine ggI ?_; intro g4 H
    revert H; refine ggI ?_; intro g5 H
    refine sv (EV.is rfl rfl g4 g5) rfl (sv (EV.cv (k' := .i64) rfl) rfl (sv (EV.add rfl rfl) rfl (sv (EV.as rfl) rfl (re (pr [2] [] [] rfl rfl rfl rfl ?_)))))
    cases H
    exact rt Try.func106 rfl (.tmp rfl .nil) rfl [] [] rfl rfl rfl rfl rfl ⟨rfl, rfl, rfl⟩
   ·
    refine gs (rg (sv (EV.mv rfl) rfl (sv (EV.geq rfl rfl) rfl (re ?_))))
    revert H; refine ifsI ?_ ?_ <;> intro c6 H
    ·
     exact gt rfl (dT c6) (gs (rg (sv (EV.mv rfl) rfl (sv (EV.shr64 rfl rfl dq) rfl (sv (EV.as rfl) rfl (re (rg (sv (EV.mv rfl) rfl (sv (EV.add rfl rfl) rfl (sv (EV.as rfl) rfl (re (pr [0, 2] [] [] rfl rfl rfl rfl (wk [0, 2] [] [] (jh2 _ ⟨_, shrI x2_0 8, wrap64 (x2_2 + 8), by omega, H, rfl⟩))))))))))))))
    ·
     exact gf rfl (dF c6) (gk (wk [0, 2] [] [] (jh2 _ ⟨_, x2_0, x2_2, by omega, H, rfl⟩)))
  ·
   refine gs (rg (sv (EV.mv rfl) rfl (sv (EV.geq rfl rfl) rfl (re ?_))))
   revert H; refine ifsI ?_ ?_ <;> intro c7 H
   ·
    exact gt rfl (dT c7) (gs (rg (sv (EV.mv rfl) rfl (sv (EV.shr64 rfl rfl dq) rfl (sv (EV.as rfl) rfl (re (rg (sv (EV.mv rfl) rfl (sv (EV.add rfl rfl) rfl (sv (EV.as rfl) rfl (re (pr [0, 2] [] [] rfl rfl rfl rfl (wk [0, 2] [] [] (jh1 _ ⟨_, shrI x1_0 16, wrap64 (x1_2 + 16), by omega, H, rfl⟩))))))))))))))
   ·
    exact gf rfl (dF c7) (gk (wk [0, 2] [] [] (jh1 _ ⟨_, x1_0, x1_2, by omega, H, rfl⟩)))
 ·
  refine gs (rg (sv (EV.mv rfl) rfl (sv (EV.geq rfl rfl) rfl (re ?_))))
  revert H; refine ifsI ?_ ?_ <;> intro c8 H
  ·
   exact gt rfl (dT c8) (gs (rg (sv (EV.mv rfl) rfl (sv (EV.shr64 rfl rfl dq) rfl (sv (EV.as rfl) rfl (re (rg (sv (EV.as rfl) rfl (re (wk [0, 2] [] [] (jh0 _ ⟨_, shrI a0 32, 32, H, rfl⟩)))))))))))
  ·
   exact gf rfl (dF c8) (gk (wk [0, 2] [] [] (jh0 _ ⟨_, a0, 0, H, rfl⟩)))
def bits_Len.f (k : Nat) (a0 : Int) : Option (Int) := (bits_Len64.f k a0).bind fun t1 => (some t1)
set_option maxHeartbeats 4000000 in
set_option maxRecDepth 100000 in
theorem bits_Len.ok (k : Nat) (a0 : Int) (r0 : Int) (H : bits_Len.f k a0 = some r0) : Fn Try.prog 95 [.int .u64 a0] [] [] (fun v bx en => v = .int .i64 r0 ∧ bx = [] ∧ en = []) := by
 refine fn_ 8 Try.func95 rfl rfl rfl (fun base T w0 => ?_)
 rw [bits_Len.f] at H
 refine gs (rg (sv (EV.as rfl) rfl (re (gs (gf rfl rfl (gk (gs (rg (sv (EV.mv rfl) rfl ?_)))))))))
 revert H; refine bdI ?_; rintro t1 A1 H
 refine so rfl (op_call (bits_Len64.ok k a0 _ A1) [] 1 rfl rfl rfl rfl rfl ?_)
 rintro _ _ _ ⟨rfl, rfl, rfl⟩
 refine sv (EV.as rfl) rfl (re ?_)
 cases H
 exact rt Try.func95 rfl (.tmp rfl .nil) rfl [] [] rfl rfl rfl rfl rfl ⟨rfl, rfl, rfl⟩
def slices_SortFunc_impl_Group_impl_Group_at83.f (k : Nat) (l0 : List S49) : Option ((List S49)) := (bits_Len.f k (IntKind.u64.wrap (l0.length : Int))).bind fun t1 => ((slices_pdqsortCmpFunc_impl_Group_at83.f k l0 0 (l0.length : Int) t1).bind fun t2 => (some t2))
set_option maxHeartbeats 4000000 in
set_option maxRecDepth 100000 in
theorem slices_SortFunc_impl_Group_impl_Group_at83.ok (k : Nat) (l0 : List S49) (Al0 : Option Addr) (cl0 : Nat) (r0 : List S49) (H : slices_SortFunc_impl_Group_impl_Group_at83.f k l0 = some r0) : Fn Try.prog 82 [.slice Al0 l0.length cl0, .func (.func 83) #[] #[]] [] [.sl 1 k49 Al0 cl0 l0 1 false] (fun v bx en => v = .tuple #[] ∧ bx = [] ∧ en = [.sl 1 k49 Al0 cl0 r0 1 false] ∧ r0.length = l0.length) := by
 refine fn_ 14 Try.func82 rfl rfl rfl (fun base T w0 => ?_)
 rw [slices_SortFunc_impl_Group_impl_Group_at83.f] at H
 refine gs (rg (sv (EV.mv rfl) rfl (sv (EV.ln rfl) rfl (sv (EV.as rfl) rfl (re (rg (sv (EV.mv rfl) rfl (sv (EV.mv rfl) rfl (sv (EV.mv rfl) rfl (sv (EV.cv (k' := .u64) rfl) rfl ?_))))))))))
 revert H; refine bdI ?_; rintro t1 A1 H
 refine so rfl (op_call (bits_Len.ok k (IntKind.u64.wrap (l0.length : Int)) _ A1) [] 2 rfl rfl rfl rfl rfl ?_)
 rintro _ _ _ ⟨rfl, rfl, rfl⟩
 refine sv (EV.mv rfl) rfl ?_
 revert H; refine bdI ?_; rintro t2 A2 H
 refine so rfl (op_callM (slices_pdqsortCmpFunc_impl_Group_at83.ok k l0 Al0 cl0 0 (l0.length : Int) t1 _ A2) [⟨0, 1, 1, false⟩] [] [] 2 rfl rfl rfl rfl rfl rfl rfl rfl ?_)
 rintro _ _ _ ⟨rfl, rfl, rfl, q2_0⟩
 refine rlT 0 (v' := .slice Al0 t2.length cl0) rfl (slq _ _ q2_0) (rlT 5 (v' := .slice Al0 t2.length cl0) rfl (slq _ _ q2_0) (rlT 7 (v' := .slice Al0 t2.length cl0) rfl (slq _ _ q2_0) (nmE (en := [.sl 1 k49 Al0 cl0 t2 3 false]) (by kernel_rfl) (re (pr [] [] [0] rfl rfl rfl rfl ?_)))))
 cases H
 exact rt0 Try.func82 rfl .nil rfl [] [⟨0, 1, 1, false⟩] rfl rfl rfl rfl rfl ⟨rfl, rfl, rfl, by first | rfl | assumption | omega | (simp only [List.length_set]; first | done | assumption | omega)⟩
def impl_CombineGroups.f (a0_0 : Int) (a0_1 : Int) (a0_2 : Int) (a0_3 : Int) (a0_4 : Int) (a1_0 : Int) (a1_1 : Int) (a1_2 : Int) (a1_3 : Int) (a1_4 : Int) : Option (Int × Int × Int × Int × Int) := if a0_0 = a1_0 then (some (a0_0, wrap64 (a0_1 + a1_1), wrap64 (a0_2 + a1_2), mn a0_3 a1_3, mx a0_4 a1_4)) else (some (a0_0, a0_1, a0_2, a0_3, a0_4))
set_option maxHeartbeats 4000000 in
set_option maxRecDepth 100000 in
theorem impl_CombineGroups.ok (a0_0 : Int) (a0_1 : Int) (a0_2 : Int) (a0_3 : Int) (a0_4 : Int) (a1_0 : Int) (a1_1 : Int) (a1_2 : Int) (a1_3 : Int) (a1_4 : Int) (r0 : Int) (r1 : Int) (r2 : Int) (r3 : Int) (r4 : Int) (H : impl_CombineGroups.f a0_0 a0_1 a0_2 a0_3 a0_4 a1_0 a1_1 a1_2 a1_3 a1_4 = some (r0, r1, r2, r3, r4)) : Fn Try.prog 81 [.agg #[.int .i64 a0_0, .int .i64 a0_1, .int .i64 a0_2, .int .i64 a0_3, .int .i64 a0_4], .agg #[.int .i64 a1_0, .int .i64 a1_1, .int .i64 a1_2, .int .i64 a1_3, .int .i64 a1_4]] [] [] (fun v bx en => v = .agg #[.int .i64 r0, .int .i64 r1, .int .i64 r2, .int .i64 r3, .int .i64 r4] ∧ bx = [] ∧ en = []) := by
 refine fn_ 34 Try.func81 rfl rfl rfl (fun base T w0 => ?_)
 rw [impl_CombineGroups.f] at H
 refine gs (rg (so rfl (op_box (cs := [.int .i64 a0_0, .int .i64 a0_1, .int .i64 a0_2, .int .i64 a0_3, .int .i64 a0_4]) rfl rfl rfl fun b2 => (so rfl (op_box (cs := [.int .i64 a1_0, .int .i64 a1_1, .int .i64 a1_2, .int .i64 a1_3, .int .i64 a1_4]) rfl rfl rfl fun b3 => (so rfl (op_alloc (cs := [.int .i64 0, .int .i64 0, .int .i64 0, .int .i64 0, .int .i64 0]) (by kernel_rfl) rfl fun b4 => (re (gs (gs (rg (sv (EV.fa 0 rfl) rfl (sv (EV.ld 0 none rfl rfl rfl) rfl (sv (EV.fa 0 rfl) rfl (sv (EV.ld 1 none rfl rfl rfl) rfl (sv (EV.neq rfl rfl) rfl (re (pr [2, 3, 4, 9] [0, 1, 2] [] rfl rfl rfl rfl ?_))))))))))))))))))
 revert H; refine ifsI ?_ ?_ <;> intro c1 H
 ·
  refine gf rfl (nF c1) (gk (gs (rg (sv (EV.fa 0 rfl) rfl (sv (EV.ld 0 none rfl rfl rfl) rfl (sv (EV.fa 1 rfl) rfl (sv (EV.ld 0 none rfl rfl rfl) rfl (sv (EV.fa 1 rfl) rfl (sv (EV.ld 1 none rfl rfl rfl) rfl (sv (EV.add rfl rfl) rfl (sv (EV.fa 2 rfl) rfl (sv (EV.ld 0 none rfl rfl rfl) rfl (sv (EV.fa 2 rfl) rfl (sv (EV.ld 1 none rfl rfl rfl) rfl (sv (EV.add rfl rfl) rfl (sv (EV.fa 3 rfl) rfl (sv (EV.ld 0 none rfl rfl rfl) rfl (sv (EV.fa 3 rfl) rfl (sv (EV.ld 1 none rfl rfl rfl) rfl (sv (EV.mn rfl rfl) rfl (sv (EV.fa 4 rfl) rfl (sv (EV.ld 0 none rfl rfl rfl) rfl (sv (EV.fa 4 rfl) rfl (sv (EV.ld 1 none rfl rfl rfl) rfl (sv (EV.mx rfl rfl) rfl (sv (EV.bd (v := .agg #[.int .i64 a0_0, .int .i64 (wrap64 (a0_1 + a1_1)), .int .i64 (wrap64 (a0_2 + a1_2)), .int .i64 (mn a0_3 a1_3), .int .i64 (mx a0_4 a1_4)]) rfl (by kernel_rfl)) rfl (so rfl (op_st (cs' := [.int .i64 a0_0, .int .i64 (wrap64 (a0_1 + a1_1)), .int .i64 (wrap64 (a0_2 + a1_2)), .int .i64 (mn a0_3 a1_3), .int .i64 (mx a0_4 a1_4)]) 2 rfl rfl rfl rfl rfl rfl (re ?_)))))))))))))))))))))))))))))
  refine pr [4] [2] [] rfl rfl rfl rfl ?_
  cases H
  exact rt Try.func81 rfl (.cell 0 (some 5) rfl rfl rfl .nil) rfl [] [] rfl rfl rfl rfl rfl ⟨rfl, rfl, rfl⟩
 ·
  refine gt rfl (nT c1) (gs (rg (sv (EV.ld (v := .agg #[.int .i64 a0_0, .int .i64 a0_1, .int .i64 a0_2, .int .i64 a0_3, .int .i64 a0_4]) 0 (some 5) rfl rfl rfl) rfl (so rfl (op_st (cs' := [.int .i64 a0_0, .int .i64 a0_1, .int .i64 a0_2, .int .i64 a0_3, .int .i64 a0_4]) 2 rfl rfl rfl rfl rfl rfl (re ?_))))))
  cases H
  exact rt Try.func81 rfl (.cell 2 (some 5) rfl rfl rfl .nil) rfl [] [] rfl rfl rfl rfl rfl ⟨rfl, rfl, rfl⟩
def impl_MergeGroups.l0 : Nat → (List S49) → (List (Int × Int)) → Int → Int → (List S49) → Option ((List S49))
 | 0, _, _, _, _, _ => none
 | k + 1, x2_3, x2_4, x2_12, x2_13, l0 => if x2_13 < x2_12 then (if 0 ≤ x2_13 then (if x2_13 < (l0.length : Int) then (if ((mGet x2_4 ((rd_T49 l0 x2_13).f0)).isSome) = true then (if 0 ≤ ((mGet x2_4 ((rd_T49 l0 x2_13).f0)).getD 0) then (if ((mGet x2_4 ((rd_T49 l0 x2_13).f0)).getD 0) < (x2_3.length : Int) then ((impl_CombineGroups.f ((rd_T49 x2_3 ((mGet x2_4 ((rd_T49 l0 x2_13).f0)).getD 0)).f0) ((rd_T49 x2_3 ((mGet x2_4 ((rd_T49 l0 x2_13).f0)).getD 0)).f1) ((rd_T49 x2_3 ((mGet x2_4 ((rd_T49 l0 x2_13).f0)).getD 0)).f2) ((rd_T49 x2_3 ((mGet x2_4 ((rd_T49 l0 x2_13).f0)).getD 0)).f3) ((rd_T49 x2_3 ((mGet x2_4 ((rd_T49 l0 x2_13).f0)).getD 0)).f4) ((rd_T49 l0 x2_13).f0) ((rd_T49 l0 x2_13).f1) ((rd_T49 l0 x2_13).f2) ((rd_T49 l0 x2_13).f3) ((rd_T49 l0 x2_13).f4)).bind fun bt9 => ((some (x2_3.set ((mGet x2_4 ((rd_T49 l0 x2_13).f0)).getD 0).toNat (⟨bt9.1, bt9.2.1, bt9.2.2.1, bt9.2.2.2.1, bt9.2.2.2.2⟩ : S49))).bind fun s10 => (impl_MergeGroups.l0 k s10 x2_4 x2_12 (wrap64 (x2_13 + 1)) l0))) else none) else none) else (if x2_3.length < 3518437208883 then (impl_MergeGroups.l0 k (x2_3 ++ ([(⟨(rd_T49 l0 x2_13).f0, (rd_T49 l0 x2_13).f1, (rd_T49 l0 x2_13).f2, (rd_T49 l0 x2_13).f3, (rd_T49 l0 x2_13).f4⟩ : S49)] : List S49)) (mSet x2_4 ((rd_T49 l0 x2_13).f0) (x2_3.length : Int)) x2_12 (wrap64 (x2_13 + 1)) l0) else none)) else none) else none) else ((slices_SortFunc_impl_Group_impl_Group_at83.f k x2_3).bind fun t14 => (some t14))
def impl_MergeGroups.f (k : Nat) (l0 : List S49) : Option ((List S49)) := impl_MergeGroups.l0 k [] ([] : List (Int × Int)) (l0.length : Int) 0 l0
set_option maxHeartbeats 4000000 in
set_option maxRecDepth 100000 in
theorem impl_MergeGroups.ok (k : Nat) (l0 : List S49) (Al0 : Option Addr) (cl0 : Nat) (r0 : List S49) (H : impl_MergeGroups.f k l0 = some r0) : Fn Try.prog 49 [.slice Al0 l0.length cl0] [] [.sl 0 k49 Al0 cl0 l0 0 false] (fun v bx en => ∃ A0 c0, v = .slice A0 r0.length c0 ∧ bx = [] ∧ en = [.sl 1 k49 A0 c0 r0 1 false]) := by
 refine fn_ 48 Try.func49 rfl rfl rfl (fun base T w0 => ?_)
 rw [impl_MergeGroups.f] at H
 refine gs (rg (sv (EV.as rfl) rfl (re (gs (rg (so rfl (op_lit (s := 5) (by_ := 40) k49 ([] : List S49) [] [] 1 [] rfl rfl rfl rfl rfl rfl rfl rfl rfl rfl rfl rfl rfl dq rfl fun A9_1 c9_1 => (so rfl (op_mkm (β := Int) .i64 (Value.int .i64) 2 rfl dq rfl fun r10_2 => (sv (EV.as rfl) rfl (sv (EV.as rfl) rfl (re (gs (gs (rg (sv (EV.mv rfl) rfl (sv (EV.ln rfl) rfl (sv (EV.mv rfl) rfl (re (gb ?_))))))))))))))))))))
 refine lo (fun kk S => ∃ (x2_3 : List S49) (Ax2_3 : Option Addr) (cx2_3 : Nat) (x2_4 : List (Int × Int)) (rx2_4 : Nat) (x2_12 : Int) (x2_13 : Int), impl_MergeGroups.l0 kk x2_3 x2_4 x2_12 x2_13 l0 = some r0 ∧ S = ⟨[(3, .slice Ax2_3 x2_3.length cx2_3), (4, .map (some rx2_4)), (11, .slice Al0 l0.length cl0), (12, .int .i64 x2_12), (13, .int .i64 x2_13)], [], [.sl 2 k49 Ax2_3 cx2_3 x2_3 1 true, mapE .i64 (Value.int .i64) rx2_4 x2_4 2, .sl 0 k49 Al0 cl0 l0 0 false]⟩) (fun S hS => ?_) (fun n0 ih0 S hS => ?_) ⟨[], A9_1, c9_1, ([] : List (Int × Int)), r10_2, (l0.length : Int), 0, H, rfl⟩ (fun h => wk [3, 4, 11, 12, 13] [] [⟨1, 2, 1, true⟩, ⟨2, 1, 2, false⟩, ⟨0, 0, 0, false⟩] h)
 · clear H; obtain ⟨_, _, _, _, _, _, _, H, _⟩ := hS; rw [impl_MergeGroups.l0] at H; cases H
 clear H
 obtain ⟨x2_3, Ax2_3, cx2_3, x2_4, rx2_4, x2_12, x2_13, H, rfl⟩ := hS
 rw [impl_MergeGroups.l0] at H
 refine gs (rg (sv (EV.lss rfl rfl) rfl (re (gs ?_))))
 revert H; refine ifsI ?_ ?_ <;> intro c3 H
 ·
  refine gt rfl (dT c3) (gk (gs (gb (gs (rg ?_)))))
  revert H; refine ggI ?_; intro g4 H
  revert H; refine ggI ?_; intro g5 H
  refine sv (EV.ix 2 rfl rfl rfl g4 g5 rfl) rfl (sv (EV.le (v := .agg #[.int .i64 ((rd_T49 l0 x2_13).f0), .int .i64 ((rd_T49 l0 x2_13).f1), .int .i64 ((rd_T49 l0 x2_13).f2), .int .i64 ((rd_T49 l0 x2_13).f3), .int .i64 ((rd_T49 l0 x2_13).f4)]) x2_13 0 (some 5) 2 z49 rfl rfl rfl g4 g5 rfl rfl rfl) rfl (so rfl (op_alloc (cs := [.int .i64 0, .int .i64 0, .int .i64 0, .int .i64 0, .int .i64 0]) (by kernel_rfl) rfl fun b6 => (so rfl (op_st (cs' := [.int .i64 ((rd_T49 l0 x2_13).f0), .int .i64 ((rd_T49 l0 x2_13).f1), .int .i64 ((rd_T49 l0 x2_13).f2), .int .i64 ((rd_T49 l0 x2_13).f3), .int .i64 ((rd_T49 l0 x2_13).f4)]) 0 rfl rfl rfl rfl rfl rfl (re (gs (rg (sv (EV.mv rfl) rfl (sv (EV.fa 0 rfl) rfl (sv (EV.ld 0 none rfl rfl rfl) rfl (sv (EV.lk2 (vf := (Value.int .i64)) (zz := 0) 1 rfl rfl rfl) rfl (sv (EV.mv rfl) rfl (sv (EV.ex rfl rfl) rfl (sv (EV.ex rfl rfl) rfl (sv (EV.as rfl) rfl (sv (EV.as rfl) rfl (re (pr [3, 4, 6, 7, 8, 11, 12, 13] [0] [0, 1, 2] rfl rfl rfl rfl (gs (gs (rg (sv (EV.mv rfl) rfl (sv (EV.nt rfl) rfl (re ?_)))))))))))))))))))))))))
  revert H; refine ifsI ?_ ?_ <;> intro c6 H
  ·
   refine gf rfl (bN c6) (gk ?_)
   revert H; refine ggI ?_; intro g7 H
   revert H; refine ggI ?_; intro g8 H
   refine dr [0] [0, 1, 2] [9] 10 rfl rfl rfl rfl (xv 0 [0] [0, 1, 2] rfl (EV.mv rfl) rfl rfl rfl rfl (xv 1 [0] [0, 1, 2] rfl (EV.mv rfl) rfl rfl rfl rfl (xv 2 [0] [0, 1, 2] rfl (EV.mv rfl) rfl rfl rfl rfl (xv 3 [0] [0, 1, 2] rfl (EV.mv rfl) rfl rfl rfl rfl (xv 4 [0] [0, 1, 2] rfl (EV.ix 0 rfl rfl rfl g7 g8 rfl) rfl rfl rfl rfl (xv 5 [0] [0, 1, 2] rfl (EV.le (v := .agg #[.int .i64 ((rd_T49 x2_3 ((mGet x2_4 ((rd_T49 l0 x2_13).f0)).getD 0)).f0), .int .i64 ((rd_T49 x2_3 ((mGet x2_4 ((rd_T49 l0 x2_13).f0)).getD 0)).f1), .int .i64 ((rd_T49 x2_3 ((mGet x2_4 ((rd_T49 l0 x2_13).f0)).getD 0)).f2), .int .i64 ((rd_T49 x2_3 ((mGet x2_4 ((rd_T49 l0 x2_13).f0)).getD 0)).f3), .int .i64 ((rd_T49 x2_3 ((mGet x2_4 ((rd_T49 l0 x2_13).f0)).getD 0)).f4)]) ((mGet x2_4 ((rd_T49 l0 x2_13).f0)).getD 0) 0 (some 5) 0 z49 rfl rfl rfl g7 g8 rfl rfl rfl) rfl rfl rfl rfl (xv 6 [0] [0, 1, 2] rfl (EV.ld (v := .agg #[.int .i64 ((rd_T49 l0 x2_13).f0), .int .i64 ((rd_T49 l0 x2_13).f1), .int .i64 ((rd_T49 l0 x2_13).f2), .int .i64 ((rd_T49 l0 x2_13).f3), .int .i64 ((rd_T49 l0 x2_13).f4)]) 0 (some 5) rfl rfl rfl) rfl rfl rfl rfl (one1 7 rfl rfl ?_))))))))
   revert H; refine bdI ?_; rintro ⟨t9_0, t9_1, t9_2, t9_3, t9_4⟩ A9 H
   refine op_call (impl_CombineGroups.ok ((rd_T49 x2_3 ((mGet x2_4 ((rd_T49 l0 x2_13).f0)).getD 0)).f0) ((rd_T49 x2_3 ((mGet x2_4 ((rd_T49 l0 x2_13).f0)).getD 0)).f1) ((rd_T49 x2_3 ((mGet x2_4 ((rd_T49 l0 x2_13).f0)).getD 0)).f2) ((rd_T49 x2_3 ((mGet x2_4 ((rd_T49 l0 x2_13).f0)).getD 0)).f3) ((rd_T49 x2_3 ((mGet x2_4 ((rd_T49 l0 x2_13).f0)).getD 0)).f4) ((rd_T49 l0 x2_13).f0) ((rd_T49 l0 x2_13).f1) ((rd_T49 l0 x2_13).f2) ((rd_T49 l0 x2_13).f3) ((rd_T49 l0 x2_13).f4) _ _ _ _ _ A9) [] 3 rfl rfl rfl rfl rfl ?_
   rintro _ _ _ ⟨rfl, rfl, rfl⟩
   refine xs [0] [0, 1, 2] rfl rfl rfl (xv 8 [0] [0, 1, 2] rfl (EV.ix 0 rfl rfl rfl g7 g8 rfl) rfl rfl rfl rfl (one1 9 rfl rfl ?_))
   revert H; refine bdI ?_; intro s10 A10 H; have q10 := stl (Option.some.inj A10)
   exact op_stg ((mGet x2_4 ((rd_T49 l0 x2_13).f0)).getD 0) 0 0 z49 (⟨t9_0, t9_1, t9_2, t9_3, t9_4⟩ : S49) (Option.some.inj A10) rfl rfl rfl rfl g7 g8 rfl rfl rfl rfl dq rfl (rlT 3 (v' := .slice Ax2_3 s10.length cx2_3) rfl (slq _ _ q10) (rlT 35 (v' := .slice Ax2_3 s10.length cx2_3) rfl (slq _ _ q10) (rlT 37 (v' := .slice Ax2_3 s10.length cx2_3) rfl (slq _ _ q10) (nmE (en := [mapE .i64 (Value.int .i64) rx2_4 x2_4 2, .sl 0 k49 Al0 cl0 l0 0 false, .sl 2 k49 Ax2_3 cx2_3 s10 1 true]) (by kernel_rfl) (xn rfl (xd (pr [3, 4, 11, 12, 13] [] [0, 1, 2] rfl rfl rfl rfl (ge (rg (sv (EV.add rfl rfl) rfl (sv (EV.mv rfl) rfl (re (wk [3, 4, 11, 12, 13] [] [⟨2, 2, 1, true⟩, ⟨0, 1, 2, false⟩, ⟨1, 0, 0, false⟩] (ih0 _ (by omega) _ ⟨s10, Ax2_3, cx2_3, x2_4, rx2_4, x2_12, wrap64 (x2_13 + 1), H, rfl⟩))))))))))))))
  ·
   refine gt rfl (bM c6) (gs (rg (sv (EV.mv rfl) rfl (sv (EV.fa 0 rfl) rfl (sv (EV.ld 0 none rfl rfl rfl) rfl (sv (EV.mv rfl) rfl (sv (EV.ln rfl) rfl (so rfl (op_mu 1 (x2_3.length : Int) rfl rfl rfl rfl rfl (nmE (en := [.sl 2 k49 Ax2_3 cx2_3 x2_3 1 true, .sl 0 k49 Al0 cl0 l0 0 false, mapE .i64 (Value.int .i64) rx2_4 (mSet x2_4 ((rd_T49 l0 x2_13).f0) (x2_3.length : Int)) 2]) (by kernel_rfl) (re (pr [3, 4, 6, 11, 12, 13] [0] [0, 1, 2] rfl rfl rfl rfl (gs (rg (sv (EV.mv rfl) rfl (sv (EV.ld (v := .agg #[.int .i64 ((rd_T49 l0 x2_13).f0), .int .i64 ((rd_T49 l0 x2_13).f1), .int .i64 ((rd_T49 l0 x2_13).f2), .int .i64 ((rd_T49 l0 x2_13).f3), .int .i64 ((rd_T49 l0 x2_13).f4)]) 0 (some 5) rfl rfl rfl) rfl (so rfl (op_lit (s := 5) (by_ := 40) k49 ([(⟨(rd_T49 l0 x2_13).f0, (rd_T49 l0 x2_13).f1, (rd_T49 l0 x2_13).f2, (rd_T49 l0 x2_13).f3, (rd_T49 l0 x2_13).f4⟩ : S49)] : List S49) [[]] [] 3 [.tmp 32] rfl rfl rfl rfl rfl rfl rfl rfl rfl rfl rfl rfl rfl dq rfl fun A33_11 c33_11 => ?_))))))))))))))))))
   revert H; refine ggI ?_; intro g12 H
   exact so rfl (op_app (k := k49) (s := 5) (by_ := 40) 0 3 rfl rfl rfl rfl (ap1 g12 dq) (ap1n g12 dq) (.inl rfl) true (fun _ => .inl rfl) rfl rfl fun A34_13 c34_13 => (nmE (en := [.sl 0 k49 Al0 cl0 l0 0 false, mapE .i64 (Value.int .i64) rx2_4 (mSet x2_4 ((rd_T49 l0 x2_13).f0) (x2_3.length : Int)) 2, .sl 2 k49 A33_11 c33_11 ([(⟨(rd_T49 l0 x2_13).f0, (rd_T49 l0 x2_13).f1, (rd_T49 l0 x2_13).f2, (rd_T49 l0 x2_13).f3, (rd_T49 l0 x2_13).f4⟩ : S49)] : List S49) 3 true, .sl 2 k49 A34_13 c34_13 (x2_3 ++ ([(⟨(rd_T49 l0 x2_13).f0, (rd_T49 l0 x2_13).f1, (rd_T49 l0 x2_13).f2, (rd_T49 l0 x2_13).f3, (rd_T49 l0 x2_13).f4⟩ : S49)] : List S49)) 1 true]) (by kernel_rfl) (sv (EV.as rfl) rfl (re (gx rfl (rg (sv (EV.add rfl rfl) rfl (sv (EV.mv rfl) rfl (re (pr [3, 4, 11, 12, 13] [] [0, 1, 3] rfl rfl rfl rfl (wk [3, 4, 11, 12, 13] [] [⟨2, 2, 1, true⟩, ⟨1, 1, 2, false⟩, ⟨0, 0, 0, false⟩] (ih0 _ (by omega) _ ⟨x2_3 ++ ([(⟨(rd_T49 l0 x2_13).f0, (rd_T49 l0 x2_13).f1, (rd_T49 l0 x2_13).f2, (rd_T49 l0 x2_13).f3, (rd_T49 l0 x2_13).f4⟩ : S49)] : List S49), A34_13, c34_13, mSet x2_4 ((rd_T49 l0 x2_13).f0) (x2_3.length : Int), rx2_4, x2_12, wrap64 (x2_13 + 1), H, rfl⟩))))))))))))
 ·
  refine gf rfl (dF c3) (gx rfl (gs (rg (sv (EV.mv rfl) rfl ?_))))
  revert H; refine bdI ?_; rintro t14 A14 H
  refine so rfl (op_callM (slices_SortFunc_impl_Group_impl_Group_at83.ok n0 x2_3 Ax2_3 cx2_3 _ A14) [⟨0, 1, 1, false⟩] [] [] 3 rfl rfl rfl rfl rfl rfl rfl rfl ?_)
  rintro _ _ _ ⟨rfl, rfl, rfl, q14_0⟩
  refine rlT 3 (v' := .slice Ax2_3 t14.length cx2_3) rfl (slq _ _ q14_0) (rlT 45 (v' := .slice Ax2_3 t14.length cx2_3) rfl (slq _ _ q14_0) (nmE (en := [mapE .i64 (Value.int .i64) rx2_4 x2_4 2, .sl 0 k49 Al0 cl0 l0 0 false, .sl 1 k49 Ax2_3 cx2_3 t14 4 false]) (by kernel_rfl) (re (pr [3] [] [2] rfl rfl rfl rfl (gs (rg (sv (EV.mv rfl) rfl (sv (EV.as rfl) rfl (re ?_)))))))))
  cases H
  exact rt Try.func49 rfl (.tmp rfl .nil) rfl [] [⟨0, 1, 1, false⟩] rfl rfl rfl rfl rfl ⟨_, _, rfl, rfl, rfl⟩
def impl_GroupFromRow.f (a0_0 : Int) (a0_1 : Int) (a0_2 : Int) : Option (Int × Int × Int × Int × Int) := some (a0_0, 1, a0_1, a0_1, a0_1)
set_option maxHeartbeats 4000000 in
set_option maxRecDepth 100000 in
theorem impl_GroupFromRow.ok (a0_0 : Int) (a0_1 : Int) (a0_2 : Int) (r0 : Int) (r1 : Int) (r2 : Int) (r3 : Int) (r4 : Int) (H : impl_GroupFromRow.f a0_0 a0_1 a0_2 = some (r0, r1, r2, r3, r4)) : Fn Try.prog 57 [.agg #[.int .i64 a0_0, .int .i64 a0_1, .int .i64 a0_2]] [] [] (fun v bx en => v = .agg #[.int .i64 r0, .int .i64 r1, .int .i64 r2, .int .i64 r3, .int .i64 r4] ∧ bx = [] ∧ en = []) := by
 refine fn_ 12 Try.func57 rfl rfl rfl (fun base T w0 => ?_)
 rw [impl_GroupFromRow.f] at H
 refine gs (rg (so rfl (op_box (cs := [.int .i64 a0_0, .int .i64 a0_1, .int .i64 a0_2]) rfl rfl rfl fun b1 => (so rfl (op_alloc (cs := [.int .i64 0, .int .i64 0, .int .i64 0, .int .i64 0, .int .i64 0]) (by kernel_rfl) rfl fun b2 => (re (gs (rg (sv (EV.fa 0 rfl) rfl (sv (EV.ld 0 none rfl rfl rfl) rfl (sv (EV.fa 1 rfl) rfl (sv (EV.ld 0 none rfl rfl rfl) rfl (sv (EV.fa 1 rfl) rfl (sv (EV.ld 0 none rfl rfl rfl) rfl (sv (EV.fa 1 rfl) rfl (sv (EV.ld 0 none rfl rfl rfl) rfl (sv (EV.bd (v := .agg #[.int .i64 a0_0, .int .i64 1, .int .i64 a0_1, .int .i64 a0_1, .int .i64 a0_1]) rfl (by kernel_rfl)) rfl (so rfl (op_st (cs' := [.int .i64 a0_0, .int .i64 1, .int .i64 a0_1, .int .i64 a0_1, .int .i64 a0_1]) 1 rfl rfl rfl rfl rfl rfl (re (pr [2] [1] [] rfl rfl rfl rfl ?_)))))))))))))))))))))
 cases H
 exact rt Try.func57 rfl (.cell 0 (some 5) rfl rfl rfl .nil) rfl [] [] rfl rfl rfl rfl rfl ⟨rfl, rfl, rfl⟩
def impl_ReferenceGroups.l0 : Nat → (List S49) → Int → Int → (List S75) → Option ((List S49))
 | 0, _, _, _, _ => none
 | k + 1, x2_3, x2_8, x2_9, l0 => if x2_9 < x2_8 then (if 0 ≤ x2_9 then (if x2_9 < (l0.length : Int) then ((impl_GroupFromRow.f ((rd_T75 l0 x2_9).f0) ((rd_T75 l0 x2_9).f1) ((rd_T75 l0 x2_9).f2)).bind fun bt5 => (if x2_3.length < 3518437208883 then (impl_ReferenceGroups.l0 k (x2_3 ++ ([(⟨bt5.1, bt5.2.1, bt5.2.2.1, bt5.2.2.2.1, bt5.2.2.2.2⟩ : S49)] : List S49)) x2_8 (wrap64 (x2_9 + 1)) l0) else none)) else none) else none) else ((impl_MergeGroups.f k x2_3).bind fun t9 => (some t9))
def impl_ReferenceGroups.f (k : Nat) (l0 : List S75) : Option ((List S49)) := impl_ReferenceGroups.l0 k [] (l0.length : Int) 0 l0
set_option maxHeartbeats 4000000 in
set_option maxRecDepth 100000 in
theorem impl_ReferenceGroups.ok (k : Nat) (l0 : List S75) (Al0 : Option Addr) (cl0 : Nat) (r0 : List S49) (H : impl_ReferenceGroups.f k l0 = some r0) : Fn Try.prog 25 [.slice Al0 l0.length cl0] [] [.sl 0 k75 Al0 cl0 l0 0 false] (fun v bx en => ∃ A0 c0, v = .slice A0 r0.length c0 ∧ bx = [] ∧ en = [.sl 1 k49 A0 c0 r0 1 false]) := by
 refine fn_ 21 Try.func25 rfl rfl rfl (fun base T w0 => ?_)
 rw [impl_ReferenceGroups.f] at H
 refine gs (rg (sv (EV.as rfl) rfl (re (gs (rg (so rfl (op_lit (s := 5) (by_ := 40) k49 ([] : List S49) [] [] 1 [] rfl rfl rfl rfl rfl rfl rfl rfl rfl rfl rfl rfl rfl dq rfl fun A6_1 c6_1 => (sv (EV.as rfl) rfl (re (gs (gs (rg (sv (EV.mv rfl) rfl (sv (EV.ln rfl) rfl (sv (EV.mv rfl) rfl (re (gb ?_)))))))))))))))))
 refine lo (fun kk S => ∃ (x2_3 : List S49) (Ax2_3 : Option Addr) (cx2_3 : Nat) (x2_8 : Int) (x2_9 : Int), impl_ReferenceGroups.l0 kk x2_3 x2_8 x2_9 l0 = some r0 ∧ S = ⟨[(3, .slice Ax2_3 x2_3.length cx2_3), (7, .slice Al0 l0.length cl0), (8, .int .i64 x2_8), (9, .int .i64 x2_9)], [], [.sl 2 k49 Ax2_3 cx2_3 x2_3 1 true, .sl 0 k75 Al0 cl0 l0 0 false]⟩) (fun S hS => ?_) (fun n0 ih0 S hS => ?_) ⟨[], A6_1, c6_1, (l0.length : Int), 0, H, rfl⟩ (fun h => wk [3, 7, 8, 9] [] [⟨1, 2, 1, true⟩, ⟨0, 0, 0, false⟩] h)
 · clear H; obtain ⟨_, _, _, _, _, H, _⟩ := hS; rw [impl_ReferenceGroups.l0] at H; cases H
 clear H
 obtain ⟨x2_3, Ax2_3, cx2_3, x2_8, x2_9, H, rfl⟩ := hS
 rw [impl_ReferenceGroups.l0] at H
 refine gs (rg (sv (EV.lss rfl rfl) rfl (re (gs ?_))))
 revert H; refine ifsI ?_ ?_ <;> intro c2 H
 ·
  refine gt rfl (dT c2) (gk (gs (gb (gs (rg ?_)))))
  revert H; refine ggI ?_; intro g3 H
  revert H; refine ggI ?_; intro g4 H
  refine sv (EV.ix 1 rfl rfl rfl g3 g4 rfl) rfl (sv (EV.le (v := .agg #[.int .i64 ((rd_T75 l0 x2_9).f0), .int .i64 ((rd_T75 l0 x2_9).f1), .int .i64 ((rd_T75 l0 x2_9).f2)]) x2_9 0 (some 3) 1 z75 rfl rfl rfl g3 g4 rfl rfl rfl) rfl (so rfl (op_alloc (cs := [.int .i64 0, .int .i64 0, .int .i64 0]) (by kernel_rfl) rfl fun b5 => (so rfl (op_st (cs' := [.int .i64 ((rd_T75 l0 x2_9).f0), .int .i64 ((rd_T75 l0 x2_9).f1), .int .i64 ((rd_T75 l0 x2_9).f2)]) 0 rfl rfl rfl rfl rfl rfl (re (rg (sv (EV.mv rfl) rfl (sv (EV.ld (v := .agg #[.int .i64 ((rd_T75 l0 x2_9).f0), .int .i64 ((rd_T75 l0 x2_9).f1), .int .i64 ((rd_T75 l0 x2_9).f2)]) 0 (some 3) rfl rfl rfl) rfl ?_)))))))))
  revert H; refine bdI ?_; rintro ⟨t5_0, t5_1, t5_2, t5_3, t5_4⟩ A5 H
  refine so rfl (op_call (impl_GroupFromRow.ok ((rd_T75 l0 x2_9).f0) ((rd_T75 l0 x2_9).f1) ((rd_T75 l0 x2_9).f2) _ _ _ _ _ A5) [] 2 rfl rfl rfl rfl rfl ?_)
  rintro _ _ _ ⟨rfl, rfl, rfl⟩
  refine so rfl (op_lit (s := 5) (by_ := 40) k49 ([(⟨t5_0, t5_1, t5_2, t5_3, t5_4⟩ : S49)] : List S49) [[]] [] 2 [.tmp 15] rfl rfl rfl rfl rfl rfl rfl rfl rfl rfl rfl rfl rfl dq rfl fun A16_6 c16_6 => ?_)
  revert H; refine ggI ?_; intro g7 H
  exact so rfl (op_app (k := k49) (s := 5) (by_ := 40) 0 2 rfl rfl rfl rfl (ap1 g7 dq) (ap1n g7 dq) (.inl rfl) true (fun _ => .inl rfl) rfl rfl fun A17_8 c17_8 => (nmE (en := [.sl 0 k75 Al0 cl0 l0 0 false, .sl 2 k49 A16_6 c16_6 ([(⟨t5_0, t5_1, t5_2, t5_3, t5_4⟩ : S49)] : List S49) 2 true, .sl 2 k49 A17_8 c17_8 (x2_3 ++ ([(⟨t5_0, t5_1, t5_2, t5_3, t5_4⟩ : S49)] : List S49)) 1 true]) (by kernel_rfl) (sv (EV.as rfl) rfl (re (pr [3, 7, 8, 9] [] [0, 2] rfl rfl rfl rfl (ge (rg (sv (EV.add rfl rfl) rfl (sv (EV.mv rfl) rfl (re (wk [3, 7, 8, 9] [] [⟨1, 2, 1, true⟩, ⟨0, 0, 0, false⟩] (ih0 _ (by omega) _ ⟨x2_3 ++ ([(⟨t5_0, t5_1, t5_2, t5_3, t5_4⟩ : S49)] : List S49), A17_8, c17_8, x2_8, wrap64 (x2_9 + 1), H, rfl⟩))))))))))))
 ·
  refine gf rfl (dF c2) (gx rfl (gs (rg (sv (EV.mv rfl) rfl ?_))))
  revert H; refine bdI ?_; rintro t9 A9 H
  refine so rfl (op_call (impl_MergeGroups.ok n0 x2_3 Ax2_3 cx2_3 _ A9) [⟨0, 0, 0, false⟩] 2 rfl rfl rfl rfl rfl ?_)
  rintro _ _ _ ⟨At9, ct9, rfl, rfl, rfl⟩
  refine sv (EV.as rfl) rfl (re (pr [2] [] [2] rfl rfl rfl rfl ?_))
  cases H
  exact rt Try.func25 rfl (.tmp rfl .nil) rfl [] [⟨0, 1, 1, false⟩] rfl rfl rfl rfl rfl ⟨_, _, rfl, rfl, rfl⟩
def impl_within.f (a0 : Int) (a1 : Int) (a2 : Int) : Option (Bool) := if a0 ≥ a1 then (some (decide (a0 ≤ a2))) else (some false)
set_option maxHeartbeats 4000000 in
set_option maxRecDepth 100000 in
theorem impl_within.ok (a0 : Int) (a1 : Int) (a2 : Int) (r0 : Bool) (H : impl_within.f a0 a1 a2 = some r0) : Fn Try.prog 76 [.int .i64 a0, .int .i64 a1, .int .i64 a2] [] [] (fun v bx en => v = .bool r0 ∧ bx = [] ∧ en = []) := by
 refine fn_ 15 Try.func76 rfl rfl rfl (fun base T w0 => ?_)
 rw [impl_within.f] at H
 refine gs (rg (sv (EV.as rfl) rfl (re (gs (rg (sv (EV.mv rfl) rfl (sv (EV.mv rfl) rfl (sv (EV.geq rfl rfl) rfl (sv (EV.mv rfl) rfl ?_)))))))))
 revert H; refine ifsI ?_ ?_ <;> intro c1 H
 ·
  refine ts 10 rfl (dT c1) (sv (EV.mv rfl) rfl (sv (EV.mv rfl) rfl (sv (EV.leq rfl rfl) rfl (sv (EV.pt rfl rfl rfl) rfl (sv (EV.as rfl) rfl (re (pr [6] [] [] rfl rfl rfl rfl ?_)))))))
  cases H
  exact rt Try.func76 rfl (.tmp rfl .nil) rfl [] [] rfl rfl rfl rfl rfl ⟨rfl, rfl, rfl⟩
 ·
  refine ts 10 rfl (dF c1) (sk rfl (sk rfl (sk rfl (sv (EV.pf rfl rfl rfl) rfl (sv (EV.as rfl) rfl (re (pr [6] [] [] rfl rfl rfl rfl ?_)))))))
  cases H
  exact rt Try.func76 rfl (.tmp rfl .nil) rfl [] [] rfl rfl rfl rfl rfl ⟨rfl, rfl, rfl⟩
def impl_IsValidRow.f (a0_0 : Int) (a0_1 : Int) (a0_2 : Int) : Option (Bool) := (impl_within.f a0_0 0 9).bind fun t1 => (if t1 = true then ((impl_within.f a0_1 0 99).bind fun t3 => (if t3 = true then ((impl_within.f a0_2 0 3).bind fun t5 => (some t5)) else (some false))) else (some false))
set_option maxHeartbeats 4000000 in
set_option maxRecDepth 100000 in
theorem impl_IsValidRow.ok (a0_0 : Int) (a0_1 : Int) (a0_2 : Int) (r0 : Bool) (H : impl_IsValidRow.f a0_0 a0_1 a0_2 = some r0) : Fn Try.prog 96 [.agg #[.int .i64 a0_0, .int .i64 a0_1, .int .i64 a0_2]] [] [] (fun v bx en => v = .bool r0 ∧ bx = [] ∧ en = []) := by
 refine fn_ 16 Try.func96 rfl rfl rfl (fun base T w0 => ?_)
 rw [impl_IsValidRow.f] at H
 refine gs (rg (so rfl (op_box (cs := [.int .i64 a0_0, .int .i64 a0_1, .int .i64 a0_2]) rfl rfl rfl fun b1 => (sv (EV.as rfl) rfl (re (gs (rg (sv (EV.fa 0 rfl) rfl (sv (EV.ld 0 none rfl rfl rfl) rfl ?_)))))))))
 revert H; refine bdI ?_; rintro t1 A1 H
 refine so rfl (op_call (impl_within.ok a0_0 0 9 _ A1) [] 1 rfl rfl rfl rfl rfl ?_)
 rintro _ _ _ ⟨rfl, rfl, rfl⟩
 refine sv (EV.mv rfl) rfl ?_
 revert H; refine ifsI ?_ ?_ <;> intro c2 H
 ·
  subst c2
  refine ts 6 rfl rfl (sv (EV.fa 1 rfl) rfl (sv (EV.ld 0 none rfl rfl rfl) rfl ?_))
  revert H; refine bdI ?_; rintro t3 A3 H
  refine so rfl (op_call (impl_within.ok a0_1 0 99 _ A3) [] 1 rfl rfl rfl rfl rfl ?_)
  rintro _ _ _ ⟨rfl, rfl, rfl⟩
  refine sv (EV.pt rfl rfl rfl) rfl (sv (EV.mv rfl) rfl ?_)
  revert H; refine ifsI ?_ ?_ <;> intro c4 H
  ·
   subst c4
   refine ts 11 rfl rfl (sv (EV.fa 2 rfl) rfl (sv (EV.ld 0 none rfl rfl rfl) rfl ?_))
   revert H; refine bdI ?_; rintro t5 A5 H
   refine so rfl (op_call (impl_within.ok a0_2 0 3 _ A5) [] 1 rfl rfl rfl rfl rfl ?_)
   rintro _ _ _ ⟨rfl, rfl, rfl⟩
   refine sv (EV.pt rfl rfl rfl) rfl (sv (EV.as rfl) rfl (re (pr [2] [] [] rfl rfl rfl rfl ?_)))
   cases H
   exact rt Try.func96 rfl (.tmp rfl .nil) rfl [] [] rfl rfl rfl rfl rfl ⟨rfl, rfl, rfl⟩
  ·
   obtain rfl := bF c4
   refine ts 11 rfl rfl (sk rfl (sk rfl (sk rfl (sv (EV.pf rfl rfl rfl) rfl (sv (EV.as rfl) rfl (re (pr [2] [] [] rfl rfl rfl rfl ?_)))))))
   cases H
   exact rt Try.func96 rfl (.tmp rfl .nil) rfl [] [] rfl rfl rfl rfl rfl ⟨rfl, rfl, rfl⟩
 ·
  obtain rfl := bF c2
  refine ts 6 rfl rfl (sk rfl (sk rfl (sk rfl (sv (EV.pf rfl rfl rfl) rfl (sv (EV.mv rfl) rfl (sk rfl (sk rfl (sk rfl (sv (EV.pf rfl rfl rfl) rfl (sv (EV.as rfl) rfl (re (pr [2] [] [] rfl rfl rfl rfl ?_))))))))))))
  cases H
  exact rt Try.func96 rfl (.tmp rfl .nil) rfl [] [] rfl rfl rfl rfl rfl ⟨rfl, rfl, rfl⟩
def impl_allValid.l0 : Nat → Int → Int → (List S75) → Option (Bool)
 | 0, _, _, _ => none
 | k + 1, x2_6, x2_7, l0 => if x2_7 < x2_6 then (if 0 ≤ x2_7 then (if x2_7 < (l0.length : Int) then ((impl_IsValidRow.f ((rd_T75 l0 x2_7).f0) ((rd_T75 l0 x2_7).f1) ((rd_T75 l0 x2_7).f2)).bind fun t4 => (if t4 = true then (impl_allValid.l0 k x2_6 (wrap64 (x2_7 + 1)) l0) else (some false))) else none) else none) else (some true)
def impl_allValid.f (k : Nat) (l0 : List S75) : Option (Bool) := impl_allValid.l0 k (l0.length : Int) 0 l0
set_option maxHeartbeats 4000000 in
set_option maxRecDepth 100000 in
theorem impl_allValid.ok (k : Nat) (l0 : List S75) (Al0 : Option Addr) (cl0 : Nat) (r0 : Bool) (H : impl_allValid.f k l0 = some r0) : Fn Try.prog 92 [.slice Al0 l0.length cl0] [] [.sl 0 k75 Al0 cl0 l0 0 false] (fun v bx en => v = .bool r0 ∧ bx = [] ∧ en = []) := by
 refine fn_ 15 Try.func92 rfl rfl rfl (fun base T w0 => ?_)
 rw [impl_allValid.f] at H
 refine gs (rg (sv (EV.as rfl) rfl (re (gs (gs (rg (sv (EV.mv rfl) rfl (sv (EV.ln rfl) rfl (sv (EV.mv rfl) rfl (re (gb ?_)))))))))))
 refine lo (fun kk S => ∃ (x2_6 : Int) (x2_7 : Int), impl_allValid.l0 kk x2_6 x2_7 l0 = some r0 ∧ S = ⟨[(5, .slice Al0 l0.length cl0), (6, .int .i64 x2_6), (7, .int .i64 x2_7)], [], [.sl 0 k75 Al0 cl0 l0 0 false]⟩) (fun S hS => ?_) (fun n0 ih0 S hS => ?_) ⟨(l0.length : Int), 0, H, rfl⟩ (fun h => wk [5, 6, 7] [] [⟨0, 0, 0, false⟩] h)
 · clear H; obtain ⟨_, _, H, _⟩ := hS; rw [impl_allValid.l0] at H; cases H
 clear H
 obtain ⟨x2_6, x2_7, H, rfl⟩ := hS
 rw [impl_allValid.l0] at H
 refine gs (rg (sv (EV.lss rfl rfl) rfl (re (gs ?_))))
 revert H; refine ifsI ?_ ?_ <;> intro c1 H
 ·
  refine gt rfl (dT c1) (gk (gs (gb (gs (rg ?_)))))
  revert H; refine ggI ?_; intro g2 H
  revert H; refine ggI ?_; intro g3 H
  refine sv (EV.ix 0 rfl rfl rfl g2 g3 rfl) rfl (sv (EV.le (v := .agg #[.int .i64 ((rd_T75 l0 x2_7).f0), .int .i64 ((rd_T75 l0 x2_7).f1), .int .i64 ((rd_T75 l0 x2_7).f2)]) x2_7 0 (some 3) 0 z75 rfl rfl rfl g2 g3 rfl rfl rfl) rfl (so rfl (op_alloc (cs := [.int .i64 0, .int .i64 0, .int .i64 0]) (by kernel_rfl) rfl fun b4 => (so rfl (op_st (cs' := [.int .i64 ((rd_T75 l0 x2_7).f0), .int .i64 ((rd_T75 l0 x2_7).f1), .int .i64 ((rd_T75 l0 x2_7).f2)]) 0 rfl rfl rfl rfl rfl rfl (re (gs (rg (sv (EV.ld (v := .agg #[.int .i64 ((rd_T75 l0 x2_7).f0), .int .i64 ((rd_T75 l0 x2_7).f1), .int .i64 ((rd_T75 l0 x2_7).f2)]) 0 (some 3) rfl rfl rfl) rfl ?_)))))))))
  revert H; refine bdI ?_; rintro t4 A4 H
  refine so rfl (op_call (impl_IsValidRow.ok ((rd_T75 l0 x2_7).f0) ((rd_T75 l0 x2_7).f1) ((rd_T75 l0 x2_7).f2) _ A4) [] 1 rfl rfl rfl rfl rfl ?_)
  rintro _ _ _ ⟨rfl, rfl, rfl⟩
  refine sv (EV.nt rfl) rfl (re (pr [5, 6, 7, 13] [] [0] rfl rfl rfl rfl ?_))
  revert H; refine ifsI ?_ ?_ <;> intro c5 H
  ·
   subst c5
   exact gf rfl rfl (gk (ge (rg (sv (EV.add rfl rfl) rfl (sv (EV.mv rfl) rfl (re (wk [5, 6, 7] [] [⟨0, 0, 0, false⟩] (ih0 _ (by omega) _ ⟨x2_6, wrap64 (x2_7 + 1), H, rfl⟩))))))))
  ·
   obtain rfl := bF c5
   refine gt rfl rfl (gs (rg (sv (EV.as rfl) rfl (re ?_))))
   cases H
   exact rt Try.func92 rfl (.tmp rfl .nil) rfl [] [] rfl rfl rfl rfl rfl ⟨rfl, rfl, rfl⟩
 ·
  refine gf rfl (dF c1) (gx rfl (gs (rg (sv (EV.as rfl) rfl (re ?_)))))
  cases H
  exact rt Try.func92 rfl (.tmp rfl .nil) rfl [] [] rfl rfl rfl rfl rfl ⟨rfl, rfl, rfl⟩
def impl_AreValidRows.f (k : Nat) (l0 : List S75) : Option (Bool) := if (l0.length : Int) ≤ 24 then ((impl_allValid.f k l0).bind fun t2 => (some t2)) else (some false)
set_option maxHeartbeats 4000000 in
set_option maxRecDepth 100000 in
theorem impl_AreValidRows.ok (k : Nat) (l0 : List S75) (Al0 : Option Addr) (cl0 : Nat) (r0 : Bool) (H : impl_AreValidRows.f k l0 = some r0) : Fn Try.prog 75 [.slice Al0 l0.length cl0] [] [.sl 0 k75 Al0 cl0 l0 0 false] (fun v bx en => v = .bool r0 ∧ bx = [] ∧ en = []) := by
 refine fn_ 10 Try.func75 rfl rfl rfl (fun base T w0 => ?_)
 rw [impl_AreValidRows.f] at H
 refine gs (rg (sv (EV.as rfl) rfl (re (gs (rg (sv (EV.mv rfl) rfl (sv (EV.ln rfl) rfl (sv (EV.leq rfl rfl) rfl (sv (EV.mv rfl) rfl ?_)))))))))
 revert H; refine ifsI ?_ ?_ <;> intro c1 H
 ·
  refine ts 6 rfl (dT c1) (sv (EV.mv rfl) rfl ?_)
  revert H; refine bdI ?_; rintro t2 A2 H
  refine so rfl (op_call (impl_allValid.ok k l0 Al0 cl0 _ A2) [⟨0, 0, 0, false⟩] 1 rfl rfl rfl rfl rfl ?_)
  rintro _ _ _ ⟨rfl, rfl, rfl⟩
  refine sv (EV.pt rfl rfl rfl) rfl (sv (EV.as rfl) rfl (re (pr [2] [] [] rfl rfl rfl rfl ?_)))
  cases H
  exact rt Try.func75 rfl (.tmp rfl .nil) rfl [] [] rfl rfl rfl rfl rfl ⟨rfl, rfl, rfl⟩
 ·
  refine ts 6 rfl (dF c1) (sk rfl (sk rfl (sv (EV.pf rfl rfl rfl) rfl (sv (EV.as rfl) rfl (re (pr [2] [] [] rfl rfl rfl rfl ?_))))))
  cases H
  exact rt Try.func75 rfl (.tmp rfl .nil) rfl [] [] rfl rfl rfl rfl rfl ⟨rfl, rfl, rfl⟩
end Go.Proofs.Ytgpencaijhbolaa.K
