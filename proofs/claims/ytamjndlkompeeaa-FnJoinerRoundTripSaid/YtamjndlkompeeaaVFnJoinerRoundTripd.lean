/- Walks: what the functions compute. Printed by gen.py; no condition. -/
import Derived.Test.YtamjndlkompeeaaVFnJoinerRoundTripc
namespace Go.Proofs.Ytamjndlkompeeaa.K
open Go Go.RowKit
set_option linter.unusedVariables false
set_option linter.unusedSimpArgs false
def spec_l1Spoil.f (k : Nat) (l0_0 : List Int) (a0_1 : Int) (a0_2 : Int) (a1 : ByteArray) : Option (ByteArray × Int × Int) := if (a1.size : Int) = 0 then ((spec_l1Text.f k l0_0 a0_1 a0_2 3).bind fun bt2 => (some (bt2.1, bt2.2.1, bt2.2.2))) else ((spec_l1Below.f l0_0 a0_1 a0_2 (a1.size : Int)).bind fun bt3 => ((spec_l1Below.f l0_0 bt3.2.1 bt3.2.2 4).bind fun bt4 => (if bt4.1 = 0 then (if 0 ≤ bt3.1 then (if bt3.1 ≤ (a1.size : Int) then (if 0 ≤ (wrap64 (bt3.1 + 1)) then (if (wrap64 (bt3.1 + 1)) ≤ (a1.size : Int) then (if (a1.extract 0 bt3.1.toNat).size + (a1.extract (wrap64 (bt3.1 + 1)).toNat a1.size).size ≤ 9223372036854775807 then (some ((a1.extract 0 bt3.1.toNat) ++ (a1.extract (wrap64 (bt3.1 + 1)).toNat a1.size), bt4.2.1, bt4.2.2)) else none) else none) else none) else none) else none) else (if bt4.1 = 1 then (if 0 ≤ bt3.1 then (if bt3.1 ≤ (a1.size : Int) then ((spec_l1Byte.f l0_0 bt4.2.1 bt4.2.2).bind fun bt14 => (if (a1.extract 0 bt3.1.toNat).size + (strOfNums ([IntKind.u8.wrap bt14.1] : List Int)).size ≤ 9223372036854775807 then (if ((a1.extract 0 bt3.1.toNat) ++ (strOfNums ([IntKind.u8.wrap bt14.1] : List Int))).size + (a1.extract bt3.1.toNat a1.size).size ≤ 9223372036854775807 then (some (((a1.extract 0 bt3.1.toNat) ++ (strOfNums ([IntKind.u8.wrap bt14.1] : List Int))) ++ (a1.extract bt3.1.toNat a1.size), bt14.2.1, bt14.2.2)) else none) else none)) else none) else none) else (if bt4.1 = 2 then (if 0 ≤ bt3.1 then (if bt3.1 ≤ (a1.size : Int) then (some (a1.extract 0 bt3.1.toNat, bt4.2.1, bt4.2.2)) else none) else none) else (if 0 ≤ bt3.1 then (if bt3.1 ≤ (a1.size : Int) then (if bt3.1 < (a1.size : Int) then (if 0 ≤ (wrap64 (bt3.1 + 1)) then (if (wrap64 (bt3.1 + 1)) ≤ (a1.size : Int) then ((spec_l1Below.f l0_0 bt4.2.1 bt4.2.2 255).bind fun bt26 => (if (a1.extract 0 bt3.1.toNat).size + (strOfNums ([IntKind.u8.wrap (xorI (IntKind.i64.wrap (bt a1 bt3.1)) (wrap64 (1 + bt26.1)))] : List Int)).size ≤ 9223372036854775807 then (if ((a1.extract 0 bt3.1.toNat) ++ (strOfNums ([IntKind.u8.wrap (xorI (IntKind.i64.wrap (bt a1 bt3.1)) (wrap64 (1 + bt26.1)))] : List Int))).size + (a1.extract (wrap64 (bt3.1 + 1)).toNat a1.size).size ≤ 9223372036854775807 then (some (((a1.extract 0 bt3.1.toNat) ++ (strOfNums ([IntKind.u8.wrap (xorI (IntKind.i64.wrap (bt a1 bt3.1)) (wrap64 (1 + bt26.1)))] : List Int))) ++ (a1.extract (wrap64 (bt3.1 + 1)).toNat a1.size), bt26.2.1, bt26.2.2)) else none) else none)) else none) else none) else none) else none) else none))))))
set_option maxHeartbeats 4000000 in
set_option maxRecDepth 100000 in
theorem spec_l1Spoil.ok (k : Nat) (b1000 : Nat) (l0_0 : List Int) (Al0_0 : Option Addr) (cl0_0 : Nat) (a0_1 : Int) (a0_2 : Int) (a1 : ByteArray) (r0 : ByteArray) (r1 : Int) (r2 : Int) (H : spec_l1Spoil.f k l0_0 a0_1 a0_2 a1 = some (r0, r1, r2)) : Fn Try.prog 65 [.pointer (some ⟨b1000, 0, none⟩), .string a1] [⟨b1000, 119, [.slice Al0_0 l0_0.length cl0_0, .int .i64 a0_1, .int .i64 a0_2]⟩] [.sl 0 (.int .u8) Al0_0 cl0_0 l0_0 0 false] (fun v bx en => v = .string r0 ∧ bx = [⟨b1000, 119, [.slice Al0_0 l0_0.length cl0_0, .int .i64 r1, .int .i64 r2]⟩] ∧ en = []) := by
 refine fn_ 67 Try.func65 rfl rfl rfl (fun base T w0 => ?_)
 rw [spec_l1Spoil.f] at H
 refine gs (rg (sv (EV.as rfl) rfl (re (gs (gs (rg (sv (EV.mv rfl) rfl (sv (EV.lns rfl) rfl (sv (EV.eql rfl rfl) rfl (re ?_))))))))))
 revert H; refine ifsI ?_ ?_ <;> intro c1 H
 ·
  refine gt rfl (dT c1) (gs (rg (sv (EV.mv rfl) rfl ?_)))
  revert H; refine bdI ?_; rintro ⟨t2_0, t2_1, t2_2⟩ A2 H
  refine so rfl (op_callM (spec_l1Text.ok k b1000 l0_0 Al0_0 cl0_0 a0_1 a0_2 3 _ _ _ A2) [⟨0, 0, 0, false⟩] [0] [] 1 rfl rfl rfl rfl rfl rfl rfl rfl ?_)
  rintro _ _ _ ⟨rfl, rfl, rfl⟩
  refine nmE (en := [.sl 0 (.int .u8) Al0_0 cl0_0 l0_0 0 false]) (by kernel_rfl) (sv (EV.as rfl) rfl (re (pr [4] [0] [0] rfl rfl rfl rfl ?_)))
  cases H
  exact rt Try.func65 rfl (.tmp rfl .nil) rfl [0] [] rfl rfl rfl rfl rfl ⟨rfl, rfl, rfl⟩
 ·
  refine gf rfl (dF c1) (gk (gs (rg (sv (EV.mv rfl) rfl (sv (EV.mv rfl) rfl (sv (EV.lns rfl) rfl ?_))))))
  revert H; refine bdI ?_; rintro ⟨t3_0, t3_1, t3_2⟩ A3 H
  refine so rfl (op_callM (spec_l1Below.ok b1000 l0_0 Al0_0 cl0_0 a0_1 a0_2 (a1.size : Int) _ _ _ A3) [⟨0, 0, 0, false⟩] [0] [] 1 rfl rfl rfl rfl rfl rfl rfl rfl ?_)
  rintro _ _ _ ⟨rfl, rfl, rfl⟩
  refine nmE (en := [.sl 0 (.int .u8) Al0_0 cl0_0 l0_0 0 false]) (by kernel_rfl) (sv (EV.as rfl) rfl (re (pr [0, 1, 5] [0] [0] rfl rfl rfl rfl (gs (gs (rg (sv (EV.mv rfl) rfl ?_)))))))
  revert H; refine bdI ?_; rintro ⟨t4_0, t4_1, t4_2⟩ A4 H
  refine so rfl (op_callM (spec_l1Below.ok b1000 l0_0 Al0_0 cl0_0 t3_1 t3_2 4 _ _ _ A4) [⟨0, 0, 0, false⟩] [0] [] 1 rfl rfl rfl rfl rfl rfl rfl rfl ?_)
  rintro _ _ _ ⟨rfl, rfl, rfl⟩
  refine nmE (en := [.sl 0 (.int .u8) Al0_0 cl0_0 l0_0 0 false]) (by kernel_rfl) (re (gb (gs (rg (sv (EV.eql rfl rfl) rfl (sv (EV.as rfl) rfl (re ?_)))))))
  revert H; refine ifsI ?_ ?_ <;> intro c5 H
  ·
   refine gt rfl (dT c5) (gs ?_)
   revert H; refine ggI ?_; intro g6 H
   revert H; refine ggI ?_; intro g7 H
   revert H; refine ggI ?_; intro g8 H
   revert H; refine ggI ?_; intro g9 H
   revert H; refine ggI ?_; intro g10 H
   refine dr [0] [0] [] 9 rfl rfl rfl rfl (xv 0 [0] [0] rfl (EV.mv rfl) rfl rfl rfl rfl (xv 1 [0] [0] rfl (EV.mv rfl) rfl rfl rfl rfl (xv 2 [0] [0] rfl (EV.ssh rfl rfl g6 g7) rfl rfl rfl rfl (xv 3 [0] [0] rfl (EV.mv rfl) rfl rfl rfl rfl (xv 4 [0] [0] rfl (EV.mv rfl) rfl rfl rfl rfl (xv 5 [0] [0] rfl (EV.add rfl rfl) rfl rfl rfl rfl (xv 6 [0] [0] rfl (EV.ssl rfl rfl g8 g9) rfl rfl rfl rfl (xv 7 [0] [0] rfl (EV.ads rfl rfl g10) rfl rfl rfl rfl (xv 8 [0] [0] rfl (EV.as rfl) rfl rfl rfl rfl (xd (pr [4] [0] [0] rfl rfl rfl rfl ?_)))))))))))
   cases H
   exact rt Try.func65 rfl (.tmp rfl .nil) rfl [0] [] rfl rfl rfl rfl rfl ⟨rfl, rfl, rfl⟩
  ·
   refine gf rfl (dF c5) (gs (rg (sv (EV.eql rfl rfl) rfl (sv (EV.as rfl) rfl (re ?_)))))
   revert H; refine ifsI ?_ ?_ <;> intro c11 H
   ·
    refine gt rfl (dT c11) (gs ?_)
    revert H; refine ggI ?_; intro g12 H
    revert H; refine ggI ?_; intro g13 H
    refine dr [] [0] [13] 14 rfl rfl rfl rfl (xv 0 [] [0] rfl (EV.mv rfl) rfl rfl rfl rfl (xv 1 [] [0] rfl (EV.mv rfl) rfl rfl rfl rfl (xv 2 [] [0] rfl (EV.ssh rfl rfl g12 g13) rfl rfl rfl rfl (xv 3 [] [0] rfl (EV.mv rfl) rfl rfl rfl rfl (xv 9 [] [0] rfl (EV.mv rfl) rfl rfl rfl rfl (xv 10 [] [0] rfl (EV.mv rfl) rfl rfl rfl rfl (xv 11 [] [0] rfl (EV.ssl rfl rfl g12 g13) rfl rfl rfl rfl (one1 4 rfl rfl ?_))))))))
    revert H; refine bdI ?_; rintro ⟨t14_0, t14_1, t14_2⟩ A14 H
    refine op_callM (spec_l1Byte.ok b1000 l0_0 Al0_0 cl0_0 t4_1 t4_2 _ _ _ A14) [⟨0, 0, 0, false⟩] [0] [] 1 rfl rfl rfl rfl rfl rfl rfl rfl ?_
    rintro _ _ _ ⟨rfl, rfl, rfl⟩
    refine nmE (en := [.sl 0 (.int .u8) Al0_0 cl0_0 l0_0 0 false]) (by kernel_rfl) (xs [] [0] rfl rfl rfl (one1 5 rfl rfl (ov (EV.cv (k' := .u8) rfl) rfl (xs [] [0] rfl rfl rfl (one1 6 rfl rfl (op_lit (s := 1) (by_ := 1) (.int .u8) ([IntKind.u8.wrap t14_0] : List Int) [[]] [] 1 [.tmp 34] rfl rfl rfl rfl rfl rfl rfl rfl rfl rfl rfl rfl rfl dq rfl fun A35_15 c35_15 => (xs [] [0] rfl rfl rfl (one1 7 rfl rfl (ov (EV.bs 1 rfl rfl) rfl (xs [] [0] rfl rfl rfl (one1 8 rfl rfl ?_)))))))))))
    revert H; refine ggI ?_; intro g16 H
    refine ov (EV.ads rfl rfl g16) rfl (xs [] [0] rfl rfl rfl (one1 12 rfl rfl ?_))
    revert H; refine ggI ?_; intro g17 H
    refine ov (EV.ads rfl rfl g17) rfl (xs [] [0] rfl rfl rfl (one1 13 rfl rfl (ov (EV.as rfl) rfl (xn rfl (xd (pr [4] [0] [0] rfl rfl rfl rfl ?_))))))
    cases H
    exact rt Try.func65 rfl (.tmp rfl .nil) rfl [0] [] rfl rfl rfl rfl rfl ⟨rfl, rfl, rfl⟩
   ·
    refine gf rfl (dF c11) (gs (rg (sv (EV.eql rfl rfl) rfl (sv (EV.as rfl) rfl (re (pr [0, 1, 5, 42] [0] [0] rfl rfl rfl rfl ?_))))))
    revert H; refine ifsI ?_ ?_ <;> intro c18 H
    ·
     refine gt rfl (dT c18) (gs (rg (sv (EV.mv rfl) rfl (sv (EV.mv rfl) rfl ?_))))
     revert H; refine ggI ?_; intro g19 H
     revert H; refine ggI ?_; intro g20 H
     refine sv (EV.ssh rfl rfl g19 g20) rfl (sv (EV.as rfl) rfl (re (pr [4] [0] [0] rfl rfl rfl rfl ?_)))
     cases H
     exact rt Try.func65 rfl (.tmp rfl .nil) rfl [0] [] rfl rfl rfl rfl rfl ⟨rfl, rfl, rfl⟩
    ·
     refine gf rfl (dF c18) (gk (ge (gs ?_)))
     revert H; refine ggI ?_; intro g21 H
     revert H; refine ggI ?_; intro g22 H
     revert H; refine ggI ?_; intro g23 H
     revert H; refine ggI ?_; intro g24 H
     revert H; refine ggI ?_; intro g25 H
     refine dr [] [0] [20] 21 rfl rfl rfl rfl (xv 0 [] [0] rfl (EV.mv rfl) rfl rfl rfl rfl (xv 1 [] [0] rfl (EV.mv rfl) rfl rfl rfl rfl (xv 2 [] [0] rfl (EV.ssh rfl rfl g21 g22) rfl rfl rfl rfl (xv 3 [] [0] rfl (EV.mv rfl) rfl rfl rfl rfl (xv 4 [] [0] rfl (EV.mv rfl) rfl rfl rfl rfl (xv 5 [] [0] rfl (EV.is rfl rfl g21 g23) rfl rfl rfl rfl (xv 6 [] [0] rfl (EV.cv (k' := .i64) rfl) rfl rfl rfl rfl (xv 7 [] [0] rfl (EV.mv rfl) rfl rfl rfl rfl (xv 15 [] [0] rfl (EV.mv rfl) rfl rfl rfl rfl (xv 16 [] [0] rfl (EV.mv rfl) rfl rfl rfl rfl (xv 17 [] [0] rfl (EV.add rfl rfl) rfl rfl rfl rfl (xv 18 [] [0] rfl (EV.ssl rfl rfl g24 g25) rfl rfl rfl rfl (one1 8 rfl rfl ?_)))))))))))))
     revert H; refine bdI ?_; rintro ⟨t26_0, t26_1, t26_2⟩ A26 H
     refine op_callM (spec_l1Below.ok b1000 l0_0 Al0_0 cl0_0 t4_1 t4_2 255 _ _ _ A26) [⟨0, 0, 0, false⟩] [0] [] 1 rfl rfl rfl rfl rfl rfl rfl rfl ?_
     rintro _ _ _ ⟨rfl, rfl, rfl⟩
     refine nmE (en := [.sl 0 (.int .u8) Al0_0 cl0_0 l0_0 0 false]) (by kernel_rfl) (xs [] [0] rfl rfl rfl (one1 9 rfl rfl (ov (EV.add rfl rfl) rfl (xs [] [0] rfl rfl rfl (one1 10 rfl rfl (ov (EV.xorI rfl rfl) rfl (xs [] [0] rfl rfl rfl (one1 11 rfl rfl (ov (EV.cv (k' := .u8) rfl) rfl (xs [] [0] rfl rfl rfl (one1 12 rfl rfl (op_lit (s := 1) (by_ := 1) (.int .u8) ([IntKind.u8.wrap (xorI (IntKind.i64.wrap (bt a1 t3_0)) (wrap64 (1 + t26_0)))] : List Int) [[]] [] 1 [.tmp 58] rfl rfl rfl rfl rfl rfl rfl rfl rfl rfl rfl rfl rfl dq rfl fun A59_27 c59_27 => (xs [] [0] rfl rfl rfl (one1 13 rfl rfl (ov (EV.bs 1 rfl rfl) rfl (xs [] [0] rfl rfl rfl (one1 14 rfl rfl ?_)))))))))))))))))
     revert H; refine ggI ?_; intro g28 H
     refine ov (EV.ads rfl rfl g28) rfl (xs [] [0] rfl rfl rfl (one1 19 rfl rfl ?_))
     revert H; refine ggI ?_; intro g29 H
     refine ov (EV.ads rfl rfl g29) rfl (xs [] [0] rfl rfl rfl (one1 20 rfl rfl (ov (EV.as rfl) rfl (xn rfl (xd (pr [4] [0] [0] rfl rfl rfl rfl ?_))))))
     cases H
     exact rt Try.func65 rfl (.tmp rfl .nil) rfl [0] [] rfl rfl rfl rfl rfl ⟨rfl, rfl, rfl⟩
end Go.Proofs.Ytamjndlkompeeaa.K
namespace Go.Proofs.Ytamjndlkompeeaa.K
open Go Go.RowKit
set_option linter.unusedVariables false
set_option linter.unusedSimpArgs false
mutual
def spec_FormatInt.j0 : Nat → Int → ByteArray → Bool → Int → Option (ByteArray)
 | 0, _, _, _, _ => none
 | k + 1, x6_0, x6_3, x6_4, x6_5 => if (strOfNums ([IntKind.u8.wrap (wrap64 (48 + x6_5))] : List Int)).size + x6_3.size ≤ 9223372036854775807 then (spec_FormatInt.l0 k (wrap64 (Int.tdiv x6_0 10)) ((strOfNums ([IntKind.u8.wrap (wrap64 (48 + x6_5))] : List Int)) ++ x6_3) x6_4) else none
def spec_FormatInt.l0 : Nat → Int → ByteArray → Bool → Option (ByteArray)
 | 0, _, _, _ => none
 | k + 1, x4_0, x4_3, x4_4 => if x4_0 = 0 then (if x4_4 = true then (if (⟨#[45]⟩ : ByteArray).size + x4_3.size ≤ 9223372036854775807 then (some ((⟨#[45]⟩ : ByteArray) ++ x4_3)) else none) else (some x4_3)) else (if (Int.tmod x4_0 10) < 0 then (spec_FormatInt.j0 k x4_0 x4_3 x4_4 (wrap64 (-(Int.tmod x4_0 10)))) else (spec_FormatInt.j0 k x4_0 x4_3 x4_4 (Int.tmod x4_0 10)))
end
def spec_FormatInt.f (k : Nat) (a0 : Int) : Option (ByteArray) := if a0 = 0 then (some (⟨#[48]⟩ : ByteArray)) else (spec_FormatInt.l0 k a0 (⟨#[]⟩ : ByteArray) (decide (a0 < 0)))
set_option maxHeartbeats 4000000 in
set_option maxRecDepth 100000 in
theorem spec_FormatInt.ok (k : Nat) (a0 : Int) (r0 : ByteArray) (H : spec_FormatInt.f k a0 = some r0) : Fn Try.prog 105 [.int .i64 a0] [] [] (fun v bx en => v = .string r0 ∧ bx = [] ∧ en = []) := by
 refine fn_ 31 Try.func105 rfl rfl rfl (fun base T w0 => ?_)
 rw [spec_FormatInt.f] at H
 refine gs (rg (sv (EV.as rfl) rfl (re (gs (gs (rg (sv (EV.mv rfl) rfl (sv (EV.eql rfl rfl) rfl (re ?_)))))))))
 revert H; refine ifsI ?_ ?_ <;> intro c1 H
 ·
  refine gt rfl (dT c1) (gs (rg (sv (EV.as rfl) rfl (re ?_))))
  cases H
  exact rt Try.func105 rfl (.tmp rfl .nil) rfl [] [] rfl rfl rfl rfl rfl ⟨rfl, rfl, rfl⟩
 ·
  refine gf rfl (dF c1) (gk (gs (rg (sv (EV.as rfl) rfl (re (gs (rg (sv (EV.mv rfl) rfl (sv (EV.lss rfl rfl) rfl (sv (EV.as rfl) rfl (re (gs (gb ?_)))))))))))))
  refine lo (fun kk S => ∃ (x4_0 : Int) (x4_3 : ByteArray) (x4_4 : Bool), spec_FormatInt.l0 kk x4_0 x4_3 x4_4 = some r0 ∧ S = ⟨[(0, .int .i64 x4_0), (3, .string x4_3), (4, .bool x4_4)], [], []⟩) (fun S hS => ?_) (fun n0 ih0 S hS => ?_) ⟨a0, (⟨#[]⟩ : ByteArray), decide (a0 < 0), H, rfl⟩ (fun h => wk [0, 3, 4] [] [] h)
  · clear H; obtain ⟨_, _, _, H, _⟩ := hS; rw [spec_FormatInt.l0] at H; cases H
  clear H
  obtain ⟨x4_0, x4_3, x4_4, H, rfl⟩ := hS
  rw [spec_FormatInt.l0] at H
  refine gs (gs (rg (sv (EV.mv rfl) rfl (sv (EV.neq rfl rfl) rfl (re ?_)))))
  revert H; refine ifsI ?_ ?_ <;> intro c2 H
  ·
   refine gf rfl (nF c2) (gx rfl (gs (gs (rg (sv (EV.mv rfl) rfl (re ?_))))))
   revert H; refine ifsI ?_ ?_ <;> intro c3 H
   ·
    subst c3
    refine gt rfl rfl (gs (rg (sv (EV.mv rfl) rfl ?_)))
    revert H; refine ggI ?_; intro g4 H
    refine sv (EV.ads rfl rfl g4) rfl (sv (EV.as rfl) rfl (re (pr [2] [] [] rfl rfl rfl rfl ?_)))
    cases H
    exact rt Try.func105 rfl (.tmp rfl .nil) rfl [] [] rfl rfl rfl rfl rfl ⟨rfl, rfl, rfl⟩
   ·
    obtain rfl := bF c3
    refine gf rfl rfl (gk (gs (rg (sv (EV.mv rfl) rfl (sv (EV.as rfl) rfl (re (pr [2] [] [] rfl rfl rfl rfl ?_)))))))
    cases H
    exact rt Try.func105 rfl (.tmp rfl .nil) rfl [] [] rfl rfl rfl rfl rfl ⟨rfl, rfl, rfl⟩
  ·
   refine gt rfl (nT c2) (gk (gb (gs (rg (sv (EV.mv rfl) rfl (sv (EV.rem rfl rfl dq) rfl (sv (EV.as rfl) rfl (re ?_))))))))
   refine jo (fun S => ∃ (m : Nat) (x6_0 : Int) (x6_3 : ByteArray) (x6_4 : Bool) (x6_5 : Int), m ≤ n0 ∧ spec_FormatInt.j0 m x6_0 x6_3 x6_4 x6_5 = some r0 ∧ S = ⟨[(0, .int .i64 x6_0), (3, .string x6_3), (4, .bool x6_4), (5, .int .i64 x6_5)], [], []⟩) (fun S hS => ?_) (fun jh0 => ?_)
   ·
    clear H
    obtain ⟨m5, x6_0, x6_3, x6_4, x6_5, lm5, H, rfl⟩ := hS
    rcases m5 with _ | m5
    · rw [spec_FormatInt.j0] at H; cases H
    rw [spec_FormatInt.j0] at H
    refine gs (rg (sv (EV.mv rfl) rfl (sv (EV.add rfl rfl) rfl (sv (EV.cv (k' := .u8) rfl) rfl (so rfl (op_lit (s := 1) (by_ := 1) (.int .u8) ([IntKind.u8.wrap (wrap64 (48 + x6_5))] : List Int) [[]] [] 1 [.tmp 20] rfl rfl rfl rfl rfl rfl rfl rfl rfl rfl rfl rfl rfl dq rfl fun A21_6 c21_6 => (sv (EV.bs 0 rfl rfl) rfl (sv (EV.mv rfl) rfl ?_))))))))
    revert H; refine ggI ?_; intro g7 H
    exact sv (EV.ads rfl rfl g7) rfl (sv (EV.as rfl) rfl (re (pr [0, 3, 4] [] [] rfl rfl rfl rfl (rg (sv (EV.mv rfl) rfl (sv (EV.quo rfl rfl dq) rfl (sv (EV.as rfl) rfl (re (ge (wk [0, 3, 4] [] [] (ih0 _ (by omega) _ ⟨wrap64 (Int.tdiv x6_0 10), (strOfNums ([IntKind.u8.wrap (wrap64 (48 + x6_5))] : List Int)) ++ x6_3, x6_4, H, rfl⟩)))))))))))
   ·
    refine gs (rg (sv (EV.mv rfl) rfl (sv (EV.lss rfl rfl) rfl (re ?_))))
    revert H; refine ifsI ?_ ?_ <;> intro c8 H
    ·
     exact gt rfl (dT c8) (rg (sv (EV.mv rfl) rfl (sv (EV.ng rfl) rfl (sv (EV.as rfl) rfl (re (pr [0, 3, 4, 5] [] [] rfl rfl rfl rfl (wk [0, 3, 4, 5] [] [] (jh0 _ ⟨_, x4_0, x4_3, x4_4, wrap64 (-(Int.tmod x4_0 10)), by omega, H, rfl⟩))))))))
    ·
     exact gf rfl (dF c8) (gk (wk [0, 3, 4, 5] [] [] (jh0 _ ⟨_, x4_0, x4_3, x4_4, Int.tmod x4_0 10, by omega, H, rfl⟩)))
end Go.Proofs.Ytamjndlkompeeaa.K
namespace Go.Proofs.Ytamjndlkompeeaa.K
open Go Go.RowKit
set_option linter.unusedVariables false
set_option linter.unusedSimpArgs false
def spec_FormatRow.f (k : Nat) (a0_0 : Int) (a0_1 : Int) (a0_2 : Int) : Option (ByteArray) := (spec_IsValidRow.f a0_0 a0_1 a0_2).bind fun t1 => (if t1 = true then ((spec_FormatInt.f k a0_0).bind fun t3 => (if t3.size + (⟨#[46]⟩ : ByteArray).size ≤ 9223372036854775807 then ((spec_FormatInt.f k a0_1).bind fun t5 => (if (t3 ++ (⟨#[46]⟩ : ByteArray)).size + t5.size ≤ 9223372036854775807 then (if ((t3 ++ (⟨#[46]⟩ : ByteArray)) ++ t5).size + (⟨#[46]⟩ : ByteArray).size ≤ 9223372036854775807 then ((spec_FormatInt.f k a0_2).bind fun t8 => (if (((t3 ++ (⟨#[46]⟩ : ByteArray)) ++ t5) ++ (⟨#[46]⟩ : ByteArray)).size + t8.size ≤ 9223372036854775807 then (some ((((t3 ++ (⟨#[46]⟩ : ByteArray)) ++ t5) ++ (⟨#[46]⟩ : ByteArray)) ++ t8)) else none)) else none) else none)) else none)) else (some (⟨#[]⟩ : ByteArray)))
set_option maxHeartbeats 4000000 in
set_option maxRecDepth 100000 in
theorem spec_FormatRow.ok (k : Nat) (a0_0 : Int) (a0_1 : Int) (a0_2 : Int) (r0 : ByteArray) (H : spec_FormatRow.f k a0_0 a0_1 a0_2 = some r0) : Fn Try.prog 123 [.agg #[.int .i64 a0_0, .int .i64 a0_1, .int .i64 a0_2]] [] [] (fun v bx en => v = .string r0 ∧ bx = [] ∧ en = []) := by
 refine fn_ 19 Try.func123 rfl rfl rfl (fun base T w0 => ?_)
 rw [spec_FormatRow.f] at H
 refine gs (rg (so rfl (op_box (cs := [.int .i64 a0_0, .int .i64 a0_1, .int .i64 a0_2]) rfl rfl rfl fun b1 => (sv (EV.as rfl) rfl (re (gs (gs (rg (sv (EV.ld (v := .agg #[.int .i64 a0_0, .int .i64 a0_1, .int .i64 a0_2]) 0 (some 3) rfl rfl rfl) rfl ?_)))))))))
 revert H; refine bdI ?_; rintro t1 A1 H
 refine so rfl (op_call (spec_IsValidRow.ok a0_0 a0_1 a0_2 _ A1) [] 1 rfl rfl rfl rfl rfl ?_)
 rintro _ _ _ ⟨rfl, rfl, rfl⟩
 refine sv (EV.nt rfl) rfl (re ?_)
 revert H; refine ifsI ?_ ?_ <;> intro c2 H
 ·
  subst c2
  refine gf rfl rfl (gk (gs (dr [0] [] [] 14 rfl rfl rfl rfl (xv 0 [0] [] rfl (EV.fa 0 rfl) rfl rfl rfl rfl (xv 1 [0] [] rfl (EV.ld 0 none rfl rfl rfl) rfl rfl rfl rfl (xv 4 [0] [] rfl (EV.fa 1 rfl) rfl rfl rfl rfl (xv 5 [0] [] rfl (EV.ld 0 none rfl rfl rfl) rfl rfl rfl rfl (xv 9 [0] [] rfl (EV.fa 2 rfl) rfl rfl rfl rfl (xv 10 [0] [] rfl (EV.ld 0 none rfl rfl rfl) rfl rfl rfl rfl (one1 2 rfl rfl ?_))))))))))
  revert H; refine bdI ?_; rintro t3 A3 H
  refine op_call (spec_FormatInt.ok k a0_0 _ A3) [] 1 rfl rfl rfl rfl rfl ?_
  rintro _ _ _ ⟨rfl, rfl, rfl⟩
  refine xs [0] [] rfl rfl rfl ?_
  revert H; refine ggI ?_; intro g4 H
  refine xv 3 [0] [] rfl (EV.ads rfl rfl g4) rfl rfl rfl rfl (one1 6 rfl rfl ?_)
  revert H; refine bdI ?_; rintro t5 A5 H
  refine op_call (spec_FormatInt.ok k a0_1 _ A5) [] 1 rfl rfl rfl rfl rfl ?_
  rintro _ _ _ ⟨rfl, rfl, rfl⟩
  refine xs [0] [] rfl rfl rfl ?_
  revert H; refine ggI ?_; intro g6 H
  refine xv 7 [0] [] rfl (EV.ads rfl rfl g6) rfl rfl rfl rfl ?_
  revert H; refine ggI ?_; intro g7 H
  refine xv 8 [0] [] rfl (EV.ads rfl rfl g7) rfl rfl rfl rfl (one1 11 rfl rfl ?_)
  revert H; refine bdI ?_; rintro t8 A8 H
  refine op_call (spec_FormatInt.ok k a0_2 _ A8) [] 1 rfl rfl rfl rfl rfl ?_
  rintro _ _ _ ⟨rfl, rfl, rfl⟩
  refine xs [0] [] rfl rfl rfl ?_
  revert H; refine ggI ?_; intro g9 H
  refine xv 12 [0] [] rfl (EV.ads rfl rfl g9) rfl rfl rfl rfl (xv 13 [0] [] rfl (EV.as rfl) rfl rfl rfl rfl (xd (pr [2] [] [] rfl rfl rfl rfl ?_)))
  cases H
  exact rt Try.func123 rfl (.tmp rfl .nil) rfl [] [] rfl rfl rfl rfl rfl ⟨rfl, rfl, rfl⟩
 ·
  obtain rfl := bF c2
  refine gt rfl rfl (gs (rg (sv (EV.as rfl) rfl (re ?_))))
  cases H
  exact rt Try.func123 rfl (.tmp rfl .nil) rfl [] [] rfl rfl rfl rfl rfl ⟨rfl, rfl, rfl⟩
end Go.Proofs.Ytamjndlkompeeaa.K
namespace Go.Proofs.Ytamjndlkompeeaa.K
open Go Go.RowKit
set_option linter.unusedVariables false
set_option linter.unusedSimpArgs false
mutual
def spec_FormatRows.j0 : Nat → ByteArray → Int → Bool → (List S99) → Option (ByteArray)
 | 0, _, _, _, _ => none
 | k + 1, x10_3, x10_4, x10_11, l0 => if 0 ≤ x10_4 then (if x10_4 < (l0.length : Int) then ((spec_FormatRow.f k ((rd_T99 l0 x10_4).f0) ((rd_T99 l0 x10_4).f1) ((rd_T99 l0 x10_4).f2)).bind fun t7 => (if x10_3.size + t7.size ≤ 9223372036854775807 then (spec_FormatRows.l0 k (x10_3 ++ t7) (wrap64 (x10_4 + 1)) l0) else none)) else none) else none
def spec_FormatRows.l0 : Nat → ByteArray → Int → (List S99) → Option (ByteArray)
 | 0, _, _, _ => none
 | k + 1, x6_3, x6_4, l0 => if x6_4 < (l0.length : Int) then ((spec_AreValidRows.f k l0).bind fun t2 => (if t2 = true then (if x6_4 > 0 then (if x6_3.size + (⟨#[32]⟩ : ByteArray).size ≤ 9223372036854775807 then (spec_FormatRows.j0 k (x6_3 ++ (⟨#[32]⟩ : ByteArray)) x6_4 true l0) else none) else (spec_FormatRows.j0 k x6_3 x6_4 true l0)) else (some x6_3))) else (some x6_3)
end
def spec_FormatRows.f (k : Nat) (l0 : List S99) : Option (ByteArray) := spec_FormatRows.l0 k (⟨#[]⟩ : ByteArray) 0 l0
set_option maxHeartbeats 4000000 in
set_option maxRecDepth 100000 in
theorem spec_FormatRows.ok (k : Nat) (l0 : List S99) (Al0 : Option Addr) (cl0 : Nat) (r0 : ByteArray) (H : spec_FormatRows.f k l0 = some r0) : Fn Try.prog 106 [.slice Al0 l0.length cl0] [] [.sl 0 k99 Al0 cl0 l0 0 false] (fun v bx en => v = .string r0 ∧ bx = [] ∧ en = []) := by
 refine fn_ 27 Try.func106 rfl rfl rfl (fun base T w0 => ?_)
 rw [spec_FormatRows.f] at H
 refine gs (rg (sv (EV.as rfl) rfl (re (gs (rg (sv (EV.as rfl) rfl (re (gs (gs (rg (sv (EV.as rfl) rfl (re (gb ?_)))))))))))))
 refine lo (fun kk S => ∃ (x6_3 : ByteArray) (x6_4 : Int), spec_FormatRows.l0 kk x6_3 x6_4 l0 = some r0 ∧ S = ⟨[(0, .slice Al0 l0.length cl0), (3, .string x6_3), (4, .int .i64 x6_4)], [], [.sl 0 k99 Al0 cl0 l0 0 false]⟩) (fun S hS => ?_) (fun n0 ih0 S hS => ?_) ⟨(⟨#[]⟩ : ByteArray), 0, H, rfl⟩ (fun h => wk [0, 3, 4] [] [⟨0, 0, 0, false⟩] h)
 · clear H; obtain ⟨_, _, H, _⟩ := hS; rw [spec_FormatRows.l0] at H; cases H
 clear H
 obtain ⟨x6_3, x6_4, H, rfl⟩ := hS
 rw [spec_FormatRows.l0] at H
 refine gs (gs (rg (sv (EV.mv rfl) rfl (sv (EV.mv rfl) rfl (sv (EV.ln rfl) rfl (sv (EV.lss rfl rfl) rfl (sv (EV.mv rfl) rfl ?_)))))))
 revert H; refine ifsI ?_ ?_ <;> intro c1 H
 ·
  refine ts 9 rfl (dT c1) (sv (EV.mv rfl) rfl ?_)
  revert H; refine bdI ?_; rintro t2 A2 H
  refine so rfl (op_call (spec_AreValidRows.ok n0 l0 Al0 cl0 _ A2) [⟨0, 0, 0, false⟩] 1 rfl rfl rfl rfl rfl ?_)
  rintro _ _ _ ⟨rfl, rfl, rfl⟩
  refine sv (EV.pt rfl rfl rfl) rfl (re ?_)
  revert H; refine ifsI ?_ ?_ <;> intro c3 H
  ·
   subst c3
   refine gt rfl rfl (gk (gs (gb ?_)))
   refine jo (fun S => ∃ (m : Nat) (x10_3 : ByteArray) (x10_4 : Int) (x10_11 : Bool), m ≤ n0 ∧ spec_FormatRows.j0 m x10_3 x10_4 x10_11 l0 = some r0 ∧ S = ⟨[(0, .slice Al0 l0.length cl0), (3, .string x10_3), (4, .int .i64 x10_4), (10, .slice Al0 l0.length cl0), (11, .bool x10_11)], [], [.sl 0 k99 Al0 cl0 l0 0 false]⟩) (fun S hS => ?_) (fun jh0 => ?_)
   ·
    clear H
    obtain ⟨m4, x10_3, x10_4, x10_11, lm4, H, rfl⟩ := hS
    rcases m4 with _ | m4
    · rw [spec_FormatRows.j0] at H; cases H
    rw [spec_FormatRows.j0] at H
    refine rg (sv (EV.mv rfl) rfl (sv (EV.mv rfl) rfl (sv (EV.mv rfl) rfl ?_)))
    revert H; refine ggI ?_; intro g5 H
    revert H; refine ggI ?_; intro g6 H
    refine sv (EV.ix 0 rfl rfl rfl g5 g6 rfl) rfl (sv (EV.le (v := .agg #[.int .i64 ((rd_T99 l0 x10_4).f0), .int .i64 ((rd_T99 l0 x10_4).f1), .int .i64 ((rd_T99 l0 x10_4).f2)]) x10_4 0 (some 3) 0 z99 rfl rfl rfl g5 g6 rfl rfl rfl) rfl ?_)
    revert H; refine bdI ?_; rintro t7 A7 H
    refine so rfl (op_call (spec_FormatRow.ok m4 ((rd_T99 l0 x10_4).f0) ((rd_T99 l0 x10_4).f1) ((rd_T99 l0 x10_4).f2) _ A7) [] 1 rfl rfl rfl rfl rfl ?_)
    rintro _ _ _ ⟨rfl, rfl, rfl⟩
    revert H; refine ggI ?_; intro g8 H
    exact sv (EV.ads rfl rfl g8) rfl (sv (EV.as rfl) rfl (re (pr [0, 3, 4, 10, 11] [] [0] rfl rfl rfl rfl (ge (rg (sv (EV.mv rfl) rfl (sv (EV.add rfl rfl) rfl (sv (EV.as rfl) rfl (re (wk [0, 3, 4] [] [⟨0, 0, 0, false⟩] (ih0 _ (by omega) _ ⟨x10_3 ++ t7, wrap64 (x10_4 + 1), H, rfl⟩)))))))))))
   ·
    refine gs (rg (sv (EV.mv rfl) rfl (sv (EV.gtr rfl rfl) rfl (re (pr [0, 3, 4, 10, 11, 16] [] [0] rfl rfl rfl rfl ?_)))))
    revert H; refine ifsI ?_ ?_ <;> intro c9 H
    ·
     refine gt rfl (dT c9) (rg (sv (EV.mv rfl) rfl ?_))
     revert H; refine ggI ?_; intro g10 H
     exact sv (EV.ads rfl rfl g10) rfl (sv (EV.as rfl) rfl (re (wk [0, 3, 4, 10, 11] [] [⟨0, 0, 0, false⟩] (jh0 _ ⟨_, x6_3 ++ (⟨#[32]⟩ : ByteArray), x6_4, true, by omega, H, rfl⟩))))
    ·
     exact gf rfl (dF c9) (gk (wk [0, 3, 4, 10, 11] [] [⟨0, 0, 0, false⟩] (jh0 _ ⟨_, x6_3, x6_4, true, by omega, H, rfl⟩)))
  ·
   obtain rfl := bF c3
   refine gf rfl rfl (gx rfl (gs (rg (sv (EV.mv rfl) rfl (sv (EV.as rfl) rfl (re (pr [2] [] [] rfl rfl rfl rfl ?_)))))))
   cases H
   exact rt Try.func106 rfl (.tmp rfl .nil) rfl [] [] rfl rfl rfl rfl rfl ⟨rfl, rfl, rfl⟩
 ·
  refine ts 9 rfl (dF c1) (sk rfl (sk rfl (sv (EV.pf rfl rfl rfl) rfl (re (pr [0, 3, 4, 12] [] [0] rfl rfl rfl rfl (gf rfl rfl (gx rfl (gs (rg (sv (EV.mv rfl) rfl (sv (EV.as rfl) rfl (re ?_))))))))))))
  cases H
  exact rt Try.func106 rfl (.tmp rfl .nil) rfl [] [] rfl rfl rfl rfl rfl ⟨rfl, rfl, rfl⟩
end Go.Proofs.Ytamjndlkompeeaa.K
namespace Go.Proofs.Ytamjndlkompeeaa.K
open Go Go.RowKit
set_option linter.unusedVariables false
set_option linter.unusedSimpArgs false
def spec_FormatTask.l0 : Nat → ByteArray → Int → Int → Int → (List S99) → (List S99) → (List Bool) → Option (ByteArray)
 | 0, _, _, _, _, _, _, _ => none
 | k + 1, x2_3, x2_4, x2_1_0, x2_1_4, l0_1, l0_2, l0_3 => if x2_4 < (l0_3.length : Int) then (if 0 ≤ x2_4 then (if (rdOf false l0_3 x2_4) = true then (if x2_3.size + (⟨#[49]⟩ : ByteArray).size ≤ 9223372036854775807 then (spec_FormatTask.l0 k (x2_3 ++ (⟨#[49]⟩ : ByteArray)) (wrap64 (x2_4 + 1)) x2_1_0 x2_1_4 l0_1 l0_2 l0_3) else none) else (if x2_3.size + (⟨#[48]⟩ : ByteArray).size ≤ 9223372036854775807 then (spec_FormatTask.l0 k (x2_3 ++ (⟨#[48]⟩ : ByteArray)) (wrap64 (x2_4 + 1)) x2_1_0 x2_1_4 l0_1 l0_2 l0_3) else none)) else none) else ((spec_FormatInt.f k x2_1_0).bind fun t8 => (if t8.size + (⟨#[59]⟩ : ByteArray).size ≤ 9223372036854775807 then ((spec_FormatRows.f k l0_1).bind fun t10 => (if (t8 ++ (⟨#[59]⟩ : ByteArray)).size + t10.size ≤ 9223372036854775807 then (if ((t8 ++ (⟨#[59]⟩ : ByteArray)) ++ t10).size + (⟨#[59]⟩ : ByteArray).size ≤ 9223372036854775807 then ((spec_FormatRows.f k l0_2).bind fun t13 => (if (((t8 ++ (⟨#[59]⟩ : ByteArray)) ++ t10) ++ (⟨#[59]⟩ : ByteArray)).size + t13.size ≤ 9223372036854775807 then (if ((((t8 ++ (⟨#[59]⟩ : ByteArray)) ++ t10) ++ (⟨#[59]⟩ : ByteArray)) ++ t13).size + (⟨#[59]⟩ : ByteArray).size ≤ 9223372036854775807 then (if (((((t8 ++ (⟨#[59]⟩ : ByteArray)) ++ t10) ++ (⟨#[59]⟩ : ByteArray)) ++ t13) ++ (⟨#[59]⟩ : ByteArray)).size + x2_3.size ≤ 9223372036854775807 then (if ((((((t8 ++ (⟨#[59]⟩ : ByteArray)) ++ t10) ++ (⟨#[59]⟩ : ByteArray)) ++ t13) ++ (⟨#[59]⟩ : ByteArray)) ++ x2_3).size + (⟨#[59]⟩ : ByteArray).size ≤ 9223372036854775807 then ((spec_FormatInt.f k x2_1_4).bind fun t18 => (if (((((((t8 ++ (⟨#[59]⟩ : ByteArray)) ++ t10) ++ (⟨#[59]⟩ : ByteArray)) ++ t13) ++ (⟨#[59]⟩ : ByteArray)) ++ x2_3) ++ (⟨#[59]⟩ : ByteArray)).size + t18.size ≤ 9223372036854775807 then (some ((((((((t8 ++ (⟨#[59]⟩ : ByteArray)) ++ t10) ++ (⟨#[59]⟩ : ByteArray)) ++ t13) ++ (⟨#[59]⟩ : ByteArray)) ++ x2_3) ++ (⟨#[59]⟩ : ByteArray)) ++ t18)) else none)) else none) else none) else none) else none)) else none) else none)) else none))
def spec_FormatTask.f (k : Nat) (a0_0 : Int) (l0_1 : List S99) (l0_2 : List S99) (l0_3 : List Bool) (a0_4 : Int) : Option (ByteArray) := (spec_IsValidTask.f k a0_0 l0_1 l0_2 l0_3 a0_4).bind fun t1 => (if t1 = true then (spec_FormatTask.l0 k (⟨#[]⟩ : ByteArray) 0 a0_0 a0_4 l0_1 l0_2 l0_3) else (some (⟨#[]⟩ : ByteArray)))
set_option maxHeartbeats 4000000 in
set_option maxRecDepth 100000 in
theorem spec_FormatTask.ok (k : Nat) (a0_0 : Int) (l0_1 : List S99) (Al0_1 : Option Addr) (cl0_1 : Nat) (l0_2 : List S99) (Al0_2 : Option Addr) (cl0_2 : Nat) (l0_3 : List Bool) (Al0_3 : Option Addr) (cl0_3 : Nat) (a0_4 : Int) (r0 : ByteArray) (H : spec_FormatTask.f k a0_0 l0_1 l0_2 l0_3 a0_4 = some r0) : Fn Try.prog 61 [.agg #[.int .i64 a0_0, .slice Al0_1 l0_1.length cl0_1, .slice Al0_2 l0_2.length cl0_2, .slice Al0_3 l0_3.length cl0_3, .int .i64 a0_4]] [] [.sl 0 k99 Al0_1 cl0_1 l0_1 0 false, .sl 0 k99 Al0_2 cl0_2 l0_2 0 false, .sl 0 .bool Al0_3 cl0_3 l0_3 0 false] (fun v bx en => v = .string r0 ∧ bx = [] ∧ en = []) := by
 refine fn_ 45 Try.func61 rfl rfl rfl (fun base T w0 => ?_)
 rw [spec_FormatTask.f] at H
 refine gs (rg (so rfl (op_box (cs := [.int .i64 a0_0, .slice Al0_1 l0_1.length cl0_1, .slice Al0_2 l0_2.length cl0_2, .slice Al0_3 l0_3.length cl0_3, .int .i64 a0_4]) rfl rfl rfl fun b1 => (sv (EV.as rfl) rfl (re (gs (gs (rg (sv (EV.ld (v := .agg #[.int .i64 a0_0, .slice Al0_1 l0_1.length cl0_1, .slice Al0_2 l0_2.length cl0_2, .slice Al0_3 l0_3.length cl0_3, .int .i64 a0_4]) 0 (some 5) rfl rfl rfl) rfl ?_)))))))))
 revert H; refine bdI ?_; rintro t1 A1 H
 refine so rfl (op_call (spec_IsValidTask.ok k a0_0 l0_1 Al0_1 cl0_1 l0_2 Al0_2 cl0_2 l0_3 Al0_3 cl0_3 a0_4 _ A1) [⟨0, 0, 0, false⟩, ⟨1, 0, 0, false⟩, ⟨2, 0, 0, false⟩] 1 rfl rfl rfl rfl rfl ?_)
 rintro _ _ _ ⟨rfl, rfl, rfl⟩
 refine sv (EV.nt rfl) rfl (re ?_)
 revert H; refine ifsI ?_ ?_ <;> intro c2 H
 ·
  subst c2
  refine gf rfl rfl (gk (gs (rg (sv (EV.as rfl) rfl (re (gs (gs (rg (sv (EV.as rfl) rfl (re (gb ?_)))))))))))
  refine lo (fun kk S => ∃ (x2_3 : ByteArray) (x2_4 : Int) (x2_1_0 : Int) (x2_1_4 : Int), spec_FormatTask.l0 kk x2_3 x2_4 x2_1_0 x2_1_4 l0_1 l0_2 l0_3 = some r0 ∧ S = ⟨[(1, .pointer (some ⟨b1, 0, none⟩)), (3, .string x2_3), (4, .int .i64 x2_4)], [⟨b1, 27, [.int .i64 x2_1_0, .slice Al0_1 l0_1.length cl0_1, .slice Al0_2 l0_2.length cl0_2, .slice Al0_3 l0_3.length cl0_3, .int .i64 x2_1_4]⟩], [.sl 0 k99 Al0_1 cl0_1 l0_1 0 false, .sl 0 k99 Al0_2 cl0_2 l0_2 0 false, .sl 0 .bool Al0_3 cl0_3 l0_3 0 false]⟩) (fun S hS => ?_) (fun n0 ih0 S hS => ?_) ⟨(⟨#[]⟩ : ByteArray), 0, a0_0, a0_4, H, rfl⟩ (fun h => wk [1, 3, 4] [0] [⟨0, 0, 0, false⟩, ⟨1, 0, 0, false⟩, ⟨2, 0, 0, false⟩] h)
  · clear H; obtain ⟨_, _, _, _, H, _⟩ := hS; rw [spec_FormatTask.l0] at H; cases H
  clear H
  obtain ⟨x2_3, x2_4, x2_1_0, x2_1_4, H, rfl⟩ := hS
  rw [spec_FormatTask.l0] at H
  refine gs (gs (rg (sv (EV.mv rfl) rfl (sv (EV.fa 3 rfl) rfl (sv (EV.ld 0 none rfl rfl rfl) rfl (sv (EV.ln rfl) rfl (sv (EV.lss rfl rfl) rfl (re ?_))))))))
  revert H; refine ifsI ?_ ?_ <;> intro c3 H
  ·
   refine gt rfl (dT c3) (gk (gs (gb (gs (rg (sv (EV.fa 3 rfl) rfl (sv (EV.ld 0 none rfl rfl rfl) rfl (sv (EV.mv rfl) rfl ?_))))))))
   revert H; refine ggI ?_; intro g4 H
   refine sv (EV.ix 2 rfl rfl rfl g4 c3 rfl) rfl (sv (EV.le (v := .bool (rdOf false l0_3 x2_4)) x2_4 0 none 2 false rfl rfl rfl g4 c3 rfl rfl rfl) rfl (re (pr [1, 3, 4, 19] [0] [0, 1, 2] rfl rfl rfl rfl ?_)))
   revert H; refine ifsI ?_ ?_ <;> intro c5 H
   ·
    refine gt rfl (c5) (rg (sv (EV.mv rfl) rfl ?_))
    revert H; refine ggI ?_; intro g6 H
    exact sv (EV.ads rfl rfl g6) rfl (sv (EV.as rfl) rfl (re (ge (rg (sv (EV.mv rfl) rfl (sv (EV.add rfl rfl) rfl (sv (EV.as rfl) rfl (re (wk [1, 3, 4] [0] [⟨0, 0, 0, false⟩, ⟨1, 0, 0, false⟩, ⟨2, 0, 0, false⟩] (ih0 _ (by omega) _ ⟨x2_3 ++ (⟨#[49]⟩ : ByteArray), wrap64 (x2_4 + 1), x2_1_0, x2_1_4, H, rfl⟩))))))))))
   ·
    refine gf rfl (bF c5) (rg (sv (EV.mv rfl) rfl ?_))
    revert H; refine ggI ?_; intro g7 H
    exact sv (EV.ads rfl rfl g7) rfl (sv (EV.as rfl) rfl (re (ge (rg (sv (EV.mv rfl) rfl (sv (EV.add rfl rfl) rfl (sv (EV.as rfl) rfl (re (wk [1, 3, 4] [0] [⟨0, 0, 0, false⟩, ⟨1, 0, 0, false⟩, ⟨2, 0, 0, false⟩] (ih0 _ (by omega) _ ⟨x2_3 ++ (⟨#[48]⟩ : ByteArray), wrap64 (x2_4 + 1), x2_1_0, x2_1_4, H, rfl⟩))))))))))
  ·
   refine gf rfl (dF c3) (gx rfl (gs (dr [0] [0, 1, 2] [] 22 rfl rfl rfl rfl (xv 0 [0] [0, 1, 2] rfl (EV.fa 0 rfl) rfl rfl rfl rfl (xv 1 [0] [0, 1, 2] rfl (EV.ld 0 none rfl rfl rfl) rfl rfl rfl rfl (xv 4 [0] [0, 1, 2] rfl (EV.fa 1 rfl) rfl rfl rfl rfl (xv 5 [0] [0, 1, 2] rfl (EV.ld 0 none rfl rfl rfl) rfl rfl rfl rfl (xv 9 [0] [0, 1, 2] rfl (EV.fa 2 rfl) rfl rfl rfl rfl (xv 10 [0] [0, 1, 2] rfl (EV.ld 0 none rfl rfl rfl) rfl rfl rfl rfl (xv 14 [0] [0, 1, 2] rfl (EV.mv rfl) rfl rfl rfl rfl (xv 17 [0] [0, 1, 2] rfl (EV.fa 4 rfl) rfl rfl rfl rfl (xv 18 [0] [0, 1, 2] rfl (EV.ld 0 none rfl rfl rfl) rfl rfl rfl rfl (one1 2 rfl rfl ?_)))))))))))))
   revert H; refine bdI ?_; rintro t8 A8 H
   refine op_call (spec_FormatInt.ok n0 x2_1_0 _ A8) [] 1 rfl rfl rfl rfl rfl ?_
   rintro _ _ _ ⟨rfl, rfl, rfl⟩
   refine xs [0] [0, 1, 2] rfl rfl rfl ?_
   revert H; refine ggI ?_; intro g9 H
   refine xv 3 [0] [0, 1, 2] rfl (EV.ads rfl rfl g9) rfl rfl rfl rfl (one1 6 rfl rfl ?_)
   revert H; refine bdI ?_; rintro t10 A10 H
   refine op_call (spec_FormatRows.ok n0 l0_1 Al0_1 cl0_1 _ A10) [⟨0, 0, 0, false⟩] 1 rfl rfl rfl rfl rfl ?_
   rintro _ _ _ ⟨rfl, rfl, rfl⟩
   refine xs [0] [0, 1, 2] rfl rfl rfl ?_
   revert H; refine ggI ?_; intro g11 H
   refine xv 7 [0] [0, 1, 2] rfl (EV.ads rfl rfl g11) rfl rfl rfl rfl ?_
   revert H; refine ggI ?_; intro g12 H
   refine xv 8 [0] [0, 1, 2] rfl (EV.ads rfl rfl g12) rfl rfl rfl rfl (one1 11 rfl rfl ?_)
   revert H; refine bdI ?_; rintro t13 A13 H
   refine op_call (spec_FormatRows.ok n0 l0_2 Al0_2 cl0_2 _ A13) [⟨1, 0, 0, false⟩] 1 rfl rfl rfl rfl rfl ?_
   rintro _ _ _ ⟨rfl, rfl, rfl⟩
   refine xs [0] [0, 1, 2] rfl rfl rfl ?_
   revert H; refine ggI ?_; intro g14 H
   refine xv 12 [0] [0, 1, 2] rfl (EV.ads rfl rfl g14) rfl rfl rfl rfl ?_
   revert H; refine ggI ?_; intro g15 H
   refine xv 13 [0] [0, 1, 2] rfl (EV.ads rfl rfl g15) rfl rfl rfl rfl ?_
   revert H; refine ggI ?_; intro g16 H
   refine xv 15 [0] [0, 1, 2] rfl (EV.ads rfl rfl g16) rfl rfl rfl rfl ?_
   revert H; refine ggI ?_; intro g17 H
   refine xv 16 [0] [0, 1, 2] rfl (EV.ads rfl rfl g17) rfl rfl rfl rfl (one1 19 rfl rfl ?_)
   revert H; refine bdI ?_; rintro t18 A18 H
   refine op_call (spec_FormatInt.ok n0 x2_1_4 _ A18) [] 1 rfl rfl rfl rfl rfl ?_
   rintro _ _ _ ⟨rfl, rfl, rfl⟩
   refine xs [0] [0, 1, 2] rfl rfl rfl ?_
   revert H; refine ggI ?_; intro g19 H
   refine xv 20 [0] [0, 1, 2] rfl (EV.ads rfl rfl g19) rfl rfl rfl rfl (xv 21 [0] [0, 1, 2] rfl (EV.as rfl) rfl rfl rfl rfl (xd (pr [2] [] [] rfl rfl rfl rfl ?_)))
   cases H
   exact rt Try.func61 rfl (.tmp rfl .nil) rfl [] [] rfl rfl rfl rfl rfl ⟨rfl, rfl, rfl⟩
 ·
  obtain rfl := bF c2
  refine gt rfl rfl (gs (rg (sv (EV.as rfl) rfl (re ?_))))
  cases H
  exact rt Try.func61 rfl (.tmp rfl .nil) rfl [] [] rfl rfl rfl rfl rfl ⟨rfl, rfl, rfl⟩
end Go.Proofs.Ytamjndlkompeeaa.K
namespace Go.Proofs.Ytamjndlkompeeaa.K
open Go Go.RowKit
set_option linter.unusedVariables false
set_option linter.unusedSimpArgs false
def spec_FormatJoiner.l0 : Nat → ByteArray → Int → Int → Int → (List S27) → Option (ByteArray)
 | 0, _, _, _, _, _ => none
 | k + 1, x2_3, x2_4, x2_1_1, x2_1_2, l0_0 => if x2_4 < (l0_0.length : Int) then (if x2_3.size + (⟨#[47]⟩ : ByteArray).size ≤ 9223372036854775807 then (if 0 ≤ x2_4 then ((spec_FormatTask.f k ((rd_T27 l0_0 x2_4).f0) ((rd_T27 l0_0 x2_4).f1) ((rd_T27 l0_0 x2_4).f2) ((rd_T27 l0_0 x2_4).f3) ((rd_T27 l0_0 x2_4).f4)).bind fun t13 => (if (x2_3 ++ (⟨#[47]⟩ : ByteArray)).size + t13.size ≤ 9223372036854775807 then (spec_FormatJoiner.l0 k ((x2_3 ++ (⟨#[47]⟩ : ByteArray)) ++ t13) (wrap64 (x2_4 + 1)) x2_1_1 x2_1_2 l0_0) else none)) else none) else none) else (some x2_3)
def spec_FormatJoiner.f (k : Nat) (l0_0 : List S27) (a0_1 : Int) (a0_2 : Int) : Option (ByteArray) := (spec_IsValidJoiner.f k l0_0 a0_1 a0_2).bind fun t1 => (if t1 = true then ((spec_FormatInt.f k a0_1).bind fun t3 => (if t3.size + (⟨#[47]⟩ : ByteArray).size ≤ 9223372036854775807 then ((spec_FormatInt.f k a0_2).bind fun t5 => (if (t3 ++ (⟨#[47]⟩ : ByteArray)).size + t5.size ≤ 9223372036854775807 then (spec_FormatJoiner.l0 k ((t3 ++ (⟨#[47]⟩ : ByteArray)) ++ t5) 0 a0_1 a0_2 l0_0) else none)) else none)) else (some (⟨#[]⟩ : ByteArray)))
set_option maxHeartbeats 4000000 in
set_option maxRecDepth 100000 in
theorem spec_FormatJoiner.ok (k : Nat) (l0_0 : List S27) (Al0_0 : Option Addr) (cl0_0 : Nat) (a0_1 : Int) (a0_2 : Int) (r0 : ByteArray) (H : spec_FormatJoiner.f k l0_0 a0_1 a0_2 = some r0) : Fn Try.prog 97 [.agg #[.slice Al0_0 l0_0.length cl0_0, .int .i64 a0_1, .int .i64 a0_2]] [] [.sl 0 k27 Al0_0 cl0_0 l0_0 0 false] (fun v bx en => v = .string r0 ∧ bx = [] ∧ en = []) := by
 refine fn_ 33 Try.func97 rfl rfl rfl (fun base T w0 => ?_)
 rw [spec_FormatJoiner.f] at H
 refine gs (rg (so rfl (op_box (cs := [.slice Al0_0 l0_0.length cl0_0, .int .i64 a0_1, .int .i64 a0_2]) rfl rfl rfl fun b1 => (sv (EV.as rfl) rfl (re (gs (gs (rg (sv (EV.ld (v := .agg #[.slice Al0_0 l0_0.length cl0_0, .int .i64 a0_1, .int .i64 a0_2]) 0 (some 3) rfl rfl rfl) rfl ?_)))))))))
 revert H; refine bdI ?_; rintro t1 A1 H
 refine so rfl (op_call (spec_IsValidJoiner.ok k l0_0 Al0_0 cl0_0 a0_1 a0_2 _ A1) [⟨0, 0, 0, false⟩] 1 rfl rfl rfl rfl rfl ?_)
 rintro _ _ _ ⟨rfl, rfl, rfl⟩
 refine sv (EV.nt rfl) rfl (re ?_)
 revert H; refine ifsI ?_ ?_ <;> intro c2 H
 ·
  subst c2
  refine gf rfl rfl (gk (gs (dr [0] [0] [] 9 rfl rfl rfl rfl (xv 0 [0] [0] rfl (EV.fa 1 rfl) rfl rfl rfl rfl (xv 1 [0] [0] rfl (EV.ld 0 none rfl rfl rfl) rfl rfl rfl rfl (xv 4 [0] [0] rfl (EV.fa 2 rfl) rfl rfl rfl rfl (xv 5 [0] [0] rfl (EV.ld 0 none rfl rfl rfl) rfl rfl rfl rfl (one1 2 rfl rfl ?_))))))))
  revert H; refine bdI ?_; rintro t3 A3 H
  refine op_call (spec_FormatInt.ok k a0_1 _ A3) [] 1 rfl rfl rfl rfl rfl ?_
  rintro _ _ _ ⟨rfl, rfl, rfl⟩
  refine xs [0] [0] rfl rfl rfl ?_
  revert H; refine ggI ?_; intro g4 H
  refine xv 3 [0] [0] rfl (EV.ads rfl rfl g4) rfl rfl rfl rfl (one1 6 rfl rfl ?_)
  revert H; refine bdI ?_; rintro t5 A5 H
  refine op_call (spec_FormatInt.ok k a0_2 _ A5) [] 1 rfl rfl rfl rfl rfl ?_
  rintro _ _ _ ⟨rfl, rfl, rfl⟩
  refine xs [0] [0] rfl rfl rfl ?_
  revert H; refine ggI ?_; intro g6 H
  refine xv 7 [0] [0] rfl (EV.ads rfl rfl g6) rfl rfl rfl rfl (xv 8 [0] [0] rfl (EV.as rfl) rfl rfl rfl rfl (xd (pr [1, 3] [0] [0] rfl rfl rfl rfl (gs (gs (rg (sv (EV.as rfl) rfl (re (gb ?_)))))))))
  refine lo (fun kk S => ∃ (x2_3 : ByteArray) (x2_4 : Int) (x2_1_1 : Int) (x2_1_2 : Int), spec_FormatJoiner.l0 kk x2_3 x2_4 x2_1_1 x2_1_2 l0_0 = some r0 ∧ S = ⟨[(1, .pointer (some ⟨b1, 0, none⟩)), (3, .string x2_3), (4, .int .i64 x2_4)], [⟨b1, 60, [.slice Al0_0 l0_0.length cl0_0, .int .i64 x2_1_1, .int .i64 x2_1_2]⟩], [.sl 0 k27 Al0_0 cl0_0 l0_0 0 false]⟩) (fun S hS => ?_) (fun n0 ih0 S hS => ?_) ⟨(t3 ++ (⟨#[47]⟩ : ByteArray)) ++ t5, 0, a0_1, a0_2, H, rfl⟩ (fun h => wk [1, 3, 4] [0] [⟨0, 0, 0, false⟩] h)
  · clear H; obtain ⟨_, _, _, _, H, _⟩ := hS; rw [spec_FormatJoiner.l0] at H; cases H
  clear H
  obtain ⟨x2_3, x2_4, x2_1_1, x2_1_2, H, rfl⟩ := hS
  rw [spec_FormatJoiner.l0] at H
  refine gs (gs (rg (sv (EV.mv rfl) rfl (sv (EV.fa 0 rfl) rfl (sv (EV.ld 0 none rfl rfl rfl) rfl (sv (EV.ln rfl) rfl (sv (EV.lss rfl rfl) rfl (re ?_))))))))
  revert H; refine ifsI ?_ ?_ <;> intro c7 H
  ·
   refine gt rfl (dT c7) (gk (gs (gb (rg (sv (EV.mv rfl) rfl ?_)))))
   revert H; refine ggI ?_; intro g8 H
   refine sv (EV.ads rfl rfl g8) rfl (sv (EV.fa 0 rfl) rfl (sv (EV.ld 0 none rfl rfl rfl) rfl (sv (EV.mv rfl) rfl ?_)))
   revert H; refine ggI ?_; intro g9 H
   refine sv (EV.ix 0 rfl rfl rfl g9 c7 rfl) rfl (opn (i := x2_4) 0 z27 rfl g9 c7 fun A_10 c_10 A_11 c_11 A_12 c_12 => (sv (EV.lc (v := .agg #[.int .i64 ((rd_T27 l0_0 x2_4).f0), .slice A_10 ((rd_T27 l0_0 x2_4).f1).length c_10, .slice A_11 ((rd_T27 l0_0 x2_4).f2).length c_11, .slice A_12 ((rd_T27 l0_0 x2_4).f3).length c_12, .int .i64 ((rd_T27 l0_0 x2_4).f4)]) 0 (some 5) 1 rfl rfl rfl rfl) rfl ?_))
   revert H; refine bdI ?_; rintro t13 A13 H
   refine so rfl (op_call (spec_FormatTask.ok n0 ((rd_T27 l0_0 x2_4).f0) ((rd_T27 l0_0 x2_4).f1) A_10 c_10 ((rd_T27 l0_0 x2_4).f2) A_11 c_11 ((rd_T27 l0_0 x2_4).f3) A_12 c_12 ((rd_T27 l0_0 x2_4).f4) _ A13) [⟨2, 0, 0, false⟩, ⟨3, 0, 0, false⟩, ⟨4, 0, 0, false⟩] 1 rfl rfl rfl rfl rfl ?_)
   rintro _ _ _ ⟨rfl, rfl, rfl⟩
   revert H; refine ggI ?_; intro g14 H
   exact sv (EV.ads rfl rfl g14) rfl (sv (EV.as rfl) rfl (re (pr [1, 3, 4] [0] [0] rfl rfl rfl rfl (ge (rg (sv (EV.mv rfl) rfl (sv (EV.add rfl rfl) rfl (sv (EV.as rfl) rfl (re (wk [1, 3, 4] [0] [⟨0, 0, 0, false⟩] (ih0 _ (by omega) _ ⟨(x2_3 ++ (⟨#[47]⟩ : ByteArray)) ++ t13, wrap64 (x2_4 + 1), x2_1_1, x2_1_2, H, rfl⟩)))))))))))
  ·
   refine gf rfl (dF c7) (gx rfl (gs (rg (sv (EV.mv rfl) rfl (sv (EV.as rfl) rfl (re (pr [2] [] [] rfl rfl rfl rfl ?_)))))))
   cases H
   exact rt Try.func97 rfl (.tmp rfl .nil) rfl [] [] rfl rfl rfl rfl rfl ⟨rfl, rfl, rfl⟩
 ·
  obtain rfl := bF c2
  refine gt rfl rfl (gs (rg (sv (EV.as rfl) rfl (re ?_))))
  cases H
  exact rt Try.func97 rfl (.tmp rfl .nil) rfl [] [] rfl rfl rfl rfl rfl ⟨rfl, rfl, rfl⟩
end Go.Proofs.Ytamjndlkompeeaa.K
namespace Go.Proofs.Ytamjndlkompeeaa.K
open Go Go.RowKit
set_option linter.unusedVariables false
set_option linter.unusedSimpArgs false
def spec_DrawParseJoiner.f (k : Nat) (l0 : List Int) : Option (ByteArray) := (spec_l1New.f k l0).bind fun bt1 => ((spec_l19Joiner.f k l0 bt1.1 bt1.2).bind fun bt2 => ((spec_FormatJoiner.f k bt2.1 bt2.2.1 bt2.2.2.1).bind fun t3 => ((spec_l1Once.f l0 bt2.2.2.2.1 bt2.2.2.2.2 3).bind fun bt4 => (if bt4.1 = true then ((spec_l1Spoil.f k l0 bt4.2.1 bt4.2.2 t3).bind fun bt6 => ((spec_l1Pick.f l0 bt6.2.1 bt6.2.2 ([(⟨#[]⟩ : ByteArray), (⟨#[48]⟩ : ByteArray), (⟨#[48, 47, 48]⟩ : ByteArray), (⟨#[48, 47, 48, 47]⟩ : ByteArray), (⟨#[49, 47, 50, 47, 49, 59, 59, 59, 59, 48]⟩ : ByteArray), (⟨#[48, 47, 48, 47, 49, 59, 59, 59, 59, 48, 47, 50, 59, 59, 59, 59, 48]⟩ : ByteArray), bt6.1] : List ByteArray)).bind fun bt8 => (some bt8.1))) else (some t3)))))
set_option maxHeartbeats 4000000 in
set_option maxRecDepth 100000 in
theorem spec_DrawParseJoiner.ok (k : Nat) (l0 : List Int) (Al0 : Option Addr) (cl0 : Nat) (r0 : ByteArray) (H : spec_DrawParseJoiner.f k l0 = some r0) : Fn Try.prog 45 [.slice Al0 l0.length cl0] [] [.sl 0 (.int .u8) Al0 cl0 l0 0 false] (fun v bx en => v = .string r0 ∧ bx = [] ∧ en = []) := by
 refine fn_ 19 Try.func45 rfl rfl rfl (fun base T w0 => ?_)
 rw [spec_DrawParseJoiner.f] at H
 refine gs (rg (sv (EV.as rfl) rfl (re (gs (rg (sv (EV.mv rfl) rfl ?_))))))
 revert H; refine bdI ?_; rintro ⟨t1_0, t1_1⟩ A1 H
 refine so rfl (op_callM (spec_l1New.ok k l0 Al0 cl0 _ _ A1) [⟨0, 0, 0, false⟩] [] [] 1 rfl rfl rfl rfl rfl rfl rfl rfl ?_)
 rintro _ _ _ ⟨b2001, rfl, rfl, rfl⟩
 refine nmE (en := [.sl 0 (.int .u8) Al0 cl0 l0 0 false]) (by kernel_rfl) (sv (EV.as rfl) rfl (re (gs (rg (sv (EV.mv rfl) rfl ?_)))))
 revert H; refine bdI ?_; rintro ⟨t2_0, t2_1, t2_2, t2_3, t2_4⟩ A2 H
 refine so rfl (op_callM (spec_l19Joiner.ok k b2001 l0 Al0 cl0 t1_0 t1_1 _ _ _ _ _ A2) [⟨0, 0, 0, false⟩] [0] [] 1 rfl rfl rfl rfl rfl rfl rfl rfl ?_)
 rintro _ _ _ ⟨At2_0, ct2_0, rfl, rfl, rfl⟩
 refine nmE (en := [.sl 0 (.int .u8) Al0 cl0 l0 0 false, .sl 1 k27 At2_0 ct2_0 t2_0 2 true]) (by kernel_rfl) ?_
 revert H; refine bdI ?_; rintro t3 A3 H
 refine so rfl (op_call (spec_FormatJoiner.ok k t2_0 At2_0 ct2_0 t2_1 t2_2 _ A3) [⟨1, 0, 0, false⟩] 3 rfl rfl rfl rfl rfl ?_)
 rintro _ _ _ ⟨rfl, rfl, rfl⟩
 refine sv (EV.as rfl) rfl (re (pr [3, 4] [0] [0] rfl rfl rfl rfl (gs (gs (rg (sv (EV.mv rfl) rfl ?_))))))
 revert H; refine bdI ?_; rintro ⟨t4_0, t4_1, t4_2⟩ A4 H
 refine so rfl (op_callM (spec_l1Once.ok b2001 l0 Al0 cl0 t2_3 t2_4 3 _ _ _ A4) [⟨0, 0, 0, false⟩] [0] [] 1 rfl rfl rfl rfl rfl rfl rfl rfl ?_)
 rintro _ _ _ ⟨rfl, rfl, rfl⟩
 refine nmE (en := [.sl 0 (.int .u8) Al0 cl0 l0 0 false]) (by kernel_rfl) (re ?_)
 revert H; refine ifsI ?_ ?_ <;> intro c5 H
 ·
  subst c5
  refine gt rfl rfl (gs (rg (sv (EV.mv rfl) rfl (sv (EV.mv rfl) rfl (sv (EV.mv rfl) rfl ?_)))))
  revert H; refine bdI ?_; rintro ⟨t6_0, t6_1, t6_2⟩ A6 H
  refine so rfl (op_callM (spec_l1Spoil.ok k b2001 l0 Al0 cl0 t4_1 t4_2 t3 _ _ _ A6) [⟨0, 0, 0, false⟩] [0] [] 1 rfl rfl rfl rfl rfl rfl rfl rfl ?_)
  rintro _ _ _ ⟨rfl, rfl, rfl⟩
  refine nmE (en := [.sl 0 (.int .u8) Al0 cl0 l0 0 false]) (by kernel_rfl) (so rfl (op_lit (s := 1) (by_ := 16) .str ([(⟨#[]⟩ : ByteArray), (⟨#[48]⟩ : ByteArray), (⟨#[48, 47, 48]⟩ : ByteArray), (⟨#[48, 47, 48, 47]⟩ : ByteArray), (⟨#[49, 47, 50, 47, 49, 59, 59, 59, 59, 48]⟩ : ByteArray), (⟨#[48, 47, 48, 47, 49, 59, 59, 59, 59, 48, 47, 50, 59, 59, 59, 59, 48]⟩ : ByteArray), t6_0] : List ByteArray) [[], [], [], [], [], [], []] [] 1 [.const (.string (⟨#[]⟩ : ByteArray)), .const (.string (⟨#[48]⟩ : ByteArray)), .const (.string (⟨#[48, 47, 48]⟩ : ByteArray)), .const (.string (⟨#[48, 47, 48, 47]⟩ : ByteArray)), .const (.string (⟨#[49, 47, 50, 47, 49, 59, 59, 59, 59, 48]⟩ : ByteArray)), .const (.string (⟨#[48, 47, 48, 47, 49, 59, 59, 59, 59, 48, 47, 50, 59, 59, 59, 59, 48]⟩ : ByteArray)), .tmp 15] rfl rfl rfl rfl rfl rfl rfl rfl rfl rfl rfl rfl rfl dq rfl fun A16_7 c16_7 => ?_))
  revert H; refine bdI ?_; rintro ⟨t8_0, t8_1, t8_2⟩ A8 H
  refine so rfl (op_callM (spec_l1Pick.ok b2001 l0 Al0 cl0 t6_1 t6_2 ([(⟨#[]⟩ : ByteArray), (⟨#[48]⟩ : ByteArray), (⟨#[48, 47, 48]⟩ : ByteArray), (⟨#[48, 47, 48, 47]⟩ : ByteArray), (⟨#[49, 47, 50, 47, 49, 59, 59, 59, 59, 48]⟩ : ByteArray), (⟨#[48, 47, 48, 47, 49, 59, 59, 59, 59, 48, 47, 50, 59, 59, 59, 59, 48]⟩ : ByteArray), t6_0] : List ByteArray) A16_7 c16_7 _ _ _ A8) [⟨0, 0, 0, false⟩, ⟨1, 0, 0, false⟩] [0] [] 2 rfl rfl rfl rfl rfl rfl rfl rfl ?_)
  rintro _ _ _ ⟨rfl, rfl, rfl⟩
  refine nmE (en := [.sl 0 (.int .u8) Al0 cl0 l0 0 false, .sl 2 .str A16_7 c16_7 ([(⟨#[]⟩ : ByteArray), (⟨#[48]⟩ : ByteArray), (⟨#[48, 47, 48]⟩ : ByteArray), (⟨#[48, 47, 48, 47]⟩ : ByteArray), (⟨#[49, 47, 50, 47, 49, 59, 59, 59, 59, 48]⟩ : ByteArray), (⟨#[48, 47, 48, 47, 49, 59, 59, 59, 59, 48, 47, 50, 59, 59, 59, 59, 48]⟩ : ByteArray), t6_0] : List ByteArray) 1 true]) (by kernel_rfl) (sv (EV.as rfl) rfl (re (pr [2] [] [] rfl rfl rfl rfl ?_)))
  cases H
  exact rt Try.func45 rfl (.tmp rfl .nil) rfl [] [] rfl rfl rfl rfl rfl ⟨rfl, rfl, rfl⟩
 ·
  obtain rfl := bF c5
  refine gf rfl rfl (gk (gs (rg (sv (EV.mv rfl) rfl (sv (EV.as rfl) rfl (re ?_))))))
  cases H
  exact rt Try.func45 rfl (.tmp rfl .nil) rfl [] [] rfl rfl rfl rfl rfl ⟨rfl, rfl, rfl⟩
end Go.Proofs.Ytamjndlkompeeaa.K
namespace Go.Proofs.Ytamjndlkompeeaa.K
open Go Go.RowKit
set_option linter.unusedVariables false
set_option linter.unusedSimpArgs false
def spec_l2Cut.l0 : Nat → ByteArray → Int → (List ByteArray) → Int → Int → Option ((List ByteArray))
 | 0, _, _, _, _, _ => none
 | k + 1, x2_0, x2_1, x2_5, x2_6, x2_7 => if x2_7 < (x2_0.size : Int) then (if 0 ≤ x2_7 then (if (bt x2_0 x2_7) = x2_1 then (if 0 ≤ x2_6 then (if x2_6 ≤ x2_7 then (if x2_7 ≤ (x2_0.size : Int) then (if x2_5.length < 8796093022208 then (spec_l2Cut.l0 k x2_0 x2_1 (x2_5 ++ ([x2_0.extract x2_6.toNat x2_7.toNat] : List ByteArray)) (wrap64 (x2_7 + 1)) (wrap64 (x2_7 + 1))) else none) else none) else none) else none) else (spec_l2Cut.l0 k x2_0 x2_1 x2_5 x2_6 (wrap64 (x2_7 + 1)))) else none) else (if 0 ≤ x2_6 then (if x2_6 ≤ (x2_0.size : Int) then (if x2_5.length < 8796093022208 then (some (x2_5 ++ ([x2_0.extract x2_6.toNat x2_0.size] : List ByteArray))) else none) else none) else none)
def spec_l2Cut.f (k : Nat) (a0 : ByteArray) (a1 : Int) : Option ((List ByteArray)) := spec_l2Cut.l0 k a0 a1 [] 0 0
set_option maxHeartbeats 4000000 in
set_option maxRecDepth 100000 in
theorem spec_l2Cut.ok (k : Nat) (a0 : ByteArray) (a1 : Int) (r0 : List ByteArray) (H : spec_l2Cut.f k a0 a1 = some r0) : Fn Try.prog 66 [.string a0, .int .u8 a1] [] [] (fun v bx en => ∃ A0 c0, v = .slice A0 r0.length c0 ∧ bx = [] ∧ en = [.sl 2 .str A0 c0 r0 1 true]) := by
 refine fn_ 35 Try.func66 rfl rfl rfl (fun base T w0 => ?_)
 rw [spec_l2Cut.f] at H
 refine gs (rg (sv (EV.as rfl) rfl (re (gs (rg (so rfl (op_lit (s := 1) (by_ := 16) .str ([] : List ByteArray) [] [] 1 [] rfl rfl rfl rfl rfl rfl rfl rfl rfl rfl rfl rfl rfl dq rfl fun A8_1 c8_1 => (sv (EV.as rfl) rfl (re (gs (rg (sv (EV.as rfl) rfl (re (gs (gs (rg (sv (EV.as rfl) rfl (re (gb ?_)))))))))))))))))))
 refine lo (fun kk S => ∃ (x2_0 : ByteArray) (x2_1 : Int) (x2_5 : List ByteArray) (Ax2_5 : Option Addr) (cx2_5 : Nat) (x2_6 : Int) (x2_7 : Int), spec_l2Cut.l0 kk x2_0 x2_1 x2_5 x2_6 x2_7 = some r0 ∧ S = ⟨[(0, .string x2_0), (1, .int .u8 x2_1), (5, .slice Ax2_5 x2_5.length cx2_5), (6, .int .i64 x2_6), (7, .int .i64 x2_7)], [], [.sl 2 .str Ax2_5 cx2_5 x2_5 1 true]⟩) (fun S hS => ?_) (fun n0 ih0 S hS => ?_) ⟨a0, a1, [], A8_1, c8_1, 0, 0, H, rfl⟩ (fun h => wk [0, 1, 5, 6, 7] [] [⟨0, 2, 1, true⟩] h)
 · clear H; obtain ⟨_, _, _, _, _, _, _, H, _⟩ := hS; rw [spec_l2Cut.l0] at H; cases H
 clear H
 obtain ⟨x2_0, x2_1, x2_5, Ax2_5, cx2_5, x2_6, x2_7, H, rfl⟩ := hS
 rw [spec_l2Cut.l0] at H
 refine gs (gs (rg (sv (EV.mv rfl) rfl (sv (EV.mv rfl) rfl (sv (EV.lns rfl) rfl (sv (EV.lss rfl rfl) rfl (re ?_)))))))
 revert H; refine ifsI ?_ ?_ <;> intro c2 H
 ·
  refine gt rfl (dT c2) (gk (gs (gb (gs (rg (sv (EV.mv rfl) rfl (sv (EV.mv rfl) rfl ?_)))))))
  revert H; refine ggI ?_; intro g3 H
  refine sv (EV.is rfl rfl g3 c2) rfl (sv (EV.mv rfl) rfl (sv (EV.eql rfl rfl) rfl (re (pr [0, 1, 5, 6, 7, 19] [] [0] rfl rfl rfl rfl ?_))))
  revert H; refine ifsI ?_ ?_ <;> intro c4 H
  ·
   refine gt rfl (dT c4) (gs (rg (sv (EV.mv rfl) rfl (sv (EV.mv rfl) rfl (sv (EV.mv rfl) rfl (sv (EV.mv rfl) rfl ?_))))))
   revert H; refine ggI ?_; intro g5 H
   revert H; refine ggI ?_; intro g6 H
   revert H; refine ggI ?_; intro g7 H
   refine sv (EV.ssb rfl rfl rfl g5 g6 g7) rfl (so rfl (op_lit (s := 1) (by_ := 16) .str ([x2_0.extract x2_6.toNat x2_7.toNat] : List ByteArray) [[]] [] 2 [.tmp 24] rfl rfl rfl rfl rfl rfl rfl rfl rfl rfl rfl rfl rfl dq rfl fun A25_8 c25_8 => ?_))
   revert H; refine ggI ?_; intro g9 H
   exact so rfl (op_app (k := .str) (s := 1) (by_ := 16) 0 1 rfl rfl rfl rfl (ap1 g9 dq) (ap1n g9 dq) (.inl rfl) true (fun _ => .inl rfl) rfl rfl fun A26_10 c26_10 => (nmE (en := [.sl 2 .str A25_8 c25_8 ([x2_0.extract x2_6.toNat x2_7.toNat] : List ByteArray) 2 true, .sl 2 .str A26_10 c26_10 (x2_5 ++ ([x2_0.extract x2_6.toNat x2_7.toNat] : List ByteArray)) 1 true]) (by kernel_rfl) (sv (EV.as rfl) rfl (re (pr [0, 1, 5, 7] [] [1] rfl rfl rfl rfl (rg (sv (EV.mv rfl) rfl (sv (EV.add rfl rfl) rfl (sv (EV.as rfl) rfl (re (ge (rg (sv (EV.mv rfl) rfl (sv (EV.add rfl rfl) rfl (sv (EV.as rfl) rfl (re (wk [0, 1, 5, 6, 7] [] [⟨0, 2, 1, true⟩] (ih0 _ (by omega) _ ⟨x2_0, x2_1, x2_5 ++ ([x2_0.extract x2_6.toNat x2_7.toNat] : List ByteArray), A26_10, c26_10, wrap64 (x2_7 + 1), wrap64 (x2_7 + 1), H, rfl⟩))))))))))))))))))
  ·
   exact gf rfl (dF c4) (gk (ge (rg (sv (EV.mv rfl) rfl (sv (EV.add rfl rfl) rfl (sv (EV.as rfl) rfl (re (wk [0, 1, 5, 6, 7] [] [⟨0, 2, 1, true⟩] (ih0 _ (by omega) _ ⟨x2_0, x2_1, x2_5, Ax2_5, cx2_5, x2_6, wrap64 (x2_7 + 1), H, rfl⟩)))))))))
 ·
  refine gf rfl (dF c2) (gx rfl (gs (rg (sv (EV.mv rfl) rfl (sv (EV.mv rfl) rfl (sv (EV.mv rfl) rfl ?_))))))
  revert H; refine ggI ?_; intro g11 H
  revert H; refine ggI ?_; intro g12 H
  refine sv (EV.ssl rfl rfl g11 g12) rfl (so rfl (op_lit (s := 1) (by_ := 16) .str ([x2_0.extract x2_6.toNat x2_0.size] : List ByteArray) [[]] [] 2 [.tmp 32] rfl rfl rfl rfl rfl rfl rfl rfl rfl rfl rfl rfl rfl dq rfl fun A33_13 c33_13 => ?_))
  revert H; refine ggI ?_; intro g14 H
  refine so rfl (op_app (k := .str) (s := 1) (by_ := 16) 0 1 rfl rfl rfl rfl (ap1 g14 dq) (ap1n g14 dq) (.inl rfl) true (fun _ => .inl rfl) rfl rfl fun A34_15 c34_15 => (nmE (en := [.sl 2 .str A33_13 c33_13 ([x2_0.extract x2_6.toNat x2_0.size] : List ByteArray) 2 true, .sl 2 .str A34_15 c34_15 (x2_5 ++ ([x2_0.extract x2_6.toNat x2_0.size] : List ByteArray)) 1 true]) (by kernel_rfl) (sv (EV.as rfl) rfl (re (pr [4] [] [1] rfl rfl rfl rfl ?_)))))
  cases H
  exact rt Try.func66 rfl (.tmp rfl .nil) rfl [] [⟨0, 2, 1, true⟩] rfl rfl rfl rfl rfl ⟨_, _, rfl, rfl, rfl⟩
end Go.Proofs.Ytamjndlkompeeaa.K
namespace Go.Proofs.Ytamjndlkompeeaa.K
open Go Go.RowKit
set_option linter.unusedVariables false
set_option linter.unusedSimpArgs false
mutual
def spec_ParseInt.j1 : Nat → ByteArray → Int → Int → Option (Int × Bool)
 | 0, _, _, _ => none
 | k + 1, x3_0, x3_4, x3_5 => if x3_5 > 9 then (some (0, false)) else (if (x3_0.size : Int) > 10 then (some (0, false)) else ((spec_FormatInt.f k x3_4).bind fun t5 => (if t5.toList = x3_0.toList then (some (x3_4, true)) else (some (0, false)))))
def spec_ParseInt.j0 : Nat → ByteArray → Int → Int → Option (Int × Bool)
 | 0, _, _, _ => none
 | k + 1, x2_0, x2_4, x2_5 => if (x2_0.size : Int) > 0 then (if 0 < (x2_0.size : Int) then (if (bt x2_0 0) = 45 then (spec_ParseInt.j1 k x2_0 (wrap64 (-x2_4)) x2_5) else (spec_ParseInt.j1 k x2_0 x2_4 x2_5)) else none) else (spec_ParseInt.j1 k x2_0 x2_4 x2_5)
def spec_ParseInt.l0 : Nat → ByteArray → Int → Int → Int → Option (Int × Bool)
 | 0, _, _, _, _ => none
 | k + 1, x4_0, x4_4, x4_5, x4_6 => if x4_6 < (x4_0.size : Int) then (if x4_6 < 11 then (if 0 ≤ x4_6 then (if (bt x4_0 x4_6) ≥ 48 then (if (bt x4_0 x4_6) ≤ 57 then (spec_ParseInt.l0 k x4_0 (wrap64 ((wrap64 (x4_4 * 10)) + (IntKind.i64.wrap (IntKind.u8.wrap ((bt x4_0 x4_6) - 48))))) (wrap64 (x4_5 + 1)) (wrap64 (x4_6 + 1))) else (spec_ParseInt.l0 k x4_0 x4_4 x4_5 (wrap64 (x4_6 + 1)))) else (spec_ParseInt.l0 k x4_0 x4_4 x4_5 (wrap64 (x4_6 + 1)))) else none) else (spec_ParseInt.j0 k x4_0 x4_4 x4_5)) else (spec_ParseInt.j0 k x4_0 x4_4 x4_5)
end
def spec_ParseInt.f (k : Nat) (a0 : ByteArray) : Option (Int × Bool) := spec_ParseInt.l0 k a0 0 0 0
set_option maxHeartbeats 4000000 in
set_option maxRecDepth 100000 in
theorem spec_ParseInt.ok (k : Nat) (a0 : ByteArray) (r0 : Int) (r1 : Bool) (H : spec_ParseInt.f k a0 = some (r0, r1)) : Fn Try.prog 67 [.string a0] [] [] (fun v bx en => v = .tuple #[.int .i64 r0, .bool r1] ∧ bx = [] ∧ en = []) := by
 refine fn_ 61 Try.func67 rfl rfl rfl (fun base T w0 => ?_)
 rw [spec_ParseInt.f] at H
 refine gs (rg (sv (EV.as rfl) rfl (sv (EV.as rfl) rfl (re (gs (rg (sv (EV.as rfl) rfl (re (gs (rg (sv (EV.as rfl) rfl (re ?_))))))))))))
 refine jo (fun S => ∃ (m : Nat) (x2_0 : ByteArray) (x2_4 : Int) (x2_5 : Int), spec_ParseInt.j0 m x2_0 x2_4 x2_5 = some (r0, r1) ∧ S = ⟨[(0, .string x2_0), (4, .int .i64 x2_4), (5, .int .i64 x2_5)], [], []⟩) (fun S hS => ?_) (fun jh0 => ?_)
 ·
  clear H
  obtain ⟨m1, x2_0, x2_4, x2_5, H, rfl⟩ := hS
  rcases m1 with _ | m1
  · rw [spec_ParseInt.j0] at H; cases H
  rw [spec_ParseInt.j0] at H
  refine jo (fun S => ∃ (m : Nat) (x3_0 : ByteArray) (x3_4 : Int) (x3_5 : Int), m ≤ m1 ∧ spec_ParseInt.j1 m x3_0 x3_4 x3_5 = some (r0, r1) ∧ S = ⟨[(0, .string x3_0), (4, .int .i64 x3_4), (5, .int .i64 x3_5)], [], []⟩) (fun S hS => ?_) (fun jh1 => ?_)
  ·
   clear H
   obtain ⟨m2, x3_0, x3_4, x3_5, lm2, H, rfl⟩ := hS
   rcases m2 with _ | m2
   · rw [spec_ParseInt.j1] at H; cases H
   rw [spec_ParseInt.j1] at H
   refine gs (gs (rg (sv (EV.mv rfl) rfl (sv (EV.gtr rfl rfl) rfl (sv (EV.mv rfl) rfl ?_)))))
   revert H; refine ifsI ?_ ?_ <;> intro c3 H
   ·
    refine ts 49 rfl (dT c3) (sk rfl (sk rfl (sk rfl (sv (EV.pt rfl rfl rfl) rfl (sv (EV.mv rfl) rfl (sk rfl (sk rfl (sk rfl (sk rfl (sv (EV.pt rfl rfl rfl) rfl (re (pr [4, 59] [] [] rfl rfl rfl rfl (gt rfl rfl (gs (rg (sv (EV.as rfl) rfl (sv (EV.as rfl) rfl (re ?_))))))))))))))))))
    cases H
    exact rt Try.func67 rfl (.tmp rfl (.tmp rfl .nil)) rfl [] [] rfl rfl rfl rfl rfl ⟨rfl, rfl, rfl⟩
   ·
    refine ts 49 rfl (dF c3) (sv (EV.mv rfl) rfl (sv (EV.lns rfl) rfl (sv (EV.gtr rfl rfl) rfl (sv (EV.pf rfl rfl rfl) rfl (sv (EV.mv rfl) rfl ?_)))))
    revert H; refine ifsI ?_ ?_ <;> intro c4 H
    ·
     refine ts 54 rfl (dT c4) (sk rfl (sk rfl (sk rfl (sk rfl (sv (EV.pt rfl rfl rfl) rfl (re (pr [4, 59] [] [] rfl rfl rfl rfl (gt rfl rfl (gs (rg (sv (EV.as rfl) rfl (sv (EV.as rfl) rfl (re ?_)))))))))))))
     cases H
     exact rt Try.func67 rfl (.tmp rfl (.tmp rfl .nil)) rfl [] [] rfl rfl rfl rfl rfl ⟨rfl, rfl, rfl⟩
    ·
     refine ts 54 rfl (dF c4) (sv (EV.mv rfl) rfl ?_)
     revert H; refine bdI ?_; rintro t5 A5 H
     refine so rfl (op_call (spec_FormatInt.ok m2 x3_4 _ A5) [] 1 rfl rfl rfl rfl rfl ?_)
     rintro _ _ _ ⟨rfl, rfl, rfl⟩
     refine sv (EV.mv rfl) rfl (sv (EV.nes rfl rfl) rfl (sv (EV.pf rfl rfl rfl) rfl (re (pr [4, 59] [] [] rfl rfl rfl rfl ?_))))
     revert H; refine ifsI ?_ ?_ <;> intro c6 H
     ·
      refine gf rfl (nF c6) (gk (gs (rg (sv (EV.mv rfl) rfl (sv (EV.as rfl) rfl (sv (EV.as rfl) rfl (re ?_)))))))
      cases H
      exact rt Try.func67 rfl (.tmp rfl (.tmp rfl .nil)) rfl [] [] rfl rfl rfl rfl rfl ⟨rfl, rfl, rfl⟩
     ·
      refine gt rfl (nT c6) (gs (rg (sv (EV.as rfl) rfl (sv (EV.as rfl) rfl (re ?_)))))
      cases H
      exact rt Try.func67 rfl (.tmp rfl (.tmp rfl .nil)) rfl [] [] rfl rfl rfl rfl rfl ⟨rfl, rfl, rfl⟩
  ·
   refine gs (rg (sv (EV.mv rfl) rfl (sv (EV.lns rfl) rfl (sv (EV.gtr rfl rfl) rfl (sv (EV.mv rfl) rfl ?_)))))
   revert H; refine ifsI ?_ ?_ <;> intro c7 H
   ·
    refine ts 40 rfl (dT c7) (sv (EV.mv rfl) rfl ?_)
    revert H; refine ggI ?_; intro g8 H
    refine sv (EV.is rfl rfl dq g8) rfl (sv (EV.eql rfl rfl) rfl (sv (EV.pt rfl rfl rfl) rfl (re (pr [0, 4, 5, 44] [] [] rfl rfl rfl rfl ?_))))
    revert H; refine ifsI ?_ ?_ <;> intro c9 H
    ·
     exact gt rfl (dT c9) (rg (sv (EV.mv rfl) rfl (sv (EV.ng rfl) rfl (sv (EV.as rfl) rfl (re (wk [0, 4, 5] [] [] (jh1 _ ⟨_, x2_0, wrap64 (-x2_4), x2_5, by omega, H, rfl⟩)))))))
    ·
     exact gf rfl (dF c9) (gk (wk [0, 4, 5] [] [] (jh1 _ ⟨_, x2_0, x2_4, x2_5, by omega, H, rfl⟩)))
   ·
    exact ts 40 rfl (dF c7) (sk rfl (sk rfl (sk rfl (sv (EV.pf rfl rfl rfl) rfl (re (pr [0, 4, 5, 44] [] [] rfl rfl rfl rfl (gf rfl rfl (gk (wk [0, 4, 5] [] [] (jh1 _ ⟨_, x2_0, x2_4, x2_5, by omega, H, rfl⟩))))))))))
 ·
  refine gs (rg (sv (EV.as rfl) rfl (re (gb ?_))))
  refine lo (fun kk S => ∃ (x4_0 : ByteArray) (x4_4 : Int) (x4_5 : Int) (x4_6 : Int), spec_ParseInt.l0 kk x4_0 x4_4 x4_5 x4_6 = some (r0, r1) ∧ S = ⟨[(0, .string x4_0), (4, .int .i64 x4_4), (5, .int .i64 x4_5), (6, .int .i64 x4_6)], [], []⟩) (fun S hS => ?_) (fun n0 ih0 S hS => ?_) ⟨a0, 0, 0, 0, H, rfl⟩ (fun h => wk [0, 4, 5, 6] [] [] h)
  · clear H; obtain ⟨_, _, _, _, H, _⟩ := hS; rw [spec_ParseInt.l0] at H; cases H
  clear H
  obtain ⟨x4_0, x4_4, x4_5, x4_6, H, rfl⟩ := hS
  rw [spec_ParseInt.l0] at H
  refine gs (gs (rg (sv (EV.mv rfl) rfl (sv (EV.mv rfl) rfl (sv (EV.lns rfl) rfl (sv (EV.lss rfl rfl) rfl (sv (EV.mv rfl) rfl ?_)))))))
  revert H; refine ifsI ?_ ?_ <;> intro c10 H
  ·
   refine ts 11 rfl (dT c10) (sv (EV.mv rfl) rfl (sv (EV.lss rfl rfl) rfl (sv (EV.pt rfl rfl rfl) rfl (re ?_))))
   revert H; refine ifsI ?_ ?_ <;> intro c11 H
   ·
    refine gt rfl (dT c11) (gk (gs (gb (gs (rg (sv (EV.mv rfl) rfl (sv (EV.mv rfl) rfl ?_)))))))
    revert H; refine ggI ?_; intro g12 H
    refine sv (EV.is rfl rfl g12 c10) rfl (sv (EV.geq rfl rfl) rfl (sv (EV.mv rfl) rfl ?_))
    revert H; refine ifsI ?_ ?_ <;> intro c13 H
    ·
     refine ts 21 rfl (dT c13) (sv (EV.mv rfl) rfl (sv (EV.mv rfl) rfl (sv (EV.is rfl rfl g12 c10) rfl (sv (EV.leq rfl rfl) rfl (sv (EV.pt rfl rfl rfl) rfl (re (pr [0, 4, 5, 6, 12, 13, 22, 23, 24, 25, 26] [] [] rfl rfl rfl rfl ?_)))))))
     revert H; refine ifsI ?_ ?_ <;> intro c14 H
     ·
      exact gt rfl (dT c14) (gs (rg (sv (EV.mv rfl) rfl (sv (EV.mul rfl rfl) rfl (sv (EV.mv rfl) rfl (sv (EV.mv rfl) rfl (sv (EV.is rfl rfl g12 c10) rfl (sv (EV.subk rfl rfl) rfl (sv (EV.cv (k' := .i64) rfl) rfl (sv (EV.add rfl rfl) rfl (sv (EV.as rfl) rfl (re (pr [0, 4, 5, 6, 12, 13, 22, 23, 24, 25] [] [] rfl rfl rfl rfl (rg (sv (EV.mv rfl) rfl (sv (EV.add rfl rfl) rfl (sv (EV.as rfl) rfl (re (ge (rg (sv (EV.mv rfl) rfl (sv (EV.add rfl rfl) rfl (sv (EV.as rfl) rfl (re (wk [0, 4, 5, 6] [] [] (ih0 _ (by omega) _ ⟨x4_0, wrap64 ((wrap64 (x4_4 * 10)) + (IntKind.i64.wrap (IntKind.u8.wrap ((bt x4_0 x4_6) - 48)))), wrap64 (x4_5 + 1), wrap64 (x4_6 + 1), H, rfl⟩))))))))))))))))))))))))))
     ·
      exact gf rfl (dF c14) (gk (ge (rg (sv (EV.mv rfl) rfl (sv (EV.add rfl rfl) rfl (sv (EV.as rfl) rfl (re (wk [0, 4, 5, 6] [] [] (ih0 _ (by omega) _ ⟨x4_0, x4_4, x4_5, wrap64 (x4_6 + 1), H, rfl⟩)))))))))
    ·
     exact ts 21 rfl (dF c13) (sk rfl (sk rfl (sk rfl (sk rfl (sv (EV.pf rfl rfl rfl) rfl (re (pr [0, 4, 5, 6, 12, 13, 26] [] [] rfl rfl rfl rfl (gf rfl rfl (gk (ge (rg (sv (EV.mv rfl) rfl (sv (EV.add rfl rfl) rfl (sv (EV.as rfl) rfl (re (wk [0, 4, 5, 6] [] [] (ih0 _ (by omega) _ ⟨x4_0, x4_4, x4_5, wrap64 (x4_6 + 1), H, rfl⟩)))))))))))))))))
   ·
    exact gf rfl (dF c11) (gx rfl (wk [0, 4, 5] [] [] (jh0 _ ⟨_, x4_0, x4_4, x4_5, H, rfl⟩)))
  ·
   exact ts 11 rfl (dF c10) (sk rfl (sk rfl (sv (EV.pf rfl rfl rfl) rfl (re (pr [0, 4, 5, 6, 14] [] [] rfl rfl rfl rfl (gf rfl rfl (gx rfl (wk [0, 4, 5] [] [] (jh0 _ ⟨_, x4_0, x4_4, x4_5, H, rfl⟩)))))))))
end Go.Proofs.Ytamjndlkompeeaa.K
namespace Go.Proofs.Ytamjndlkompeeaa.K
open Go Go.RowKit
set_option linter.unusedVariables false
set_option linter.unusedSimpArgs false
def spec_ParseRow.f (k : Nat) (a0 : ByteArray) : Option (Int × Int × Int × Bool) := (spec_l2Cut.f k a0 46).bind fun t1 => (if (t1.length : Int) = 3 then (if 0 < (t1.length : Int) then ((spec_ParseInt.f k (rdOf ByteArray.empty t1 0)).bind fun bt4 => (if 1 < (t1.length : Int) then ((spec_ParseInt.f k (rdOf ByteArray.empty t1 1)).bind fun bt6 => (if 2 < (t1.length : Int) then ((spec_ParseInt.f k (rdOf ByteArray.empty t1 2)).bind fun bt8 => ((spec_FormatRow.f k bt4.1 bt6.1 bt8.1).bind fun t9 => (if t9.toList = a0.toList then (some (bt4.1, bt6.1, bt8.1, true)) else (some (0, 0, 0, false))))) else none)) else none)) else none) else (some (0, 0, 0, false)))
set_option maxHeartbeats 4000000 in
set_option maxRecDepth 100000 in
theorem spec_ParseRow.ok (k : Nat) (a0 : ByteArray) (r0 : Int) (r1 : Int) (r2 : Int) (r3 : Bool) (H : spec_ParseRow.f k a0 = some (r0, r1, r2, r3)) : Fn Try.prog 110 [.string a0] [] [] (fun v bx en => v = .tuple #[.agg #[.int .i64 r0, .int .i64 r1, .int .i64 r2], .bool r3] ∧ bx = [] ∧ en = []) := by
 refine fn_ 43 Try.func110 rfl rfl rfl (fun base T w0 => ?_)
 rw [spec_ParseRow.f] at H
 refine gs (rg (so rfl (op_alloc (cs := [.int .i64 0, .int .i64 0, .int .i64 0]) (by kernel_rfl) rfl fun b2 => (sv (EV.as rfl) rfl (re (gs (rg (sv (EV.mv rfl) rfl ?_))))))))
 revert H; refine bdI ?_; rintro t1 A1 H
 refine so rfl (op_call (spec_l2Cut.ok k a0 46 _ A1) [] 1 rfl rfl rfl rfl rfl ?_)
 rintro _ _ _ ⟨At1, ct1, rfl, rfl, rfl⟩
 refine sv (EV.as rfl) rfl (re (gs (gs (rg (sv (EV.mv rfl) rfl (sv (EV.ln rfl) rfl (sv (EV.neq rfl rfl) rfl (re ?_))))))))
 revert H; refine ifsI ?_ ?_ <;> intro c2 H
 ·
  refine gf rfl (nF c2) (gk (gs (rg (sv (EV.bd (v := .agg #[.int .i64 0, .int .i64 0, .int .i64 0]) rfl (by kernel_rfl)) rfl (so rfl (op_alloc (cs := [.int .i64 0, .int .i64 0, .int .i64 0]) (by kernel_rfl) rfl fun b5 => (so rfl (op_st (cs' := [.int .i64 0, .int .i64 0, .int .i64 0]) 1 rfl rfl rfl rfl rfl rfl (re (pr [0, 2, 4, 5] [0, 1] [0] rfl rfl rfl rfl (gs (rg (sv (EV.mv rfl) rfl ?_)))))))))))))
  revert H; refine ggI ?_; intro g3 H
  refine sv (EV.ix 0 rfl rfl rfl dq g3 rfl) rfl (sv (EV.le (v := .string (rdOf ByteArray.empty t1 0)) 0 0 none 0 ByteArray.empty rfl rfl rfl dq g3 rfl rfl rfl) rfl ?_)
  revert H; refine bdI ?_; rintro ⟨t4_0, t4_1⟩ A4 H
  refine so rfl (op_call (spec_ParseInt.ok k (rdOf ByteArray.empty t1 0) _ _ A4) [] 3 rfl rfl rfl rfl rfl ?_)
  rintro _ _ _ ⟨rfl, rfl, rfl⟩
  refine sv (EV.mv rfl) rfl (sv (EV.ex rfl rfl) rfl (sv (EV.ex rfl rfl) rfl (sv (EV.fa 0 rfl) rfl (so rfl (op_st (cs' := [.int .i64 t4_0, .int .i64 0, .int .i64 0]) 1 rfl rfl rfl rfl rfl rfl (re (pr [0, 2, 4, 5] [0, 1] [0] rfl rfl rfl rfl (gs (rg (sv (EV.mv rfl) rfl ?_))))))))))
  revert H; refine ggI ?_; intro g5 H
  refine sv (EV.ix 0 rfl rfl rfl dq g5 rfl) rfl (sv (EV.le (v := .string (rdOf ByteArray.empty t1 1)) 1 0 none 0 ByteArray.empty rfl rfl rfl dq g5 rfl rfl rfl) rfl ?_)
  revert H; refine bdI ?_; rintro ⟨t6_0, t6_1⟩ A6 H
  refine so rfl (op_call (spec_ParseInt.ok k (rdOf ByteArray.empty t1 1) _ _ A6) [] 3 rfl rfl rfl rfl rfl ?_)
  rintro _ _ _ ⟨rfl, rfl, rfl⟩
  refine sv (EV.mv rfl) rfl (sv (EV.ex rfl rfl) rfl (sv (EV.ex rfl rfl) rfl (sv (EV.fa 1 rfl) rfl (so rfl (op_st (cs' := [.int .i64 t4_0, .int .i64 t6_0, .int .i64 0]) 1 rfl rfl rfl rfl rfl rfl (re (pr [0, 2, 4, 5] [0, 1] [0] rfl rfl rfl rfl (gs (rg (sv (EV.mv rfl) rfl ?_))))))))))
  revert H; refine ggI ?_; intro g7 H
  refine sv (EV.ix 0 rfl rfl rfl dq g7 rfl) rfl (sv (EV.le (v := .string (rdOf ByteArray.empty t1 2)) 2 0 none 0 ByteArray.empty rfl rfl rfl dq g7 rfl rfl rfl) rfl ?_)
  revert H; refine bdI ?_; rintro ⟨t8_0, t8_1⟩ A8 H
  refine so rfl (op_call (spec_ParseInt.ok k (rdOf ByteArray.empty t1 2) _ _ A8) [] 3 rfl rfl rfl rfl rfl ?_)
  rintro _ _ _ ⟨rfl, rfl, rfl⟩
  refine sv (EV.mv rfl) rfl (sv (EV.ex rfl rfl) rfl (sv (EV.ex rfl rfl) rfl (sv (EV.fa 2 rfl) rfl (so rfl (op_st (cs' := [.int .i64 t4_0, .int .i64 t6_0, .int .i64 t8_0]) 1 rfl rfl rfl rfl rfl rfl (re (pr [0, 2, 5] [0, 1] [] rfl rfl rfl rfl (gs (gs (rg (sv (EV.ld (v := .agg #[.int .i64 t4_0, .int .i64 t6_0, .int .i64 t8_0]) 1 (some 3) rfl rfl rfl) rfl ?_)))))))))))
  revert H; refine bdI ?_; rintro t9 A9 H
  refine so rfl (op_call (spec_FormatRow.ok k t4_0 t6_0 t8_0 _ A9) [] 1 rfl rfl rfl rfl rfl ?_)
  rintro _ _ _ ⟨rfl, rfl, rfl⟩
  refine sv (EV.mv rfl) rfl (sv (EV.nes rfl rfl) rfl (re ?_))
  revert H; refine ifsI ?_ ?_ <;> intro c10 H
  ·
   refine gf rfl (nF c10) (gk (gs (rg (sv (EV.ld (v := .agg #[.int .i64 t4_0, .int .i64 t6_0, .int .i64 t8_0]) 1 (some 3) rfl rfl rfl) rfl (so rfl (op_st (cs' := [.int .i64 t4_0, .int .i64 t6_0, .int .i64 t8_0]) 0 rfl rfl rfl rfl rfl rfl (sv (EV.as rfl) rfl (re (pr [2, 3] [0] [] rfl rfl rfl rfl ?_)))))))))
   cases H
   exact rt Try.func110 rfl (.cell 0 (some 3) rfl rfl rfl (.tmp rfl .nil)) rfl [] [] rfl rfl rfl rfl rfl ⟨rfl, rfl, rfl⟩
  ·
   refine gt rfl (nT c10) (gs (rg (sv (EV.bd (v := .agg #[.int .i64 0, .int .i64 0, .int .i64 0]) rfl (by kernel_rfl)) rfl (so rfl (op_st (cs' := [.int .i64 0, .int .i64 0, .int .i64 0]) 0 rfl rfl rfl rfl rfl rfl (sv (EV.as rfl) rfl (re (pr [2, 3] [0] [] rfl rfl rfl rfl ?_))))))))
   cases H
   exact rt Try.func110 rfl (.cell 0 (some 3) rfl rfl rfl (.tmp rfl .nil)) rfl [] [] rfl rfl rfl rfl rfl ⟨rfl, rfl, rfl⟩
 ·
  refine gt rfl (nT c2) (gs (rg (sv (EV.bd (v := .agg #[.int .i64 0, .int .i64 0, .int .i64 0]) rfl (by kernel_rfl)) rfl (so rfl (op_st (cs' := [.int .i64 0, .int .i64 0, .int .i64 0]) 0 rfl rfl rfl rfl rfl rfl (sv (EV.as rfl) rfl (re (pr [2, 3] [0] [] rfl rfl rfl rfl ?_))))))))
  cases H
  exact rt Try.func110 rfl (.cell 0 (some 3) rfl rfl rfl (.tmp rfl .nil)) rfl [] [] rfl rfl rfl rfl rfl ⟨rfl, rfl, rfl⟩
end Go.Proofs.Ytamjndlkompeeaa.K
namespace Go.Proofs.Ytamjndlkompeeaa.K
open Go Go.RowKit
set_option linter.unusedVariables false
set_option linter.unusedSimpArgs false
mutual
def spec_ParseRows.j0 : Nat → (List S99) → Option ((List S99) × Bool)
 | 0, _ => none
 | k + 1, x2_4 => (spec_AreValidRows.f k x2_4).bind fun t4 => (if t4 = true then (some (x2_4, true)) else (some ([], false)))
def spec_ParseRows.l0 : Nat → ByteArray → (List S99) → (List ByteArray) → Int → Option ((List S99) × Bool)
 | 0, _, _, _, _ => none
 | k + 1, x3_0, x3_4, x3_5, x3_6 => if x3_6 < (x3_5.length : Int) then (if x3_0.toList = (⟨#[]⟩ : ByteArray).toList then (spec_ParseRows.j0 k x3_4) else (if 0 ≤ x3_6 then ((spec_ParseRow.f k (rdOf ByteArray.empty x3_5 x3_6)).bind fun bt10 => (if bt10.2.2.2 = true then (if x3_4.length < 5864062014805 then (spec_ParseRows.l0 k x3_0 (x3_4 ++ ([(⟨bt10.1, bt10.2.1, bt10.2.2.1⟩ : S99)] : List S99)) x3_5 (wrap64 (x3_6 + 1))) else none) else (some ([], false)))) else none)) else (spec_ParseRows.j0 k x3_4)
end
def spec_ParseRows.f (k : Nat) (a0 : ByteArray) : Option ((List S99) × Bool) := (spec_l2Cut.f k a0 32).bind fun t2 => (spec_ParseRows.l0 k a0 [] t2 0)
set_option maxHeartbeats 4000000 in
set_option maxRecDepth 100000 in
theorem spec_ParseRows.ok (k : Nat) (a0 : ByteArray) (r0 : List S99) (r1 : Bool) (H : spec_ParseRows.f k a0 = some (r0, r1)) : Fn Try.prog 68 [.string a0] [] [] (fun v bx en => ∃ A0 c0, v = .tuple #[.slice A0 r0.length c0, .bool r1] ∧ bx = [] ∧ en = [.sl 2 k99 A0 c0 r0 1 true]) := by
 refine fn_ 42 Try.func68 rfl rfl rfl (fun base T w0 => ?_)
 rw [spec_ParseRows.f] at H
 refine gs (rg (sv (EV.as rfl) rfl (sv (EV.as rfl) rfl (re (gs (rg (so rfl (op_lit (s := 3) (by_ := 24) k99 ([] : List S99) [] [] 1 [] rfl rfl rfl rfl rfl rfl rfl rfl rfl rfl rfl rfl rfl dq rfl fun A9_1 c9_1 => (sv (EV.as rfl) rfl (re (gs (rg (sv (EV.mv rfl) rfl ?_)))))))))))))
 revert H; refine bdI ?_; rintro t2 A2 H
 refine so rfl (op_call (spec_l2Cut.ok k a0 32 _ A2) [] 2 rfl rfl rfl rfl rfl ?_)
 rintro _ _ _ ⟨At2, ct2, rfl, rfl, rfl⟩
 refine sv (EV.as rfl) rfl (re ?_)
 refine jo (fun S => ∃ (m : Nat) (x2_4 : List S99) (Ax2_4 : Option Addr) (cx2_4 : Nat), spec_ParseRows.j0 m x2_4 = some (r0, r1) ∧ S = ⟨[(4, .slice Ax2_4 x2_4.length cx2_4)], [], [.sl 2 k99 Ax2_4 cx2_4 x2_4 1 true]⟩) (fun S hS => ?_) (fun jh0 => ?_)
 ·
  clear H
  obtain ⟨m3, x2_4, Ax2_4, cx2_4, H, rfl⟩ := hS
  rcases m3 with _ | m3
  · rw [spec_ParseRows.j0] at H; cases H
  rw [spec_ParseRows.j0] at H
  refine gs (gs (rg (sv (EV.mv rfl) rfl ?_)))
  revert H; refine bdI ?_; rintro t4 A4 H
  refine so rfl (op_call (spec_AreValidRows.ok m3 x2_4 Ax2_4 cx2_4 _ A4) [⟨0, 0, 0, false⟩] 2 rfl rfl rfl rfl rfl ?_)
  rintro _ _ _ ⟨rfl, rfl, rfl⟩
  refine sv (EV.nt rfl) rfl (re ?_)
  revert H; refine ifsI ?_ ?_ <;> intro c5 H
  ·
   subst c5
   refine gf rfl rfl (gk (gs (rg (sv (EV.mv rfl) rfl (sv (EV.as rfl) rfl (sv (EV.as rfl) rfl (re ?_)))))))
   cases H
   exact rt Try.func68 rfl (.tmp rfl (.tmp rfl .nil)) rfl [] [⟨0, 2, 1, true⟩] rfl rfl rfl rfl rfl ⟨_, _, rfl, rfl, rfl⟩
  ·
   obtain rfl := bF c5
   refine gt rfl rfl (gs (rg (so rfl (op_lit (s := 3) (by_ := 24) k99 ([] : List S99) [] [] 2 [] rfl rfl rfl rfl rfl rfl rfl rfl rfl rfl rfl rfl rfl dq rfl fun A40_6 c40_6 => (sv (EV.as rfl) rfl (sv (EV.as rfl) rfl (re ?_)))))))
   cases H
   exact rt Try.func68 rfl (.tmp rfl (.tmp rfl .nil)) rfl [] [⟨1, 2, 1, true⟩] rfl rfl rfl rfl rfl ⟨_, _, rfl, rfl, rfl⟩
 ·
  refine gs (rg (sv (EV.as rfl) rfl (re (gb ?_))))
  refine lo (fun kk S => ∃ (x3_0 : ByteArray) (x3_4 : List S99) (Ax3_4 : Option Addr) (cx3_4 : Nat) (x3_5 : List ByteArray) (Ax3_5 : Option Addr) (cx3_5 : Nat) (x3_6 : Int), spec_ParseRows.l0 kk x3_0 x3_4 x3_5 x3_6 = some (r0, r1) ∧ S = ⟨[(0, .string x3_0), (4, .slice Ax3_4 x3_4.length cx3_4), (5, .slice Ax3_5 x3_5.length cx3_5), (6, .int .i64 x3_6)], [], [.sl 2 k99 Ax3_4 cx3_4 x3_4 1 true, .sl 2 .str Ax3_5 cx3_5 x3_5 2 true]⟩) (fun S hS => ?_) (fun n0 ih0 S hS => ?_) ⟨a0, [], A9_1, c9_1, t2, At2, ct2, 0, H, rfl⟩ (fun h => wk [0, 4, 5, 6] [] [⟨0, 2, 1, true⟩, ⟨1, 2, 2, true⟩] h)
  · clear H; obtain ⟨_, _, _, _, _, _, _, _, H, _⟩ := hS; rw [spec_ParseRows.l0] at H; cases H
  clear H
  obtain ⟨x3_0, x3_4, Ax3_4, cx3_4, x3_5, Ax3_5, cx3_5, x3_6, H, rfl⟩ := hS
  rw [spec_ParseRows.l0] at H
  refine gs (gs (rg (sv (EV.mv rfl) rfl (sv (EV.mv rfl) rfl (sv (EV.ln rfl) rfl (sv (EV.lss rfl rfl) rfl (sv (EV.mv rfl) rfl ?_)))))))
  revert H; refine ifsI ?_ ?_ <;> intro c7 H
  ·
   refine ts 16 rfl (dT c7) (sv (EV.mv rfl) rfl (sv (EV.nes rfl rfl) rfl (sv (EV.pt rfl rfl rfl) rfl (re ?_))))
   revert H; refine ifsI ?_ ?_ <;> intro c8 H
   ·
    exact gf rfl (nF c8) (gx rfl (wk [4] [] [⟨0, 2, 1, true⟩] (jh0 _ ⟨_, x3_4, Ax3_4, cx3_4, H, rfl⟩)))
   ·
    refine gt rfl (nT c8) (gk (gs (gb (gs (rg (sv (EV.mv rfl) rfl (sv (EV.mv rfl) rfl ?_)))))))
    revert H; refine ggI ?_; intro g9 H
    refine sv (EV.ix 1 rfl rfl rfl g9 c7 rfl) rfl (sv (EV.le (v := .string (rdOf ByteArray.empty x3_5 x3_6)) x3_6 0 none 1 ByteArray.empty rfl rfl rfl g9 c7 rfl rfl rfl) rfl ?_)
    revert H; refine bdI ?_; rintro ⟨t10_0, t10_1, t10_2, t10_3⟩ A10 H
    refine so rfl (op_call (spec_ParseRow.ok n0 (rdOf ByteArray.empty x3_5 x3_6) _ _ _ _ A10) [] 3 rfl rfl rfl rfl rfl ?_)
    rintro _ _ _ ⟨rfl, rfl, rfl⟩
    refine sv (EV.mv rfl) rfl (sv (EV.ex rfl rfl) rfl (sv (EV.ex rfl rfl) rfl (so rfl (op_alloc (cs := [.int .i64 0, .int .i64 0, .int .i64 0]) (by kernel_rfl) rfl fun b7 => (so rfl (op_st (cs' := [.int .i64 t10_0, .int .i64 t10_1, .int .i64 t10_2]) 0 rfl rfl rfl rfl rfl rfl (sv (EV.as rfl) rfl (re (pr [0, 4, 5, 6, 7, 8, 17, 18] [0] [0, 1] rfl rfl rfl rfl (gs (gs (rg (sv (EV.mv rfl) rfl (sv (EV.nt rfl) rfl (re ?_)))))))))))))))
    revert H; refine ifsI ?_ ?_ <;> intro c11 H
    ·
     subst c11
     refine gf rfl rfl (gk (rg (sv (EV.mv rfl) rfl (sv (EV.ld (v := .agg #[.int .i64 t10_0, .int .i64 t10_1, .int .i64 t10_2]) 0 (some 3) rfl rfl rfl) rfl (so rfl (op_lit (s := 3) (by_ := 24) k99 ([(⟨t10_0, t10_1, t10_2⟩ : S99)] : List S99) [[]] [] 3 [.tmp 34] rfl rfl rfl rfl rfl rfl rfl rfl rfl rfl rfl rfl rfl dq rfl fun A35_12 c35_12 => ?_))))))
     revert H; refine ggI ?_; intro g13 H
     exact so rfl (op_app (k := k99) (s := 3) (by_ := 24) 0 2 rfl rfl rfl rfl (ap1 g13 dq) (ap1n g13 dq) (.inl rfl) true (fun _ => .inl rfl) rfl rfl fun A36_14 c36_14 => (nmE (en := [.sl 2 .str Ax3_5 cx3_5 x3_5 2 true, .sl 2 k99 A35_12 c35_12 ([(⟨t10_0, t10_1, t10_2⟩ : S99)] : List S99) 3 true, .sl 2 k99 A36_14 c36_14 (x3_4 ++ ([(⟨t10_0, t10_1, t10_2⟩ : S99)] : List S99)) 1 true]) (by kernel_rfl) (sv (EV.as rfl) rfl (re (pr [0, 4, 5, 6, 17, 18] [] [0, 2] rfl rfl rfl rfl (ge (rg (sv (EV.mv rfl) rfl (sv (EV.add rfl rfl) rfl (sv (EV.as rfl) rfl (re (wk [0, 4, 5, 6] [] [⟨1, 2, 1, true⟩, ⟨0, 2, 2, true⟩] (ih0 _ (by omega) _ ⟨x3_0, x3_4 ++ ([(⟨t10_0, t10_1, t10_2⟩ : S99)] : List S99), A36_14, c36_14, x3_5, Ax3_5, cx3_5, wrap64 (x3_6 + 1), H, rfl⟩)))))))))))))
    ·
     obtain rfl := bF c11
     refine gt rfl rfl (gs (rg (so rfl (op_lit (s := 3) (by_ := 24) k99 ([] : List S99) [] [] 3 [] rfl rfl rfl rfl rfl rfl rfl rfl rfl rfl rfl rfl rfl dq rfl fun A32_15 c32_15 => (sv (EV.as rfl) rfl (sv (EV.as rfl) rfl (re (pr [2, 3] [] [2] rfl rfl rfl rfl ?_))))))))
     cases H
     exact rt Try.func68 rfl (.tmp rfl (.tmp rfl .nil)) rfl [] [⟨0, 2, 1, true⟩] rfl rfl rfl rfl rfl ⟨_, _, rfl, rfl, rfl⟩
  ·
   exact ts 16 rfl (dF c7) (sk rfl (sk rfl (sv (EV.pf rfl rfl rfl) rfl (re (pr [0, 4, 5, 6, 19] [] [0, 1] rfl rfl rfl rfl (gf rfl rfl (gx rfl (wk [4] [] [⟨0, 2, 1, true⟩] (jh0 _ ⟨_, x3_4, Ax3_4, cx3_4, H, rfl⟩)))))))))
end Go.Proofs.Ytamjndlkompeeaa.K
namespace Go.Proofs.Ytamjndlkompeeaa.K
open Go Go.RowKit
set_option linter.unusedVariables false
set_option linter.unusedSimpArgs false
def spec_ParseTask.l0 : Nat → ByteArray → (List ByteArray) → Int → Int → (List S99) → (List S99) → (List Bool) → Int → Int → (List S99) → (List S99) → (List Bool) → Int → Option (Int × (List S99) × (List S99) × (List Bool) × Int × Bool)
 | 0, _, _, _, _, _, _, _, _, _, _, _, _, _ => none
 | k + 1, x2_0, x2_4, x2_6, x2_2_0, x2_2_1, x2_2_2, x2_2_3, x2_2_4, x2_5_0, x2_5_1, x2_5_2, x2_5_3, x2_5_4 => if 3 < (x2_4.length : Int) then (if x2_6 < ((rdOf ByteArray.empty x2_4 3).size : Int) then (if 0 ≤ x2_6 then (if x2_5_3.length < 140737488355328 then (spec_ParseTask.l0 k x2_0 x2_4 (wrap64 (x2_6 + 1)) x2_2_0 x2_2_1 x2_2_2 x2_2_3 x2_2_4 x2_5_0 x2_5_1 x2_5_2 (x2_5_3 ++ ([decide ((bt (rdOf ByteArray.empty x2_4 3) x2_6) = 49)] : List Bool)) x2_5_4) else none) else none) else (if 4 < (x2_4.length : Int) then ((spec_ParseInt.f k (rdOf ByteArray.empty x2_4 4)).bind fun bt16 => ((spec_FormatTask.f k x2_5_0 x2_5_1 x2_5_2 x2_5_3 bt16.1).bind fun t17 => (if t17.toList = x2_0.toList then (some (x2_5_0, x2_5_1, x2_5_2, x2_5_3, bt16.1, true)) else (some (0, [], [], [], 0, false))))) else none)) else none
def spec_ParseTask.f (k : Nat) (a0 : ByteArray) : Option (Int × (List S99) × (List S99) × (List Bool) × Int × Bool) := (spec_l2Cut.f k a0 59).bind fun t1 => (if (t1.length : Int) = 5 then (if 0 < (t1.length : Int) then ((spec_ParseInt.f k (rdOf ByteArray.empty t1 0)).bind fun bt4 => (if 1 < (t1.length : Int) then ((spec_ParseRows.f k (rdOf ByteArray.empty t1 1)).bind fun bt6 => (if 2 < (t1.length : Int) then ((spec_ParseRows.f k (rdOf ByteArray.empty t1 2)).bind fun bt8 => (spec_ParseTask.l0 k a0 t1 0 0 [] [] [] 0 bt4.1 bt6.1 bt8.1 [] 0)) else none)) else none)) else none) else (some (0, [], [], [], 0, false)))
set_option maxHeartbeats 4000000 in
set_option maxRecDepth 100000 in
theorem spec_ParseTask.ok (k : Nat) (a0 : ByteArray) (r0 : Int) (r1 : List S99) (r2 : List S99) (r3 : List Bool) (r4 : Int) (r5 : Bool) (H : spec_ParseTask.f k a0 = some (r0, r1, r2, r3, r4, r5)) : Fn Try.prog 12 [.string a0] [] [] (fun v bx en => ∃ A1 c1 A2 c2 A3 c3, v = .tuple #[.agg #[.int .i64 r0, .slice A1 r1.length c1, .slice A2 r2.length c2, .slice A3 r3.length c3, .int .i64 r4], .bool r5] ∧ bx = [] ∧ en = [.sl 2 k99 A1 c1 r1 1 true, .sl 2 k99 A2 c2 r2 2 true, .sl 2 .bool A3 c3 r3 3 true]) := by
 refine fn_ 71 Try.func12 rfl rfl rfl (fun base T w0 => ?_)
 rw [spec_ParseTask.f] at H
 refine gs (rg (so rfl (op_alloc (cs := [.int .i64 0, .slice none 0 0, .slice none 0 0, .slice none 0 0, .int .i64 0]) (by kernel_rfl) rfl fun b2 => (sv (EV.as rfl) rfl (re (gs (rg (sv (EV.mv rfl) rfl ?_))))))))
 revert H; refine bdI ?_; rintro t1 A1 H
 refine so rfl (op_call (spec_l2Cut.ok k a0 59 _ A1) [] 1 rfl rfl rfl rfl rfl ?_)
 rintro _ _ _ ⟨At1, ct1, rfl, rfl, rfl⟩
 refine sv (EV.as rfl) rfl (re (gs (gs (rg (sv (EV.mv rfl) rfl (sv (EV.ln rfl) rfl (sv (EV.neq rfl rfl) rfl (re ?_))))))))
 revert H; refine ifsI ?_ ?_ <;> intro c2 H
 ·
  refine gf rfl (nF c2) (gk (gs (rg (sv (EV.bd (v := .agg #[.int .i64 0, .slice none 0 0, .slice none 0 0, .slice none 0 0, .int .i64 0]) rfl (by kernel_rfl)) rfl (so rfl (op_alloc (cs := [.int .i64 0, .slice none 0 0, .slice none 0 0, .slice none 0 0, .int .i64 0]) (by kernel_rfl) rfl fun b5 => (so rfl (op_st (cs' := [.int .i64 0, .slice none 0 0, .slice none 0 0, .slice none 0 0, .int .i64 0]) 1 rfl rfl rfl rfl rfl rfl (re (pr [0, 2, 4, 5] [0, 1] [0] rfl rfl rfl rfl (gs (rg (sv (EV.mv rfl) rfl ?_)))))))))))))
  revert H; refine ggI ?_; intro g3 H
  refine sv (EV.ix 0 rfl rfl rfl dq g3 rfl) rfl (sv (EV.le (v := .string (rdOf ByteArray.empty t1 0)) 0 0 none 0 ByteArray.empty rfl rfl rfl dq g3 rfl rfl rfl) rfl ?_)
  revert H; refine bdI ?_; rintro ⟨t4_0, t4_1⟩ A4 H
  refine so rfl (op_call (spec_ParseInt.ok k (rdOf ByteArray.empty t1 0) _ _ A4) [] 3 rfl rfl rfl rfl rfl ?_)
  rintro _ _ _ ⟨rfl, rfl, rfl⟩
  refine sv (EV.mv rfl) rfl (sv (EV.ex rfl rfl) rfl (sv (EV.ex rfl rfl) rfl (sv (EV.fa 0 rfl) rfl (so rfl (op_st (cs' := [.int .i64 t4_0, .slice none 0 0, .slice none 0 0, .slice none 0 0, .int .i64 0]) 1 rfl rfl rfl rfl rfl rfl (re (pr [0, 2, 4, 5] [0, 1] [0] rfl rfl rfl rfl (gs (rg (sv (EV.mv rfl) rfl ?_))))))))))
  revert H; refine ggI ?_; intro g5 H
  refine sv (EV.ix 0 rfl rfl rfl dq g5 rfl) rfl (sv (EV.le (v := .string (rdOf ByteArray.empty t1 1)) 1 0 none 0 ByteArray.empty rfl rfl rfl dq g5 rfl rfl rfl) rfl ?_)
  revert H; refine bdI ?_; rintro ⟨t6_0, t6_1⟩ A6 H
  refine so rfl (op_call (spec_ParseRows.ok k (rdOf ByteArray.empty t1 1) _ _ A6) [] 3 rfl rfl rfl rfl rfl ?_)
  rintro _ _ _ ⟨At6_0, ct6_0, rfl, rfl, rfl⟩
  refine sv (EV.mv rfl) rfl (sv (EV.ex rfl rfl) rfl (sv (EV.ex rfl rfl) rfl (sv (EV.fa 1 rfl) rfl (so rfl (op_st (cs' := [.int .i64 t4_0, .slice At6_0 t6_0.length ct6_0, .slice none 0 0, .slice none 0 0, .int .i64 0]) 1 rfl rfl rfl rfl rfl rfl (re (pr [0, 2, 4, 5] [0, 1] [0, 1] rfl rfl rfl rfl (gs (rg (sv (EV.mv rfl) rfl ?_))))))))))
  revert H; refine ggI ?_; intro g7 H
  refine sv (EV.ix 0 rfl rfl rfl dq g7 rfl) rfl (sv (EV.le (v := .string (rdOf ByteArray.empty t1 2)) 2 0 none 0 ByteArray.empty rfl rfl rfl dq g7 rfl rfl rfl) rfl ?_)
  revert H; refine bdI ?_; rintro ⟨t8_0, t8_1⟩ A8 H
  refine so rfl (op_call (spec_ParseRows.ok k (rdOf ByteArray.empty t1 2) _ _ A8) [] 5 rfl rfl rfl rfl rfl ?_)
  rintro _ _ _ ⟨At8_0, ct8_0, rfl, rfl, rfl⟩
  refine sv (EV.mv rfl) rfl (sv (EV.ex rfl rfl) rfl (sv (EV.ex rfl rfl) rfl (sv (EV.fa 2 rfl) rfl (so rfl (op_st (cs' := [.int .i64 t4_0, .slice At6_0 t6_0.length ct6_0, .slice At8_0 t8_0.length ct8_0, .slice none 0 0, .int .i64 0]) 1 rfl rfl rfl rfl rfl rfl (re (pr [0, 2, 4, 5] [0, 1] [0, 1, 2] rfl rfl rfl rfl (gs (gs (rg (sv (EV.as rfl) rfl (re (gb (nil_ k99 7 dq (nil_ k99 8 dq (nil_ .bool 9 dq (nil_ .bool 10 dq ?_)))))))))))))))))
  refine lo (fun kk S => ∃ (x2_0 : ByteArray) (x2_4 : List ByteArray) (Ax2_4 : Option Addr) (cx2_4 : Nat) (x2_6 : Int) (x2_2_0 : Int) (x2_2_1 : List S99) (Ax2_2_1 : Option Addr) (cx2_2_1 : Nat) (x2_2_2 : List S99) (Ax2_2_2 : Option Addr) (cx2_2_2 : Nat) (x2_2_3 : List Bool) (Ax2_2_3 : Option Addr) (cx2_2_3 : Nat) (x2_2_4 : Int) (x2_5_0 : Int) (x2_5_1 : List S99) (Ax2_5_1 : Option Addr) (cx2_5_1 : Nat) (x2_5_2 : List S99) (Ax2_5_2 : Option Addr) (cx2_5_2 : Nat) (x2_5_3 : List Bool) (Ax2_5_3 : Option Addr) (cx2_5_3 : Nat) (x2_5_4 : Int), spec_ParseTask.l0 kk x2_0 x2_4 x2_6 x2_2_0 x2_2_1 x2_2_2 x2_2_3 x2_2_4 x2_5_0 x2_5_1 x2_5_2 x2_5_3 x2_5_4 = some (r0, r1, r2, r3, r4, r5) ∧ S = ⟨[(0, .string x2_0), (2, .pointer (some ⟨b2, 0, none⟩)), (4, .slice Ax2_4 x2_4.length cx2_4), (5, .pointer (some ⟨b5, 0, none⟩)), (6, .int .i64 x2_6)], [⟨b2, 27, [.int .i64 x2_2_0, .slice Ax2_2_1 x2_2_1.length cx2_2_1, .slice Ax2_2_2 x2_2_2.length cx2_2_2, .slice Ax2_2_3 x2_2_3.length cx2_2_3, .int .i64 x2_2_4]⟩, ⟨b5, 27, [.int .i64 x2_5_0, .slice Ax2_5_1 x2_5_1.length cx2_5_1, .slice Ax2_5_2 x2_5_2.length cx2_5_2, .slice Ax2_5_3 x2_5_3.length cx2_5_3, .int .i64 x2_5_4]⟩], [.sl 2 .str Ax2_4 cx2_4 x2_4 1 true, .sl 2 k99 Ax2_2_1 cx2_2_1 x2_2_1 2 true, .sl 2 k99 Ax2_2_2 cx2_2_2 x2_2_2 3 true, .sl 2 .bool Ax2_2_3 cx2_2_3 x2_2_3 4 true, .sl 2 k99 Ax2_5_1 cx2_5_1 x2_5_1 5 true, .sl 2 k99 Ax2_5_2 cx2_5_2 x2_5_2 6 true, .sl 2 .bool Ax2_5_3 cx2_5_3 x2_5_3 7 true]⟩) (fun S hS => ?_) (fun n0 ih0 S hS => ?_) ⟨a0, t1, At1, ct1, 0, 0, [], none, 0, [], none, 0, [], none, 0, 0, t4_0, t6_0, At6_0, ct6_0, t8_0, At8_0, ct8_0, [], none, 0, 0, H, rfl⟩ (fun h => wk [0, 2, 4, 5, 6] [0, 1] [⟨0, 2, 1, true⟩, ⟨3, 2, 2, true⟩, ⟨4, 2, 3, true⟩, ⟨5, 2, 4, true⟩, ⟨1, 2, 5, true⟩, ⟨2, 2, 6, true⟩, ⟨6, 2, 7, true⟩] h)
  · clear H; obtain ⟨_, _, _, _, _, _, _, _, _, _, _, _, _, _, _, _, _, _, _, _, _, _, _, _, _, _, _, H, _⟩ := hS; rw [spec_ParseTask.l0] at H; cases H
  clear H
  obtain ⟨x2_0, x2_4, Ax2_4, cx2_4, x2_6, x2_2_0, x2_2_1, Ax2_2_1, cx2_2_1, x2_2_2, Ax2_2_2, cx2_2_2, x2_2_3, Ax2_2_3, cx2_2_3, x2_2_4, x2_5_0, x2_5_1, Ax2_5_1, cx2_5_1, x2_5_2, Ax2_5_2, cx2_5_2, x2_5_3, Ax2_5_3, cx2_5_3, x2_5_4, H, rfl⟩ := hS
  rw [spec_ParseTask.l0] at H
  refine gs (gs (rg (sv (EV.mv rfl) rfl (sv (EV.mv rfl) rfl ?_))))
  revert H; refine ggI ?_; intro g9 H
  refine sv (EV.ix 0 rfl rfl rfl dq g9 rfl) rfl (sv (EV.le (v := .string (rdOf ByteArray.empty x2_4 3)) 3 0 none 0 ByteArray.empty rfl rfl rfl dq g9 rfl rfl rfl) rfl (sv (EV.lns rfl) rfl (sv (EV.lss rfl rfl) rfl (re ?_))))
  revert H; refine ifsI ?_ ?_ <;> intro c10 H
  ·
   refine gt rfl (dT c10) (gk (gs (gb ?_)))
   revert H; refine ggI ?_; intro g11 H
   revert H; refine ggI ?_; intro g12 H
   refine dr [0, 1] [0, 1, 2, 3, 4, 5] [10, 11] 12 rfl rfl rfl rfl (xv 0 [0, 1] [0, 1, 2, 3, 4, 5] rfl (EV.fa 3 rfl) rfl rfl rfl rfl (xv 1 [0, 1] [0, 1, 2, 3, 4, 5] rfl (EV.ld 1 none rfl rfl rfl) rfl rfl rfl rfl (xv 2 [0, 1] [0, 1, 2, 3, 4, 5] rfl (EV.mv rfl) rfl rfl rfl rfl (xv 3 [0, 1] [0, 1, 2, 3, 4, 5] rfl (EV.ix 0 rfl rfl rfl dq g9 rfl) rfl rfl rfl rfl (xv 4 [0, 1] [0, 1, 2, 3, 4, 5] rfl (EV.le (v := .string (rdOf ByteArray.empty x2_4 3)) 3 0 none 0 ByteArray.empty rfl rfl rfl dq g9 rfl rfl rfl) rfl rfl rfl rfl (xv 5 [0, 1] [0, 1, 2, 3, 4, 5] rfl (EV.mv rfl) rfl rfl rfl rfl (xv 6 [0, 1] [0, 1, 2, 3, 4, 5] rfl (EV.is rfl rfl g11 c10) rfl rfl rfl rfl (xv 7 [0, 1] [0, 1, 2, 3, 4, 5] rfl (EV.eql rfl rfl) rfl rfl rfl rfl (one1 8 rfl rfl (op_lit (s := 1) (by_ := 1) .bool ([decide ((bt (rdOf ByteArray.empty x2_4 3) x2_6) = 49)] : List Bool) [[]] [] 8 [.tmp 53] rfl rfl rfl rfl rfl rfl rfl rfl rfl rfl rfl rfl rfl dq rfl fun A54_13 c54_13 => (xs [0, 1] [0, 1, 2, 3, 4, 5] rfl rfl rfl (one1 9 rfl rfl (op_app (k := .bool) (s := 1) (by_ := 1) 6 7 rfl rfl rfl rfl (ap1 g12 dq) (ap1n g12 dq) (.inl rfl) true (fun _ => .inl rfl) rfl rfl fun A55_14 c55_14 => (nmE (en := [.sl 2 .str Ax2_4 cx2_4 x2_4 1 true, .sl 2 k99 Ax2_2_1 cx2_2_1 x2_2_1 2 true, .sl 2 k99 Ax2_2_2 cx2_2_2 x2_2_2 3 true, .sl 2 .bool Ax2_2_3 cx2_2_3 x2_2_3 4 true, .sl 2 k99 Ax2_5_1 cx2_5_1 x2_5_1 5 true, .sl 2 k99 Ax2_5_2 cx2_5_2 x2_5_2 6 true, .sl 2 .bool A54_13 c54_13 ([decide ((bt (rdOf ByteArray.empty x2_4 3) x2_6) = 49)] : List Bool) 8 true, .sl 2 .bool A55_14 c55_14 (x2_5_3 ++ ([decide ((bt (rdOf ByteArray.empty x2_4 3) x2_6) = 49)] : List Bool)) 7 true]) (by kernel_rfl) (xs [0, 1] [0, 1, 2, 3, 4, 5] rfl rfl rfl (one1 10 rfl rfl (ov (EV.fa 3 rfl) rfl (xn rfl (one1 11 rfl rfl (op_st (cs' := [.int .i64 x2_5_0, .slice Ax2_5_1 x2_5_1.length cx2_5_1, .slice Ax2_5_2 x2_5_2.length cx2_5_2, .slice A55_14 (x2_5_3 ++ ([decide ((bt (rdOf ByteArray.empty x2_4 3) x2_6) = 49)] : List Bool)).length c55_14, .int .i64 x2_5_4]) 1 rfl rfl rfl rfl rfl rfl (xn rfl (xd (pr [0, 2, 4, 5, 6] [0, 1] [0, 1, 2, 3, 4, 5, 7] rfl rfl rfl rfl (ge (rg (sv (EV.mv rfl) rfl (sv (EV.add rfl rfl) rfl (sv (EV.as rfl) rfl (re ?_)))))))))))))))))))))))))))))
   exact wk [0, 2, 4, 5, 6] [0, 1] [⟨0, 2, 1, true⟩, ⟨1, 2, 2, true⟩, ⟨2, 2, 3, true⟩, ⟨3, 2, 4, true⟩, ⟨4, 2, 5, true⟩, ⟨5, 2, 6, true⟩, ⟨6, 2, 7, true⟩] (ih0 _ (by omega) _ ⟨x2_0, x2_4, Ax2_4, cx2_4, wrap64 (x2_6 + 1), x2_2_0, x2_2_1, Ax2_2_1, cx2_2_1, x2_2_2, Ax2_2_2, cx2_2_2, x2_2_3, Ax2_2_3, cx2_2_3, x2_2_4, x2_5_0, x2_5_1, Ax2_5_1, cx2_5_1, x2_5_2, Ax2_5_2, cx2_5_2, x2_5_3 ++ ([decide ((bt (rdOf ByteArray.empty x2_4 3) x2_6) = 49)] : List Bool), A55_14, c55_14, x2_5_4, H, rfl⟩)
  ·
   refine gf rfl (dF c10) (gx rfl (gs (rg (sv (EV.mv rfl) rfl ?_))))
   revert H; refine ggI ?_; intro g15 H
   refine sv (EV.ix 0 rfl rfl rfl dq g15 rfl) rfl (sv (EV.le (v := .string (rdOf ByteArray.empty x2_4 4)) 4 0 none 0 ByteArray.empty rfl rfl rfl dq g15 rfl rfl rfl) rfl ?_)
   revert H; refine bdI ?_; rintro ⟨t16_0, t16_1⟩ A16 H
   refine so rfl (op_call (spec_ParseInt.ok n0 (rdOf ByteArray.empty x2_4 4) _ _ A16) [] 8 rfl rfl rfl rfl rfl ?_)
   rintro _ _ _ ⟨rfl, rfl, rfl⟩
   refine sv (EV.mv rfl) rfl (sv (EV.ex rfl rfl) rfl (sv (EV.ex rfl rfl) rfl (sv (EV.fa 4 rfl) rfl (so rfl (op_st (cs' := [.int .i64 x2_5_0, .slice Ax2_5_1 x2_5_1.length cx2_5_1, .slice Ax2_5_2 x2_5_2.length cx2_5_2, .slice Ax2_5_3 x2_5_3.length cx2_5_3, .int .i64 t16_0]) 1 rfl rfl rfl rfl rfl rfl (re (pr [0, 2, 5] [0, 1] [1, 2, 3, 4, 5, 6] rfl rfl rfl rfl (gs (gs (rg (sv (EV.ld (v := .agg #[.int .i64 x2_5_0, .slice Ax2_5_1 x2_5_1.length cx2_5_1, .slice Ax2_5_2 x2_5_2.length cx2_5_2, .slice Ax2_5_3 x2_5_3.length cx2_5_3, .int .i64 t16_0]) 1 (some 5) rfl rfl rfl) rfl ?_)))))))))))
   revert H; refine bdI ?_; rintro t17 A17 H
   refine so rfl (op_call (spec_FormatTask.ok n0 x2_5_0 x2_5_1 Ax2_5_1 cx2_5_1 x2_5_2 Ax2_5_2 cx2_5_2 x2_5_3 Ax2_5_3 cx2_5_3 t16_0 _ A17) [⟨3, 0, 0, false⟩, ⟨4, 0, 0, false⟩, ⟨5, 0, 0, false⟩] 8 rfl rfl rfl rfl rfl ?_)
   rintro _ _ _ ⟨rfl, rfl, rfl⟩
   refine sv (EV.mv rfl) rfl (sv (EV.nes rfl rfl) rfl (re ?_))
   revert H; refine ifsI ?_ ?_ <;> intro c18 H
   ·
    refine gf rfl (nF c18) (gk (gs (rg (sv (EV.ld (v := .agg #[.int .i64 x2_5_0, .slice Ax2_5_1 x2_5_1.length cx2_5_1, .slice Ax2_5_2 x2_5_2.length cx2_5_2, .slice Ax2_5_3 x2_5_3.length cx2_5_3, .int .i64 t16_0]) 1 (some 5) rfl rfl rfl) rfl (so rfl (op_st (cs' := [.int .i64 x2_5_0, .slice Ax2_5_1 x2_5_1.length cx2_5_1, .slice Ax2_5_2 x2_5_2.length cx2_5_2, .slice Ax2_5_3 x2_5_3.length cx2_5_3, .int .i64 t16_0]) 0 rfl rfl rfl rfl rfl rfl (sv (EV.as rfl) rfl (re (pr [2, 3] [0] [3, 4, 5] rfl rfl rfl rfl ?_)))))))))
    cases H
    exact rt Try.func12 rfl (.cell 0 (some 5) rfl rfl rfl (.tmp rfl .nil)) rfl [] [⟨0, 2, 1, true⟩, ⟨1, 2, 2, true⟩, ⟨2, 2, 3, true⟩] rfl rfl rfl rfl rfl ⟨_, _, _, _, _, _, rfl, rfl, rfl⟩
   ·
    refine gt rfl (nT c18) (gs (rg (sv (EV.bd (v := .agg #[.int .i64 0, .slice none 0 0, .slice none 0 0, .slice none 0 0, .int .i64 0]) rfl (by kernel_rfl)) rfl (so rfl (op_st (cs' := [.int .i64 0, .slice none 0 0, .slice none 0 0, .slice none 0 0, .int .i64 0]) 0 rfl rfl rfl rfl rfl rfl (sv (EV.as rfl) rfl (re (pr [2, 3] [0] [] rfl rfl rfl rfl (nil_ k99 1 dq (nil_ k99 2 dq (nil_ .bool 3 dq ?_)))))))))))
    cases H
    exact rt Try.func12 rfl (.cell 0 (some 5) rfl rfl rfl (.tmp rfl .nil)) rfl [] [⟨0, 2, 1, true⟩, ⟨1, 2, 2, true⟩, ⟨2, 2, 3, true⟩] rfl rfl rfl rfl rfl ⟨_, _, _, _, _, _, rfl, rfl, rfl⟩
 ·
  refine gt rfl (nT c2) (gs (rg (sv (EV.bd (v := .agg #[.int .i64 0, .slice none 0 0, .slice none 0 0, .slice none 0 0, .int .i64 0]) rfl (by kernel_rfl)) rfl (so rfl (op_st (cs' := [.int .i64 0, .slice none 0 0, .slice none 0 0, .slice none 0 0, .int .i64 0]) 0 rfl rfl rfl rfl rfl rfl (sv (EV.as rfl) rfl (re (pr [2, 3] [0] [] rfl rfl rfl rfl (nil_ k99 1 dq (nil_ k99 2 dq (nil_ .bool 3 dq ?_)))))))))))
  cases H
  exact rt Try.func12 rfl (.cell 0 (some 5) rfl rfl rfl (.tmp rfl .nil)) rfl [] [⟨0, 2, 1, true⟩, ⟨1, 2, 2, true⟩, ⟨2, 2, 3, true⟩] rfl rfl rfl rfl rfl ⟨_, _, _, _, _, _, rfl, rfl, rfl⟩
end Go.Proofs.Ytamjndlkompeeaa.K
namespace Go.Proofs.Ytamjndlkompeeaa.K
open Go Go.RowKit
set_option linter.unusedVariables false
set_option linter.unusedSimpArgs false
def spec_ParseJoiner.l0 : Nat → ByteArray → (List ByteArray) → Int → (List S27) → Int → Int → (List S27) → Int → Int → Option ((List S27) × Int × Int × Bool)
 | 0, _, _, _, _, _, _, _, _, _ => none
 | k + 1, x2_0, x2_4, x2_6, x2_2_0, x2_2_1, x2_2_2, x2_5_0, x2_5_1, x2_5_2 => if x2_6 < (x2_4.length : Int) then (if 0 ≤ x2_6 then ((spec_ParseTask.f k (rdOf ByteArray.empty x2_4 x2_6)).bind fun bt9 => (if x2_5_0.length < 1599289640401 then (spec_ParseJoiner.l0 k x2_0 x2_4 (wrap64 (x2_6 + 1)) x2_2_0 x2_2_1 x2_2_2 (x2_5_0 ++ ([(⟨bt9.1, bt9.2.1, bt9.2.2.1, bt9.2.2.2.1, bt9.2.2.2.2.1⟩ : S27)] : List S27)) x2_5_1 x2_5_2) else none)) else none) else ((spec_FormatJoiner.f k x2_5_0 x2_5_1 x2_5_2).bind fun t13 => (if t13.toList = x2_0.toList then (some (x2_5_0, x2_5_1, x2_5_2, true)) else (some ([], 0, 0, false))))
def spec_ParseJoiner.f (k : Nat) (a0 : ByteArray) : Option ((List S27) × Int × Int × Bool) := (spec_l2Cut.f k a0 47).bind fun t1 => (if (t1.length : Int) < 2 then (some ([], 0, 0, false)) else (if 0 < (t1.length : Int) then ((spec_ParseInt.f k (rdOf ByteArray.empty t1 0)).bind fun bt4 => (if 1 < (t1.length : Int) then ((spec_ParseInt.f k (rdOf ByteArray.empty t1 1)).bind fun bt6 => (spec_ParseJoiner.l0 k a0 t1 2 [] 0 0 [] bt4.1 bt6.1)) else none)) else none))
set_option maxHeartbeats 4000000 in
set_option maxRecDepth 100000 in
theorem spec_ParseJoiner.ok (k : Nat) (a0 : ByteArray) (r0 : List S27) (r1 : Int) (r2 : Int) (r3 : Bool) (H : spec_ParseJoiner.f k a0 = some (r0, r1, r2, r3)) : Fn Try.prog 46 [.string a0] [] [] (fun v bx en => ∃ A0 c0, v = .tuple #[.agg #[.slice A0 r0.length c0, .int .i64 r1, .int .i64 r2], .bool r3] ∧ bx = [] ∧ en = [.sl 2 k27 A0 c0 r0 1 true]) := by
 refine fn_ 58 Try.func46 rfl rfl rfl (fun base T w0 => ?_)
 rw [spec_ParseJoiner.f] at H
 refine gs (rg (so rfl (op_alloc (cs := [.slice none 0 0, .int .i64 0, .int .i64 0]) (by kernel_rfl) rfl fun b2 => (sv (EV.as rfl) rfl (re (gs (rg (sv (EV.mv rfl) rfl ?_))))))))
 revert H; refine bdI ?_; rintro t1 A1 H
 refine so rfl (op_call (spec_l2Cut.ok k a0 47 _ A1) [] 1 rfl rfl rfl rfl rfl ?_)
 rintro _ _ _ ⟨At1, ct1, rfl, rfl, rfl⟩
 refine sv (EV.as rfl) rfl (re (gs (gs (rg (sv (EV.mv rfl) rfl (sv (EV.ln rfl) rfl (sv (EV.lss rfl rfl) rfl (re ?_))))))))
 revert H; refine ifsI ?_ ?_ <;> intro c2 H
 ·
  refine gt rfl (dT c2) (gs (rg (sv (EV.bd (v := .agg #[.slice none 0 0, .int .i64 0, .int .i64 0]) rfl (by kernel_rfl)) rfl (so rfl (op_st (cs' := [.slice none 0 0, .int .i64 0, .int .i64 0]) 0 rfl rfl rfl rfl rfl rfl (sv (EV.as rfl) rfl (re (pr [2, 3] [0] [] rfl rfl rfl rfl (nil_ k27 1 dq ?_)))))))))
  cases H
  exact rt Try.func46 rfl (.cell 0 (some 3) rfl rfl rfl (.tmp rfl .nil)) rfl [] [⟨0, 2, 1, true⟩] rfl rfl rfl rfl rfl ⟨_, _, rfl, rfl, rfl⟩
 ·
  refine gf rfl (dF c2) (gk (gs (rg (sv (EV.bd (v := .agg #[.slice none 0 0, .int .i64 0, .int .i64 0]) rfl (by kernel_rfl)) rfl (so rfl (op_alloc (cs := [.slice none 0 0, .int .i64 0, .int .i64 0]) (by kernel_rfl) rfl fun b5 => (so rfl (op_st (cs' := [.slice none 0 0, .int .i64 0, .int .i64 0]) 1 rfl rfl rfl rfl rfl rfl (re (pr [0, 2, 4, 5] [0, 1] [0] rfl rfl rfl rfl (gs (rg (sv (EV.mv rfl) rfl ?_)))))))))))))
  revert H; refine ggI ?_; intro g3 H
  refine sv (EV.ix 0 rfl rfl rfl dq g3 rfl) rfl (sv (EV.le (v := .string (rdOf ByteArray.empty t1 0)) 0 0 none 0 ByteArray.empty rfl rfl rfl dq g3 rfl rfl rfl) rfl ?_)
  revert H; refine bdI ?_; rintro ⟨t4_0, t4_1⟩ A4 H
  refine so rfl (op_call (spec_ParseInt.ok k (rdOf ByteArray.empty t1 0) _ _ A4) [] 3 rfl rfl rfl rfl rfl ?_)
  rintro _ _ _ ⟨rfl, rfl, rfl⟩
  refine sv (EV.mv rfl) rfl (sv (EV.ex rfl rfl) rfl (sv (EV.ex rfl rfl) rfl (sv (EV.fa 1 rfl) rfl (so rfl (op_st (cs' := [.slice none 0 0, .int .i64 t4_0, .int .i64 0]) 1 rfl rfl rfl rfl rfl rfl (re (pr [0, 2, 4, 5] [0, 1] [0] rfl rfl rfl rfl (gs (rg (sv (EV.mv rfl) rfl ?_))))))))))
  revert H; refine ggI ?_; intro g5 H
  refine sv (EV.ix 0 rfl rfl rfl dq g5 rfl) rfl (sv (EV.le (v := .string (rdOf ByteArray.empty t1 1)) 1 0 none 0 ByteArray.empty rfl rfl rfl dq g5 rfl rfl rfl) rfl ?_)
  revert H; refine bdI ?_; rintro ⟨t6_0, t6_1⟩ A6 H
  refine so rfl (op_call (spec_ParseInt.ok k (rdOf ByteArray.empty t1 1) _ _ A6) [] 3 rfl rfl rfl rfl rfl ?_)
  rintro _ _ _ ⟨rfl, rfl, rfl⟩
  refine sv (EV.mv rfl) rfl (sv (EV.ex rfl rfl) rfl (sv (EV.ex rfl rfl) rfl (sv (EV.fa 2 rfl) rfl (so rfl (op_st (cs' := [.slice none 0 0, .int .i64 t4_0, .int .i64 t6_0]) 1 rfl rfl rfl rfl rfl rfl (re (pr [0, 2, 4, 5] [0, 1] [0] rfl rfl rfl rfl (gs (gs (rg (sv (EV.as rfl) rfl (re (gb (nil_ k27 3 dq (nil_ k27 4 dq ?_)))))))))))))))
  refine lo (fun kk S => ∃ (x2_0 : ByteArray) (x2_4 : List ByteArray) (Ax2_4 : Option Addr) (cx2_4 : Nat) (x2_6 : Int) (x2_2_0 : List S27) (Ax2_2_0 : Option Addr) (cx2_2_0 : Nat) (x2_2_1 : Int) (x2_2_2 : Int) (x2_5_0 : List S27) (Ax2_5_0 : Option Addr) (cx2_5_0 : Nat) (x2_5_1 : Int) (x2_5_2 : Int), spec_ParseJoiner.l0 kk x2_0 x2_4 x2_6 x2_2_0 x2_2_1 x2_2_2 x2_5_0 x2_5_1 x2_5_2 = some (r0, r1, r2, r3) ∧ S = ⟨[(0, .string x2_0), (2, .pointer (some ⟨b2, 0, none⟩)), (4, .slice Ax2_4 x2_4.length cx2_4), (5, .pointer (some ⟨b5, 0, none⟩)), (6, .int .i64 x2_6)], [⟨b2, 60, [.slice Ax2_2_0 x2_2_0.length cx2_2_0, .int .i64 x2_2_1, .int .i64 x2_2_2]⟩, ⟨b5, 60, [.slice Ax2_5_0 x2_5_0.length cx2_5_0, .int .i64 x2_5_1, .int .i64 x2_5_2]⟩], [.sl 2 .str Ax2_4 cx2_4 x2_4 1 true, .sl 2 k27 Ax2_2_0 cx2_2_0 x2_2_0 2 true, .sl 2 k27 Ax2_5_0 cx2_5_0 x2_5_0 3 true]⟩) (fun S hS => ?_) (fun n0 ih0 S hS => ?_) ⟨a0, t1, At1, ct1, 2, [], none, 0, 0, 0, [], none, 0, t4_0, t6_0, H, rfl⟩ (fun h => wk [0, 2, 4, 5, 6] [0, 1] [⟨0, 2, 1, true⟩, ⟨1, 2, 2, true⟩, ⟨2, 2, 3, true⟩] h)
  · clear H; obtain ⟨_, _, _, _, _, _, _, _, _, _, _, _, _, _, _, H, _⟩ := hS; rw [spec_ParseJoiner.l0] at H; cases H
  clear H
  obtain ⟨x2_0, x2_4, Ax2_4, cx2_4, x2_6, x2_2_0, Ax2_2_0, cx2_2_0, x2_2_1, x2_2_2, x2_5_0, Ax2_5_0, cx2_5_0, x2_5_1, x2_5_2, H, rfl⟩ := hS
  rw [spec_ParseJoiner.l0] at H
  refine gs (gs (rg (sv (EV.mv rfl) rfl (sv (EV.mv rfl) rfl (sv (EV.ln rfl) rfl (sv (EV.lss rfl rfl) rfl (re ?_)))))))
  revert H; refine ifsI ?_ ?_ <;> intro c7 H
  ·
   refine gt rfl (dT c7) (gk (gs (gb (gs (rg (sv (EV.mv rfl) rfl (sv (EV.mv rfl) rfl ?_)))))))
   revert H; refine ggI ?_; intro g8 H
   refine sv (EV.ix 0 rfl rfl rfl g8 c7 rfl) rfl (sv (EV.le (v := .string (rdOf ByteArray.empty x2_4 x2_6)) x2_6 0 none 0 ByteArray.empty rfl rfl rfl g8 c7 rfl rfl rfl) rfl ?_)
   revert H; refine bdI ?_; rintro ⟨t9_0, t9_1, t9_2, t9_3, t9_4, t9_5⟩ A9 H
   refine so rfl (op_call (spec_ParseTask.ok n0 (rdOf ByteArray.empty x2_4 x2_6) _ _ _ _ _ _ A9) [] 4 rfl rfl rfl rfl rfl ?_)
   rintro _ _ _ ⟨At9_1, ct9_1, At9_2, ct9_2, At9_3, ct9_3, rfl, rfl, rfl⟩
   refine sv (EV.mv rfl) rfl (sv (EV.ex rfl rfl) rfl (sv (EV.ex rfl rfl) rfl (so rfl (op_alloc (cs := [.int .i64 0, .slice none 0 0, .slice none 0 0, .slice none 0 0, .int .i64 0]) (by kernel_rfl) rfl fun b7 => (so rfl (op_st (cs' := [.int .i64 t9_0, .slice At9_1 t9_1.length ct9_1, .slice At9_2 t9_2.length ct9_2, .slice At9_3 t9_3.length ct9_3, .int .i64 t9_4]) 2 rfl rfl rfl rfl rfl rfl (sv (EV.as rfl) rfl (re (pr [0, 2, 4, 5, 6, 7] [0, 1, 2] [0, 1, 2, 3, 4, 5] rfl rfl rfl rfl (rg (sv (EV.fa 0 rfl) rfl (sv (EV.ld 1 none rfl rfl rfl) rfl (sv (EV.ld (v := .agg #[.int .i64 t9_0, .slice At9_1 t9_1.length ct9_1, .slice At9_2 t9_2.length ct9_2, .slice At9_3 t9_3.length ct9_3, .int .i64 t9_4]) 2 (some 5) rfl rfl rfl) rfl (so rfl (op_lit (s := 5) (by_ := 88) k27 ([(⟨t9_0, t9_1, t9_2, t9_3, t9_4⟩ : S27)] : List S27) [[(At9_1, ct9_1), (At9_2, ct9_2), (At9_3, ct9_3)]] [3, 4, 5] 8 [.tmp 48] rfl rfl rfl rfl rfl rfl rfl rfl rfl rfl rfl rfl rfl dq rfl fun A49_10 c49_10 => (nmE (en := [.sl 2 .str Ax2_4 cx2_4 x2_4 1 true, .sl 2 k27 Ax2_2_0 cx2_2_0 x2_2_0 2 true, .sl 2 k27 Ax2_5_0 cx2_5_0 x2_5_0 3 true, .sl 2 k99 At9_1 ct9_1 t9_1 8 true, .sl 2 k99 At9_2 ct9_2 t9_2 8 true, .sl 2 .bool At9_3 ct9_3 t9_3 8 true, .sl 2 k27 A49_10 c49_10 ([(⟨t9_0, t9_1, t9_2, t9_3, t9_4⟩ : S27)] : List S27) 8 true]) (by kernel_rfl) ?_))))))))))))))))
   revert H; refine ggI ?_; intro g11 H
   exact so rfl (op_app (k := k27) (s := 5) (by_ := 88) 2 6 rfl rfl rfl rfl (ap1 g11 dq) (ap1n g11 dq) (.inr ⟨dq, dq, rfl, dq⟩) true (fun _ => .inr ⟨rfl, rfl, dq⟩) rfl rfl fun A50_12 c50_12 => (nmE (en := [.sl 2 .str Ax2_4 cx2_4 x2_4 1 true, .sl 2 k27 Ax2_2_0 cx2_2_0 x2_2_0 2 true, .sl 2 k99 At9_1 ct9_1 t9_1 3 true, .sl 2 k99 At9_2 ct9_2 t9_2 3 true, .sl 2 .bool At9_3 ct9_3 t9_3 3 true, .sl 2 k27 A49_10 c49_10 ([(⟨t9_0, t9_1, t9_2, t9_3, t9_4⟩ : S27)] : List S27) 3 true, .sl 2 k27 A50_12 c50_12 (x2_5_0 ++ ([(⟨t9_0, t9_1, t9_2, t9_3, t9_4⟩ : S27)] : List S27)) 3 true]) (by kernel_rfl) (sv (EV.fa 0 rfl) rfl (so rfl (op_st (cs' := [.slice A50_12 (x2_5_0 ++ ([(⟨t9_0, t9_1, t9_2, t9_3, t9_4⟩ : S27)] : List S27)).length c50_12, .int .i64 x2_5_1, .int .i64 x2_5_2]) 1 rfl rfl rfl rfl rfl rfl (re (pr [0, 2, 4, 5, 6] [0, 1] [0, 1, 6] rfl rfl rfl rfl (ge (rg (sv (EV.mv rfl) rfl (sv (EV.add rfl rfl) rfl (sv (EV.as rfl) rfl (re (wk [0, 2, 4, 5, 6] [0, 1] [⟨0, 2, 1, true⟩, ⟨1, 2, 2, true⟩, ⟨2, 2, 3, true⟩] (ih0 _ (by omega) _ ⟨x2_0, x2_4, Ax2_4, cx2_4, wrap64 (x2_6 + 1), x2_2_0, Ax2_2_0, cx2_2_0, x2_2_1, x2_2_2, x2_5_0 ++ ([(⟨t9_0, t9_1, t9_2, t9_3, t9_4⟩ : S27)] : List S27), A50_12, c50_12, x2_5_1, x2_5_2, H, rfl⟩)))))))))))))))
  ·
   refine gf rfl (dF c7) (gx rfl (gs (gs (rg (sv (EV.ld (v := .agg #[.slice Ax2_5_0 x2_5_0.length cx2_5_0, .int .i64 x2_5_1, .int .i64 x2_5_2]) 1 (some 3) rfl rfl rfl) rfl ?_)))))
   revert H; refine bdI ?_; rintro t13 A13 H
   refine so rfl (op_call (spec_FormatJoiner.ok n0 x2_5_0 Ax2_5_0 cx2_5_0 x2_5_1 x2_5_2 _ A13) [⟨2, 0, 0, false⟩] 4 rfl rfl rfl rfl rfl ?_)
   rintro _ _ _ ⟨rfl, rfl, rfl⟩
   refine sv (EV.mv rfl) rfl (sv (EV.nes rfl rfl) rfl (re (pr [2, 5, 55] [0, 1] [1, 2] rfl rfl rfl rfl ?_)))
   revert H; refine ifsI ?_ ?_ <;> intro c14 H
   ·
    refine gf rfl (nF c14) (gk (gs (rg (sv (EV.ld (v := .agg #[.slice Ax2_5_0 x2_5_0.length cx2_5_0, .int .i64 x2_5_1, .int .i64 x2_5_2]) 1 (some 3) rfl rfl rfl) rfl (so rfl (op_st (cs' := [.slice Ax2_5_0 x2_5_0.length cx2_5_0, .int .i64 x2_5_1, .int .i64 x2_5_2]) 0 rfl rfl rfl rfl rfl rfl (sv (EV.as rfl) rfl (re ?_))))))))
    cases H
    exact rt Try.func46 rfl (.cell 0 (some 3) rfl rfl rfl (.tmp rfl .nil)) rfl [] [⟨1, 2, 1, true⟩] rfl rfl rfl rfl rfl ⟨_, _, rfl, rfl, rfl⟩
   ·
    refine gt rfl (nT c14) (gs (rg (sv (EV.bd (v := .agg #[.slice none 0 0, .int .i64 0, .int .i64 0]) rfl (by kernel_rfl)) rfl (so rfl (op_st (cs' := [.slice none 0 0, .int .i64 0, .int .i64 0]) 0 rfl rfl rfl rfl rfl rfl (sv (EV.as rfl) rfl (re (nil_ k27 4 dq ?_))))))))
    cases H
    exact rt Try.func46 rfl (.cell 0 (some 3) rfl rfl rfl (.tmp rfl .nil)) rfl [] [⟨2, 2, 1, true⟩] rfl rfl rfl rfl rfl ⟨_, _, rfl, rfl, rfl⟩
end Go.Proofs.Ytamjndlkompeeaa.K
namespace Go.Proofs.Ytamjndlkompeeaa.K
open Go Go.RowKit
set_option linter.unusedVariables false
set_option linter.unusedSimpArgs false
def spec_DrawEqualJoiners.j0 : Nat → (List S27) → Int → Int → (List S27) → Int → Int → (List S27) → Int → Int → (List S27) → Int → Int → Option ((List S27) × Int × Int × (List S27) × Int × Int)
 | 0, _, _, _, _, _, _, _, _, _, _, _, _ => none
 | k + 1, x1_2_0, x1_2_1, x1_2_2, x1_3_0, x1_3_1, x1_3_2, x1_5_0, x1_5_1, x1_5_2, x1_6_0, x1_6_1, x1_6_2 => some (x1_5_0, x1_5_1, x1_5_2, x1_6_0, x1_6_1, x1_6_2)
def spec_DrawEqualJoiners.f (k : Nat) (l0 : List Int) : Option ((List S27) × Int × Int × (List S27) × Int × Int) := (spec_l1New.f k l0).bind fun bt1 => ((spec_l19Joiner.f k l0 bt1.1 bt1.2).bind fun bt2 => ((spec_l19Copy.f k bt2.1 bt2.2.1 bt2.2.2.1).bind fun bt3 => ((spec_l1Once.f l0 bt2.2.2.2.1 bt2.2.2.2.2 2).bind fun bt5 => (if bt5.1 = true then (spec_DrawEqualJoiners.j0 k [] 0 0 [] 0 0 bt2.1 bt2.2.1 bt2.2.2.1 bt3.1 (wrap64 (bt3.2.1 + 1)) bt3.2.2) else (spec_DrawEqualJoiners.j0 k [] 0 0 [] 0 0 bt2.1 bt2.2.1 bt2.2.2.1 bt3.1 bt3.2.1 bt3.2.2)))))
set_option maxHeartbeats 4000000 in
set_option maxRecDepth 100000 in
theorem spec_DrawEqualJoiners.ok (k : Nat) (l0 : List Int) (Al0 : Option Addr) (cl0 : Nat) (r0 : List S27) (r1 : Int) (r2 : Int) (r3 : List S27) (r4 : Int) (r5 : Int) (H : spec_DrawEqualJoiners.f k l0 = some (r0, r1, r2, r3, r4, r5)) : Fn Try.prog 47 [.slice Al0 l0.length cl0] [] [.sl 0 (.int .u8) Al0 cl0 l0 0 false] (fun v bx en => ∃ A0 c0 A3 c3, v = .tuple #[.agg #[.slice A0 r0.length c0, .int .i64 r1, .int .i64 r2], .agg #[.slice A3 r3.length c3, .int .i64 r4, .int .i64 r5]] ∧ bx = [] ∧ en = [.sl 1 k27 A0 c0 r0 1 true, .sl 2 k27 A3 c3 r3 2 true]) := by
 refine fn_ 21 Try.func47 rfl rfl rfl (fun base T w0 => ?_)
 rw [spec_DrawEqualJoiners.f] at H
 refine gs (rg (so rfl (op_alloc (cs := [.slice none 0 0, .int .i64 0, .int .i64 0]) (by kernel_rfl) rfl fun b2 => (so rfl (op_alloc (cs := [.slice none 0 0, .int .i64 0, .int .i64 0]) (by kernel_rfl) rfl fun b3 => (re (gs (rg (sv (EV.mv rfl) rfl ?_)))))))))
 revert H; refine bdI ?_; rintro ⟨t1_0, t1_1⟩ A1 H
 refine so rfl (op_callM (spec_l1New.ok k l0 Al0 cl0 _ _ A1) [⟨0, 0, 0, false⟩] [] [0, 1] 1 rfl rfl rfl rfl rfl rfl rfl rfl ?_)
 rintro _ _ _ ⟨b2001, rfl, rfl, rfl⟩
 refine nmE (en := [.sl 0 (.int .u8) Al0 cl0 l0 0 false]) (by kernel_rfl) (sv (EV.as rfl) rfl (re (gs (rg (sv (EV.mv rfl) rfl ?_)))))
 revert H; refine bdI ?_; rintro ⟨t2_0, t2_1, t2_2, t2_3, t2_4⟩ A2 H
 refine so rfl (op_callM (spec_l19Joiner.ok k b2001 l0 Al0 cl0 t1_0 t1_1 _ _ _ _ _ A2) [⟨0, 0, 0, false⟩] [2] [0, 1] 1 rfl rfl rfl rfl rfl rfl rfl rfl ?_)
 rintro _ _ _ ⟨At2_0, ct2_0, rfl, rfl, rfl⟩
 refine nmE (en := [.sl 0 (.int .u8) Al0 cl0 l0 0 false, .sl 1 k27 At2_0 ct2_0 t2_0 2 true]) (by kernel_rfl) (so rfl (op_alloc (cs := [.slice none 0 0, .int .i64 0, .int .i64 0]) (by kernel_rfl) rfl fun b5 => (so rfl (op_st (cs' := [.slice At2_0 t2_0.length ct2_0, .int .i64 t2_1, .int .i64 t2_2]) 3 rfl rfl rfl rfl rfl rfl (re (gs (rg (sv (EV.ld (v := .agg #[.slice At2_0 t2_0.length ct2_0, .int .i64 t2_1, .int .i64 t2_2]) 3 (some 3) rfl rfl rfl) rfl ?_))))))))
 revert H; refine bdI ?_; rintro ⟨t3_0, t3_1, t3_2⟩ A3 H
 refine so rfl (op_call (spec_l19Copy.ok k t2_0 At2_0 ct2_0 t2_1 t2_2 _ _ _ A3) [⟨1, 0, 0, false⟩] 3 rfl rfl rfl rfl rfl ?_)
 rintro _ _ _ ⟨At3_0, ct3_0, rfl, rfl, rfl⟩
 refine so rfl (op_alloc (cs := [.slice none 0 0, .int .i64 0, .int .i64 0]) (by kernel_rfl) rfl fun b6 => (so rfl (op_st (cs' := [.slice At3_0 t3_0.length ct3_0, .int .i64 t3_1, .int .i64 t3_2]) 4 rfl rfl rfl rfl rfl rfl (re (pr [2, 3, 4, 5, 6] [0, 1, 2, 3, 4] [0, 1, 2] rfl rfl rfl rfl ?_)))))
 refine jo (fun S => ∃ (m : Nat) (x1_2_0 : List S27) (Ax1_2_0 : Option Addr) (cx1_2_0 : Nat) (x1_2_1 : Int) (x1_2_2 : Int) (x1_3_0 : List S27) (Ax1_3_0 : Option Addr) (cx1_3_0 : Nat) (x1_3_1 : Int) (x1_3_2 : Int) (x1_5_0 : List S27) (Ax1_5_0 : Option Addr) (cx1_5_0 : Nat) (x1_5_1 : Int) (x1_5_2 : Int) (x1_6_0 : List S27) (Ax1_6_0 : Option Addr) (cx1_6_0 : Nat) (x1_6_1 : Int) (x1_6_2 : Int), spec_DrawEqualJoiners.j0 m x1_2_0 x1_2_1 x1_2_2 x1_3_0 x1_3_1 x1_3_2 x1_5_0 x1_5_1 x1_5_2 x1_6_0 x1_6_1 x1_6_2 = some (r0, r1, r2, r3, r4, r5) ∧ S = ⟨[(2, .pointer (some ⟨b2, 0, none⟩)), (3, .pointer (some ⟨b3, 0, none⟩)), (5, .pointer (some ⟨b5, 0, none⟩)), (6, .pointer (some ⟨b6, 0, none⟩))], [⟨b2, 60, [.slice Ax1_2_0 x1_2_0.length cx1_2_0, .int .i64 x1_2_1, .int .i64 x1_2_2]⟩, ⟨b3, 60, [.slice Ax1_3_0 x1_3_0.length cx1_3_0, .int .i64 x1_3_1, .int .i64 x1_3_2]⟩, ⟨b5, 60, [.slice Ax1_5_0 x1_5_0.length cx1_5_0, .int .i64 x1_5_1, .int .i64 x1_5_2]⟩, ⟨b6, 60, [.slice Ax1_6_0 x1_6_0.length cx1_6_0, .int .i64 x1_6_1, .int .i64 x1_6_2]⟩], [.sl 2 k27 Ax1_2_0 cx1_2_0 x1_2_0 1 true, .sl 2 k27 Ax1_3_0 cx1_3_0 x1_3_0 2 true, .sl 1 k27 Ax1_5_0 cx1_5_0 x1_5_0 3 true, .sl 2 k27 Ax1_6_0 cx1_6_0 x1_6_0 4 true]⟩) (fun S hS => ?_) (fun jh0 => ?_)
 ·
  clear H
  obtain ⟨m4, x1_2_0, Ax1_2_0, cx1_2_0, x1_2_1, x1_2_2, x1_3_0, Ax1_3_0, cx1_3_0, x1_3_1, x1_3_2, x1_5_0, Ax1_5_0, cx1_5_0, x1_5_1, x1_5_2, x1_6_0, Ax1_6_0, cx1_6_0, x1_6_1, x1_6_2, H, rfl⟩ := hS
  rcases m4 with _ | m4
  · rw [spec_DrawEqualJoiners.j0] at H; cases H
  rw [spec_DrawEqualJoiners.j0] at H
  refine gs (dr [1, 2, 3] [0, 1, 2, 3] [3] 4 rfl rfl rfl rfl (xv 0 [1, 2, 3] [0, 1, 2, 3] rfl (EV.ld (v := .agg #[.slice Ax1_5_0 x1_5_0.length cx1_5_0, .int .i64 x1_5_1, .int .i64 x1_5_2]) 1 (some 3) rfl rfl rfl) rfl rfl rfl rfl (xv 1 [1, 2, 3] [0, 1, 2, 3] rfl (EV.ld (v := .agg #[.slice Ax1_6_0 x1_6_0.length cx1_6_0, .int .i64 x1_6_1, .int .i64 x1_6_2]) 2 (some 3) rfl rfl rfl) rfl rfl rfl rfl (one1 2 rfl rfl (op_st (cs' := [.slice Ax1_5_0 x1_5_0.length cx1_5_0, .int .i64 x1_5_1, .int .i64 x1_5_2]) 0 rfl rfl rfl rfl rfl rfl (xs [1, 2, 3] [0, 1, 2, 3] rfl rfl rfl (one1 3 rfl rfl (op_st (cs' := [.slice Ax1_6_0 x1_6_0.length cx1_6_0, .int .i64 x1_6_1, .int .i64 x1_6_2]) 1 rfl rfl rfl rfl rfl rfl (xn rfl (xd ?_))))))))))
  cases H
  exact rt Try.func47 rfl (.cell 0 (some 3) rfl rfl rfl (.cell 1 (some 3) rfl rfl rfl .nil)) rfl [] [⟨2, 1, 1, true⟩, ⟨3, 2, 2, true⟩] rfl rfl rfl rfl rfl ⟨_, _, _, _, rfl, rfl, rfl⟩
 ·
  refine gs (rg (sv (EV.mv rfl) rfl ?_))
  revert H; refine bdI ?_; rintro ⟨t5_0, t5_1, t5_2⟩ A5 H
  refine so rfl (op_callM (spec_l1Once.ok b2001 l0 Al0 cl0 t2_3 t2_4 2 _ _ _ A5) [⟨0, 0, 0, false⟩] [2] [0, 1, 3, 4] 5 rfl rfl rfl rfl rfl rfl rfl rfl ?_)
  rintro _ _ _ ⟨rfl, rfl, rfl⟩
  refine nmE (en := [.sl 0 (.int .u8) Al0 cl0 l0 0 false, .sl 1 k27 At2_0 ct2_0 t2_0 2 true, .sl 2 k27 At3_0 ct3_0 t3_0 4 true]) (by kernel_rfl) (re ?_)
  revert H; refine ifsI ?_ ?_ <;> intro c6 H
  ·
   subst c6
   exact gt rfl rfl (rg (sv (EV.fa 1 rfl) rfl (sv (EV.ld 3 none rfl rfl rfl) rfl (sv (EV.add rfl rfl) rfl (sv (EV.fa 1 rfl) rfl (so rfl (op_st (cs' := [.slice At3_0 t3_0.length ct3_0, .int .i64 (wrap64 (t3_1 + 1)), .int .i64 t3_2]) 3 rfl rfl rfl rfl rfl rfl (re (pr [2, 3, 5, 6] [0, 1, 2, 3] [1, 2] rfl rfl rfl rfl (nil_ k27 5 dq (nil_ k27 6 dq (wk [2, 3, 5, 6] [0, 1, 2, 3] [⟨2, 2, 1, true⟩, ⟨3, 2, 2, true⟩, ⟨0, 1, 3, true⟩, ⟨1, 2, 4, true⟩] (jh0 _ ⟨_, [], none, 0, 0, 0, [], none, 0, 0, 0, t2_0, At2_0, ct2_0, t2_1, t2_2, t3_0, At3_0, ct3_0, wrap64 (t3_1 + 1), t3_2, H, rfl⟩)))))))))))))
  ·
   obtain rfl := bF c6
   exact gf rfl rfl (gk (nil_ k27 5 dq (nil_ k27 6 dq (wk [2, 3, 5, 6] [0, 1, 2, 3] [⟨3, 2, 1, true⟩, ⟨4, 2, 2, true⟩, ⟨1, 1, 3, true⟩, ⟨2, 2, 4, true⟩] (jh0 _ ⟨_, [], none, 0, 0, 0, [], none, 0, 0, 0, t2_0, At2_0, ct2_0, t2_1, t2_2, t3_0, At3_0, ct3_0, t3_1, t3_2, H, rfl⟩)))))
end Go.Proofs.Ytamjndlkompeeaa.K
namespace Go.Proofs.Ytamjndlkompeeaa.K
open Go Go.RowKit
set_option linter.unusedVariables false
set_option linter.unusedSimpArgs false
def spec_l7Kind.f (l0_0 : List Int) (a0_1 : Int) (a0_2 : Int) : Option (Int × Int × Int) := (spec_l1Once.f l0_0 a0_1 a0_2 14).bind fun bt1 => (if bt1.1 = true then ((spec_l1PickInt.f l0_0 bt1.2.1 bt1.2.2 ([0, 5] : List Int)).bind fun bt4 => (some (bt4.1, bt4.2.1, bt4.2.2))) else ((spec_l1Below.f l0_0 bt1.2.1 bt1.2.2 4).bind fun bt5 => (some (wrap64 (1 + bt5.1), bt5.2.1, bt5.2.2))))
set_option maxHeartbeats 4000000 in
set_option maxRecDepth 100000 in
theorem spec_l7Kind.ok (b1000 : Nat) (l0_0 : List Int) (Al0_0 : Option Addr) (cl0_0 : Nat) (a0_1 : Int) (a0_2 : Int) (r0 : Int) (r1 : Int) (r2 : Int) (H : spec_l7Kind.f l0_0 a0_1 a0_2 = some (r0, r1, r2)) : Fn Try.prog 112 [.pointer (some ⟨b1000, 0, none⟩)] [⟨b1000, 119, [.slice Al0_0 l0_0.length cl0_0, .int .i64 a0_1, .int .i64 a0_2]⟩] [.sl 0 (.int .u8) Al0_0 cl0_0 l0_0 0 false] (fun v bx en => v = .int .i64 r0 ∧ bx = [⟨b1000, 119, [.slice Al0_0 l0_0.length cl0_0, .int .i64 r1, .int .i64 r2]⟩] ∧ en = []) := by
 refine fn_ 11 Try.func112 rfl rfl rfl (fun base T w0 => ?_)
 rw [spec_l7Kind.f] at H
 refine gs (rg (sv (EV.as rfl) rfl (re (gs (gs (rg (sv (EV.mv rfl) rfl ?_)))))))
 revert H; refine bdI ?_; rintro ⟨t1_0, t1_1, t1_2⟩ A1 H
 refine so rfl (op_callM (spec_l1Once.ok b1000 l0_0 Al0_0 cl0_0 a0_1 a0_2 14 _ _ _ A1) [⟨0, 0, 0, false⟩] [0] [] 1 rfl rfl rfl rfl rfl rfl rfl rfl ?_)
 rintro _ _ _ ⟨rfl, rfl, rfl⟩
 refine nmE (en := [.sl 0 (.int .u8) Al0_0 cl0_0 l0_0 0 false]) (by kernel_rfl) (re ?_)
 revert H; refine ifsI ?_ ?_ <;> intro c2 H
 ·
  subst c2
  refine gt rfl rfl (gs (rg (sv (EV.mv rfl) rfl (so rfl (op_lit (s := 1) (by_ := 8) (.int .i64) ([0, 5] : List Int) [[], []] [] 1 [.const (.int .i64 0), .const (.int .i64 5)] rfl rfl rfl rfl rfl rfl rfl rfl rfl rfl rfl rfl rfl dq rfl fun A6_3 c6_3 => ?_)))))
  revert H; refine bdI ?_; rintro ⟨t4_0, t4_1, t4_2⟩ A4 H
  refine so rfl (op_callM (spec_l1PickInt.ok b1000 l0_0 Al0_0 cl0_0 t1_1 t1_2 ([0, 5] : List Int) A6_3 c6_3 _ _ _ A4) [⟨0, 0, 0, false⟩, ⟨1, 0, 0, false⟩] [0] [] 2 rfl rfl rfl rfl rfl rfl rfl rfl ?_)
  rintro _ _ _ ⟨rfl, rfl, rfl⟩
  refine nmE (en := [.sl 0 (.int .u8) Al0_0 cl0_0 l0_0 0 false, .sl 2 (.int .i64) A6_3 c6_3 ([0, 5] : List Int) 1 true]) (by kernel_rfl) (sv (EV.as rfl) rfl (re (pr [2] [0] [0] rfl rfl rfl rfl ?_)))
  cases H
  exact rt Try.func112 rfl (.tmp rfl .nil) rfl [0] [] rfl rfl rfl rfl rfl ⟨rfl, rfl, rfl⟩
 ·
  obtain rfl := bF c2
  refine gf rfl rfl (gk (gs (rg (sv (EV.mv rfl) rfl ?_))))
  revert H; refine bdI ?_; rintro ⟨t5_0, t5_1, t5_2⟩ A5 H
  refine so rfl (op_callM (spec_l1Below.ok b1000 l0_0 Al0_0 cl0_0 t1_1 t1_2 4 _ _ _ A5) [⟨0, 0, 0, false⟩] [0] [] 1 rfl rfl rfl rfl rfl rfl rfl rfl ?_)
  rintro _ _ _ ⟨rfl, rfl, rfl⟩
  refine nmE (en := [.sl 0 (.int .u8) Al0_0 cl0_0 l0_0 0 false]) (by kernel_rfl) (sv (EV.add rfl rfl) rfl (sv (EV.as rfl) rfl (re (pr [2] [0] [0] rfl rfl rfl rfl ?_))))
  cases H
  exact rt Try.func112 rfl (.tmp rfl .nil) rfl [0] [] rfl rfl rfl rfl rfl ⟨rfl, rfl, rfl⟩
end Go.Proofs.Ytamjndlkompeeaa.K
namespace Go.Proofs.Ytamjndlkompeeaa.K
open Go Go.RowKit
set_option linter.unusedVariables false
set_option linter.unusedSimpArgs false
def spec_l2Bent.f (k : Nat) (l0_0 : List Int) (a0_1 : Int) (a0_2 : Int) (a1 : Int) : Option ((List S99) × Int × Int) := (spec_l2Rows.f k l0_0 a0_1 a0_2 a1).bind fun bt1 => ((spec_l1Once.f l0_0 bt1.2.1 bt1.2.2 14).bind fun bt2 => (if bt2.1 = true then ((spec_l2Any.f l0_0 bt2.2.1 bt2.2.2).bind fun bt4 => (if bt1.1.length < 5864062014805 then (some (bt1.1 ++ ([(⟨bt4.1, bt4.2.1, bt4.2.2.1⟩ : S99)] : List S99), bt4.2.2.2.1, bt4.2.2.2.2)) else none)) else (some (bt1.1, bt2.2.1, bt2.2.2))))
set_option maxHeartbeats 4000000 in
set_option maxRecDepth 100000 in
theorem spec_l2Bent.ok (k : Nat) (b1000 : Nat) (l0_0 : List Int) (Al0_0 : Option Addr) (cl0_0 : Nat) (a0_1 : Int) (a0_2 : Int) (a1 : Int) (r0 : List S99) (r1 : Int) (r2 : Int) (H : spec_l2Bent.f k l0_0 a0_1 a0_2 a1 = some (r0, r1, r2)) : Fn Try.prog 88 [.pointer (some ⟨b1000, 0, none⟩), .int .i64 a1] [⟨b1000, 119, [.slice Al0_0 l0_0.length cl0_0, .int .i64 a0_1, .int .i64 a0_2]⟩] [.sl 0 (.int .u8) Al0_0 cl0_0 l0_0 0 false] (fun v bx en => ∃ A0 c0, v = .slice A0 r0.length c0 ∧ bx = [⟨b1000, 119, [.slice Al0_0 l0_0.length cl0_0, .int .i64 r1, .int .i64 r2]⟩] ∧ en = [.sl 2 k99 A0 c0 r0 1 true]) := by
 refine fn_ 17 Try.func88 rfl rfl rfl (fun base T w0 => ?_)
 rw [spec_l2Bent.f] at H
 refine gs (rg (sv (EV.as rfl) rfl (re (gs (rg (sv (EV.mv rfl) rfl (sv (EV.mv rfl) rfl ?_)))))))
 revert H; refine bdI ?_; rintro ⟨t1_0, t1_1, t1_2⟩ A1 H
 refine so rfl (op_callM (spec_l2Rows.ok k b1000 l0_0 Al0_0 cl0_0 a0_1 a0_2 a1 _ _ _ A1) [⟨0, 0, 0, false⟩] [0] [] 1 rfl rfl rfl rfl rfl rfl rfl rfl ?_)
 rintro _ _ _ ⟨At1_0, ct1_0, rfl, rfl, rfl⟩
 refine nmE (en := [.sl 0 (.int .u8) Al0_0 cl0_0 l0_0 0 false, .sl 2 k99 At1_0 ct1_0 t1_0 2 true]) (by kernel_rfl) (sv (EV.as rfl) rfl (re (gs (gs (rg (sv (EV.mv rfl) rfl ?_))))))
 revert H; refine bdI ?_; rintro ⟨t2_0, t2_1, t2_2⟩ A2 H
 refine so rfl (op_callM (spec_l1Once.ok b1000 l0_0 Al0_0 cl0_0 t1_1 t1_2 14 _ _ _ A2) [⟨0, 0, 0, false⟩] [0] [] 3 rfl rfl rfl rfl rfl rfl rfl rfl ?_)
 rintro _ _ _ ⟨rfl, rfl, rfl⟩
 refine nmE (en := [.sl 0 (.int .u8) Al0_0 cl0_0 l0_0 0 false, .sl 2 k99 At1_0 ct1_0 t1_0 2 true]) (by kernel_rfl) (re (pr [0, 5, 10] [0] [0, 1] rfl rfl rfl rfl ?_))
 revert H; refine ifsI ?_ ?_ <;> intro c3 H
 ·
  subst c3
  refine gt rfl rfl (rg (sv (EV.mv rfl) rfl (sv (EV.mv rfl) rfl ?_)))
  revert H; refine bdI ?_; rintro ⟨t4_0, t4_1, t4_2, t4_3, t4_4⟩ A4 H
  refine so rfl (op_callM (spec_l2Any.ok b1000 l0_0 Al0_0 cl0_0 t2_1 t2_2 _ _ _ _ _ A4) [⟨0, 0, 0, false⟩] [0] [] 3 rfl rfl rfl rfl rfl rfl rfl rfl ?_)
  rintro _ _ _ ⟨rfl, rfl, rfl⟩
  refine nmE (en := [.sl 0 (.int .u8) Al0_0 cl0_0 l0_0 0 false, .sl 2 k99 At1_0 ct1_0 t1_0 2 true]) (by kernel_rfl) (so rfl (op_lit (s := 3) (by_ := 24) k99 ([(⟨t4_0, t4_1, t4_2⟩ : S99)] : List S99) [[]] [] 3 [.tmp 13] rfl rfl rfl rfl rfl rfl rfl rfl rfl rfl rfl rfl rfl dq rfl fun A14_5 c14_5 => ?_))
  revert H; refine ggI ?_; intro g6 H
  refine so rfl (op_app (k := k99) (s := 3) (by_ := 24) 1 2 rfl rfl rfl rfl (ap1 g6 dq) (ap1n g6 dq) (.inl rfl) true (fun _ => .inl rfl) rfl rfl fun A15_7 c15_7 => (nmE (en := [.sl 0 (.int .u8) Al0_0 cl0_0 l0_0 0 false, .sl 2 k99 A14_5 c14_5 ([(⟨t4_0, t4_1, t4_2⟩ : S99)] : List S99) 3 true, .sl 2 k99 A15_7 c15_7 (t1_0 ++ ([(⟨t4_0, t4_1, t4_2⟩ : S99)] : List S99)) 2 true]) (by kernel_rfl) (sv (EV.as rfl) rfl (re (pr [5] [0] [0, 2] rfl rfl rfl rfl (gs (rg (sv (EV.mv rfl) rfl (sv (EV.as rfl) rfl (re ?_))))))))))
  cases H
  exact rt Try.func88 rfl (.tmp rfl .nil) rfl [0] [⟨1, 2, 1, true⟩] rfl rfl rfl rfl rfl ⟨_, _, rfl, rfl, rfl⟩
 ·
  obtain rfl := bF c3
  refine gf rfl rfl (gk (gs (rg (sv (EV.mv rfl) rfl (sv (EV.as rfl) rfl (re ?_))))))
  cases H
  exact rt Try.func88 rfl (.tmp rfl .nil) rfl [0] [⟨1, 2, 1, true⟩] rfl rfl rfl rfl rfl ⟨_, _, rfl, rfl, rfl⟩
end Go.Proofs.Ytamjndlkompeeaa.K
namespace Go.Proofs.Ytamjndlkompeeaa.K
open Go Go.RowKit
set_option linter.unusedVariables false
set_option linter.unusedSimpArgs false
def spec_DrawReferenceJoin.f (k : Nat) (l0 : List Int) : Option (Int × (List S99) × (List S99)) := (spec_l1New.f k l0).bind fun bt1 => ((spec_l7Kind.f l0 bt1.1 bt1.2).bind fun bt2 => ((spec_l2Bent.f k l0 bt2.2.1 bt2.2.2 7).bind fun bt3 => ((spec_l2Bent.f k l0 bt3.2.1 bt3.2.2 7).bind fun bt4 => (some (bt2.1, bt3.1, bt4.1)))))
set_option maxHeartbeats 4000000 in
set_option maxRecDepth 100000 in
theorem spec_DrawReferenceJoin.ok (k : Nat) (l0 : List Int) (Al0 : Option Addr) (cl0 : Nat) (r0 : Int) (r1 : List S99) (r2 : List S99) (H : spec_DrawReferenceJoin.f k l0 = some (r0, r1, r2)) : Fn Try.prog 72 [.slice Al0 l0.length cl0] [] [.sl 0 (.int .u8) Al0 cl0 l0 0 false] (fun v bx en => ∃ A1 c1 A2 c2, v = .tuple #[.int .i64 r0, .slice A1 r1.length c1, .slice A2 r2.length c2] ∧ bx = [] ∧ en = [.sl 2 k99 A1 c1 r1 1 true, .sl 2 k99 A2 c2 r2 2 true]) := by
 refine fn_ 18 Try.func72 rfl rfl rfl (fun base T w0 => ?_)
 rw [spec_DrawReferenceJoin.f] at H
 refine gs (rg (sv (EV.as rfl) rfl (sv (EV.as rfl) rfl (sv (EV.as rfl) rfl (re (gs (rg (sv (EV.mv rfl) rfl ?_))))))))
 revert H; refine bdI ?_; rintro ⟨t1_0, t1_1⟩ A1 H
 refine so rfl (op_callM (spec_l1New.ok k l0 Al0 cl0 _ _ A1) [⟨0, 0, 0, false⟩] [] [] 1 rfl rfl rfl rfl rfl rfl rfl rfl ?_)
 rintro _ _ _ ⟨b2001, rfl, rfl, rfl⟩
 refine nmE (en := [.sl 0 (.int .u8) Al0 cl0 l0 0 false]) (by kernel_rfl) (sv (EV.as rfl) rfl (re (pr [5] [0] [0] rfl rfl rfl rfl (gs (rg (sv (EV.mv rfl) rfl ?_))))))
 revert H; refine bdI ?_; rintro ⟨t2_0, t2_1, t2_2⟩ A2 H
 refine so rfl (op_callM (spec_l7Kind.ok b2001 l0 Al0 cl0 t1_0 t1_1 _ _ _ A2) [⟨0, 0, 0, false⟩] [0] [] 1 rfl rfl rfl rfl rfl rfl rfl rfl ?_)
 rintro _ _ _ ⟨rfl, rfl, rfl⟩
 refine nmE (en := [.sl 0 (.int .u8) Al0 cl0 l0 0 false]) (by kernel_rfl) (sv (EV.as rfl) rfl (re (gs (rg (sv (EV.mv rfl) rfl ?_)))))
 revert H; refine bdI ?_; rintro ⟨t3_0, t3_1, t3_2⟩ A3 H
 refine so rfl (op_callM (spec_l2Bent.ok k b2001 l0 Al0 cl0 t2_1 t2_2 7 _ _ _ A3) [⟨0, 0, 0, false⟩] [0] [] 1 rfl rfl rfl rfl rfl rfl rfl rfl ?_)
 rintro _ _ _ ⟨At3_0, ct3_0, rfl, rfl, rfl⟩
 refine nmE (en := [.sl 0 (.int .u8) Al0 cl0 l0 0 false, .sl 2 k99 At3_0 ct3_0 t3_0 2 true]) (by kernel_rfl) (sv (EV.as rfl) rfl (re (gs (rg (sv (EV.mv rfl) rfl (sv (EV.mv rfl) rfl (sv (EV.mv rfl) rfl ?_)))))))
 revert H; refine bdI ?_; rintro ⟨t4_0, t4_1, t4_2⟩ A4 H
 refine so rfl (op_callM (spec_l2Bent.ok k b2001 l0 Al0 cl0 t3_1 t3_2 7 _ _ _ A4) [⟨0, 0, 0, false⟩] [0] [] 3 rfl rfl rfl rfl rfl rfl rfl rfl ?_)
 rintro _ _ _ ⟨At4_0, ct4_0, rfl, rfl, rfl⟩
 refine nmE (en := [.sl 0 (.int .u8) Al0 cl0 l0 0 false, .sl 2 k99 At3_0 ct3_0 t3_0 2 true, .sl 2 k99 At4_0 ct4_0 t4_0 4 true]) (by kernel_rfl) (sv (EV.as rfl) rfl (sv (EV.as rfl) rfl (sv (EV.as rfl) rfl (re (pr [2, 3, 4] [] [1, 2] rfl rfl rfl rfl ?_)))))
 cases H
 exact rt Try.func72 rfl (.tmp rfl (.tmp rfl (.tmp rfl .nil))) rfl [] [⟨0, 2, 1, true⟩, ⟨1, 2, 2, true⟩] rfl rfl rfl rfl rfl ⟨_, _, _, _, rfl, rfl, rfl⟩
end Go.Proofs.Ytamjndlkompeeaa.K
namespace Go.Proofs.Ytamjndlkompeeaa.K
open Go Go.RowKit
set_option linter.unusedVariables false
set_option linter.unusedSimpArgs false
def spec_DrawNewJoiner.f (k : Nat) (l0 : List Int) : Option (Int × (List S99) × (List S99)) := (spec_DrawReferenceJoin.f k l0).bind fun bt1 => (some (bt1.1, bt1.2.1, bt1.2.2))
set_option maxHeartbeats 4000000 in
set_option maxRecDepth 100000 in
theorem spec_DrawNewJoiner.ok (k : Nat) (l0 : List Int) (Al0 : Option Addr) (cl0 : Nat) (r0 : Int) (r1 : List S99) (r2 : List S99) (H : spec_DrawNewJoiner.f k l0 = some (r0, r1, r2)) : Fn Try.prog 48 [.slice Al0 l0.length cl0] [] [.sl 0 (.int .u8) Al0 cl0 l0 0 false] (fun v bx en => ∃ A1 c1 A2 c2, v = .tuple #[.int .i64 r0, .slice A1 r1.length c1, .slice A2 r2.length c2] ∧ bx = [] ∧ en = [.sl 2 k99 A1 c1 r1 1 true, .sl 2 k99 A2 c2 r2 2 true]) := by
 refine fn_ 10 Try.func48 rfl rfl rfl (fun base T w0 => ?_)
 rw [spec_DrawNewJoiner.f] at H
 refine gs (rg (sv (EV.as rfl) rfl (sv (EV.as rfl) rfl (sv (EV.as rfl) rfl (re (gs (rg (sv (EV.mv rfl) rfl ?_))))))))
 revert H; refine bdI ?_; rintro ⟨t1_0, t1_1, t1_2⟩ A1 H
 refine so rfl (op_call (spec_DrawReferenceJoin.ok k l0 Al0 cl0 _ _ _ A1) [⟨0, 0, 0, false⟩] 1 rfl rfl rfl rfl rfl ?_)
 rintro _ _ _ ⟨At1_1, ct1_1, At1_2, ct1_2, rfl, rfl, rfl⟩
 refine sv (EV.ex rfl rfl) rfl (sv (EV.ex rfl rfl) rfl (sv (EV.ex rfl rfl) rfl (sv (EV.as rfl) rfl (sv (EV.as rfl) rfl (sv (EV.as rfl) rfl (re (pr [2, 3, 4] [] [1, 2] rfl rfl rfl rfl ?_)))))))
 cases H
 exact rt Try.func48 rfl (.tmp rfl (.tmp rfl (.tmp rfl .nil))) rfl [] [⟨0, 2, 1, true⟩, ⟨1, 2, 2, true⟩] rfl rfl rfl rfl rfl ⟨_, _, _, _, rfl, rfl, rfl⟩
end Go.Proofs.Ytamjndlkompeeaa.K
namespace Go.Proofs.Ytamjndlkompeeaa.K
open Go Go.RowKit
set_option linter.unusedVariables false
set_option linter.unusedSimpArgs false
def impl_clone.f (l0 : List S99) : Option ((List S99)) := if l0.length ≤ 5864062014805 then (some l0) else none
set_option maxHeartbeats 4000000 in
set_option maxRecDepth 100000 in
theorem impl_clone.ok (l0 : List S99) (Al0 : Option Addr) (cl0 : Nat) (r0 : List S99) (H : impl_clone.f l0 = some r0) : Fn Try.prog 75 [.slice Al0 l0.length cl0] [] [.sl 0 k99 Al0 cl0 l0 0 false] (fun v bx en => ∃ A0 c0, v = .slice A0 r0.length c0 ∧ bx = [] ∧ en = [.sl 2 k99 A0 c0 r0 1 true]) := by
 refine fn_ 5 Try.func75 rfl rfl rfl (fun base T w0 => ?_)
 rw [impl_clone.f] at H
 refine gs (rg (sv (EV.as rfl) rfl (re (gs (rg (sv (EV.mv rfl) rfl (nil_ k99 1 dq ?_)))))))
 revert H; refine ggI ?_; intro g1 H
 refine so rfl (op_app (k := k99) (s := 3) (by_ := 24) 1 0 rfl rfl rfl rfl (ap0 g1 dq) (ap0n g1 dq) (.inl rfl) true (fun _ => .inl rfl) rfl rfl fun A4_2 c4_2 => (nmE (en := [.sl 0 k99 Al0 cl0 l0 0 false, .sl 2 k99 A4_2 c4_2 l0 1 true]) (by kernel_rfl) (sv (EV.as rfl) rfl (re ?_))))
 cases H
 exact rt Try.func75 rfl (.tmp rfl .nil) rfl [] [⟨1, 2, 1, true⟩] rfl rfl rfl rfl rfl ⟨_, _, rfl, rfl, rfl⟩
end Go.Proofs.Ytamjndlkompeeaa.K
namespace Go.Proofs.Ytamjndlkompeeaa.K
open Go Go.RowKit
set_option linter.unusedVariables false
set_option linter.unusedSimpArgs false
def impl_NewTask.f (k : Nat) (a0 : Int) (l1 : List S99) (l2 : List S99) : Option (Int × (List S99) × (List S99) × (List Bool) × Int × Bool) := (impl_IsValidJoinKind.f a0).bind fun t1 => (if t1 = true then ((impl_AreValidRows.f k l1).bind fun t3 => (if t3 = true then ((impl_AreValidRows.f k l2).bind fun t5 => (if t5 = true then (if 0 ≤ (l1.length : Int) then (if (l1.length : Int).toNat ≤ 140737488355328 then ((impl_clone.f l1).bind fun t9 => ((impl_clone.f l2).bind fun t10 => (some (a0, t9, t10, List.replicate (l1.length : Int).toNat false, 0, true)))) else none) else none) else (some (0, [], [], [], 0, false)))) else (some (0, [], [], [], 0, false)))) else (some (0, [], [], [], 0, false)))
set_option maxHeartbeats 4000000 in
set_option maxRecDepth 100000 in
theorem impl_NewTask.ok (k : Nat) (a0 : Int) (l1 : List S99) (Al1 : Option Addr) (cl1 : Nat) (l2 : List S99) (Al2 : Option Addr) (cl2 : Nat) (r0 : Int) (r1 : List S99) (r2 : List S99) (r3 : List Bool) (r4 : Int) (r5 : Bool) (H : impl_NewTask.f k a0 l1 l2 = some (r0, r1, r2, r3, r4, r5)) : Fn Try.prog 17 [.int .i64 a0, .slice Al1 l1.length cl1, .slice Al2 l2.length cl2] [] [.sl 0 k99 Al1 cl1 l1 0 false, .sl 0 k99 Al2 cl2 l2 0 false] (fun v bx en => ∃ A1 c1 A2 c2 A3 c3, v = .tuple #[.agg #[.int .i64 r0, .slice A1 r1.length c1, .slice A2 r2.length c2, .slice A3 r3.length c3, .int .i64 r4], .bool r5] ∧ bx = [] ∧ en = [.sl 2 k99 A1 c1 r1 1 true, .sl 2 k99 A2 c2 r2 2 true, .sl 2 .bool A3 c3 r3 3 true]) := by
 refine fn_ 31 Try.func17 rfl rfl rfl (fun base T w0 => ?_)
 rw [impl_NewTask.f] at H
 refine gs (rg (so rfl (op_alloc (cs := [.int .i64 0, .slice none 0 0, .slice none 0 0, .slice none 0 0, .int .i64 0]) (by kernel_rfl) rfl fun b6 => (sv (EV.as rfl) rfl (re (gs (gs (rg (sv (EV.mv rfl) rfl ?_)))))))))
 revert H; refine bdI ?_; rintro t1 A1 H
 refine so rfl (op_call (impl_IsValidJoinKind.ok a0 _ A1) [] 1 rfl rfl rfl rfl rfl ?_)
 rintro _ _ _ ⟨rfl, rfl, rfl⟩
 refine sv (EV.nt rfl) rfl (sv (EV.mv rfl) rfl ?_)
 revert H; refine ifsI ?_ ?_ <;> intro c2 H
 ·
  subst c2
  refine ts 11 rfl rfl (sv (EV.mv rfl) rfl ?_)
  revert H; refine bdI ?_; rintro t3 A3 H
  refine so rfl (op_call (impl_AreValidRows.ok k l1 Al1 cl1 _ A3) [⟨0, 0, 0, false⟩] 1 rfl rfl rfl rfl rfl ?_)
  rintro _ _ _ ⟨rfl, rfl, rfl⟩
  refine sv (EV.nt rfl) rfl (sv (EV.pf rfl rfl rfl) rfl (sv (EV.mv rfl) rfl ?_))
  revert H; refine ifsI ?_ ?_ <;> intro c4 H
  ·
   subst c4
   refine ts 16 rfl rfl (sv (EV.mv rfl) rfl ?_)
   revert H; refine bdI ?_; rintro t5 A5 H
   refine so rfl (op_call (impl_AreValidRows.ok k l2 Al2 cl2 _ A5) [⟨1, 0, 0, false⟩] 1 rfl rfl rfl rfl rfl ?_)
   rintro _ _ _ ⟨rfl, rfl, rfl⟩
   refine sv (EV.nt rfl) rfl (sv (EV.pf rfl rfl rfl) rfl (re (pr [0, 1, 2, 6, 20] [0] [0, 1] rfl rfl rfl rfl ?_)))
   revert H; refine ifsI ?_ ?_ <;> intro c6 H
   ·
    subst c6
    refine gf rfl rfl (gk (gs ?_))
    revert H; refine ggI ?_; intro g7 H
    revert H; refine ggI ?_; intro g8 H
    refine dr [0] [0, 1] [9, 10] 11 rfl rfl rfl rfl (xv 0 [0] [0, 1] rfl (EV.mv rfl) rfl rfl rfl rfl (xv 1 [0] [0, 1] rfl (EV.mv rfl) rfl rfl rfl rfl (xv 3 [0] [0, 1] rfl (EV.mv rfl) rfl rfl rfl rfl (xv 5 [0] [0, 1] rfl (EV.mv rfl) rfl rfl rfl rfl (xv 6 [0] [0, 1] rfl (EV.ln rfl) rfl rfl rfl rfl ?_)))))
    refine one2 2 7 rfl rfl rfl rfl ?_ ?_
    ·
     revert H; refine bdI ?_; rintro t9 A9 H
     refine op_call (impl_clone.ok l1 Al1 cl1 _ A9) [⟨0, 0, 0, false⟩] 1 rfl rfl rfl rfl rfl ?_
     rintro _ _ _ ⟨At9, ct9, rfl, rfl, rfl⟩
     refine xs [0] [0, 1] rfl rfl rfl ?_
     refine one2 4 7 rfl rfl rfl rfl ?_ ?_
     ·
      revert H; refine bdI ?_; rintro t10 A10 H
      refine op_call (impl_clone.ok l2 Al2 cl2 _ A10) [⟨1, 0, 0, false⟩] 3 rfl rfl rfl rfl rfl ?_
      rintro _ _ _ ⟨At10, ct10, rfl, rfl, rfl⟩
      refine xs [0] [0, 1] rfl rfl rfl (one1 7 rfl rfl (op_mk (s := 1) (by_ := 1) .bool false 5 rfl rfl g7 (mk1 g8 dq) (mk2 g8 dq) mk25 rfl rfl dq rfl fun A29_11 c29_11 => (xs [0] [0, 1] rfl rfl rfl (xv 8 [0] [0, 1] rfl (EV.bd (v := .agg #[.int .i64 a0, .slice At9 t9.length ct9, .slice At10 t10.length ct10, .slice A29_11 (List.replicate (l1.length : Int).toNat false).length c29_11, .int .i64 0]) rfl (by kernel_rfl)) rfl rfl rfl rfl (one1 9 rfl rfl (op_st (cs' := [.int .i64 a0, .slice At9 t9.length ct9, .slice At10 t10.length ct10, .slice A29_11 (List.replicate (l1.length : Int).toNat false).length c29_11, .int .i64 0]) 0 rfl rfl rfl rfl rfl rfl (xn rfl (one1 10 rfl rfl (ov (EV.as rfl) rfl (xn rfl (xd (pr [6, 7] [0] [2, 3, 4] rfl rfl rfl rfl ?_))))))))))))
      cases H
      exact rt Try.func17 rfl (.cell 0 (some 5) rfl rfl rfl (.tmp rfl .nil)) rfl [] [⟨0, 2, 1, true⟩, ⟨1, 2, 2, true⟩, ⟨2, 2, 3, true⟩] rfl rfl rfl rfl rfl ⟨_, _, _, _, _, _, rfl, rfl, rfl⟩
     ·
      refine op_mk (s := 1) (by_ := 1) .bool false 3 rfl rfl g7 (mk1 g8 dq) (mk2 g8 dq) mk25 rfl rfl dq rfl fun A29_12 c29_12 => (xs [0] [0, 1] rfl rfl rfl (one1 4 rfl rfl ?_))
      revert H; refine bdI ?_; rintro t13 A13 H
      refine op_call (impl_clone.ok l2 Al2 cl2 _ A13) [⟨1, 0, 0, false⟩] 4 rfl rfl rfl rfl rfl ?_
      rintro _ _ _ ⟨At13, ct13, rfl, rfl, rfl⟩
      refine xs [0] [0, 1] rfl rfl rfl (xv 8 [0] [0, 1] rfl (EV.bd (v := .agg #[.int .i64 a0, .slice At9 t9.length ct9, .slice At13 t13.length ct13, .slice A29_12 (List.replicate (l1.length : Int).toNat false).length c29_12, .int .i64 0]) rfl (by kernel_rfl)) rfl rfl rfl rfl (one1 9 rfl rfl (op_st (cs' := [.int .i64 a0, .slice At9 t9.length ct9, .slice At13 t13.length ct13, .slice A29_12 (List.replicate (l1.length : Int).toNat false).length c29_12, .int .i64 0]) 0 rfl rfl rfl rfl rfl rfl (xn rfl (one1 10 rfl rfl (ov (EV.as rfl) rfl (xn rfl (xd (pr [6, 7] [0] [2, 3, 4] rfl rfl rfl rfl ?_)))))))))
      cases H
      exact rt Try.func17 rfl (.cell 0 (some 5) rfl rfl rfl (.tmp rfl .nil)) rfl [] [⟨0, 2, 1, true⟩, ⟨2, 2, 2, true⟩, ⟨1, 2, 3, true⟩] rfl rfl rfl rfl rfl ⟨_, _, _, _, _, _, rfl, rfl, rfl⟩
    ·
     refine op_mk (s := 1) (by_ := 1) .bool false 1 rfl rfl g7 (mk1 g8 dq) (mk2 g8 dq) mk25 rfl rfl dq rfl fun A29_14 c29_14 => (xs [0] [0, 1] rfl rfl rfl (one1 2 rfl rfl ?_))
     revert H; refine bdI ?_; rintro t15 A15 H
     refine op_call (impl_clone.ok l1 Al1 cl1 _ A15) [⟨0, 0, 0, false⟩] 2 rfl rfl rfl rfl rfl ?_
     rintro _ _ _ ⟨At15, ct15, rfl, rfl, rfl⟩
     refine xs [0] [0, 1] rfl rfl rfl (one1 4 rfl rfl ?_)
     revert H; refine bdI ?_; rintro t16 A16 H
     refine op_call (impl_clone.ok l2 Al2 cl2 _ A16) [⟨1, 0, 0, false⟩] 4 rfl rfl rfl rfl rfl ?_
     rintro _ _ _ ⟨At16, ct16, rfl, rfl, rfl⟩
     refine xs [0] [0, 1] rfl rfl rfl (xv 8 [0] [0, 1] rfl (EV.bd (v := .agg #[.int .i64 a0, .slice At15 t15.length ct15, .slice At16 t16.length ct16, .slice A29_14 (List.replicate (l1.length : Int).toNat false).length c29_14, .int .i64 0]) rfl (by kernel_rfl)) rfl rfl rfl rfl (one1 9 rfl rfl (op_st (cs' := [.int .i64 a0, .slice At15 t15.length ct15, .slice At16 t16.length ct16, .slice A29_14 (List.replicate (l1.length : Int).toNat false).length c29_14, .int .i64 0]) 0 rfl rfl rfl rfl rfl rfl (xn rfl (one1 10 rfl rfl (ov (EV.as rfl) rfl (xn rfl (xd (pr [6, 7] [0] [2, 3, 4] rfl rfl rfl rfl ?_)))))))))
     cases H
     exact rt Try.func17 rfl (.cell 0 (some 5) rfl rfl rfl (.tmp rfl .nil)) rfl [] [⟨1, 2, 1, true⟩, ⟨2, 2, 2, true⟩, ⟨0, 2, 3, true⟩] rfl rfl rfl rfl rfl ⟨_, _, _, _, _, _, rfl, rfl, rfl⟩
   ·
    obtain rfl := bF c6
    refine gt rfl rfl (gs (rg (sv (EV.bd (v := .agg #[.int .i64 0, .slice none 0 0, .slice none 0 0, .slice none 0 0, .int .i64 0]) rfl (by kernel_rfl)) rfl (so rfl (op_st (cs' := [.int .i64 0, .slice none 0 0, .slice none 0 0, .slice none 0 0, .int .i64 0]) 0 rfl rfl rfl rfl rfl rfl (sv (EV.as rfl) rfl (re (nil_ k99 1 dq (nil_ k99 2 dq (nil_ .bool 3 dq ?_))))))))))
    cases H
    exact rt Try.func17 rfl (.cell 0 (some 5) rfl rfl rfl (.tmp rfl .nil)) rfl [] [⟨2, 2, 1, true⟩, ⟨3, 2, 2, true⟩, ⟨4, 2, 3, true⟩] rfl rfl rfl rfl rfl ⟨_, _, _, _, _, _, rfl, rfl, rfl⟩
  ·
   obtain rfl := bF c4
   refine ts 16 rfl rfl (sk rfl (sk rfl (sk rfl (sv (EV.pt rfl rfl rfl) rfl (re (pr [0, 1, 2, 6, 20] [0] [0, 1] rfl rfl rfl rfl (gt rfl rfl (gs (rg (sv (EV.bd (v := .agg #[.int .i64 0, .slice none 0 0, .slice none 0 0, .slice none 0 0, .int .i64 0]) rfl (by kernel_rfl)) rfl (so rfl (op_st (cs' := [.int .i64 0, .slice none 0 0, .slice none 0 0, .slice none 0 0, .int .i64 0]) 0 rfl rfl rfl rfl rfl rfl (sv (EV.as rfl) rfl (re (nil_ k99 1 dq (nil_ k99 2 dq (nil_ .bool 3 dq ?_)))))))))))))))))
   cases H
   exact rt Try.func17 rfl (.cell 0 (some 5) rfl rfl rfl (.tmp rfl .nil)) rfl [] [⟨2, 2, 1, true⟩, ⟨3, 2, 2, true⟩, ⟨4, 2, 3, true⟩] rfl rfl rfl rfl rfl ⟨_, _, _, _, _, _, rfl, rfl, rfl⟩
 ·
  obtain rfl := bF c2
  refine ts 11 rfl rfl (sk rfl (sk rfl (sk rfl (sv (EV.pt rfl rfl rfl) rfl (sv (EV.mv rfl) rfl (sk rfl (sk rfl (sk rfl (sv (EV.pt rfl rfl rfl) rfl (re (pr [0, 1, 2, 6, 20] [0] [0, 1] rfl rfl rfl rfl (gt rfl rfl (gs (rg (sv (EV.bd (v := .agg #[.int .i64 0, .slice none 0 0, .slice none 0 0, .slice none 0 0, .int .i64 0]) rfl (by kernel_rfl)) rfl (so rfl (op_st (cs' := [.int .i64 0, .slice none 0 0, .slice none 0 0, .slice none 0 0, .int .i64 0]) 0 rfl rfl rfl rfl rfl rfl (sv (EV.as rfl) rfl (re (nil_ k99 1 dq (nil_ k99 2 dq (nil_ .bool 3 dq ?_))))))))))))))))))))))
  cases H
  exact rt Try.func17 rfl (.cell 0 (some 5) rfl rfl rfl (.tmp rfl .nil)) rfl [] [⟨2, 2, 1, true⟩, ⟨3, 2, 2, true⟩, ⟨4, 2, 3, true⟩] rfl rfl rfl rfl rfl ⟨_, _, _, _, _, _, rfl, rfl, rfl⟩
end Go.Proofs.Ytamjndlkompeeaa.K
namespace Go.Proofs.Ytamjndlkompeeaa.K
open Go Go.RowKit
set_option linter.unusedVariables false
set_option linter.unusedSimpArgs false
def impl_NewJoiner.f (k : Nat) (a0 : Int) (l1 : List S99) (l2 : List S99) : Option ((List S27) × Int × Int × Bool) := (impl_NewTask.f k a0 l1 l2).bind fun bt1 => (if bt1.2.2.2.2.2 = true then (some (([(⟨bt1.1, bt1.2.1, bt1.2.2.1, bt1.2.2.2.1, bt1.2.2.2.2.1⟩ : S27)] : List S27), 0, 0, true)) else (some ([], 0, 0, false)))
set_option maxHeartbeats 4000000 in
set_option maxRecDepth 100000 in
theorem impl_NewJoiner.ok (k : Nat) (a0 : Int) (l1 : List S99) (Al1 : Option Addr) (cl1 : Nat) (l2 : List S99) (Al2 : Option Addr) (cl2 : Nat) (r0 : List S27) (r1 : Int) (r2 : Int) (r3 : Bool) (H : impl_NewJoiner.f k a0 l1 l2 = some (r0, r1, r2, r3)) : Fn Try.prog 49 [.int .i64 a0, .slice Al1 l1.length cl1, .slice Al2 l2.length cl2] [] [.sl 0 k99 Al1 cl1 l1 0 false, .sl 0 k99 Al2 cl2 l2 0 false] (fun v bx en => ∃ A0 c0, v = .tuple #[.agg #[.slice A0 r0.length c0, .int .i64 r1, .int .i64 r2], .bool r3] ∧ bx = [] ∧ en = [.sl 2 k27 A0 c0 r0 1 true]) := by
 refine fn_ 23 Try.func49 rfl rfl rfl (fun base T w0 => ?_)
 rw [impl_NewJoiner.f] at H
 refine gs (rg (so rfl (op_alloc (cs := [.slice none 0 0, .int .i64 0, .int .i64 0]) (by kernel_rfl) rfl fun b6 => (sv (EV.as rfl) rfl (re (gs (rg (sv (EV.mv rfl) rfl (sv (EV.mv rfl) rfl (sv (EV.mv rfl) rfl ?_))))))))))
 revert H; refine bdI ?_; rintro ⟨t1_0, t1_1, t1_2, t1_3, t1_4, t1_5⟩ A1 H
 refine so rfl (op_call (impl_NewTask.ok k a0 l1 Al1 cl1 l2 Al2 cl2 _ _ _ _ _ _ A1) [⟨0, 0, 0, false⟩, ⟨1, 0, 0, false⟩] 1 rfl rfl rfl rfl rfl ?_)
 rintro _ _ _ ⟨At1_1, ct1_1, At1_2, ct1_2, At1_3, ct1_3, rfl, rfl, rfl⟩
 refine sv (EV.mv rfl) rfl (sv (EV.ex rfl rfl) rfl (sv (EV.ex rfl rfl) rfl (so rfl (op_alloc (cs := [.int .i64 0, .slice none 0 0, .slice none 0 0, .slice none 0 0, .int .i64 0]) (by kernel_rfl) rfl fun b8 => (so rfl (op_st (cs' := [.int .i64 t1_0, .slice At1_1 t1_1.length ct1_1, .slice At1_2 t1_2.length ct1_2, .slice At1_3 t1_3.length ct1_3, .int .i64 t1_4]) 1 rfl rfl rfl rfl rfl rfl (sv (EV.as rfl) rfl (re (pr [6, 8, 9] [0, 1] [2, 3, 4] rfl rfl rfl rfl (gs (gs (rg (sv (EV.mv rfl) rfl (sv (EV.nt rfl) rfl (re ?_)))))))))))))))
 revert H; refine ifsI ?_ ?_ <;> intro c2 H
 ·
  subst c2
  refine gf rfl rfl (gk (gs (rg (sv (EV.ld (v := .agg #[.int .i64 t1_0, .slice At1_1 t1_1.length ct1_1, .slice At1_2 t1_2.length ct1_2, .slice At1_3 t1_3.length ct1_3, .int .i64 t1_4]) 1 (some 5) rfl rfl rfl) rfl (so rfl (op_lit (s := 5) (by_ := 88) k27 ([(⟨t1_0, t1_1, t1_2, t1_3, t1_4⟩ : S27)] : List S27) [[(At1_1, ct1_1), (At1_2, ct1_2), (At1_3, ct1_3)]] [0, 1, 2] 5 [.tmp 20] rfl rfl rfl rfl rfl rfl rfl rfl rfl rfl rfl rfl rfl dq rfl fun A21_3 c21_3 => (nmE (en := [.sl 2 k99 At1_1 ct1_1 t1_1 5 true, .sl 2 k99 At1_2 ct1_2 t1_2 5 true, .sl 2 .bool At1_3 ct1_3 t1_3 5 true, .sl 2 k27 A21_3 c21_3 ([(⟨t1_0, t1_1, t1_2, t1_3, t1_4⟩ : S27)] : List S27) 5 true]) (by kernel_rfl) (sv (EV.bd (v := .agg #[.slice A21_3 ([(⟨t1_0, t1_1, t1_2, t1_3, t1_4⟩ : S27)] : List S27).length c21_3, .int .i64 0, .int .i64 0]) rfl (by kernel_rfl)) rfl (so rfl (op_st (cs' := [.slice A21_3 ([(⟨t1_0, t1_1, t1_2, t1_3, t1_4⟩ : S27)] : List S27).length c21_3, .int .i64 0, .int .i64 0]) 0 rfl rfl rfl rfl rfl rfl (sv (EV.as rfl) rfl (re (pr [6, 7] [0] [3] rfl rfl rfl rfl ?_)))))))))))))
  cases H
  exact rt Try.func49 rfl (.cell 0 (some 3) rfl rfl rfl (.tmp rfl .nil)) rfl [] [⟨0, 2, 1, true⟩] rfl rfl rfl rfl rfl ⟨_, _, rfl, rfl, rfl⟩
 ·
  obtain rfl := bF c2
  refine gt rfl rfl (gs (rg (sv (EV.bd (v := .agg #[.slice none 0 0, .int .i64 0, .int .i64 0]) rfl (by kernel_rfl)) rfl (so rfl (op_st (cs' := [.slice none 0 0, .int .i64 0, .int .i64 0]) 0 rfl rfl rfl rfl rfl rfl (sv (EV.as rfl) rfl (re (nil_ k27 5 dq ?_))))))))
  cases H
  exact rt Try.func49 rfl (.cell 0 (some 3) rfl rfl rfl (.tmp rfl .nil)) rfl [] [⟨3, 2, 1, true⟩] rfl rfl rfl rfl rfl ⟨_, _, rfl, rfl, rfl⟩
end Go.Proofs.Ytamjndlkompeeaa.K
namespace Go.Proofs.Ytamjndlkompeeaa.K
open Go Go.RowKit
set_option linter.unusedVariables false
set_option linter.unusedSimpArgs false
def impl_equal.l0 : Nat → Int → Int → (List S99) → (List S99) → Option (Bool)
 | 0, _, _, _, _ => none
 | k + 1, x2_12, x2_13, l0, l1 => if x2_13 < x2_12 then (if 0 ≤ x2_13 then (if x2_13 < (l0.length : Int) then (if x2_13 < (l1.length : Int) then (if (((rd_T99 l0 x2_13).f0) == ((rd_T99 l1 x2_13).f0) && (((rd_T99 l0 x2_13).f1) == ((rd_T99 l1 x2_13).f1) && (((rd_T99 l0 x2_13).f2) == ((rd_T99 l1 x2_13).f2)))) = true then (impl_equal.l0 k x2_12 (wrap64 (x2_13 + 1)) l0 l1) else (some false)) else none) else none) else none) else (some true)
def impl_equal.f (k : Nat) (l0 : List S99) (l1 : List S99) : Option (Bool) := if (l0.length : Int) = (l1.length : Int) then (impl_equal.l0 k (l0.length : Int) 0 l0 l1) else (some false)
set_option maxHeartbeats 4000000 in
set_option maxRecDepth 100000 in
theorem impl_equal.ok (k : Nat) (l0 : List S99) (Al0 : Option Addr) (cl0 : Nat) (l1 : List S99) (Al1 : Option Addr) (cl1 : Nat) (r0 : Bool) (H : impl_equal.f k l0 l1 = some r0) : Fn Try.prog 80 [.slice Al0 l0.length cl0, .slice Al1 l1.length cl1] [] [.sl 0 k99 Al0 cl0 l0 0 false, .sl 0 k99 Al1 cl1 l1 0 false] (fun v bx en => v = .bool r0 ∧ bx = [] ∧ en = []) := by
 refine fn_ 26 Try.func80 rfl rfl rfl (fun base T w0 => ?_)
 rw [impl_equal.f] at H
 refine gs (rg (sv (EV.as rfl) rfl (re (gs (gs (rg (sv (EV.mv rfl) rfl (sv (EV.ln rfl) rfl (sv (EV.mv rfl) rfl (sv (EV.ln rfl) rfl (sv (EV.neq rfl rfl) rfl (re ?_))))))))))))
 revert H; refine ifsI ?_ ?_ <;> intro c1 H
 ·
  refine gf rfl (nF c1) (gk (gs (gs (rg (sv (EV.mv rfl) rfl (sv (EV.ln rfl) rfl (sv (EV.mv rfl) rfl (re (pr [0, 1, 12, 13] [] [0, 1] rfl rfl rfl rfl (gb ?_))))))))))
  refine lo (fun kk S => ∃ (x2_12 : Int) (x2_13 : Int), impl_equal.l0 kk x2_12 x2_13 l0 l1 = some r0 ∧ S = ⟨[(0, .slice Al0 l0.length cl0), (1, .slice Al1 l1.length cl1), (12, .int .i64 x2_12), (13, .int .i64 x2_13)], [], [.sl 0 k99 Al0 cl0 l0 0 false, .sl 0 k99 Al1 cl1 l1 0 false]⟩) (fun S hS => ?_) (fun n0 ih0 S hS => ?_) ⟨(l0.length : Int), 0, H, rfl⟩ (fun h => wk [0, 1, 12, 13] [] [⟨0, 0, 0, false⟩, ⟨1, 0, 0, false⟩] h)
  · clear H; obtain ⟨_, _, H, _⟩ := hS; rw [impl_equal.l0] at H; cases H
  clear H
  obtain ⟨x2_12, x2_13, H, rfl⟩ := hS
  rw [impl_equal.l0] at H
  refine gs (rg (sv (EV.lss rfl rfl) rfl (re (gs ?_))))
  revert H; refine ifsI ?_ ?_ <;> intro c2 H
  ·
   refine gt rfl (dT c2) (gk (gs (gb (gs (rg (sv (EV.mv rfl) rfl (sv (EV.as rfl) rfl (re (gs ?_)))))))))
   revert H; refine ggI ?_; intro g3 H
   revert H; refine ggI ?_; intro g4 H
   revert H; refine ggI ?_; intro g5 H
   refine dr [] [0, 1] [] 9 rfl rfl rfl rfl (xv 0 [] [0, 1] rfl (EV.mv rfl) rfl rfl rfl rfl (xv 1 [] [0, 1] rfl (EV.mv rfl) rfl rfl rfl rfl (xv 2 [] [0, 1] rfl (EV.ix 0 rfl rfl rfl g3 g4 rfl) rfl rfl rfl rfl (xv 3 [] [0, 1] rfl (EV.le (v := .agg #[.int .i64 ((rd_T99 l0 x2_13).f0), .int .i64 ((rd_T99 l0 x2_13).f1), .int .i64 ((rd_T99 l0 x2_13).f2)]) x2_13 0 (some 3) 0 z99 rfl rfl rfl g3 g4 rfl rfl rfl) rfl rfl rfl rfl (xv 4 [] [0, 1] rfl (EV.mv rfl) rfl rfl rfl rfl (xv 5 [] [0, 1] rfl (EV.mv rfl) rfl rfl rfl rfl (xv 6 [] [0, 1] rfl (EV.ix 1 rfl rfl rfl g3 g5 rfl) rfl rfl rfl rfl (xv 7 [] [0, 1] rfl (EV.le (v := .agg #[.int .i64 ((rd_T99 l1 x2_13).f0), .int .i64 ((rd_T99 l1 x2_13).f1), .int .i64 ((rd_T99 l1 x2_13).f2)]) x2_13 0 (some 3) 1 z99 rfl rfl rfl g3 g5 rfl rfl rfl) rfl rfl rfl rfl (xv 8 [] [0, 1] rfl (EV.neS rfl rfl (fun d w => eq99 d w ((rd_T99 l0 x2_13).f0) ((rd_T99 l1 x2_13).f0) ((rd_T99 l0 x2_13).f1) ((rd_T99 l1 x2_13).f1) ((rd_T99 l0 x2_13).f2) ((rd_T99 l1 x2_13).f2))) rfl rfl rfl rfl (xd (pr [0, 1, 12, 13, 24] [] [0, 1] rfl rfl rfl rfl ?_)))))))))))
   revert H; refine ifsI ?_ ?_ <;> intro c6 H
   ·
    exact gf rfl (bN c6) (gk (ge (rg (sv (EV.add rfl rfl) rfl (sv (EV.mv rfl) rfl (re (wk [0, 1, 12, 13] [] [⟨0, 0, 0, false⟩, ⟨1, 0, 0, false⟩] (ih0 _ (by omega) _ ⟨x2_12, wrap64 (x2_13 + 1), H, rfl⟩))))))))
   ·
    refine gt rfl (bM c6) (gs (rg (sv (EV.as rfl) rfl (re ?_))))
    cases H
    exact rt Try.func80 rfl (.tmp rfl .nil) rfl [] [] rfl rfl rfl rfl rfl ⟨rfl, rfl, rfl⟩
  ·
   refine gf rfl (dF c2) (gx rfl (gs (rg (sv (EV.as rfl) rfl (re ?_)))))
   cases H
   exact rt Try.func80 rfl (.tmp rfl .nil) rfl [] [] rfl rfl rfl rfl rfl ⟨rfl, rfl, rfl⟩
 ·
  refine gt rfl (nT c1) (gs (rg (sv (EV.as rfl) rfl (re (pr [4] [] [] rfl rfl rfl rfl ?_)))))
  cases H
  exact rt Try.func80 rfl (.tmp rfl .nil) rfl [] [] rfl rfl rfl rfl rfl ⟨rfl, rfl, rfl⟩
end Go.Proofs.Ytamjndlkompeeaa.K
namespace Go.Proofs.Ytamjndlkompeeaa.K
open Go Go.RowKit
set_option linter.unusedVariables false
set_option linter.unusedSimpArgs false
def slices_Equal__bool_bool.l0 : Nat → Int → Int → (List Bool) → (List Bool) → Option (Bool)
 | 0, _, _, _, _ => none
 | k + 1, x2_12, x2_13, l0, l1 => if x2_13 < x2_12 then (if 0 ≤ x2_13 then (if x2_13 < (l0.length : Int) then (if x2_13 < (l1.length : Int) then (if ((rdOf false l0 x2_13) == (rdOf false l1 x2_13)) = true then (slices_Equal__bool_bool.l0 k x2_12 (wrap64 (x2_13 + 1)) l0 l1) else (some false)) else none) else none) else none) else (some true)
def slices_Equal__bool_bool.f (k : Nat) (l0 : List Bool) (l1 : List Bool) : Option (Bool) := if (l0.length : Int) = (l1.length : Int) then (slices_Equal__bool_bool.l0 k (l0.length : Int) 0 l0 l1) else (some false)
set_option maxHeartbeats 4000000 in
set_option maxRecDepth 100000 in
theorem slices_Equal__bool_bool.ok (k : Nat) (l0 : List Bool) (Al0 : Option Addr) (cl0 : Nat) (l1 : List Bool) (Al1 : Option Addr) (cl1 : Nat) (r0 : Bool) (H : slices_Equal__bool_bool.f k l0 l1 = some r0) : Fn Try.prog 81 [.slice Al0 l0.length cl0, .slice Al1 l1.length cl1] [] [.sl 0 .bool Al0 cl0 l0 0 false, .sl 0 .bool Al1 cl1 l1 0 false] (fun v bx en => v = .bool r0 ∧ bx = [] ∧ en = []) := by
 refine fn_ 26 Try.func81 rfl rfl rfl (fun base T w0 => ?_)
 rw [slices_Equal__bool_bool.f] at H
 refine gs (rg (sv (EV.as rfl) rfl (re (gs (gs (rg (sv (EV.mv rfl) rfl (sv (EV.ln rfl) rfl (sv (EV.mv rfl) rfl (sv (EV.ln rfl) rfl (sv (EV.neq rfl rfl) rfl (re ?_))))))))))))
 revert H; refine ifsI ?_ ?_ <;> intro c1 H
 ·
  refine gf rfl (nF c1) (gk (gs (gs (rg (sv (EV.mv rfl) rfl (sv (EV.ln rfl) rfl (sv (EV.mv rfl) rfl (re (pr [0, 1, 12, 13] [] [0, 1] rfl rfl rfl rfl (gb ?_))))))))))
  refine lo (fun kk S => ∃ (x2_12 : Int) (x2_13 : Int), slices_Equal__bool_bool.l0 kk x2_12 x2_13 l0 l1 = some r0 ∧ S = ⟨[(0, .slice Al0 l0.length cl0), (1, .slice Al1 l1.length cl1), (12, .int .i64 x2_12), (13, .int .i64 x2_13)], [], [.sl 0 .bool Al0 cl0 l0 0 false, .sl 0 .bool Al1 cl1 l1 0 false]⟩) (fun S hS => ?_) (fun n0 ih0 S hS => ?_) ⟨(l0.length : Int), 0, H, rfl⟩ (fun h => wk [0, 1, 12, 13] [] [⟨0, 0, 0, false⟩, ⟨1, 0, 0, false⟩] h)
  · clear H; obtain ⟨_, _, H, _⟩ := hS; rw [slices_Equal__bool_bool.l0] at H; cases H
  clear H
  obtain ⟨x2_12, x2_13, H, rfl⟩ := hS
  rw [slices_Equal__bool_bool.l0] at H
  refine gs (rg (sv (EV.lss rfl rfl) rfl (re (gs ?_))))
  revert H; refine ifsI ?_ ?_ <;> intro c2 H
  ·
   refine gt rfl (dT c2) (gk (gs (gb (gs (rg (sv (EV.mv rfl) rfl (sv (EV.as rfl) rfl (re (gs ?_)))))))))
   revert H; refine ggI ?_; intro g3 H
   revert H; refine ggI ?_; intro g4 H
   revert H; refine ggI ?_; intro g5 H
   refine dr [] [0, 1] [] 9 rfl rfl rfl rfl (xv 0 [] [0, 1] rfl (EV.mv rfl) rfl rfl rfl rfl (xv 1 [] [0, 1] rfl (EV.mv rfl) rfl rfl rfl rfl (xv 2 [] [0, 1] rfl (EV.ix 0 rfl rfl rfl g3 g4 rfl) rfl rfl rfl rfl (xv 3 [] [0, 1] rfl (EV.le (v := .bool (rdOf false l0 x2_13)) x2_13 0 none 0 false rfl rfl rfl g3 g4 rfl rfl rfl) rfl rfl rfl rfl (xv 4 [] [0, 1] rfl (EV.mv rfl) rfl rfl rfl rfl (xv 5 [] [0, 1] rfl (EV.mv rfl) rfl rfl rfl rfl (xv 6 [] [0, 1] rfl (EV.ix 1 rfl rfl rfl g3 g5 rfl) rfl rfl rfl rfl (xv 7 [] [0, 1] rfl (EV.le (v := .bool (rdOf false l1 x2_13)) x2_13 0 none 1 false rfl rfl rfl g3 g5 rfl rfl rfl) rfl rfl rfl rfl (xv 8 [] [0, 1] rfl (EV.neb rfl rfl) rfl rfl rfl rfl (xd (pr [0, 1, 12, 13, 24] [] [0, 1] rfl rfl rfl rfl ?_)))))))))))
   revert H; refine ifsI ?_ ?_ <;> intro c6 H
   ·
    exact gf rfl (bN c6) (gk (ge (rg (sv (EV.add rfl rfl) rfl (sv (EV.mv rfl) rfl (re (wk [0, 1, 12, 13] [] [⟨0, 0, 0, false⟩, ⟨1, 0, 0, false⟩] (ih0 _ (by omega) _ ⟨x2_12, wrap64 (x2_13 + 1), H, rfl⟩))))))))
   ·
    refine gt rfl (bM c6) (gs (rg (sv (EV.as rfl) rfl (re ?_))))
    cases H
    exact rt Try.func81 rfl (.tmp rfl .nil) rfl [] [] rfl rfl rfl rfl rfl ⟨rfl, rfl, rfl⟩
  ·
   refine gf rfl (dF c2) (gx rfl (gs (rg (sv (EV.as rfl) rfl (re ?_)))))
   cases H
   exact rt Try.func81 rfl (.tmp rfl .nil) rfl [] [] rfl rfl rfl rfl rfl ⟨rfl, rfl, rfl⟩
 ·
  refine gt rfl (nT c1) (gs (rg (sv (EV.as rfl) rfl (re (pr [4] [] [] rfl rfl rfl rfl ?_)))))
  cases H
  exact rt Try.func81 rfl (.tmp rfl .nil) rfl [] [] rfl rfl rfl rfl rfl ⟨rfl, rfl, rfl⟩
end Go.Proofs.Ytamjndlkompeeaa.K
namespace Go.Proofs.Ytamjndlkompeeaa.K
open Go Go.RowKit
set_option linter.unusedVariables false
set_option linter.unusedSimpArgs false
def impl_EqualTasks.f (k : Nat) (a0_0 : Int) (l0_1 : List S99) (l0_2 : List S99) (l0_3 : List Bool) (a0_4 : Int) (a1_0 : Int) (l1_1 : List S99) (l1_2 : List S99) (l1_3 : List Bool) (a1_4 : Int) : Option (Bool) := if a0_0 = a1_0 then ((impl_equal.f k l0_1 l1_1).bind fun t2 => (if t2 = true then ((impl_equal.f k l0_2 l1_2).bind fun t4 => (if t4 = true then ((slices_Equal__bool_bool.f k l0_3 l1_3).bind fun t6 => (if t6 = true then (some (decide (a0_4 = a1_4))) else (some false))) else (some false))) else (some false))) else (some false)
set_option maxHeartbeats 4000000 in
set_option maxRecDepth 100000 in
theorem impl_EqualTasks.ok (k : Nat) (a0_0 : Int) (l0_1 : List S99) (Al0_1 : Option Addr) (cl0_1 : Nat) (l0_2 : List S99) (Al0_2 : Option Addr) (cl0_2 : Nat) (l0_3 : List Bool) (Al0_3 : Option Addr) (cl0_3 : Nat) (a0_4 : Int) (a1_0 : Int) (l1_1 : List S99) (Al1_1 : Option Addr) (cl1_1 : Nat) (l1_2 : List S99) (Al1_2 : Option Addr) (cl1_2 : Nat) (l1_3 : List Bool) (Al1_3 : Option Addr) (cl1_3 : Nat) (a1_4 : Int) (r0 : Bool) (H : impl_EqualTasks.f k a0_0 l0_1 l0_2 l0_3 a0_4 a1_0 l1_1 l1_2 l1_3 a1_4 = some r0) : Fn Try.prog 22 [.agg #[.int .i64 a0_0, .slice Al0_1 l0_1.length cl0_1, .slice Al0_2 l0_2.length cl0_2, .slice Al0_3 l0_3.length cl0_3, .int .i64 a0_4], .agg #[.int .i64 a1_0, .slice Al1_1 l1_1.length cl1_1, .slice Al1_2 l1_2.length cl1_2, .slice Al1_3 l1_3.length cl1_3, .int .i64 a1_4]] [] [.sl 0 k99 Al0_1 cl0_1 l0_1 0 false, .sl 0 k99 Al0_2 cl0_2 l0_2 0 false, .sl 0 .bool Al0_3 cl0_3 l0_3 0 false, .sl 0 k99 Al1_1 cl1_1 l1_1 0 false, .sl 0 k99 Al1_2 cl1_2 l1_2 0 false, .sl 0 .bool Al1_3 cl1_3 l1_3 0 false] (fun v bx en => v = .bool r0 ∧ bx = [] ∧ en = []) := by
 refine fn_ 38 Try.func22 rfl rfl rfl (fun base T w0 => ?_)
 rw [impl_EqualTasks.f] at H
 refine gs (rg (so rfl (op_box (cs := [.int .i64 a0_0, .slice Al0_1 l0_1.length cl0_1, .slice Al0_2 l0_2.length cl0_2, .slice Al0_3 l0_3.length cl0_3, .int .i64 a0_4]) rfl rfl rfl fun b2 => (so rfl (op_box (cs := [.int .i64 a1_0, .slice Al1_1 l1_1.length cl1_1, .slice Al1_2 l1_2.length cl1_2, .slice Al1_3 l1_3.length cl1_3, .int .i64 a1_4]) rfl rfl rfl fun b3 => (sv (EV.as rfl) rfl (re (gs (rg (sv (EV.fa 0 rfl) rfl (sv (EV.ld 0 none rfl rfl rfl) rfl (sv (EV.fa 0 rfl) rfl (sv (EV.ld 1 none rfl rfl rfl) rfl (sv (EV.eql rfl rfl) rfl (sv (EV.mv rfl) rfl ?_)))))))))))))))
 revert H; refine ifsI ?_ ?_ <;> intro c1 H
 ·
  refine ts 10 rfl (dT c1) (sv (EV.fa 1 rfl) rfl (sv (EV.ld 0 none rfl rfl rfl) rfl (sv (EV.fa 1 rfl) rfl (sv (EV.ld 1 none rfl rfl rfl) rfl ?_))))
  revert H; refine bdI ?_; rintro t2 A2 H
  refine so rfl (op_call (impl_equal.ok k l0_1 Al0_1 cl0_1 l1_1 Al1_1 cl1_1 _ A2) [⟨0, 0, 0, false⟩, ⟨3, 0, 0, false⟩] 1 rfl rfl rfl rfl rfl ?_)
  rintro _ _ _ ⟨rfl, rfl, rfl⟩
  refine sv (EV.pt rfl rfl rfl) rfl (sv (EV.mv rfl) rfl ?_)
  revert H; refine ifsI ?_ ?_ <;> intro c3 H
  ·
   subst c3
   refine ts 17 rfl rfl (sv (EV.fa 2 rfl) rfl (sv (EV.ld 0 none rfl rfl rfl) rfl (sv (EV.fa 2 rfl) rfl (sv (EV.ld 1 none rfl rfl rfl) rfl ?_))))
   revert H; refine bdI ?_; rintro t4 A4 H
   refine so rfl (op_call (impl_equal.ok k l0_2 Al0_2 cl0_2 l1_2 Al1_2 cl1_2 _ A4) [⟨1, 0, 0, false⟩, ⟨4, 0, 0, false⟩] 1 rfl rfl rfl rfl rfl ?_)
   rintro _ _ _ ⟨rfl, rfl, rfl⟩
   refine sv (EV.pt rfl rfl rfl) rfl (sv (EV.mv rfl) rfl ?_)
   revert H; refine ifsI ?_ ?_ <;> intro c5 H
   ·
    subst c5
    refine ts 24 rfl rfl (sv (EV.fa 3 rfl) rfl (sv (EV.ld 0 none rfl rfl rfl) rfl (sv (EV.fa 3 rfl) rfl (sv (EV.ld 1 none rfl rfl rfl) rfl ?_))))
    revert H; refine bdI ?_; rintro t6 A6 H
    refine so rfl (op_call (slices_Equal__bool_bool.ok k l0_3 Al0_3 cl0_3 l1_3 Al1_3 cl1_3 _ A6) [⟨2, 0, 0, false⟩, ⟨5, 0, 0, false⟩] 1 rfl rfl rfl rfl rfl ?_)
    rintro _ _ _ ⟨rfl, rfl, rfl⟩
    refine sv (EV.pt rfl rfl rfl) rfl (sv (EV.mv rfl) rfl ?_)
    revert H; refine ifsI ?_ ?_ <;> intro c7 H
    ·
     subst c7
     refine ts 31 rfl rfl (sv (EV.fa 4 rfl) rfl (sv (EV.ld 0 none rfl rfl rfl) rfl (sv (EV.fa 4 rfl) rfl (sv (EV.ld 1 none rfl rfl rfl) rfl (sv (EV.eql rfl rfl) rfl (sv (EV.pt rfl rfl rfl) rfl (sv (EV.as rfl) rfl (re (pr [4] [] [] rfl rfl rfl rfl ?_)))))))))
     cases H
     exact rt Try.func22 rfl (.tmp rfl .nil) rfl [] [] rfl rfl rfl rfl rfl ⟨rfl, rfl, rfl⟩
    ·
     obtain rfl := bF c7
     refine ts 31 rfl rfl (sk rfl (sk rfl (sk rfl (sk rfl (sk rfl (sv (EV.pf rfl rfl rfl) rfl (sv (EV.as rfl) rfl (re (pr [4] [] [] rfl rfl rfl rfl ?_)))))))))
     cases H
     exact rt Try.func22 rfl (.tmp rfl .nil) rfl [] [] rfl rfl rfl rfl rfl ⟨rfl, rfl, rfl⟩
   ·
    obtain rfl := bF c5
    refine ts 24 rfl rfl (sk rfl (sk rfl (sk rfl (sk rfl (sk rfl (sv (EV.pf rfl rfl rfl) rfl (sv (EV.mv rfl) rfl (sk rfl (sk rfl (sk rfl (sk rfl (sk rfl (sv (EV.pf rfl rfl rfl) rfl (sv (EV.as rfl) rfl (re (pr [4] [] [] rfl rfl rfl rfl ?_))))))))))))))))
    cases H
    exact rt Try.func22 rfl (.tmp rfl .nil) rfl [] [] rfl rfl rfl rfl rfl ⟨rfl, rfl, rfl⟩
  ·
   obtain rfl := bF c3
   refine ts 17 rfl rfl (sk rfl (sk rfl (sk rfl (sk rfl (sk rfl (sv (EV.pf rfl rfl rfl) rfl (sv (EV.mv rfl) rfl (sk rfl (sk rfl (sk rfl (sk rfl (sk rfl (sv (EV.pf rfl rfl rfl) rfl (sv (EV.mv rfl) rfl (sk rfl (sk rfl (sk rfl (sk rfl (sk rfl (sv (EV.pf rfl rfl rfl) rfl (sv (EV.as rfl) rfl (re (pr [4] [] [] rfl rfl rfl rfl ?_)))))))))))))))))))))))
   cases H
   exact rt Try.func22 rfl (.tmp rfl .nil) rfl [] [] rfl rfl rfl rfl rfl ⟨rfl, rfl, rfl⟩
 ·
  refine ts 10 rfl (dF c1) (sk rfl (sk rfl (sk rfl (sk rfl (sk rfl (sv (EV.pf rfl rfl rfl) rfl (sv (EV.mv rfl) rfl (sk rfl (sk rfl (sk rfl (sk rfl (sk rfl (sv (EV.pf rfl rfl rfl) rfl (sv (EV.mv rfl) rfl (sk rfl (sk rfl (sk rfl (sk rfl (sk rfl (sv (EV.pf rfl rfl rfl) rfl (sv (EV.mv rfl) rfl (sk rfl (sk rfl (sk rfl (sk rfl (sk rfl (sv (EV.pf rfl rfl rfl) rfl (sv (EV.as rfl) rfl (re ?_)))))))))))))))))))))))))))))
  refine pr [4] [] [] rfl rfl rfl rfl ?_
  cases H
  exact rt Try.func22 rfl (.tmp rfl .nil) rfl [] [] rfl rfl rfl rfl rfl ⟨rfl, rfl, rfl⟩
end Go.Proofs.Ytamjndlkompeeaa.K
namespace Go.Proofs.Ytamjndlkompeeaa.K
open Go Go.RowKit
set_option linter.unusedVariables false
set_option linter.unusedSimpArgs false
def impl_EqualJoiners.l0 : Nat → Int → Int → Int → Int → Int → Int → (List S27) → (List S27) → Option (Bool)
 | 0, _, _, _, _, _, _, _, _ => none
 | k + 1, x2_29, x2_30, x2_2_1, x2_2_2, x2_3_1, x2_3_2, l0_0, l1_0 => if x2_30 < x2_29 then (if 0 ≤ x2_30 then (if x2_30 < (l0_0.length : Int) then (if x2_30 < (l1_0.length : Int) then ((impl_EqualTasks.f k ((rd_T27 l0_0 x2_30).f0) ((rd_T27 l0_0 x2_30).f1) ((rd_T27 l0_0 x2_30).f2) ((rd_T27 l0_0 x2_30).f3) ((rd_T27 l0_0 x2_30).f4) ((rd_T27 l1_0 x2_30).f0) ((rd_T27 l1_0 x2_30).f1) ((rd_T27 l1_0 x2_30).f2) ((rd_T27 l1_0 x2_30).f3) ((rd_T27 l1_0 x2_30).f4)).bind fun t14 => (if t14 = true then (impl_EqualJoiners.l0 k x2_29 (wrap64 (x2_30 + 1)) x2_2_1 x2_2_2 x2_3_1 x2_3_2 l0_0 l1_0) else (some false))) else none) else none) else none) else (some true)
def impl_EqualJoiners.f (k : Nat) (l0_0 : List S27) (a0_1 : Int) (a0_2 : Int) (l1_0 : List S27) (a1_1 : Int) (a1_2 : Int) : Option (Bool) := if a0_1 = a1_1 then (if a0_2 = a1_2 then (if (l0_0.length : Int) = (l1_0.length : Int) then (impl_EqualJoiners.l0 k (l0_0.length : Int) 0 a0_1 a0_2 a1_1 a1_2 l0_0 l1_0) else (some false)) else (some false)) else (some false)
set_option maxHeartbeats 4000000 in
set_option maxRecDepth 100000 in
theorem impl_EqualJoiners.ok (k : Nat) (l0_0 : List S27) (Al0_0 : Option Addr) (cl0_0 : Nat) (a0_1 : Int) (a0_2 : Int) (l1_0 : List S27) (Al1_0 : Option Addr) (cl1_0 : Nat) (a1_1 : Int) (a1_2 : Int) (r0 : Bool) (H : impl_EqualJoiners.f k l0_0 a0_1 a0_2 l1_0 a1_1 a1_2 = some r0) : Fn Try.prog 52 [.agg #[.slice Al0_0 l0_0.length cl0_0, .int .i64 a0_1, .int .i64 a0_2], .agg #[.slice Al1_0 l1_0.length cl1_0, .int .i64 a1_1, .int .i64 a1_2]] [] [.sl 0 k27 Al0_0 cl0_0 l0_0 0 false, .sl 0 k27 Al1_0 cl1_0 l1_0 0 false] (fun v bx en => v = .bool r0 ∧ bx = [] ∧ en = []) := by
 refine fn_ 46 Try.func52 rfl rfl rfl (fun base T w0 => ?_)
 rw [impl_EqualJoiners.f] at H
 refine gs (rg (so rfl (op_box (cs := [.slice Al0_0 l0_0.length cl0_0, .int .i64 a0_1, .int .i64 a0_2]) rfl rfl rfl fun b2 => (so rfl (op_box (cs := [.slice Al1_0 l1_0.length cl1_0, .int .i64 a1_1, .int .i64 a1_2]) rfl rfl rfl fun b3 => (sv (EV.as rfl) rfl (re (gs (gs (rg (sv (EV.fa 1 rfl) rfl (sv (EV.ld 0 none rfl rfl rfl) rfl (sv (EV.fa 1 rfl) rfl (sv (EV.ld 1 none rfl rfl rfl) rfl (sv (EV.neq rfl rfl) rfl (sv (EV.mv rfl) rfl ?_))))))))))))))))
 revert H; refine ifsI ?_ ?_ <;> intro c1 H
 ·
  refine ts 11 rfl (nF c1) (sv (EV.fa 2 rfl) rfl (sv (EV.ld 0 none rfl rfl rfl) rfl (sv (EV.fa 2 rfl) rfl (sv (EV.ld 1 none rfl rfl rfl) rfl (sv (EV.neq rfl rfl) rfl (sv (EV.pf rfl rfl rfl) rfl (sv (EV.mv rfl) rfl ?_)))))))
  revert H; refine ifsI ?_ ?_ <;> intro c2 H
  ·
   refine ts 18 rfl (nF c2) (sv (EV.fa 0 rfl) rfl (sv (EV.ld 0 none rfl rfl rfl) rfl (sv (EV.ln rfl) rfl (sv (EV.fa 0 rfl) rfl (sv (EV.ld 1 none rfl rfl rfl) rfl (sv (EV.ln rfl) rfl (sv (EV.neq rfl rfl) rfl (sv (EV.pf rfl rfl rfl) rfl (re (pr [2, 3, 26] [0, 1] [0, 1] rfl rfl rfl rfl ?_))))))))))
   revert H; refine ifsI ?_ ?_ <;> intro c3 H
   ·
    refine gf rfl (nF c3) (gk (gs (gs (rg (sv (EV.fa 0 rfl) rfl (sv (EV.ld 0 none rfl rfl rfl) rfl (sv (EV.ln rfl) rfl (sv (EV.mv rfl) rfl (re (gb ?_))))))))))
    refine lo (fun kk S => ∃ (x2_29 : Int) (x2_30 : Int) (x2_2_1 : Int) (x2_2_2 : Int) (x2_3_1 : Int) (x2_3_2 : Int), impl_EqualJoiners.l0 kk x2_29 x2_30 x2_2_1 x2_2_2 x2_3_1 x2_3_2 l0_0 l1_0 = some r0 ∧ S = ⟨[(2, .pointer (some ⟨b2, 0, none⟩)), (3, .pointer (some ⟨b3, 0, none⟩)), (29, .int .i64 x2_29), (30, .int .i64 x2_30)], [⟨b2, 60, [.slice Al0_0 l0_0.length cl0_0, .int .i64 x2_2_1, .int .i64 x2_2_2]⟩, ⟨b3, 60, [.slice Al1_0 l1_0.length cl1_0, .int .i64 x2_3_1, .int .i64 x2_3_2]⟩], [.sl 0 k27 Al0_0 cl0_0 l0_0 0 false, .sl 0 k27 Al1_0 cl1_0 l1_0 0 false]⟩) (fun S hS => ?_) (fun n0 ih0 S hS => ?_) ⟨(l0_0.length : Int), 0, a0_1, a0_2, a1_1, a1_2, H, rfl⟩ (fun h => wk [2, 3, 29, 30] [0, 1] [⟨0, 0, 0, false⟩, ⟨1, 0, 0, false⟩] h)
    · clear H; obtain ⟨_, _, _, _, _, _, H, _⟩ := hS; rw [impl_EqualJoiners.l0] at H; cases H
    clear H
    obtain ⟨x2_29, x2_30, x2_2_1, x2_2_2, x2_3_1, x2_3_2, H, rfl⟩ := hS
    rw [impl_EqualJoiners.l0] at H
    refine gs (rg (sv (EV.lss rfl rfl) rfl (re (gs ?_))))
    revert H; refine ifsI ?_ ?_ <;> intro c4 H
    ·
     refine gt rfl (dT c4) (gk (gs (gb (gs (rg (sv (EV.mv rfl) rfl (sv (EV.as rfl) rfl (re (gs ?_)))))))))
     revert H; refine ggI ?_; intro g5 H
     revert H; refine ggI ?_; intro g6 H
     refine opn (i := x2_30) 0 z27 rfl g5 g6 fun A_7 c_7 A_8 c_8 A_9 c_9 => ?_
     revert H; refine ggI ?_; intro g10 H
     refine opn (i := x2_30) 1 z27 rfl g5 g10 fun A_11 c_11 A_12 c_12 A_13 c_13 => (dr [0, 1] [0, 1, 2, 3, 4, 5, 6, 7, 8, 9] [] 12 rfl rfl rfl rfl (xv 0 [0, 1] [0, 1, 2, 3, 4, 5, 6, 7, 8, 9] rfl (EV.fa 0 rfl) rfl rfl rfl rfl (xv 1 [0, 1] [0, 1, 2, 3, 4, 5, 6, 7, 8, 9] rfl (EV.ld 0 none rfl rfl rfl) rfl rfl rfl rfl (xv 2 [0, 1] [0, 1, 2, 3, 4, 5, 6, 7, 8, 9] rfl (EV.mv rfl) rfl rfl rfl rfl (xv 3 [0, 1] [0, 1, 2, 3, 4, 5, 6, 7, 8, 9] rfl (EV.ix 0 rfl rfl rfl g5 g6 rfl) rfl rfl rfl rfl (xv 4 [0, 1] [0, 1, 2, 3, 4, 5, 6, 7, 8, 9] rfl (EV.lc (v := .agg #[.int .i64 ((rd_T27 l0_0 x2_30).f0), .slice A_7 ((rd_T27 l0_0 x2_30).f1).length c_7, .slice A_8 ((rd_T27 l0_0 x2_30).f2).length c_8, .slice A_9 ((rd_T27 l0_0 x2_30).f3).length c_9, .int .i64 ((rd_T27 l0_0 x2_30).f4)]) 0 (some 5) 2 rfl rfl rfl rfl) rfl rfl rfl rfl (xv 5 [0, 1] [0, 1, 2, 3, 4, 5, 6, 7, 8, 9] rfl (EV.fa 0 rfl) rfl rfl rfl rfl (xv 6 [0, 1] [0, 1, 2, 3, 4, 5, 6, 7, 8, 9] rfl (EV.ld 1 none rfl rfl rfl) rfl rfl rfl rfl (xv 7 [0, 1] [0, 1, 2, 3, 4, 5, 6, 7, 8, 9] rfl (EV.mv rfl) rfl rfl rfl rfl (xv 8 [0, 1] [0, 1, 2, 3, 4, 5, 6, 7, 8, 9] rfl (EV.ix 1 rfl rfl rfl g5 g10 rfl) rfl rfl rfl rfl (xv 9 [0, 1] [0, 1, 2, 3, 4, 5, 6, 7, 8, 9] rfl (EV.lc (v := .agg #[.int .i64 ((rd_T27 l1_0 x2_30).f0), .slice A_11 ((rd_T27 l1_0 x2_30).f1).length c_11, .slice A_12 ((rd_T27 l1_0 x2_30).f2).length c_12, .slice A_13 ((rd_T27 l1_0 x2_30).f3).length c_13, .int .i64 ((rd_T27 l1_0 x2_30).f4)]) 0 (some 5) 6 rfl rfl rfl rfl) rfl rfl rfl rfl (one1 10 rfl rfl ?_))))))))))))
     revert H; refine bdI ?_; rintro t14 A14 H
     refine op_call (impl_EqualTasks.ok n0 ((rd_T27 l0_0 x2_30).f0) ((rd_T27 l0_0 x2_30).f1) A_7 c_7 ((rd_T27 l0_0 x2_30).f2) A_8 c_8 ((rd_T27 l0_0 x2_30).f3) A_9 c_9 ((rd_T27 l0_0 x2_30).f4) ((rd_T27 l1_0 x2_30).f0) ((rd_T27 l1_0 x2_30).f1) A_11 c_11 ((rd_T27 l1_0 x2_30).f2) A_12 c_12 ((rd_T27 l1_0 x2_30).f3) A_13 c_13 ((rd_T27 l1_0 x2_30).f4) _ A14) [⟨3, 0, 0, false⟩, ⟨4, 0, 0, false⟩, ⟨5, 0, 0, false⟩, ⟨7, 0, 0, false⟩, ⟨8, 0, 0, false⟩, ⟨9, 0, 0, false⟩] 1 rfl rfl rfl rfl rfl ?_
     rintro _ _ _ ⟨rfl, rfl, rfl⟩
     refine xs [0, 1] [0, 1, 2, 3, 4, 5, 6, 7, 8, 9] rfl rfl rfl (xv 11 [0, 1] [0, 1, 2, 3, 4, 5, 6, 7, 8, 9] rfl (EV.nt rfl) rfl rfl rfl rfl (xd (pr [2, 3, 29, 30, 44] [0, 1] [0, 1] rfl rfl rfl rfl ?_)))
     revert H; refine ifsI ?_ ?_ <;> intro c15 H
     ·
      subst c15
      exact gf rfl rfl (gk (ge (rg (sv (EV.add rfl rfl) rfl (sv (EV.mv rfl) rfl (re (wk [2, 3, 29, 30] [0, 1] [⟨0, 0, 0, false⟩, ⟨1, 0, 0, false⟩] (ih0 _ (by omega) _ ⟨x2_29, wrap64 (x2_30 + 1), x2_2_1, x2_2_2, x2_3_1, x2_3_2, H, rfl⟩))))))))
     ·
      obtain rfl := bF c15
      refine gt rfl rfl (gs (rg (sv (EV.as rfl) rfl (re ?_))))
      cases H
      exact rt Try.func52 rfl (.tmp rfl .nil) rfl [] [] rfl rfl rfl rfl rfl ⟨rfl, rfl, rfl⟩
    ·
     refine gf rfl (dF c4) (gx rfl (gs (rg (sv (EV.as rfl) rfl (re ?_)))))
     cases H
     exact rt Try.func52 rfl (.tmp rfl .nil) rfl [] [] rfl rfl rfl rfl rfl ⟨rfl, rfl, rfl⟩
   ·
    refine gt rfl (nT c3) (gs (rg (sv (EV.as rfl) rfl (re ?_))))
    cases H
    exact rt Try.func52 rfl (.tmp rfl .nil) rfl [] [] rfl rfl rfl rfl rfl ⟨rfl, rfl, rfl⟩
  ·
   refine ts 18 rfl (nT c2) (sk rfl (sk rfl (sk rfl (sk rfl (sk rfl (sk rfl (sk rfl (sv (EV.pt rfl rfl rfl) rfl (re (pr [2, 3, 26] [0, 1] [0, 1] rfl rfl rfl rfl (gt rfl rfl (gs (rg (sv (EV.as rfl) rfl (re ?_)))))))))))))))
   cases H
   exact rt Try.func52 rfl (.tmp rfl .nil) rfl [] [] rfl rfl rfl rfl rfl ⟨rfl, rfl, rfl⟩
 ·
  refine ts 11 rfl (nT c1) (sk rfl (sk rfl (sk rfl (sk rfl (sk rfl (sv (EV.pt rfl rfl rfl) rfl (sv (EV.mv rfl) rfl (sk rfl (sk rfl (sk rfl (sk rfl (sk rfl (sk rfl (sk rfl (sv (EV.pt rfl rfl rfl) rfl (re (pr [2, 3, 26] [0, 1] [0, 1] rfl rfl rfl rfl (gt rfl rfl (gs (rg (sv (EV.as rfl) rfl (re ?_))))))))))))))))))))))
  cases H
  exact rt Try.func52 rfl (.tmp rfl .nil) rfl [] [] rfl rfl rfl rfl rfl ⟨rfl, rfl, rfl⟩
end Go.Proofs.Ytamjndlkompeeaa.K
namespace Go.Proofs.Ytamjndlkompeeaa.K
open Go Go.RowKit
set_option linter.unusedVariables false
set_option linter.unusedSimpArgs false
def laws_big.f (l0 : List Int) : Option (Bool) := some (decide ((l0.length : Int) > 1048576))
set_option maxHeartbeats 4000000 in
set_option maxRecDepth 100000 in
theorem laws_big.ok (l0 : List Int) (Al0 : Option Addr) (cl0 : Nat) (r0 : Bool) (H : laws_big.f l0 = some r0) : Fn Try.prog 7 [.slice Al0 l0.length cl0] [] [.sl 0 (.int .u8) Al0 cl0 l0 0 false] (fun v bx en => v = .bool r0 ∧ bx = [] ∧ en = []) := by
 refine fn_ 6 Try.func7 rfl rfl rfl (fun base T w0 => ?_)
 rw [laws_big.f] at H
 refine gs (rg (sv (EV.as rfl) rfl (re (gs (rg (sv (EV.mv rfl) rfl (sv (EV.ln rfl) rfl (sv (EV.gtr rfl rfl) rfl (sv (EV.as rfl) rfl (re ?_))))))))))
 cases H
 exact rt Try.func7 rfl (.tmp rfl .nil) rfl [] [] rfl rfl rfl rfl rfl ⟨rfl, rfl, rfl⟩
end Go.Proofs.Ytamjndlkompeeaa.K
namespace Go.Proofs.Ytamjndlkompeeaa.K
open Go Go.RowKit
set_option linter.unusedVariables false
set_option linter.unusedSimpArgs false
def laws_FnJoinerRoundTrip.f (k : Nat) (l0 : List Int) : Option (Bool) := (laws_big.f l0).bind fun t1 => (if t1 = true then (some true) else ((spec_DrawFormatJoiner.f k l0).bind fun bt3 => ((impl_FormatJoiner.f k bt3.1 bt3.2.1 bt3.2.2).bind fun t4 => ((impl_ParseJoiner.f k t4).bind fun bt5 => ((spec_DrawParseJoiner.f k l0).bind fun t6 => ((impl_ParseJoiner.f k t6).bind fun bt7 => ((spec_ParseJoiner.f k t6).bind fun bt8 => ((spec_DrawEqualJoiners.f k l0).bind fun bt9 => ((spec_DrawNewJoiner.f k l0).bind fun bt10 => ((impl_NewJoiner.f k bt10.1 bt10.2.1 bt10.2.2).bind fun bt11 => ((spec_NewJoiner.f k bt10.1 bt10.2.1 bt10.2.2).bind fun bt12 => ((spec_IsValidJoiner.f k bt3.1 bt3.2.1 bt3.2.2).bind fun t13 => (if (bt5.2.2.2 == t13) = true then (if bt5.2.2.2 = true then ((spec_EqualJoiners.f k bt5.1 bt5.2.1 bt5.2.2.1 bt3.1 bt3.2.1 bt3.2.2).bind fun t16 => (if t16 = true then (if (bt7.2.2.2 == bt8.2.2.2) = true then (if bt7.2.2.2 = true then ((impl_FormatJoiner.f k bt7.1 bt7.2.1 bt7.2.2.1).bind fun t20 => (if t20.toList = t6.toList then ((impl_EqualJoiners.f k bt9.1 bt9.2.1 bt9.2.2.1 bt9.2.2.2.1 bt9.2.2.2.2.1 bt9.2.2.2.2.2).bind fun t22 => ((spec_EqualJoiners.f k bt9.1 bt9.2.1 bt9.2.2.1 bt9.2.2.2.1 bt9.2.2.2.2.1 bt9.2.2.2.2.2).bind fun t23 => (if (t22 == t23) = true then (if (bt11.2.2.2 == bt12.2.2.2) = true then ((spec_EqualJoiners.f k bt11.1 bt11.2.1 bt11.2.2.1 bt12.1 bt12.2.1 bt12.2.2.1).bind fun t26 => (some t26)) else (some false)) else (some false)))) else (some false))) else ((impl_EqualJoiners.f k bt9.1 bt9.2.1 bt9.2.2.1 bt9.2.2.2.1 bt9.2.2.2.2.1 bt9.2.2.2.2.2).bind fun t27 => ((spec_EqualJoiners.f k bt9.1 bt9.2.1 bt9.2.2.1 bt9.2.2.2.1 bt9.2.2.2.2.1 bt9.2.2.2.2.2).bind fun t28 => (if (t27 == t28) = true then (if (bt11.2.2.2 == bt12.2.2.2) = true then ((spec_EqualJoiners.f k bt11.1 bt11.2.1 bt11.2.2.1 bt12.1 bt12.2.1 bt12.2.2.1).bind fun t31 => (some t31)) else (some false)) else (some false))))) else (some false)) else (some false))) else (if (bt7.2.2.2 == bt8.2.2.2) = true then (if bt7.2.2.2 = true then ((impl_FormatJoiner.f k bt7.1 bt7.2.1 bt7.2.2.1).bind fun t34 => (if t34.toList = t6.toList then ((impl_EqualJoiners.f k bt9.1 bt9.2.1 bt9.2.2.1 bt9.2.2.2.1 bt9.2.2.2.2.1 bt9.2.2.2.2.2).bind fun t36 => ((spec_EqualJoiners.f k bt9.1 bt9.2.1 bt9.2.2.1 bt9.2.2.2.1 bt9.2.2.2.2.1 bt9.2.2.2.2.2).bind fun t37 => (if (t36 == t37) = true then (if (bt11.2.2.2 == bt12.2.2.2) = true then ((spec_EqualJoiners.f k bt11.1 bt11.2.1 bt11.2.2.1 bt12.1 bt12.2.1 bt12.2.2.1).bind fun t40 => (some t40)) else (some false)) else (some false)))) else (some false))) else ((impl_EqualJoiners.f k bt9.1 bt9.2.1 bt9.2.2.1 bt9.2.2.2.1 bt9.2.2.2.2.1 bt9.2.2.2.2.2).bind fun t41 => ((spec_EqualJoiners.f k bt9.1 bt9.2.1 bt9.2.2.1 bt9.2.2.2.1 bt9.2.2.2.2.1 bt9.2.2.2.2.2).bind fun t42 => (if (t41 == t42) = true then (if (bt11.2.2.2 == bt12.2.2.2) = true then ((spec_EqualJoiners.f k bt11.1 bt11.2.1 bt11.2.2.1 bt12.1 bt12.2.1 bt12.2.2.1).bind fun t45 => (some t45)) else (some false)) else (some false))))) else (some false))) else (some false))))))))))))))
set_option maxHeartbeats 4000000 in
set_option maxRecDepth 100000 in
theorem laws_FnJoinerRoundTrip.ok (k : Nat) (l0 : List Int) (Al0 : Option Addr) (cl0 : Nat) (r0 : Bool) (H : laws_FnJoinerRoundTrip.f k l0 = some r0) : Fn Try.prog 6 [.slice Al0 l0.length cl0] [] [.sl 0 (.int .u8) Al0 cl0 l0 0 false] (fun v bx en => v = .bool r0 ∧ bx = [] ∧ en = []) := by
 refine fn_ 114 Try.func6 rfl rfl rfl (fun base T w0 => ?_)
 rw [laws_FnJoinerRoundTrip.f] at H
 refine gs (rg (sv (EV.as rfl) rfl (re (gs (gs (rg (sv (EV.mv rfl) rfl ?_)))))))
 revert H; refine bdI ?_; rintro t1 A1 H
 refine so rfl (op_call (laws_big.ok l0 Al0 cl0 _ A1) [⟨0, 0, 0, false⟩] 1 rfl rfl rfl rfl rfl ?_)
 rintro _ _ _ ⟨rfl, rfl, rfl⟩
 refine re ?_
 revert H; refine ifsI ?_ ?_ <;> intro c2 H
 ·
  subst c2
  refine gt rfl rfl (gs (rg (sv (EV.as rfl) rfl (re ?_))))
  cases H
  exact rt Try.func6 rfl (.tmp rfl .nil) rfl [] [] rfl rfl rfl rfl rfl ⟨rfl, rfl, rfl⟩
 ·
  obtain rfl := bF c2
  refine gf rfl rfl (gk (gs (rg (sv (EV.mv rfl) rfl ?_))))
  revert H; refine bdI ?_; rintro ⟨t3_0, t3_1, t3_2⟩ A3 H
  refine so rfl (op_call (spec_DrawFormatJoiner.ok k l0 Al0 cl0 _ _ _ A3) [⟨0, 0, 0, false⟩] 1 rfl rfl rfl rfl rfl ?_)
  rintro _ _ _ ⟨At3_0, ct3_0, rfl, rfl, rfl⟩
  refine so rfl (op_alloc (cs := [.slice none 0 0, .int .i64 0, .int .i64 0]) (by kernel_rfl) rfl fun b3 => (so rfl (op_st (cs' := [.slice At3_0 t3_0.length ct3_0, .int .i64 t3_1, .int .i64 t3_2]) 0 rfl rfl rfl rfl rfl rfl (re (gs (rg (sv (EV.ld (v := .agg #[.slice At3_0 t3_0.length ct3_0, .int .i64 t3_1, .int .i64 t3_2]) 0 (some 3) rfl rfl rfl) rfl ?_)))))))
  revert H; refine bdI ?_; rintro t4 A4 H
  refine so rfl (op_call (impl_FormatJoiner.ok k t3_0 At3_0 ct3_0 t3_1 t3_2 _ A4) [⟨1, 0, 0, false⟩] 3 rfl rfl rfl rfl rfl ?_)
  rintro _ _ _ ⟨rfl, rfl, rfl⟩
  revert H; refine bdI ?_; rintro ⟨t5_0, t5_1, t5_2, t5_3⟩ A5 H
  refine so rfl (op_call (impl_ParseJoiner.ok k t4 _ _ _ _ A5) [] 3 rfl rfl rfl rfl rfl ?_)
  rintro _ _ _ ⟨At5_0, ct5_0, rfl, rfl, rfl⟩
  refine sv (EV.mv rfl) rfl (sv (EV.ex rfl rfl) rfl (sv (EV.ex rfl rfl) rfl (so rfl (op_alloc (cs := [.slice none 0 0, .int .i64 0, .int .i64 0]) (by kernel_rfl) rfl fun b4 => (so rfl (op_st (cs' := [.slice At5_0 t5_0.length ct5_0, .int .i64 t5_1, .int .i64 t5_2]) 1 rfl rfl rfl rfl rfl rfl (sv (EV.as rfl) rfl (re (pr [0, 3, 4, 5] [0, 1] [0, 1, 2] rfl rfl rfl rfl (gs (rg (sv (EV.mv rfl) rfl ?_))))))))))))
  revert H; refine bdI ?_; rintro t6 A6 H
  refine so rfl (op_call (spec_DrawParseJoiner.ok k l0 Al0 cl0 _ A6) [⟨0, 0, 0, false⟩] 5 rfl rfl rfl rfl rfl ?_)
  rintro _ _ _ ⟨rfl, rfl, rfl⟩
  refine sv (EV.as rfl) rfl (re (gs (rg (sv (EV.mv rfl) rfl ?_))))
  revert H; refine bdI ?_; rintro ⟨t7_0, t7_1, t7_2, t7_3⟩ A7 H
  refine so rfl (op_call (impl_ParseJoiner.ok k t6 _ _ _ _ A7) [] 5 rfl rfl rfl rfl rfl ?_)
  rintro _ _ _ ⟨At7_0, ct7_0, rfl, rfl, rfl⟩
  refine sv (EV.mv rfl) rfl (sv (EV.ex rfl rfl) rfl (sv (EV.ex rfl rfl) rfl (so rfl (op_alloc (cs := [.slice none 0 0, .int .i64 0, .int .i64 0]) (by kernel_rfl) rfl fun b7 => (so rfl (op_st (cs' := [.slice At7_0 t7_0.length ct7_0, .int .i64 t7_1, .int .i64 t7_2]) 2 rfl rfl rfl rfl rfl rfl (sv (EV.as rfl) rfl (re (pr [0, 3, 4, 5, 6, 7, 8] [0, 1, 2] [0, 1, 2, 3] rfl rfl rfl rfl (gs (rg (sv (EV.mv rfl) rfl ?_))))))))))))
  revert H; refine bdI ?_; rintro ⟨t8_0, t8_1, t8_2, t8_3⟩ A8 H
  refine so rfl (op_call (spec_ParseJoiner.ok k t6 _ _ _ _ A8) [] 7 rfl rfl rfl rfl rfl ?_)
  rintro _ _ _ ⟨At8_0, ct8_0, rfl, rfl, rfl⟩
  refine sv (EV.mv rfl) rfl (sv (EV.ex rfl rfl) rfl (sv (EV.ex rfl rfl) rfl (so rfl (op_alloc (cs := [.slice none 0 0, .int .i64 0, .int .i64 0]) (by kernel_rfl) rfl fun b9 => (so rfl (op_st (cs' := [.slice At8_0 t8_0.length ct8_0, .int .i64 t8_1, .int .i64 t8_2]) 3 rfl rfl rfl rfl rfl rfl (sv (EV.as rfl) rfl (re (pr [0, 3, 4, 5, 6, 7, 8, 10] [0, 1, 2] [0, 1, 2, 3] rfl rfl rfl rfl (gs (rg (sv (EV.mv rfl) rfl ?_))))))))))))
  revert H; refine bdI ?_; rintro ⟨t9_0, t9_1, t9_2, t9_3, t9_4, t9_5⟩ A9 H
  refine so rfl (op_call (spec_DrawEqualJoiners.ok k l0 Al0 cl0 _ _ _ _ _ _ A9) [⟨0, 0, 0, false⟩] 7 rfl rfl rfl rfl rfl ?_)
  rintro _ _ _ ⟨At9_0, ct9_0, At9_3, ct9_3, rfl, rfl, rfl⟩
  refine sv (EV.mv rfl) rfl (sv (EV.ex rfl rfl) rfl (sv (EV.ex rfl rfl) rfl (so rfl (op_alloc (cs := [.slice none 0 0, .int .i64 0, .int .i64 0]) (by kernel_rfl) rfl fun b11 => (so rfl (op_alloc (cs := [.slice none 0 0, .int .i64 0, .int .i64 0]) (by kernel_rfl) rfl fun b12 => (so rfl (op_st (cs' := [.slice At9_0 t9_0.length ct9_0, .int .i64 t9_1, .int .i64 t9_2]) 3 rfl rfl rfl rfl rfl rfl (so rfl (op_st (cs' := [.slice At9_3 t9_3.length ct9_3, .int .i64 t9_4, .int .i64 t9_5]) 4 rfl rfl rfl rfl rfl rfl (re (gs (rg (sv (EV.mv rfl) rfl ?_))))))))))))))
  revert H; refine bdI ?_; rintro ⟨t10_0, t10_1, t10_2⟩ A10 H
  refine so rfl (op_call (spec_DrawNewJoiner.ok k l0 Al0 cl0 _ _ _ A10) [⟨0, 0, 0, false⟩] 10 rfl rfl rfl rfl rfl ?_)
  rintro _ _ _ ⟨At10_1, ct10_1, At10_2, ct10_2, rfl, rfl, rfl⟩
  refine sv (EV.mv rfl) rfl (sv (EV.ex rfl rfl) rfl (sv (EV.ex rfl rfl) rfl (sv (EV.ex rfl rfl) rfl (sv (EV.as rfl) rfl (sv (EV.as rfl) rfl (sv (EV.as rfl) rfl (re (pr [3, 4, 5, 6, 7, 8, 10, 11, 12, 13, 14, 15] [0, 1, 2, 3, 4] [1, 2, 3, 4, 5, 6, 7] rfl rfl rfl rfl (gs (rg (sv (EV.mv rfl) rfl (sv (EV.mv rfl) rfl (sv (EV.mv rfl) rfl ?_)))))))))))))
  revert H; refine bdI ?_; rintro ⟨t11_0, t11_1, t11_2, t11_3⟩ A11 H
  refine so rfl (op_call (impl_NewJoiner.ok k t10_0 t10_1 At10_1 ct10_1 t10_2 At10_2 ct10_2 _ _ _ _ A11) [⟨5, 0, 0, false⟩, ⟨6, 0, 0, false⟩] 13 rfl rfl rfl rfl rfl ?_)
  rintro _ _ _ ⟨At11_0, ct11_0, rfl, rfl, rfl⟩
  refine sv (EV.mv rfl) rfl (sv (EV.ex rfl rfl) rfl (sv (EV.ex rfl rfl) rfl (so rfl (op_alloc (cs := [.slice none 0 0, .int .i64 0, .int .i64 0]) (by kernel_rfl) rfl fun b16 => (so rfl (op_st (cs' := [.slice At11_0 t11_0.length ct11_0, .int .i64 t11_1, .int .i64 t11_2]) 5 rfl rfl rfl rfl rfl rfl (sv (EV.as rfl) rfl (re (pr [3, 4, 5, 6, 7, 8, 10, 11, 12, 13, 14, 15, 16, 17] [0, 1, 2, 3, 4, 5] [0, 1, 2, 3, 4, 5, 6, 7] rfl rfl rfl rfl (gs (rg (sv (EV.mv rfl) rfl (sv (EV.mv rfl) rfl (sv (EV.mv rfl) rfl ?_))))))))))))))
  revert H; refine bdI ?_; rintro ⟨t12_0, t12_1, t12_2, t12_3⟩ A12 H
  refine so rfl (op_call (spec_NewJoiner.ok k t10_0 t10_1 At10_1 ct10_1 t10_2 At10_2 ct10_2 _ _ _ _ A12) [⟨5, 0, 0, false⟩, ⟨6, 0, 0, false⟩] 15 rfl rfl rfl rfl rfl ?_)
  rintro _ _ _ ⟨At12_0, ct12_0, rfl, rfl, rfl⟩
  refine sv (EV.mv rfl) rfl (sv (EV.ex rfl rfl) rfl (sv (EV.ex rfl rfl) rfl (so rfl (op_alloc (cs := [.slice none 0 0, .int .i64 0, .int .i64 0]) (by kernel_rfl) rfl fun b18 => (so rfl (op_st (cs' := [.slice At12_0 t12_0.length ct12_0, .int .i64 t12_1, .int .i64 t12_2]) 6 rfl rfl rfl rfl rfl rfl (sv (EV.as rfl) rfl (re (pr [3, 4, 5, 6, 7, 8, 10, 11, 12, 16, 17, 18, 19] [0, 1, 2, 3, 4, 5, 6] [0, 1, 2, 3, 4, 7, 8] rfl rfl rfl rfl (gs (dr [0, 1, 2, 3, 4, 5, 6] [0, 1, 2, 3, 4, 5, 6] [] 48 rfl rfl rfl rfl (xv 0 [0, 1, 2, 3, 4, 5, 6] [0, 1, 2, 3, 4, 5, 6] rfl (EV.mv rfl) rfl rfl rfl rfl (xv 1 [0, 1, 2, 3, 4, 5, 6] [0, 1, 2, 3, 4, 5, 6] rfl (EV.ld (v := .agg #[.slice At3_0 t3_0.length ct3_0, .int .i64 t3_1, .int .i64 t3_2]) 0 (some 3) rfl rfl rfl) rfl rfl rfl rfl (one1 2 rfl rfl ?_))))))))))))))
  revert H; refine bdI ?_; rintro t13 A13 H
  refine op_call (spec_IsValidJoiner.ok k t3_0 At3_0 ct3_0 t3_1 t3_2 _ A13) [⟨0, 0, 0, false⟩] 17 rfl rfl rfl rfl rfl ?_
  rintro _ _ _ ⟨rfl, rfl, rfl⟩
  refine xs [0, 1, 2, 3, 4, 5, 6] [0, 1, 2, 3, 4, 5, 6] rfl rfl rfl (xv 3 [0, 1, 2, 3, 4, 5, 6] [0, 1, 2, 3, 4, 5, 6] rfl (EV.eqb rfl rfl) rfl rfl rfl rfl (xv 4 [0, 1, 2, 3, 4, 5, 6] [0, 1, 2, 3, 4, 5, 6] rfl (EV.mv rfl) rfl rfl rfl rfl ?_))
  revert H; refine ifsI ?_ ?_ <;> intro c14 H
  ·
   refine ts 71 rfl (c14) (xv 5 [0, 1, 2, 3, 4, 5, 6] [0, 1, 2, 3, 4, 5, 6] rfl (EV.mv rfl) rfl rfl rfl rfl (xv 6 [0, 1, 2, 3, 4, 5, 6] [0, 1, 2, 3, 4, 5, 6] rfl (EV.nt rfl) rfl rfl rfl rfl (xv 7 [0, 1, 2, 3, 4, 5, 6] [0, 1, 2, 3, 4, 5, 6] rfl (EV.mv rfl) rfl rfl rfl rfl ?_)))
   revert H; refine ifsI ?_ ?_ <;> intro c15 H
   ·
    subst c15
    refine ts 74 rfl rfl (xv 8 [0, 1, 2, 3, 4, 5, 6] [0, 1, 2, 3, 4, 5, 6] rfl (EV.ld (v := .agg #[.slice At5_0 t5_0.length ct5_0, .int .i64 t5_1, .int .i64 t5_2]) 1 (some 3) rfl rfl rfl) rfl rfl rfl rfl (xv 9 [0, 1, 2, 3, 4, 5, 6] [0, 1, 2, 3, 4, 5, 6] rfl (EV.ld (v := .agg #[.slice At3_0 t3_0.length ct3_0, .int .i64 t3_1, .int .i64 t3_2]) 0 (some 3) rfl rfl rfl) rfl rfl rfl rfl (one1 10 rfl rfl ?_)))
    revert H; refine bdI ?_; rintro t16 A16 H
    refine op_call (spec_EqualJoiners.ok k t5_0 At5_0 ct5_0 t5_1 t5_2 t3_0 At3_0 ct3_0 t3_1 t3_2 _ A16) [⟨1, 0, 0, false⟩, ⟨0, 0, 0, false⟩] 17 rfl rfl rfl rfl rfl ?_
    rintro _ _ _ ⟨rfl, rfl, rfl⟩
    refine xs [0, 1, 2, 3, 4, 5, 6] [0, 1, 2, 3, 4, 5, 6] rfl rfl rfl (xv 11 [0, 1, 2, 3, 4, 5, 6] [0, 1, 2, 3, 4, 5, 6] rfl (EV.pf rfl rfl rfl) rfl rfl rfl rfl (xv 12 [0, 1, 2, 3, 4, 5, 6] [0, 1, 2, 3, 4, 5, 6] rfl (EV.pt rfl rfl rfl) rfl rfl rfl rfl (xv 13 [0, 1, 2, 3, 4, 5, 6] [0, 1, 2, 3, 4, 5, 6] rfl (EV.mv rfl) rfl rfl rfl rfl ?_)))
    revert H; refine ifsI ?_ ?_ <;> intro c17 H
    ·
     subst c17
     refine ts 80 rfl rfl (xv 14 [0, 1, 2, 3, 4, 5, 6] [0, 1, 2, 3, 4, 5, 6] rfl (EV.mv rfl) rfl rfl rfl rfl (xv 15 [0, 1, 2, 3, 4, 5, 6] [0, 1, 2, 3, 4, 5, 6] rfl (EV.mv rfl) rfl rfl rfl rfl (xv 16 [0, 1, 2, 3, 4, 5, 6] [0, 1, 2, 3, 4, 5, 6] rfl (EV.eqb rfl rfl) rfl rfl rfl rfl (xv 17 [0, 1, 2, 3, 4, 5, 6] [0, 1, 2, 3, 4, 5, 6] rfl (EV.pt rfl rfl rfl) rfl rfl rfl rfl (xv 18 [0, 1, 2, 3, 4, 5, 6] [0, 1, 2, 3, 4, 5, 6] rfl (EV.mv rfl) rfl rfl rfl rfl ?_)))))
     revert H; refine ifsI ?_ ?_ <;> intro c18 H
     ·
      refine ts 85 rfl (c18) (xv 19 [0, 1, 2, 3, 4, 5, 6] [0, 1, 2, 3, 4, 5, 6] rfl (EV.mv rfl) rfl rfl rfl rfl (xv 20 [0, 1, 2, 3, 4, 5, 6] [0, 1, 2, 3, 4, 5, 6] rfl (EV.nt rfl) rfl rfl rfl rfl (xv 21 [0, 1, 2, 3, 4, 5, 6] [0, 1, 2, 3, 4, 5, 6] rfl (EV.mv rfl) rfl rfl rfl rfl ?_)))
      revert H; refine ifsI ?_ ?_ <;> intro c19 H
      ·
       subst c19
       refine ts 88 rfl rfl (xv 22 [0, 1, 2, 3, 4, 5, 6] [0, 1, 2, 3, 4, 5, 6] rfl (EV.ld (v := .agg #[.slice At7_0 t7_0.length ct7_0, .int .i64 t7_1, .int .i64 t7_2]) 2 (some 3) rfl rfl rfl) rfl rfl rfl rfl (xv 24 [0, 1, 2, 3, 4, 5, 6] [0, 1, 2, 3, 4, 5, 6] rfl (EV.mv rfl) rfl rfl rfl rfl (one1 23 rfl rfl ?_)))
       revert H; refine bdI ?_; rintro t20 A20 H
       refine op_call (impl_FormatJoiner.ok k t7_0 At7_0 ct7_0 t7_1 t7_2 _ A20) [⟨2, 0, 0, false⟩] 17 rfl rfl rfl rfl rfl ?_
       rintro _ _ _ ⟨rfl, rfl, rfl⟩
       refine xs [0, 1, 2, 3, 4, 5, 6] [0, 1, 2, 3, 4, 5, 6] rfl rfl rfl (xv 25 [0, 1, 2, 3, 4, 5, 6] [0, 1, 2, 3, 4, 5, 6] rfl (EV.eqs rfl rfl) rfl rfl rfl rfl (xv 26 [0, 1, 2, 3, 4, 5, 6] [0, 1, 2, 3, 4, 5, 6] rfl (EV.pf rfl rfl rfl) rfl rfl rfl rfl (xv 27 [0, 1, 2, 3, 4, 5, 6] [0, 1, 2, 3, 4, 5, 6] rfl (EV.pt rfl rfl rfl) rfl rfl rfl rfl (xv 28 [0, 1, 2, 3, 4, 5, 6] [0, 1, 2, 3, 4, 5, 6] rfl (EV.mv rfl) rfl rfl rfl rfl ?_))))
       revert H; refine ifsI ?_ ?_ <;> intro c21 H
       ·
        refine ts 95 rfl (dT c21) (xv 29 [0, 1, 2, 3, 4, 5, 6] [0, 1, 2, 3, 4, 5, 6] rfl (EV.ld (v := .agg #[.slice At9_0 t9_0.length ct9_0, .int .i64 t9_1, .int .i64 t9_2]) 3 (some 3) rfl rfl rfl) rfl rfl rfl rfl (xv 30 [0, 1, 2, 3, 4, 5, 6] [0, 1, 2, 3, 4, 5, 6] rfl (EV.ld (v := .agg #[.slice At9_3 t9_3.length ct9_3, .int .i64 t9_4, .int .i64 t9_5]) 4 (some 3) rfl rfl rfl) rfl rfl rfl rfl (xv 32 [0, 1, 2, 3, 4, 5, 6] [0, 1, 2, 3, 4, 5, 6] rfl (EV.ld (v := .agg #[.slice At9_0 t9_0.length ct9_0, .int .i64 t9_1, .int .i64 t9_2]) 3 (some 3) rfl rfl rfl) rfl rfl rfl rfl (xv 33 [0, 1, 2, 3, 4, 5, 6] [0, 1, 2, 3, 4, 5, 6] rfl (EV.ld (v := .agg #[.slice At9_3 t9_3.length ct9_3, .int .i64 t9_4, .int .i64 t9_5]) 4 (some 3) rfl rfl rfl) rfl rfl rfl rfl (one1 31 rfl rfl ?_)))))
        revert H; refine bdI ?_; rintro t22 A22 H
        refine op_call (impl_EqualJoiners.ok k t9_0 At9_0 ct9_0 t9_1 t9_2 t9_3 At9_3 ct9_3 t9_4 t9_5 _ A22) [⟨3, 0, 0, false⟩, ⟨4, 0, 0, false⟩] 17 rfl rfl rfl rfl rfl ?_
        rintro _ _ _ ⟨rfl, rfl, rfl⟩
        refine xs [0, 1, 2, 3, 4, 5, 6] [0, 1, 2, 3, 4, 5, 6] rfl rfl rfl (one1 34 rfl rfl ?_)
        revert H; refine bdI ?_; rintro t23 A23 H
        refine op_call (spec_EqualJoiners.ok k t9_0 At9_0 ct9_0 t9_1 t9_2 t9_3 At9_3 ct9_3 t9_4 t9_5 _ A23) [⟨3, 0, 0, false⟩, ⟨4, 0, 0, false⟩] 17 rfl rfl rfl rfl rfl ?_
        rintro _ _ _ ⟨rfl, rfl, rfl⟩
        refine xs [0, 1, 2, 3, 4, 5, 6] [0, 1, 2, 3, 4, 5, 6] rfl rfl rfl (xv 35 [0, 1, 2, 3, 4, 5, 6] [0, 1, 2, 3, 4, 5, 6] rfl (EV.eqb rfl rfl) rfl rfl rfl rfl (xv 36 [0, 1, 2, 3, 4, 5, 6] [0, 1, 2, 3, 4, 5, 6] rfl (EV.pt rfl rfl rfl) rfl rfl rfl rfl (xv 37 [0, 1, 2, 3, 4, 5, 6] [0, 1, 2, 3, 4, 5, 6] rfl (EV.mv rfl) rfl rfl rfl rfl ?_)))
        revert H; refine ifsI ?_ ?_ <;> intro c24 H
        ·
         refine ts 104 rfl (c24) (xv 38 [0, 1, 2, 3, 4, 5, 6] [0, 1, 2, 3, 4, 5, 6] rfl (EV.mv rfl) rfl rfl rfl rfl (xv 39 [0, 1, 2, 3, 4, 5, 6] [0, 1, 2, 3, 4, 5, 6] rfl (EV.mv rfl) rfl rfl rfl rfl (xv 40 [0, 1, 2, 3, 4, 5, 6] [0, 1, 2, 3, 4, 5, 6] rfl (EV.eqb rfl rfl) rfl rfl rfl rfl (xv 41 [0, 1, 2, 3, 4, 5, 6] [0, 1, 2, 3, 4, 5, 6] rfl (EV.pt rfl rfl rfl) rfl rfl rfl rfl (xv 42 [0, 1, 2, 3, 4, 5, 6] [0, 1, 2, 3, 4, 5, 6] rfl (EV.mv rfl) rfl rfl rfl rfl ?_)))))
         revert H; refine ifsI ?_ ?_ <;> intro c25 H
         ·
          refine ts 109 rfl (c25) (xv 43 [0, 1, 2, 3, 4, 5, 6] [0, 1, 2, 3, 4, 5, 6] rfl (EV.ld (v := .agg #[.slice At11_0 t11_0.length ct11_0, .int .i64 t11_1, .int .i64 t11_2]) 5 (some 3) rfl rfl rfl) rfl rfl rfl rfl (xv 44 [0, 1, 2, 3, 4, 5, 6] [0, 1, 2, 3, 4, 5, 6] rfl (EV.ld (v := .agg #[.slice At12_0 t12_0.length ct12_0, .int .i64 t12_1, .int .i64 t12_2]) 6 (some 3) rfl rfl rfl) rfl rfl rfl rfl (one1 45 rfl rfl ?_)))
          revert H; refine bdI ?_; rintro t26 A26 H
          refine op_call (spec_EqualJoiners.ok k t11_0 At11_0 ct11_0 t11_1 t11_2 t12_0 At12_0 ct12_0 t12_1 t12_2 _ A26) [⟨5, 0, 0, false⟩, ⟨6, 0, 0, false⟩] 17 rfl rfl rfl rfl rfl ?_
          rintro _ _ _ ⟨rfl, rfl, rfl⟩
          refine xs [0, 1, 2, 3, 4, 5, 6] [0, 1, 2, 3, 4, 5, 6] rfl rfl rfl (xv 46 [0, 1, 2, 3, 4, 5, 6] [0, 1, 2, 3, 4, 5, 6] rfl (EV.pt rfl rfl rfl) rfl rfl rfl rfl (xv 47 [0, 1, 2, 3, 4, 5, 6] [0, 1, 2, 3, 4, 5, 6] rfl (EV.as rfl) rfl rfl rfl rfl (xd (pr [2] [] [] rfl rfl rfl rfl ?_))))
          cases H
          exact rt Try.func6 rfl (.tmp rfl .nil) rfl [] [] rfl rfl rfl rfl rfl ⟨rfl, rfl, rfl⟩
         ·
          refine ts 109 rfl (bF c25) (xk 43 [0, 1, 2, 3, 4, 5, 6] [0, 1, 2, 3, 4, 5, 6] rfl rfl rfl rfl rfl (xk 44 [0, 1, 2, 3, 4, 5, 6] [0, 1, 2, 3, 4, 5, 6] rfl rfl rfl rfl rfl (xk 45 [0, 1, 2, 3, 4, 5, 6] [0, 1, 2, 3, 4, 5, 6] rfl rfl rfl rfl rfl (xv 46 [0, 1, 2, 3, 4, 5, 6] [0, 1, 2, 3, 4, 5, 6] rfl (EV.pf rfl rfl rfl) rfl rfl rfl rfl (xv 47 [0, 1, 2, 3, 4, 5, 6] [0, 1, 2, 3, 4, 5, 6] rfl (EV.as rfl) rfl rfl rfl rfl (xd (pr [2] [] [] rfl rfl rfl rfl ?_)))))))
          cases H
          exact rt Try.func6 rfl (.tmp rfl .nil) rfl [] [] rfl rfl rfl rfl rfl ⟨rfl, rfl, rfl⟩
        ·
         refine ts 104 rfl (bF c24) (xk 38 [0, 1, 2, 3, 4, 5, 6] [0, 1, 2, 3, 4, 5, 6] rfl rfl rfl rfl rfl (xk 39 [0, 1, 2, 3, 4, 5, 6] [0, 1, 2, 3, 4, 5, 6] rfl rfl rfl rfl rfl (xk 40 [0, 1, 2, 3, 4, 5, 6] [0, 1, 2, 3, 4, 5, 6] rfl rfl rfl rfl rfl (xv 41 [0, 1, 2, 3, 4, 5, 6] [0, 1, 2, 3, 4, 5, 6] rfl (EV.pf rfl rfl rfl) rfl rfl rfl rfl (xv 42 [0, 1, 2, 3, 4, 5, 6] [0, 1, 2, 3, 4, 5, 6] rfl (EV.mv rfl) rfl rfl rfl rfl (xk 43 [0, 1, 2, 3, 4, 5, 6] [0, 1, 2, 3, 4, 5, 6] rfl rfl rfl rfl rfl (xk 44 [0, 1, 2, 3, 4, 5, 6] [0, 1, 2, 3, 4, 5, 6] rfl rfl rfl rfl rfl (xk 45 [0, 1, 2, 3, 4, 5, 6] [0, 1, 2, 3, 4, 5, 6] rfl rfl rfl rfl rfl (xv 46 [0, 1, 2, 3, 4, 5, 6] [0, 1, 2, 3, 4, 5, 6] rfl (EV.pf rfl rfl rfl) rfl rfl rfl rfl (xv 47 [0, 1, 2, 3, 4, 5, 6] [0, 1, 2, 3, 4, 5, 6] rfl (EV.as rfl) rfl rfl rfl rfl (xd (pr [2] [] [] rfl rfl rfl rfl ?_))))))))))))
         cases H
         exact rt Try.func6 rfl (.tmp rfl .nil) rfl [] [] rfl rfl rfl rfl rfl ⟨rfl, rfl, rfl⟩
       ·
        refine ts 95 rfl (dF c21) (xk 29 [0, 1, 2, 3, 4, 5, 6] [0, 1, 2, 3, 4, 5, 6] rfl rfl rfl rfl rfl (xk 30 [0, 1, 2, 3, 4, 5, 6] [0, 1, 2, 3, 4, 5, 6] rfl rfl rfl rfl rfl (xk 32 [0, 1, 2, 3, 4, 5, 6] [0, 1, 2, 3, 4, 5, 6] rfl rfl rfl rfl rfl (xk 33 [0, 1, 2, 3, 4, 5, 6] [0, 1, 2, 3, 4, 5, 6] rfl rfl rfl rfl rfl (xk 31 [0, 1, 2, 3, 4, 5, 6] [0, 1, 2, 3, 4, 5, 6] rfl rfl rfl rfl rfl (xk 34 [0, 1, 2, 3, 4, 5, 6] [0, 1, 2, 3, 4, 5, 6] rfl rfl rfl rfl rfl (xk 35 [0, 1, 2, 3, 4, 5, 6] [0, 1, 2, 3, 4, 5, 6] rfl rfl rfl rfl rfl (xv 36 [0, 1, 2, 3, 4, 5, 6] [0, 1, 2, 3, 4, 5, 6] rfl (EV.pf rfl rfl rfl) rfl rfl rfl rfl (xv 37 [0, 1, 2, 3, 4, 5, 6] [0, 1, 2, 3, 4, 5, 6] rfl (EV.mv rfl) rfl rfl rfl rfl (xk 38 [0, 1, 2, 3, 4, 5, 6] [0, 1, 2, 3, 4, 5, 6] rfl rfl rfl rfl rfl (xk 39 [0, 1, 2, 3, 4, 5, 6] [0, 1, 2, 3, 4, 5, 6] rfl rfl rfl rfl rfl (xk 40 [0, 1, 2, 3, 4, 5, 6] [0, 1, 2, 3, 4, 5, 6] rfl rfl rfl rfl rfl (xv 41 [0, 1, 2, 3, 4, 5, 6] [0, 1, 2, 3, 4, 5, 6] rfl (EV.pf rfl rfl rfl) rfl rfl rfl rfl (xv 42 [0, 1, 2, 3, 4, 5, 6] [0, 1, 2, 3, 4, 5, 6] rfl (EV.mv rfl) rfl rfl rfl rfl (xk 43 [0, 1, 2, 3, 4, 5, 6] [0, 1, 2, 3, 4, 5, 6] rfl rfl rfl rfl rfl (xk 44 [0, 1, 2, 3, 4, 5, 6] [0, 1, 2, 3, 4, 5, 6] rfl rfl rfl rfl rfl (xk 45 [0, 1, 2, 3, 4, 5, 6] [0, 1, 2, 3, 4, 5, 6] rfl rfl rfl rfl rfl (xv 46 [0, 1, 2, 3, 4, 5, 6] [0, 1, 2, 3, 4, 5, 6] rfl (EV.pf rfl rfl rfl) rfl rfl rfl rfl (xv 47 [0, 1, 2, 3, 4, 5, 6] [0, 1, 2, 3, 4, 5, 6] rfl (EV.as rfl) rfl rfl rfl rfl (xd (pr [2] [] [] rfl rfl rfl rfl ?_)))))))))))))))))))))
        cases H
        exact rt Try.func6 rfl (.tmp rfl .nil) rfl [] [] rfl rfl rfl rfl rfl ⟨rfl, rfl, rfl⟩
      ·
       obtain rfl := bF c19
       refine ts 88 rfl rfl (xk 22 [0, 1, 2, 3, 4, 5, 6] [0, 1, 2, 3, 4, 5, 6] rfl rfl rfl rfl rfl (xk 24 [0, 1, 2, 3, 4, 5, 6] [0, 1, 2, 3, 4, 5, 6] rfl rfl rfl rfl rfl (xk 23 [0, 1, 2, 3, 4, 5, 6] [0, 1, 2, 3, 4, 5, 6] rfl rfl rfl rfl rfl (xk 25 [0, 1, 2, 3, 4, 5, 6] [0, 1, 2, 3, 4, 5, 6] rfl rfl rfl rfl rfl (xv 26 [0, 1, 2, 3, 4, 5, 6] [0, 1, 2, 3, 4, 5, 6] rfl (EV.pt rfl rfl rfl) rfl rfl rfl rfl (xv 27 [0, 1, 2, 3, 4, 5, 6] [0, 1, 2, 3, 4, 5, 6] rfl (EV.pt rfl rfl rfl) rfl rfl rfl rfl (xv 28 [0, 1, 2, 3, 4, 5, 6] [0, 1, 2, 3, 4, 5, 6] rfl (EV.mv rfl) rfl rfl rfl rfl (xv 29 [0, 1, 2, 3, 4, 5, 6] [0, 1, 2, 3, 4, 5, 6] rfl (EV.ld (v := .agg #[.slice At9_0 t9_0.length ct9_0, .int .i64 t9_1, .int .i64 t9_2]) 3 (some 3) rfl rfl rfl) rfl rfl rfl rfl (xv 30 [0, 1, 2, 3, 4, 5, 6] [0, 1, 2, 3, 4, 5, 6] rfl (EV.ld (v := .agg #[.slice At9_3 t9_3.length ct9_3, .int .i64 t9_4, .int .i64 t9_5]) 4 (some 3) rfl rfl rfl) rfl rfl rfl rfl (xv 32 [0, 1, 2, 3, 4, 5, 6] [0, 1, 2, 3, 4, 5, 6] rfl (EV.ld (v := .agg #[.slice At9_0 t9_0.length ct9_0, .int .i64 t9_1, .int .i64 t9_2]) 3 (some 3) rfl rfl rfl) rfl rfl rfl rfl (xv 33 [0, 1, 2, 3, 4, 5, 6] [0, 1, 2, 3, 4, 5, 6] rfl (EV.ld (v := .agg #[.slice At9_3 t9_3.length ct9_3, .int .i64 t9_4, .int .i64 t9_5]) 4 (some 3) rfl rfl rfl) rfl rfl rfl rfl (one1 31 rfl rfl ?_))))))))))))
       revert H; refine bdI ?_; rintro t27 A27 H
       refine op_call (impl_EqualJoiners.ok k t9_0 At9_0 ct9_0 t9_1 t9_2 t9_3 At9_3 ct9_3 t9_4 t9_5 _ A27) [⟨3, 0, 0, false⟩, ⟨4, 0, 0, false⟩] 17 rfl rfl rfl rfl rfl ?_
       rintro _ _ _ ⟨rfl, rfl, rfl⟩
       refine xs [0, 1, 2, 3, 4, 5, 6] [0, 1, 2, 3, 4, 5, 6] rfl rfl rfl (one1 34 rfl rfl ?_)
       revert H; refine bdI ?_; rintro t28 A28 H
       refine op_call (spec_EqualJoiners.ok k t9_0 At9_0 ct9_0 t9_1 t9_2 t9_3 At9_3 ct9_3 t9_4 t9_5 _ A28) [⟨3, 0, 0, false⟩, ⟨4, 0, 0, false⟩] 17 rfl rfl rfl rfl rfl ?_
       rintro _ _ _ ⟨rfl, rfl, rfl⟩
       refine xs [0, 1, 2, 3, 4, 5, 6] [0, 1, 2, 3, 4, 5, 6] rfl rfl rfl (xv 35 [0, 1, 2, 3, 4, 5, 6] [0, 1, 2, 3, 4, 5, 6] rfl (EV.eqb rfl rfl) rfl rfl rfl rfl (xv 36 [0, 1, 2, 3, 4, 5, 6] [0, 1, 2, 3, 4, 5, 6] rfl (EV.pt rfl rfl rfl) rfl rfl rfl rfl (xv 37 [0, 1, 2, 3, 4, 5, 6] [0, 1, 2, 3, 4, 5, 6] rfl (EV.mv rfl) rfl rfl rfl rfl ?_)))
       revert H; refine ifsI ?_ ?_ <;> intro c29 H
       ·
        refine ts 104 rfl (c29) (xv 38 [0, 1, 2, 3, 4, 5, 6] [0, 1, 2, 3, 4, 5, 6] rfl (EV.mv rfl) rfl rfl rfl rfl (xv 39 [0, 1, 2, 3, 4, 5, 6] [0, 1, 2, 3, 4, 5, 6] rfl (EV.mv rfl) rfl rfl rfl rfl (xv 40 [0, 1, 2, 3, 4, 5, 6] [0, 1, 2, 3, 4, 5, 6] rfl (EV.eqb rfl rfl) rfl rfl rfl rfl (xv 41 [0, 1, 2, 3, 4, 5, 6] [0, 1, 2, 3, 4, 5, 6] rfl (EV.pt rfl rfl rfl) rfl rfl rfl rfl (xv 42 [0, 1, 2, 3, 4, 5, 6] [0, 1, 2, 3, 4, 5, 6] rfl (EV.mv rfl) rfl rfl rfl rfl ?_)))))
        revert H; refine ifsI ?_ ?_ <;> intro c30 H
        ·
         refine ts 109 rfl (c30) (xv 43 [0, 1, 2, 3, 4, 5, 6] [0, 1, 2, 3, 4, 5, 6] rfl (EV.ld (v := .agg #[.slice At11_0 t11_0.length ct11_0, .int .i64 t11_1, .int .i64 t11_2]) 5 (some 3) rfl rfl rfl) rfl rfl rfl rfl (xv 44 [0, 1, 2, 3, 4, 5, 6] [0, 1, 2, 3, 4, 5, 6] rfl (EV.ld (v := .agg #[.slice At12_0 t12_0.length ct12_0, .int .i64 t12_1, .int .i64 t12_2]) 6 (some 3) rfl rfl rfl) rfl rfl rfl rfl (one1 45 rfl rfl ?_)))
         revert H; refine bdI ?_; rintro t31 A31 H
         refine op_call (spec_EqualJoiners.ok k t11_0 At11_0 ct11_0 t11_1 t11_2 t12_0 At12_0 ct12_0 t12_1 t12_2 _ A31) [⟨5, 0, 0, false⟩, ⟨6, 0, 0, false⟩] 17 rfl rfl rfl rfl rfl ?_
         rintro _ _ _ ⟨rfl, rfl, rfl⟩
         refine xs [0, 1, 2, 3, 4, 5, 6] [0, 1, 2, 3, 4, 5, 6] rfl rfl rfl (xv 46 [0, 1, 2, 3, 4, 5, 6] [0, 1, 2, 3, 4, 5, 6] rfl (EV.pt rfl rfl rfl) rfl rfl rfl rfl (xv 47 [0, 1, 2, 3, 4, 5, 6] [0, 1, 2, 3, 4, 5, 6] rfl (EV.as rfl) rfl rfl rfl rfl (xd (pr [2] [] [] rfl rfl rfl rfl ?_))))
         cases H
         exact rt Try.func6 rfl (.tmp rfl .nil) rfl [] [] rfl rfl rfl rfl rfl ⟨rfl, rfl, rfl⟩
        ·
         refine ts 109 rfl (bF c30) (xk 43 [0, 1, 2, 3, 4, 5, 6] [0, 1, 2, 3, 4, 5, 6] rfl rfl rfl rfl rfl (xk 44 [0, 1, 2, 3, 4, 5, 6] [0, 1, 2, 3, 4, 5, 6] rfl rfl rfl rfl rfl (xk 45 [0, 1, 2, 3, 4, 5, 6] [0, 1, 2, 3, 4, 5, 6] rfl rfl rfl rfl rfl (xv 46 [0, 1, 2, 3, 4, 5, 6] [0, 1, 2, 3, 4, 5, 6] rfl (EV.pf rfl rfl rfl) rfl rfl rfl rfl (xv 47 [0, 1, 2, 3, 4, 5, 6] [0, 1, 2, 3, 4, 5, 6] rfl (EV.as rfl) rfl rfl rfl rfl (xd (pr [2] [] [] rfl rfl rfl rfl ?_)))))))
         cases H
         exact rt Try.func6 rfl (.tmp rfl .nil) rfl [] [] rfl rfl rfl rfl rfl ⟨rfl, rfl, rfl⟩
       ·
        refine ts 104 rfl (bF c29) (xk 38 [0, 1, 2, 3, 4, 5, 6] [0, 1, 2, 3, 4, 5, 6] rfl rfl rfl rfl rfl (xk 39 [0, 1, 2, 3, 4, 5, 6] [0, 1, 2, 3, 4, 5, 6] rfl rfl rfl rfl rfl (xk 40 [0, 1, 2, 3, 4, 5, 6] [0, 1, 2, 3, 4, 5, 6] rfl rfl rfl rfl rfl (xv 41 [0, 1, 2, 3, 4, 5, 6] [0, 1, 2, 3, 4, 5, 6] rfl (EV.pf rfl rfl rfl) rfl rfl rfl rfl (xv 42 [0, 1, 2, 3, 4, 5, 6] [0, 1, 2, 3, 4, 5, 6] rfl (EV.mv rfl) rfl rfl rfl rfl (xk 43 [0, 1, 2, 3, 4, 5, 6] [0, 1, 2, 3, 4, 5, 6] rfl rfl rfl rfl rfl (xk 44 [0, 1, 2, 3, 4, 5, 6] [0, 1, 2, 3, 4, 5, 6] rfl rfl rfl rfl rfl (xk 45 [0, 1, 2, 3, 4, 5, 6] [0, 1, 2, 3, 4, 5, 6] rfl rfl rfl rfl rfl (xv 46 [0, 1, 2, 3, 4, 5, 6] [0, 1, 2, 3, 4, 5, 6] rfl (EV.pf rfl rfl rfl) rfl rfl rfl rfl (xv 47 [0, 1, 2, 3, 4, 5, 6] [0, 1, 2, 3, 4, 5, 6] rfl (EV.as rfl) rfl rfl rfl rfl (xd (pr [2] [] [] rfl rfl rfl rfl ?_))))))))))))
        cases H
        exact rt Try.func6 rfl (.tmp rfl .nil) rfl [] [] rfl rfl rfl rfl rfl ⟨rfl, rfl, rfl⟩
     ·
      refine ts 85 rfl (bF c18) (xk 19 [0, 1, 2, 3, 4, 5, 6] [0, 1, 2, 3, 4, 5, 6] rfl rfl rfl rfl rfl (xk 20 [0, 1, 2, 3, 4, 5, 6] [0, 1, 2, 3, 4, 5, 6] rfl rfl rfl rfl rfl (xk 21 [0, 1, 2, 3, 4, 5, 6] [0, 1, 2, 3, 4, 5, 6] rfl rfl rfl rfl rfl (xk 22 [0, 1, 2, 3, 4, 5, 6] [0, 1, 2, 3, 4, 5, 6] rfl rfl rfl rfl rfl (xk 24 [0, 1, 2, 3, 4, 5, 6] [0, 1, 2, 3, 4, 5, 6] rfl rfl rfl rfl rfl (xk 23 [0, 1, 2, 3, 4, 5, 6] [0, 1, 2, 3, 4, 5, 6] rfl rfl rfl rfl rfl (xk 25 [0, 1, 2, 3, 4, 5, 6] [0, 1, 2, 3, 4, 5, 6] rfl rfl rfl rfl rfl (xk 26 [0, 1, 2, 3, 4, 5, 6] [0, 1, 2, 3, 4, 5, 6] rfl rfl rfl rfl rfl (xv 27 [0, 1, 2, 3, 4, 5, 6] [0, 1, 2, 3, 4, 5, 6] rfl (EV.pf rfl rfl rfl) rfl rfl rfl rfl (xv 28 [0, 1, 2, 3, 4, 5, 6] [0, 1, 2, 3, 4, 5, 6] rfl (EV.mv rfl) rfl rfl rfl rfl (xk 29 [0, 1, 2, 3, 4, 5, 6] [0, 1, 2, 3, 4, 5, 6] rfl rfl rfl rfl rfl (xk 30 [0, 1, 2, 3, 4, 5, 6] [0, 1, 2, 3, 4, 5, 6] rfl rfl rfl rfl rfl (xk 32 [0, 1, 2, 3, 4, 5, 6] [0, 1, 2, 3, 4, 5, 6] rfl rfl rfl rfl rfl (xk 33 [0, 1, 2, 3, 4, 5, 6] [0, 1, 2, 3, 4, 5, 6] rfl rfl rfl rfl rfl (xk 31 [0, 1, 2, 3, 4, 5, 6] [0, 1, 2, 3, 4, 5, 6] rfl rfl rfl rfl rfl (xk 34 [0, 1, 2, 3, 4, 5, 6] [0, 1, 2, 3, 4, 5, 6] rfl rfl rfl rfl rfl (xk 35 [0, 1, 2, 3, 4, 5, 6] [0, 1, 2, 3, 4, 5, 6] rfl rfl rfl rfl rfl (xv 36 [0, 1, 2, 3, 4, 5, 6] [0, 1, 2, 3, 4, 5, 6] rfl (EV.pf rfl rfl rfl) rfl rfl rfl rfl (xv 37 [0, 1, 2, 3, 4, 5, 6] [0, 1, 2, 3, 4, 5, 6] rfl (EV.mv rfl) rfl rfl rfl rfl (xk 38 [0, 1, 2, 3, 4, 5, 6] [0, 1, 2, 3, 4, 5, 6] rfl rfl rfl rfl rfl (xk 39 [0, 1, 2, 3, 4, 5, 6] [0, 1, 2, 3, 4, 5, 6] rfl rfl rfl rfl rfl (xk 40 [0, 1, 2, 3, 4, 5, 6] [0, 1, 2, 3, 4, 5, 6] rfl rfl rfl rfl rfl (xv 41 [0, 1, 2, 3, 4, 5, 6] [0, 1, 2, 3, 4, 5, 6] rfl (EV.pf rfl rfl rfl) rfl rfl rfl rfl (xv 42 [0, 1, 2, 3, 4, 5, 6] [0, 1, 2, 3, 4, 5, 6] rfl (EV.mv rfl) rfl rfl rfl rfl (xk 43 [0, 1, 2, 3, 4, 5, 6] [0, 1, 2, 3, 4, 5, 6] rfl rfl rfl rfl rfl (xk 44 [0, 1, 2, 3, 4, 5, 6] [0, 1, 2, 3, 4, 5, 6] rfl rfl rfl rfl rfl (xk 45 [0, 1, 2, 3, 4, 5, 6] [0, 1, 2, 3, 4, 5, 6] rfl rfl rfl rfl rfl (xv 46 [0, 1, 2, 3, 4, 5, 6] [0, 1, 2, 3, 4, 5, 6] rfl (EV.pf rfl rfl rfl) rfl rfl rfl rfl (xv 47 [0, 1, 2, 3, 4, 5, 6] [0, 1, 2, 3, 4, 5, 6] rfl (EV.as rfl) rfl rfl rfl rfl ?_)))))))))))))))))))))))))))))
      refine xd (pr [2] [] [] rfl rfl rfl rfl ?_)
      cases H
      exact rt Try.func6 rfl (.tmp rfl .nil) rfl [] [] rfl rfl rfl rfl rfl ⟨rfl, rfl, rfl⟩
    ·
     obtain rfl := bF c17
     refine ts 80 rfl rfl (xk 14 [0, 1, 2, 3, 4, 5, 6] [0, 1, 2, 3, 4, 5, 6] rfl rfl rfl rfl rfl (xk 15 [0, 1, 2, 3, 4, 5, 6] [0, 1, 2, 3, 4, 5, 6] rfl rfl rfl rfl rfl (xk 16 [0, 1, 2, 3, 4, 5, 6] [0, 1, 2, 3, 4, 5, 6] rfl rfl rfl rfl rfl (xv 17 [0, 1, 2, 3, 4, 5, 6] [0, 1, 2, 3, 4, 5, 6] rfl (EV.pf rfl rfl rfl) rfl rfl rfl rfl (xv 18 [0, 1, 2, 3, 4, 5, 6] [0, 1, 2, 3, 4, 5, 6] rfl (EV.mv rfl) rfl rfl rfl rfl (xk 19 [0, 1, 2, 3, 4, 5, 6] [0, 1, 2, 3, 4, 5, 6] rfl rfl rfl rfl rfl (xk 20 [0, 1, 2, 3, 4, 5, 6] [0, 1, 2, 3, 4, 5, 6] rfl rfl rfl rfl rfl (xk 21 [0, 1, 2, 3, 4, 5, 6] [0, 1, 2, 3, 4, 5, 6] rfl rfl rfl rfl rfl (xk 22 [0, 1, 2, 3, 4, 5, 6] [0, 1, 2, 3, 4, 5, 6] rfl rfl rfl rfl rfl (xk 24 [0, 1, 2, 3, 4, 5, 6] [0, 1, 2, 3, 4, 5, 6] rfl rfl rfl rfl rfl (xk 23 [0, 1, 2, 3, 4, 5, 6] [0, 1, 2, 3, 4, 5, 6] rfl rfl rfl rfl rfl (xk 25 [0, 1, 2, 3, 4, 5, 6] [0, 1, 2, 3, 4, 5, 6] rfl rfl rfl rfl rfl (xk 26 [0, 1, 2, 3, 4, 5, 6] [0, 1, 2, 3, 4, 5, 6] rfl rfl rfl rfl rfl (xv 27 [0, 1, 2, 3, 4, 5, 6] [0, 1, 2, 3, 4, 5, 6] rfl (EV.pf rfl rfl rfl) rfl rfl rfl rfl (xv 28 [0, 1, 2, 3, 4, 5, 6] [0, 1, 2, 3, 4, 5, 6] rfl (EV.mv rfl) rfl rfl rfl rfl (xk 29 [0, 1, 2, 3, 4, 5, 6] [0, 1, 2, 3, 4, 5, 6] rfl rfl rfl rfl rfl (xk 30 [0, 1, 2, 3, 4, 5, 6] [0, 1, 2, 3, 4, 5, 6] rfl rfl rfl rfl rfl (xk 32 [0, 1, 2, 3, 4, 5, 6] [0, 1, 2, 3, 4, 5, 6] rfl rfl rfl rfl rfl (xk 33 [0, 1, 2, 3, 4, 5, 6] [0, 1, 2, 3, 4, 5, 6] rfl rfl rfl rfl rfl (xk 31 [0, 1, 2, 3, 4, 5, 6] [0, 1, 2, 3, 4, 5, 6] rfl rfl rfl rfl rfl (xk 34 [0, 1, 2, 3, 4, 5, 6] [0, 1, 2, 3, 4, 5, 6] rfl rfl rfl rfl rfl (xk 35 [0, 1, 2, 3, 4, 5, 6] [0, 1, 2, 3, 4, 5, 6] rfl rfl rfl rfl rfl (xv 36 [0, 1, 2, 3, 4, 5, 6] [0, 1, 2, 3, 4, 5, 6] rfl (EV.pf rfl rfl rfl) rfl rfl rfl rfl (xv 37 [0, 1, 2, 3, 4, 5, 6] [0, 1, 2, 3, 4, 5, 6] rfl (EV.mv rfl) rfl rfl rfl rfl (xk 38 [0, 1, 2, 3, 4, 5, 6] [0, 1, 2, 3, 4, 5, 6] rfl rfl rfl rfl rfl (xk 39 [0, 1, 2, 3, 4, 5, 6] [0, 1, 2, 3, 4, 5, 6] rfl rfl rfl rfl rfl (xk 40 [0, 1, 2, 3, 4, 5, 6] [0, 1, 2, 3, 4, 5, 6] rfl rfl rfl rfl rfl (xv 41 [0, 1, 2, 3, 4, 5, 6] [0, 1, 2, 3, 4, 5, 6] rfl (EV.pf rfl rfl rfl) rfl rfl rfl rfl (xv 42 [0, 1, 2, 3, 4, 5, 6] [0, 1, 2, 3, 4, 5, 6] rfl (EV.mv rfl) rfl rfl rfl rfl ?_)))))))))))))))))))))))))))))
     refine xk 43 [0, 1, 2, 3, 4, 5, 6] [0, 1, 2, 3, 4, 5, 6] rfl rfl rfl rfl rfl (xk 44 [0, 1, 2, 3, 4, 5, 6] [0, 1, 2, 3, 4, 5, 6] rfl rfl rfl rfl rfl (xk 45 [0, 1, 2, 3, 4, 5, 6] [0, 1, 2, 3, 4, 5, 6] rfl rfl rfl rfl rfl (xv 46 [0, 1, 2, 3, 4, 5, 6] [0, 1, 2, 3, 4, 5, 6] rfl (EV.pf rfl rfl rfl) rfl rfl rfl rfl (xv 47 [0, 1, 2, 3, 4, 5, 6] [0, 1, 2, 3, 4, 5, 6] rfl (EV.as rfl) rfl rfl rfl rfl (xd (pr [2] [] [] rfl rfl rfl rfl ?_))))))
     cases H
     exact rt Try.func6 rfl (.tmp rfl .nil) rfl [] [] rfl rfl rfl rfl rfl ⟨rfl, rfl, rfl⟩
   ·
    obtain rfl := bF c15
    refine ts 74 rfl rfl (xk 8 [0, 1, 2, 3, 4, 5, 6] [0, 1, 2, 3, 4, 5, 6] rfl rfl rfl rfl rfl (xk 9 [0, 1, 2, 3, 4, 5, 6] [0, 1, 2, 3, 4, 5, 6] rfl rfl rfl rfl rfl (xk 10 [0, 1, 2, 3, 4, 5, 6] [0, 1, 2, 3, 4, 5, 6] rfl rfl rfl rfl rfl (xv 11 [0, 1, 2, 3, 4, 5, 6] [0, 1, 2, 3, 4, 5, 6] rfl (EV.pt rfl rfl rfl) rfl rfl rfl rfl (xv 12 [0, 1, 2, 3, 4, 5, 6] [0, 1, 2, 3, 4, 5, 6] rfl (EV.pt rfl rfl rfl) rfl rfl rfl rfl (xv 13 [0, 1, 2, 3, 4, 5, 6] [0, 1, 2, 3, 4, 5, 6] rfl (EV.mv rfl) rfl rfl rfl rfl (xv 14 [0, 1, 2, 3, 4, 5, 6] [0, 1, 2, 3, 4, 5, 6] rfl (EV.mv rfl) rfl rfl rfl rfl (xv 15 [0, 1, 2, 3, 4, 5, 6] [0, 1, 2, 3, 4, 5, 6] rfl (EV.mv rfl) rfl rfl rfl rfl (xv 16 [0, 1, 2, 3, 4, 5, 6] [0, 1, 2, 3, 4, 5, 6] rfl (EV.eqb rfl rfl) rfl rfl rfl rfl (xv 17 [0, 1, 2, 3, 4, 5, 6] [0, 1, 2, 3, 4, 5, 6] rfl (EV.pt rfl rfl rfl) rfl rfl rfl rfl (xv 18 [0, 1, 2, 3, 4, 5, 6] [0, 1, 2, 3, 4, 5, 6] rfl (EV.mv rfl) rfl rfl rfl rfl ?_)))))))))))
    revert H; refine ifsI ?_ ?_ <;> intro c32 H
    ·
     refine ts 85 rfl (c32) (xv 19 [0, 1, 2, 3, 4, 5, 6] [0, 1, 2, 3, 4, 5, 6] rfl (EV.mv rfl) rfl rfl rfl rfl (xv 20 [0, 1, 2, 3, 4, 5, 6] [0, 1, 2, 3, 4, 5, 6] rfl (EV.nt rfl) rfl rfl rfl rfl (xv 21 [0, 1, 2, 3, 4, 5, 6] [0, 1, 2, 3, 4, 5, 6] rfl (EV.mv rfl) rfl rfl rfl rfl ?_)))
     revert H; refine ifsI ?_ ?_ <;> intro c33 H
     ·
      subst c33
      refine ts 88 rfl rfl (xv 22 [0, 1, 2, 3, 4, 5, 6] [0, 1, 2, 3, 4, 5, 6] rfl (EV.ld (v := .agg #[.slice At7_0 t7_0.length ct7_0, .int .i64 t7_1, .int .i64 t7_2]) 2 (some 3) rfl rfl rfl) rfl rfl rfl rfl (xv 24 [0, 1, 2, 3, 4, 5, 6] [0, 1, 2, 3, 4, 5, 6] rfl (EV.mv rfl) rfl rfl rfl rfl (one1 23 rfl rfl ?_)))
      revert H; refine bdI ?_; rintro t34 A34 H
      refine op_call (impl_FormatJoiner.ok k t7_0 At7_0 ct7_0 t7_1 t7_2 _ A34) [⟨2, 0, 0, false⟩] 17 rfl rfl rfl rfl rfl ?_
      rintro _ _ _ ⟨rfl, rfl, rfl⟩
      refine xs [0, 1, 2, 3, 4, 5, 6] [0, 1, 2, 3, 4, 5, 6] rfl rfl rfl (xv 25 [0, 1, 2, 3, 4, 5, 6] [0, 1, 2, 3, 4, 5, 6] rfl (EV.eqs rfl rfl) rfl rfl rfl rfl (xv 26 [0, 1, 2, 3, 4, 5, 6] [0, 1, 2, 3, 4, 5, 6] rfl (EV.pf rfl rfl rfl) rfl rfl rfl rfl (xv 27 [0, 1, 2, 3, 4, 5, 6] [0, 1, 2, 3, 4, 5, 6] rfl (EV.pt rfl rfl rfl) rfl rfl rfl rfl (xv 28 [0, 1, 2, 3, 4, 5, 6] [0, 1, 2, 3, 4, 5, 6] rfl (EV.mv rfl) rfl rfl rfl rfl ?_))))
      revert H; refine ifsI ?_ ?_ <;> intro c35 H
      ·
       refine ts 95 rfl (dT c35) (xv 29 [0, 1, 2, 3, 4, 5, 6] [0, 1, 2, 3, 4, 5, 6] rfl (EV.ld (v := .agg #[.slice At9_0 t9_0.length ct9_0, .int .i64 t9_1, .int .i64 t9_2]) 3 (some 3) rfl rfl rfl) rfl rfl rfl rfl (xv 30 [0, 1, 2, 3, 4, 5, 6] [0, 1, 2, 3, 4, 5, 6] rfl (EV.ld (v := .agg #[.slice At9_3 t9_3.length ct9_3, .int .i64 t9_4, .int .i64 t9_5]) 4 (some 3) rfl rfl rfl) rfl rfl rfl rfl (xv 32 [0, 1, 2, 3, 4, 5, 6] [0, 1, 2, 3, 4, 5, 6] rfl (EV.ld (v := .agg #[.slice At9_0 t9_0.length ct9_0, .int .i64 t9_1, .int .i64 t9_2]) 3 (some 3) rfl rfl rfl) rfl rfl rfl rfl (xv 33 [0, 1, 2, 3, 4, 5, 6] [0, 1, 2, 3, 4, 5, 6] rfl (EV.ld (v := .agg #[.slice At9_3 t9_3.length ct9_3, .int .i64 t9_4, .int .i64 t9_5]) 4 (some 3) rfl rfl rfl) rfl rfl rfl rfl (one1 31 rfl rfl ?_)))))
       revert H; refine bdI ?_; rintro t36 A36 H
       refine op_call (impl_EqualJoiners.ok k t9_0 At9_0 ct9_0 t9_1 t9_2 t9_3 At9_3 ct9_3 t9_4 t9_5 _ A36) [⟨3, 0, 0, false⟩, ⟨4, 0, 0, false⟩] 17 rfl rfl rfl rfl rfl ?_
       rintro _ _ _ ⟨rfl, rfl, rfl⟩
       refine xs [0, 1, 2, 3, 4, 5, 6] [0, 1, 2, 3, 4, 5, 6] rfl rfl rfl (one1 34 rfl rfl ?_)
       revert H; refine bdI ?_; rintro t37 A37 H
       refine op_call (spec_EqualJoiners.ok k t9_0 At9_0 ct9_0 t9_1 t9_2 t9_3 At9_3 ct9_3 t9_4 t9_5 _ A37) [⟨3, 0, 0, false⟩, ⟨4, 0, 0, false⟩] 17 rfl rfl rfl rfl rfl ?_
       rintro _ _ _ ⟨rfl, rfl, rfl⟩
       refine xs [0, 1, 2, 3, 4, 5, 6] [0, 1, 2, 3, 4, 5, 6] rfl rfl rfl (xv 35 [0, 1, 2, 3, 4, 5, 6] [0, 1, 2, 3, 4, 5, 6] rfl (EV.eqb rfl rfl) rfl rfl rfl rfl (xv 36 [0, 1, 2, 3, 4, 5, 6] [0, 1, 2, 3, 4, 5, 6] rfl (EV.pt rfl rfl rfl) rfl rfl rfl rfl (xv 37 [0, 1, 2, 3, 4, 5, 6] [0, 1, 2, 3, 4, 5, 6] rfl (EV.mv rfl) rfl rfl rfl rfl ?_)))
       revert H; refine ifsI ?_ ?_ <;> intro c38 H
       ·
        refine ts 104 rfl (c38) (xv 38 [0, 1, 2, 3, 4, 5, 6] [0, 1, 2, 3, 4, 5, 6] rfl (EV.mv rfl) rfl rfl rfl rfl (xv 39 [0, 1, 2, 3, 4, 5, 6] [0, 1, 2, 3, 4, 5, 6] rfl (EV.mv rfl) rfl rfl rfl rfl (xv 40 [0, 1, 2, 3, 4, 5, 6] [0, 1, 2, 3, 4, 5, 6] rfl (EV.eqb rfl rfl) rfl rfl rfl rfl (xv 41 [0, 1, 2, 3, 4, 5, 6] [0, 1, 2, 3, 4, 5, 6] rfl (EV.pt rfl rfl rfl) rfl rfl rfl rfl (xv 42 [0, 1, 2, 3, 4, 5, 6] [0, 1, 2, 3, 4, 5, 6] rfl (EV.mv rfl) rfl rfl rfl rfl ?_)))))
        revert H; refine ifsI ?_ ?_ <;> intro c39 H
        ·
         refine ts 109 rfl (c39) (xv 43 [0, 1, 2, 3, 4, 5, 6] [0, 1, 2, 3, 4, 5, 6] rfl (EV.ld (v := .agg #[.slice At11_0 t11_0.length ct11_0, .int .i64 t11_1, .int .i64 t11_2]) 5 (some 3) rfl rfl rfl) rfl rfl rfl rfl (xv 44 [0, 1, 2, 3, 4, 5, 6] [0, 1, 2, 3, 4, 5, 6] rfl (EV.ld (v := .agg #[.slice At12_0 t12_0.length ct12_0, .int .i64 t12_1, .int .i64 t12_2]) 6 (some 3) rfl rfl rfl) rfl rfl rfl rfl (one1 45 rfl rfl ?_)))
         revert H; refine bdI ?_; rintro t40 A40 H
         refine op_call (spec_EqualJoiners.ok k t11_0 At11_0 ct11_0 t11_1 t11_2 t12_0 At12_0 ct12_0 t12_1 t12_2 _ A40) [⟨5, 0, 0, false⟩, ⟨6, 0, 0, false⟩] 17 rfl rfl rfl rfl rfl ?_
         rintro _ _ _ ⟨rfl, rfl, rfl⟩
         refine xs [0, 1, 2, 3, 4, 5, 6] [0, 1, 2, 3, 4, 5, 6] rfl rfl rfl (xv 46 [0, 1, 2, 3, 4, 5, 6] [0, 1, 2, 3, 4, 5, 6] rfl (EV.pt rfl rfl rfl) rfl rfl rfl rfl (xv 47 [0, 1, 2, 3, 4, 5, 6] [0, 1, 2, 3, 4, 5, 6] rfl (EV.as rfl) rfl rfl rfl rfl (xd (pr [2] [] [] rfl rfl rfl rfl ?_))))
         cases H
         exact rt Try.func6 rfl (.tmp rfl .nil) rfl [] [] rfl rfl rfl rfl rfl ⟨rfl, rfl, rfl⟩
        ·
         refine ts 109 rfl (bF c39) (xk 43 [0, 1, 2, 3, 4, 5, 6] [0, 1, 2, 3, 4, 5, 6] rfl rfl rfl rfl rfl (xk 44 [0, 1, 2, 3, 4, 5, 6] [0, 1, 2, 3, 4, 5, 6] rfl rfl rfl rfl rfl (xk 45 [0, 1, 2, 3, 4, 5, 6] [0, 1, 2, 3, 4, 5, 6] rfl rfl rfl rfl rfl (xv 46 [0, 1, 2, 3, 4, 5, 6] [0, 1, 2, 3, 4, 5, 6] rfl (EV.pf rfl rfl rfl) rfl rfl rfl rfl (xv 47 [0, 1, 2, 3, 4, 5, 6] [0, 1, 2, 3, 4, 5, 6] rfl (EV.as rfl) rfl rfl rfl rfl (xd (pr [2] [] [] rfl rfl rfl rfl ?_)))))))
         cases H
         exact rt Try.func6 rfl (.tmp rfl .nil) rfl [] [] rfl rfl rfl rfl rfl ⟨rfl, rfl, rfl⟩
       ·
        refine ts 104 rfl (bF c38) (xk 38 [0, 1, 2, 3, 4, 5, 6] [0, 1, 2, 3, 4, 5, 6] rfl rfl rfl rfl rfl (xk 39 [0, 1, 2, 3, 4, 5, 6] [0, 1, 2, 3, 4, 5, 6] rfl rfl rfl rfl rfl (xk 40 [0, 1, 2, 3, 4, 5, 6] [0, 1, 2, 3, 4, 5, 6] rfl rfl rfl rfl rfl (xv 41 [0, 1, 2, 3, 4, 5, 6] [0, 1, 2, 3, 4, 5, 6] rfl (EV.pf rfl rfl rfl) rfl rfl rfl rfl (xv 42 [0, 1, 2, 3, 4, 5, 6] [0, 1, 2, 3, 4, 5, 6] rfl (EV.mv rfl) rfl rfl rfl rfl (xk 43 [0, 1, 2, 3, 4, 5, 6] [0, 1, 2, 3, 4, 5, 6] rfl rfl rfl rfl rfl (xk 44 [0, 1, 2, 3, 4, 5, 6] [0, 1, 2, 3, 4, 5, 6] rfl rfl rfl rfl rfl (xk 45 [0, 1, 2, 3, 4, 5, 6] [0, 1, 2, 3, 4, 5, 6] rfl rfl rfl rfl rfl (xv 46 [0, 1, 2, 3, 4, 5, 6] [0, 1, 2, 3, 4, 5, 6] rfl (EV.pf rfl rfl rfl) rfl rfl rfl rfl (xv 47 [0, 1, 2, 3, 4, 5, 6] [0, 1, 2, 3, 4, 5, 6] rfl (EV.as rfl) rfl rfl rfl rfl (xd (pr [2] [] [] rfl rfl rfl rfl ?_))))))))))))
        cases H
        exact rt Try.func6 rfl (.tmp rfl .nil) rfl [] [] rfl rfl rfl rfl rfl ⟨rfl, rfl, rfl⟩
      ·
       refine ts 95 rfl (dF c35) (xk 29 [0, 1, 2, 3, 4, 5, 6] [0, 1, 2, 3, 4, 5, 6] rfl rfl rfl rfl rfl (xk 30 [0, 1, 2, 3, 4, 5, 6] [0, 1, 2, 3, 4, 5, 6] rfl rfl rfl rfl rfl (xk 32 [0, 1, 2, 3, 4, 5, 6] [0, 1, 2, 3, 4, 5, 6] rfl rfl rfl rfl rfl (xk 33 [0, 1, 2, 3, 4, 5, 6] [0, 1, 2, 3, 4, 5, 6] rfl rfl rfl rfl rfl (xk 31 [0, 1, 2, 3, 4, 5, 6] [0, 1, 2, 3, 4, 5, 6] rfl rfl rfl rfl rfl (xk 34 [0, 1, 2, 3, 4, 5, 6] [0, 1, 2, 3, 4, 5, 6] rfl rfl rfl rfl rfl (xk 35 [0, 1, 2, 3, 4, 5, 6] [0, 1, 2, 3, 4, 5, 6] rfl rfl rfl rfl rfl (xv 36 [0, 1, 2, 3, 4, 5, 6] [0, 1, 2, 3, 4, 5, 6] rfl (EV.pf rfl rfl rfl) rfl rfl rfl rfl (xv 37 [0, 1, 2, 3, 4, 5, 6] [0, 1, 2, 3, 4, 5, 6] rfl (EV.mv rfl) rfl rfl rfl rfl (xk 38 [0, 1, 2, 3, 4, 5, 6] [0, 1, 2, 3, 4, 5, 6] rfl rfl rfl rfl rfl (xk 39 [0, 1, 2, 3, 4, 5, 6] [0, 1, 2, 3, 4, 5, 6] rfl rfl rfl rfl rfl (xk 40 [0, 1, 2, 3, 4, 5, 6] [0, 1, 2, 3, 4, 5, 6] rfl rfl rfl rfl rfl (xv 41 [0, 1, 2, 3, 4, 5, 6] [0, 1, 2, 3, 4, 5, 6] rfl (EV.pf rfl rfl rfl) rfl rfl rfl rfl (xv 42 [0, 1, 2, 3, 4, 5, 6] [0, 1, 2, 3, 4, 5, 6] rfl (EV.mv rfl) rfl rfl rfl rfl (xk 43 [0, 1, 2, 3, 4, 5, 6] [0, 1, 2, 3, 4, 5, 6] rfl rfl rfl rfl rfl (xk 44 [0, 1, 2, 3, 4, 5, 6] [0, 1, 2, 3, 4, 5, 6] rfl rfl rfl rfl rfl (xk 45 [0, 1, 2, 3, 4, 5, 6] [0, 1, 2, 3, 4, 5, 6] rfl rfl rfl rfl rfl (xv 46 [0, 1, 2, 3, 4, 5, 6] [0, 1, 2, 3, 4, 5, 6] rfl (EV.pf rfl rfl rfl) rfl rfl rfl rfl (xv 47 [0, 1, 2, 3, 4, 5, 6] [0, 1, 2, 3, 4, 5, 6] rfl (EV.as rfl) rfl rfl rfl rfl (xd (pr [2] [] [] rfl rfl rfl rfl ?_)))))))))))))))))))))
       cases H
       exact rt Try.func6 rfl (.tmp rfl .nil) rfl [] [] rfl rfl rfl rfl rfl ⟨rfl, rfl, rfl⟩
     ·
      obtain rfl := bF c33
      refine ts 88 rfl rfl (xk 22 [0, 1, 2, 3, 4, 5, 6] [0, 1, 2, 3, 4, 5, 6] rfl rfl rfl rfl rfl (xk 24 [0, 1, 2, 3, 4, 5, 6] [0, 1, 2, 3, 4, 5, 6] rfl rfl rfl rfl rfl (xk 23 [0, 1, 2, 3, 4, 5, 6] [0, 1, 2, 3, 4, 5, 6] rfl rfl rfl rfl rfl (xk 25 [0, 1, 2, 3, 4, 5, 6] [0, 1, 2, 3, 4, 5, 6] rfl rfl rfl rfl rfl (xv 26 [0, 1, 2, 3, 4, 5, 6] [0, 1, 2, 3, 4, 5, 6] rfl (EV.pt rfl rfl rfl) rfl rfl rfl rfl (xv 27 [0, 1, 2, 3, 4, 5, 6] [0, 1, 2, 3, 4, 5, 6] rfl (EV.pt rfl rfl rfl) rfl rfl rfl rfl (xv 28 [0, 1, 2, 3, 4, 5, 6] [0, 1, 2, 3, 4, 5, 6] rfl (EV.mv rfl) rfl rfl rfl rfl (xv 29 [0, 1, 2, 3, 4, 5, 6] [0, 1, 2, 3, 4, 5, 6] rfl (EV.ld (v := .agg #[.slice At9_0 t9_0.length ct9_0, .int .i64 t9_1, .int .i64 t9_2]) 3 (some 3) rfl rfl rfl) rfl rfl rfl rfl (xv 30 [0, 1, 2, 3, 4, 5, 6] [0, 1, 2, 3, 4, 5, 6] rfl (EV.ld (v := .agg #[.slice At9_3 t9_3.length ct9_3, .int .i64 t9_4, .int .i64 t9_5]) 4 (some 3) rfl rfl rfl) rfl rfl rfl rfl (xv 32 [0, 1, 2, 3, 4, 5, 6] [0, 1, 2, 3, 4, 5, 6] rfl (EV.ld (v := .agg #[.slice At9_0 t9_0.length ct9_0, .int .i64 t9_1, .int .i64 t9_2]) 3 (some 3) rfl rfl rfl) rfl rfl rfl rfl (xv 33 [0, 1, 2, 3, 4, 5, 6] [0, 1, 2, 3, 4, 5, 6] rfl (EV.ld (v := .agg #[.slice At9_3 t9_3.length ct9_3, .int .i64 t9_4, .int .i64 t9_5]) 4 (some 3) rfl rfl rfl) rfl rfl rfl rfl (one1 31 rfl rfl ?_))))))))))))
      revert H; refine bdI ?_; rintro t41 A41 H
      refine op_call (impl_EqualJoiners.ok k t9_0 At9_0 ct9_0 t9_1 t9_2 t9_3 At9_3 ct9_3 t9_4 t9_5 _ A41) [⟨3, 0, 0, false⟩, ⟨4, 0, 0, false⟩] 17 rfl rfl rfl rfl rfl ?_
      rintro _ _ _ ⟨rfl, rfl, rfl⟩
      refine xs [0, 1, 2, 3, 4, 5, 6] [0, 1, 2, 3, 4, 5, 6] rfl rfl rfl (one1 34 rfl rfl ?_)
      revert H; refine bdI ?_; rintro t42 A42 H
      refine op_call (spec_EqualJoiners.ok k t9_0 At9_0 ct9_0 t9_1 t9_2 t9_3 At9_3 ct9_3 t9_4 t9_5 _ A42) [⟨3, 0, 0, false⟩, ⟨4, 0, 0, false⟩] 17 rfl rfl rfl rfl rfl ?_
      rintro _ _ _ ⟨rfl, rfl, rfl⟩
      refine xs [0, 1, 2, 3, 4, 5, 6] [0, 1, 2, 3, 4, 5, 6] rfl rfl rfl (xv 35 [0, 1, 2, 3, 4, 5, 6] [0, 1, 2, 3, 4, 5, 6] rfl (EV.eqb rfl rfl) rfl rfl rfl rfl (xv 36 [0, 1, 2, 3, 4, 5, 6] [0, 1, 2, 3, 4, 5, 6] rfl (EV.pt rfl rfl rfl) rfl rfl rfl rfl (xv 37 [0, 1, 2, 3, 4, 5, 6] [0, 1, 2, 3, 4, 5, 6] rfl (EV.mv rfl) rfl rfl rfl rfl ?_)))
      revert H; refine ifsI ?_ ?_ <;> intro c43 H
      ·
       refine ts 104 rfl (c43) (xv 38 [0, 1, 2, 3, 4, 5, 6] [0, 1, 2, 3, 4, 5, 6] rfl (EV.mv rfl) rfl rfl rfl rfl (xv 39 [0, 1, 2, 3, 4, 5, 6] [0, 1, 2, 3, 4, 5, 6] rfl (EV.mv rfl) rfl rfl rfl rfl (xv 40 [0, 1, 2, 3, 4, 5, 6] [0, 1, 2, 3, 4, 5, 6] rfl (EV.eqb rfl rfl) rfl rfl rfl rfl (xv 41 [0, 1, 2, 3, 4, 5, 6] [0, 1, 2, 3, 4, 5, 6] rfl (EV.pt rfl rfl rfl) rfl rfl rfl rfl (xv 42 [0, 1, 2, 3, 4, 5, 6] [0, 1, 2, 3, 4, 5, 6] rfl (EV.mv rfl) rfl rfl rfl rfl ?_)))))
       revert H; refine ifsI ?_ ?_ <;> intro c44 H
       ·
        refine ts 109 rfl (c44) (xv 43 [0, 1, 2, 3, 4, 5, 6] [0, 1, 2, 3, 4, 5, 6] rfl (EV.ld (v := .agg #[.slice At11_0 t11_0.length ct11_0, .int .i64 t11_1, .int .i64 t11_2]) 5 (some 3) rfl rfl rfl) rfl rfl rfl rfl (xv 44 [0, 1, 2, 3, 4, 5, 6] [0, 1, 2, 3, 4, 5, 6] rfl (EV.ld (v := .agg #[.slice At12_0 t12_0.length ct12_0, .int .i64 t12_1, .int .i64 t12_2]) 6 (some 3) rfl rfl rfl) rfl rfl rfl rfl (one1 45 rfl rfl ?_)))
        revert H; refine bdI ?_; rintro t45 A45 H
        refine op_call (spec_EqualJoiners.ok k t11_0 At11_0 ct11_0 t11_1 t11_2 t12_0 At12_0 ct12_0 t12_1 t12_2 _ A45) [⟨5, 0, 0, false⟩, ⟨6, 0, 0, false⟩] 17 rfl rfl rfl rfl rfl ?_
        rintro _ _ _ ⟨rfl, rfl, rfl⟩
        refine xs [0, 1, 2, 3, 4, 5, 6] [0, 1, 2, 3, 4, 5, 6] rfl rfl rfl (xv 46 [0, 1, 2, 3, 4, 5, 6] [0, 1, 2, 3, 4, 5, 6] rfl (EV.pt rfl rfl rfl) rfl rfl rfl rfl (xv 47 [0, 1, 2, 3, 4, 5, 6] [0, 1, 2, 3, 4, 5, 6] rfl (EV.as rfl) rfl rfl rfl rfl (xd (pr [2] [] [] rfl rfl rfl rfl ?_))))
        cases H
        exact rt Try.func6 rfl (.tmp rfl .nil) rfl [] [] rfl rfl rfl rfl rfl ⟨rfl, rfl, rfl⟩
       ·
        refine ts 109 rfl (bF c44) (xk 43 [0, 1, 2, 3, 4, 5, 6] [0, 1, 2, 3, 4, 5, 6] rfl rfl rfl rfl rfl (xk 44 [0, 1, 2, 3, 4, 5, 6] [0, 1, 2, 3, 4, 5, 6] rfl rfl rfl rfl rfl (xk 45 [0, 1, 2, 3, 4, 5, 6] [0, 1, 2, 3, 4, 5, 6] rfl rfl rfl rfl rfl (xv 46 [0, 1, 2, 3, 4, 5, 6] [0, 1, 2, 3, 4, 5, 6] rfl (EV.pf rfl rfl rfl) rfl rfl rfl rfl (xv 47 [0, 1, 2, 3, 4, 5, 6] [0, 1, 2, 3, 4, 5, 6] rfl (EV.as rfl) rfl rfl rfl rfl (xd (pr [2] [] [] rfl rfl rfl rfl ?_)))))))
        cases H
        exact rt Try.func6 rfl (.tmp rfl .nil) rfl [] [] rfl rfl rfl rfl rfl ⟨rfl, rfl, rfl⟩
      ·
       refine ts 104 rfl (bF c43) (xk 38 [0, 1, 2, 3, 4, 5, 6] [0, 1, 2, 3, 4, 5, 6] rfl rfl rfl rfl rfl (xk 39 [0, 1, 2, 3, 4, 5, 6] [0, 1, 2, 3, 4, 5, 6] rfl rfl rfl rfl rfl (xk 40 [0, 1, 2, 3, 4, 5, 6] [0, 1, 2, 3, 4, 5, 6] rfl rfl rfl rfl rfl (xv 41 [0, 1, 2, 3, 4, 5, 6] [0, 1, 2, 3, 4, 5, 6] rfl (EV.pf rfl rfl rfl) rfl rfl rfl rfl (xv 42 [0, 1, 2, 3, 4, 5, 6] [0, 1, 2, 3, 4, 5, 6] rfl (EV.mv rfl) rfl rfl rfl rfl (xk 43 [0, 1, 2, 3, 4, 5, 6] [0, 1, 2, 3, 4, 5, 6] rfl rfl rfl rfl rfl (xk 44 [0, 1, 2, 3, 4, 5, 6] [0, 1, 2, 3, 4, 5, 6] rfl rfl rfl rfl rfl (xk 45 [0, 1, 2, 3, 4, 5, 6] [0, 1, 2, 3, 4, 5, 6] rfl rfl rfl rfl rfl (xv 46 [0, 1, 2, 3, 4, 5, 6] [0, 1, 2, 3, 4, 5, 6] rfl (EV.pf rfl rfl rfl) rfl rfl rfl rfl (xv 47 [0, 1, 2, 3, 4, 5, 6] [0, 1, 2, 3, 4, 5, 6] rfl (EV.as rfl) rfl rfl rfl rfl (xd (pr [2] [] [] rfl rfl rfl rfl ?_))))))))))))
       cases H
       exact rt Try.func6 rfl (.tmp rfl .nil) rfl [] [] rfl rfl rfl rfl rfl ⟨rfl, rfl, rfl⟩
    ·
     refine ts 85 rfl (bF c32) (xk 19 [0, 1, 2, 3, 4, 5, 6] [0, 1, 2, 3, 4, 5, 6] rfl rfl rfl rfl rfl (xk 20 [0, 1, 2, 3, 4, 5, 6] [0, 1, 2, 3, 4, 5, 6] rfl rfl rfl rfl rfl (xk 21 [0, 1, 2, 3, 4, 5, 6] [0, 1, 2, 3, 4, 5, 6] rfl rfl rfl rfl rfl (xk 22 [0, 1, 2, 3, 4, 5, 6] [0, 1, 2, 3, 4, 5, 6] rfl rfl rfl rfl rfl (xk 24 [0, 1, 2, 3, 4, 5, 6] [0, 1, 2, 3, 4, 5, 6] rfl rfl rfl rfl rfl (xk 23 [0, 1, 2, 3, 4, 5, 6] [0, 1, 2, 3, 4, 5, 6] rfl rfl rfl rfl rfl (xk 25 [0, 1, 2, 3, 4, 5, 6] [0, 1, 2, 3, 4, 5, 6] rfl rfl rfl rfl rfl (xk 26 [0, 1, 2, 3, 4, 5, 6] [0, 1, 2, 3, 4, 5, 6] rfl rfl rfl rfl rfl (xv 27 [0, 1, 2, 3, 4, 5, 6] [0, 1, 2, 3, 4, 5, 6] rfl (EV.pf rfl rfl rfl) rfl rfl rfl rfl (xv 28 [0, 1, 2, 3, 4, 5, 6] [0, 1, 2, 3, 4, 5, 6] rfl (EV.mv rfl) rfl rfl rfl rfl (xk 29 [0, 1, 2, 3, 4, 5, 6] [0, 1, 2, 3, 4, 5, 6] rfl rfl rfl rfl rfl (xk 30 [0, 1, 2, 3, 4, 5, 6] [0, 1, 2, 3, 4, 5, 6] rfl rfl rfl rfl rfl (xk 32 [0, 1, 2, 3, 4, 5, 6] [0, 1, 2, 3, 4, 5, 6] rfl rfl rfl rfl rfl (xk 33 [0, 1, 2, 3, 4, 5, 6] [0, 1, 2, 3, 4, 5, 6] rfl rfl rfl rfl rfl (xk 31 [0, 1, 2, 3, 4, 5, 6] [0, 1, 2, 3, 4, 5, 6] rfl rfl rfl rfl rfl (xk 34 [0, 1, 2, 3, 4, 5, 6] [0, 1, 2, 3, 4, 5, 6] rfl rfl rfl rfl rfl (xk 35 [0, 1, 2, 3, 4, 5, 6] [0, 1, 2, 3, 4, 5, 6] rfl rfl rfl rfl rfl (xv 36 [0, 1, 2, 3, 4, 5, 6] [0, 1, 2, 3, 4, 5, 6] rfl (EV.pf rfl rfl rfl) rfl rfl rfl rfl (xv 37 [0, 1, 2, 3, 4, 5, 6] [0, 1, 2, 3, 4, 5, 6] rfl (EV.mv rfl) rfl rfl rfl rfl (xk 38 [0, 1, 2, 3, 4, 5, 6] [0, 1, 2, 3, 4, 5, 6] rfl rfl rfl rfl rfl (xk 39 [0, 1, 2, 3, 4, 5, 6] [0, 1, 2, 3, 4, 5, 6] rfl rfl rfl rfl rfl (xk 40 [0, 1, 2, 3, 4, 5, 6] [0, 1, 2, 3, 4, 5, 6] rfl rfl rfl rfl rfl (xv 41 [0, 1, 2, 3, 4, 5, 6] [0, 1, 2, 3, 4, 5, 6] rfl (EV.pf rfl rfl rfl) rfl rfl rfl rfl (xv 42 [0, 1, 2, 3, 4, 5, 6] [0, 1, 2, 3, 4, 5, 6] rfl (EV.mv rfl) rfl rfl rfl rfl (xk 43 [0, 1, 2, 3, 4, 5, 6] [0, 1, 2, 3, 4, 5, 6] rfl rfl rfl rfl rfl (xk 44 [0, 1, 2, 3, 4, 5, 6] [0, 1, 2, 3, 4, 5, 6] rfl rfl rfl rfl rfl (xk 45 [0, 1, 2, 3, 4, 5, 6] [0, 1, 2, 3, 4, 5, 6] rfl rfl rfl rfl rfl (xv 46 [0, 1, 2, 3, 4, 5, 6] [0, 1, 2, 3, 4, 5, 6] rfl (EV.pf rfl rfl rfl) rfl rfl rfl rfl (xv 47 [0, 1, 2, 3, 4, 5, 6] [0, 1, 2, 3, 4, 5, 6] rfl (EV.as rfl) rfl rfl rfl rfl ?_)))))))))))))))))))))))))))))
     refine xd (pr [2] [] [] rfl rfl rfl rfl ?_)
     cases H
     exact rt Try.func6 rfl (.tmp rfl .nil) rfl [] [] rfl rfl rfl rfl rfl ⟨rfl, rfl, rfl⟩
  ·
   refine ts 71 rfl (bF c14) (xk 5 [0, 1, 2, 3, 4, 5, 6] [0, 1, 2, 3, 4, 5, 6] rfl rfl rfl rfl rfl (xk 6 [0, 1, 2, 3, 4, 5, 6] [0, 1, 2, 3, 4, 5, 6] rfl rfl rfl rfl rfl (xk 7 [0, 1, 2, 3, 4, 5, 6] [0, 1, 2, 3, 4, 5, 6] rfl rfl rfl rfl rfl (xk 8 [0, 1, 2, 3, 4, 5, 6] [0, 1, 2, 3, 4, 5, 6] rfl rfl rfl rfl rfl (xk 9 [0, 1, 2, 3, 4, 5, 6] [0, 1, 2, 3, 4, 5, 6] rfl rfl rfl rfl rfl (xk 10 [0, 1, 2, 3, 4, 5, 6] [0, 1, 2, 3, 4, 5, 6] rfl rfl rfl rfl rfl (xk 11 [0, 1, 2, 3, 4, 5, 6] [0, 1, 2, 3, 4, 5, 6] rfl rfl rfl rfl rfl (xv 12 [0, 1, 2, 3, 4, 5, 6] [0, 1, 2, 3, 4, 5, 6] rfl (EV.pf rfl rfl rfl) rfl rfl rfl rfl (xv 13 [0, 1, 2, 3, 4, 5, 6] [0, 1, 2, 3, 4, 5, 6] rfl (EV.mv rfl) rfl rfl rfl rfl (xk 14 [0, 1, 2, 3, 4, 5, 6] [0, 1, 2, 3, 4, 5, 6] rfl rfl rfl rfl rfl (xk 15 [0, 1, 2, 3, 4, 5, 6] [0, 1, 2, 3, 4, 5, 6] rfl rfl rfl rfl rfl (xk 16 [0, 1, 2, 3, 4, 5, 6] [0, 1, 2, 3, 4, 5, 6] rfl rfl rfl rfl rfl (xv 17 [0, 1, 2, 3, 4, 5, 6] [0, 1, 2, 3, 4, 5, 6] rfl (EV.pf rfl rfl rfl) rfl rfl rfl rfl (xv 18 [0, 1, 2, 3, 4, 5, 6] [0, 1, 2, 3, 4, 5, 6] rfl (EV.mv rfl) rfl rfl rfl rfl (xk 19 [0, 1, 2, 3, 4, 5, 6] [0, 1, 2, 3, 4, 5, 6] rfl rfl rfl rfl rfl (xk 20 [0, 1, 2, 3, 4, 5, 6] [0, 1, 2, 3, 4, 5, 6] rfl rfl rfl rfl rfl (xk 21 [0, 1, 2, 3, 4, 5, 6] [0, 1, 2, 3, 4, 5, 6] rfl rfl rfl rfl rfl (xk 22 [0, 1, 2, 3, 4, 5, 6] [0, 1, 2, 3, 4, 5, 6] rfl rfl rfl rfl rfl (xk 24 [0, 1, 2, 3, 4, 5, 6] [0, 1, 2, 3, 4, 5, 6] rfl rfl rfl rfl rfl (xk 23 [0, 1, 2, 3, 4, 5, 6] [0, 1, 2, 3, 4, 5, 6] rfl rfl rfl rfl rfl (xk 25 [0, 1, 2, 3, 4, 5, 6] [0, 1, 2, 3, 4, 5, 6] rfl rfl rfl rfl rfl (xk 26 [0, 1, 2, 3, 4, 5, 6] [0, 1, 2, 3, 4, 5, 6] rfl rfl rfl rfl rfl (xv 27 [0, 1, 2, 3, 4, 5, 6] [0, 1, 2, 3, 4, 5, 6] rfl (EV.pf rfl rfl rfl) rfl rfl rfl rfl (xv 28 [0, 1, 2, 3, 4, 5, 6] [0, 1, 2, 3, 4, 5, 6] rfl (EV.mv rfl) rfl rfl rfl rfl (xk 29 [0, 1, 2, 3, 4, 5, 6] [0, 1, 2, 3, 4, 5, 6] rfl rfl rfl rfl rfl (xk 30 [0, 1, 2, 3, 4, 5, 6] [0, 1, 2, 3, 4, 5, 6] rfl rfl rfl rfl rfl (xk 32 [0, 1, 2, 3, 4, 5, 6] [0, 1, 2, 3, 4, 5, 6] rfl rfl rfl rfl rfl (xk 33 [0, 1, 2, 3, 4, 5, 6] [0, 1, 2, 3, 4, 5, 6] rfl rfl rfl rfl rfl (xk 31 [0, 1, 2, 3, 4, 5, 6] [0, 1, 2, 3, 4, 5, 6] rfl rfl rfl rfl rfl ?_)))))))))))))))))))))))))))))
   refine xk 34 [0, 1, 2, 3, 4, 5, 6] [0, 1, 2, 3, 4, 5, 6] rfl rfl rfl rfl rfl (xk 35 [0, 1, 2, 3, 4, 5, 6] [0, 1, 2, 3, 4, 5, 6] rfl rfl rfl rfl rfl (xv 36 [0, 1, 2, 3, 4, 5, 6] [0, 1, 2, 3, 4, 5, 6] rfl (EV.pf rfl rfl rfl) rfl rfl rfl rfl (xv 37 [0, 1, 2, 3, 4, 5, 6] [0, 1, 2, 3, 4, 5, 6] rfl (EV.mv rfl) rfl rfl rfl rfl (xk 38 [0, 1, 2, 3, 4, 5, 6] [0, 1, 2, 3, 4, 5, 6] rfl rfl rfl rfl rfl (xk 39 [0, 1, 2, 3, 4, 5, 6] [0, 1, 2, 3, 4, 5, 6] rfl rfl rfl rfl rfl (xk 40 [0, 1, 2, 3, 4, 5, 6] [0, 1, 2, 3, 4, 5, 6] rfl rfl rfl rfl rfl (xv 41 [0, 1, 2, 3, 4, 5, 6] [0, 1, 2, 3, 4, 5, 6] rfl (EV.pf rfl rfl rfl) rfl rfl rfl rfl (xv 42 [0, 1, 2, 3, 4, 5, 6] [0, 1, 2, 3, 4, 5, 6] rfl (EV.mv rfl) rfl rfl rfl rfl (xk 43 [0, 1, 2, 3, 4, 5, 6] [0, 1, 2, 3, 4, 5, 6] rfl rfl rfl rfl rfl (xk 44 [0, 1, 2, 3, 4, 5, 6] [0, 1, 2, 3, 4, 5, 6] rfl rfl rfl rfl rfl (xk 45 [0, 1, 2, 3, 4, 5, 6] [0, 1, 2, 3, 4, 5, 6] rfl rfl rfl rfl rfl (xv 46 [0, 1, 2, 3, 4, 5, 6] [0, 1, 2, 3, 4, 5, 6] rfl (EV.pf rfl rfl rfl) rfl rfl rfl rfl (xv 47 [0, 1, 2, 3, 4, 5, 6] [0, 1, 2, 3, 4, 5, 6] rfl (EV.as rfl) rfl rfl rfl rfl (xd (pr [2] [] [] rfl rfl rfl rfl ?_)))))))))))))))
   cases H
   exact rt Try.func6 rfl (.tmp rfl .nil) rfl [] [] rfl rfl rfl rfl rfl ⟨rfl, rfl, rfl⟩
end Go.Proofs.Ytamjndlkompeeaa.K
