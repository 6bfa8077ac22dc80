/- Walks: what the functions compute. Printed by gen.py; no condition. -/
import Derived.Test.YtnllplklggoabaaVFnExactParseJoinera
namespace Go.Proofs.Ytnllplklggoabaa.K
open Go Go.RowKit
set_option linter.unusedVariables false
set_option linter.unusedSimpArgs false
def impl_ParseRows.l0 : Nat → (List S124) → (List ByteArray) → Int → Int → Option ((List S124) × Bool)
 | 0, _, _, _, _ => none
 | k + 1, x2_4, x2_13, x2_14, x2_15 => if x2_15 < x2_14 then (if 0 ≤ x2_15 then (if x2_15 < (x2_13.length : Int) then ((impl_ParseRow.f k (rdOf ByteArray.empty x2_13 x2_15)).bind fun bt7 => (if bt7.2.2.2 = true then (if x2_4.length < 5864062014805 then (impl_ParseRows.l0 k (x2_4 ++ ([(⟨bt7.1, bt7.2.1, bt7.2.2.1⟩ : S124)] : List S124)) x2_13 x2_14 (wrap64 (x2_15 + 1))) else none) else (some ([], false)))) else none) else none) else ((impl_AreValidRows.f k x2_4).bind fun t12 => (if t12 = true then (some (x2_4, true)) else (some ([], false))))
def impl_ParseRows.f (k : Nat) (a0 : ByteArray) : Option ((List S124) × Bool) := if a0.toList = (⟨#[]⟩ : ByteArray).toList then (some ([], true)) else ((impl_cut.f k a0 32).bind fun t3 => (impl_ParseRows.l0 k [] t3 (t3.length : Int) 0))
set_option maxHeartbeats 4000000 in
set_option maxRecDepth 100000 in
theorem impl_ParseRows.ok (k : Nat) (a0 : ByteArray) (r0 : List S124) (r1 : Bool) (H : impl_ParseRows.f k a0 = some (r0, r1)) : Fn Try.prog 74 [.string a0] [] [] (fun v bx en => ∃ A0 c0, v = .tuple #[.slice A0 r0.length c0, .bool r1] ∧ bx = [] ∧ en = [.sl 2 k124 A0 c0 r0 1 true]) := by
 refine fn_ 35 Try.func74 rfl rfl rfl (fun base T w0 => ?_)
 rw [impl_ParseRows.f] at H
 refine gs (rg (sv (EV.as rfl) rfl (sv (EV.as rfl) rfl (re (gs (gs (rg (sv (EV.mv rfl) rfl (sv (EV.eqs rfl rfl) rfl (re ?_))))))))))
 revert H; refine ifsI ?_ ?_ <;> intro c1 H
 ·
  refine gt rfl (dT c1) (gs (rg (sv (EV.as rfl) rfl (sv (EV.as rfl) rfl (re (nil_ k124 1 dq ?_))))))
  cases H
  exact rt Try.func74 rfl (.tmp rfl (.tmp rfl .nil)) rfl [] [⟨0, 2, 1, true⟩] rfl rfl rfl rfl rfl ⟨_, _, rfl, rfl, rfl⟩
 ·
  refine gf rfl (dF c1) (gk (gs (rg (so rfl (op_lit (s := 3) (by_ := 24) k124 ([] : List S124) [] [] 1 [] rfl rfl rfl rfl rfl rfl rfl rfl rfl rfl rfl rfl rfl dq rfl fun A11_2 c11_2 => (sv (EV.as rfl) rfl (re (gs (gs (rg (sv (EV.mv rfl) rfl ?_)))))))))))
  revert H; refine bdI ?_; rintro t3 A3 H
  refine so rfl (op_call (impl_cut.ok k a0 32 _ A3) [] 2 rfl rfl rfl rfl rfl ?_)
  rintro _ _ _ ⟨At3, ct3, rfl, rfl, rfl⟩
  refine sv (EV.ln rfl) rfl (sv (EV.mv rfl) rfl (re (pr [4, 13, 14, 15] [] [0, 1] rfl rfl rfl rfl (gb ?_))))
  refine lo (fun kk S => ∃ (x2_4 : List S124) (Ax2_4 : Option Addr) (cx2_4 : Nat) (x2_13 : List ByteArray) (Ax2_13 : Option Addr) (cx2_13 : Nat) (x2_14 : Int) (x2_15 : Int), impl_ParseRows.l0 kk x2_4 x2_13 x2_14 x2_15 = some (r0, r1) ∧ S = ⟨[(4, .slice Ax2_4 x2_4.length cx2_4), (13, .slice Ax2_13 x2_13.length cx2_13), (14, .int .i64 x2_14), (15, .int .i64 x2_15)], [], [.sl 2 k124 Ax2_4 cx2_4 x2_4 1 true, .sl 2 .str Ax2_13 cx2_13 x2_13 2 true]⟩) (fun S hS => ?_) (fun n0 ih0 S hS => ?_) ⟨[], A11_2, c11_2, t3, At3, ct3, (t3.length : Int), 0, H, rfl⟩ (fun h => wk [4, 13, 14, 15] [] [⟨0, 2, 1, true⟩, ⟨1, 2, 2, true⟩] h)
  · clear H; obtain ⟨_, _, _, _, _, _, _, _, H, _⟩ := hS; rw [impl_ParseRows.l0] at H; cases H
  clear H
  obtain ⟨x2_4, Ax2_4, cx2_4, x2_13, Ax2_13, cx2_13, x2_14, x2_15, H, rfl⟩ := hS
  rw [impl_ParseRows.l0] at H
  refine gs (rg (sv (EV.lss rfl rfl) rfl (re (gs ?_))))
  revert H; refine ifsI ?_ ?_ <;> intro c4 H
  ·
   refine gt rfl (dT c4) (gk (gs (gb (gs (rg ?_)))))
   revert H; refine ggI ?_; intro g5 H
   revert H; refine ggI ?_; intro g6 H
   refine sv (EV.ix 1 rfl rfl rfl g5 g6 rfl) rfl (sv (EV.le (v := .string (rdOf ByteArray.empty x2_13 x2_15)) x2_15 0 none 1 ByteArray.empty rfl rfl rfl g5 g6 rfl rfl rfl) rfl (sv (EV.as rfl) rfl (re (gs (rg (sv (EV.mv rfl) rfl ?_))))))
   revert H; refine bdI ?_; rintro ⟨t7_0, t7_1, t7_2, t7_3⟩ A7 H
   refine so rfl (op_call (impl_ParseRow.ok n0 (rdOf ByteArray.empty x2_13 x2_15) _ _ _ _ A7) [] 3 rfl rfl rfl rfl rfl ?_)
   rintro _ _ _ ⟨rfl, rfl, rfl⟩
   refine sv (EV.mv rfl) rfl (sv (EV.ex rfl rfl) rfl (sv (EV.ex rfl rfl) rfl (so rfl (op_alloc (cs := [.int .i64 0, .int .i64 0, .int .i64 0]) (by kernel_rfl) rfl fun b7 => (so rfl (op_st (cs' := [.int .i64 t7_0, .int .i64 t7_1, .int .i64 t7_2]) 0 rfl rfl rfl rfl rfl rfl (sv (EV.as rfl) rfl (re (pr [4, 7, 8, 13, 14, 15] [0] [0, 1] rfl rfl rfl rfl (gs (gs (rg (sv (EV.mv rfl) rfl (sv (EV.nt rfl) rfl (re ?_)))))))))))))))
   revert H; refine ifsI ?_ ?_ <;> intro c8 H
   ·
    subst c8
    refine gf rfl rfl (gk (rg (sv (EV.mv rfl) rfl (sv (EV.ld (v := .agg #[.int .i64 t7_0, .int .i64 t7_1, .int .i64 t7_2]) 0 (some 3) rfl rfl rfl) rfl (so rfl (op_lit (s := 3) (by_ := 24) k124 ([(⟨t7_0, t7_1, t7_2⟩ : S124)] : List S124) [[]] [] 3 [.tmp 27] rfl rfl rfl rfl rfl rfl rfl rfl rfl rfl rfl rfl rfl dq rfl fun A28_9 c28_9 => ?_))))))
    revert H; refine ggI ?_; intro g10 H
    exact so rfl (op_app (k := k124) (s := 3) (by_ := 24) 0 2 rfl rfl rfl rfl (ap1 g10 dq) (ap1n g10 dq) (.inl rfl) true (fun _ => .inl rfl) rfl rfl fun A29_11 c29_11 => (nmE (en := [.sl 2 .str Ax2_13 cx2_13 x2_13 2 true, .sl 2 k124 A28_9 c28_9 ([(⟨t7_0, t7_1, t7_2⟩ : S124)] : List S124) 3 true, .sl 2 k124 A29_11 c29_11 (x2_4 ++ ([(⟨t7_0, t7_1, t7_2⟩ : S124)] : List S124)) 1 true]) (by kernel_rfl) (sv (EV.as rfl) rfl (re (pr [4, 13, 14, 15] [] [0, 2] rfl rfl rfl rfl (ge (rg (sv (EV.add rfl rfl) rfl (sv (EV.mv rfl) rfl (re (wk [4, 13, 14, 15] [] [⟨1, 2, 1, true⟩, ⟨0, 2, 2, true⟩] (ih0 _ (by omega) _ ⟨x2_4 ++ ([(⟨t7_0, t7_1, t7_2⟩ : S124)] : List S124), A29_11, c29_11, x2_13, Ax2_13, cx2_13, x2_14, wrap64 (x2_15 + 1), H, rfl⟩))))))))))))
   ·
    obtain rfl := bF c8
    refine gt rfl rfl (gs (rg (sv (EV.as rfl) rfl (sv (EV.as rfl) rfl (re (pr [2, 3] [] [] rfl rfl rfl rfl (nil_ k124 1 dq ?_)))))))
    cases H
    exact rt Try.func74 rfl (.tmp rfl (.tmp rfl .nil)) rfl [] [⟨0, 2, 1, true⟩] rfl rfl rfl rfl rfl ⟨_, _, rfl, rfl, rfl⟩
  ·
   refine gf rfl (dF c4) (gx rfl (gs (gs (rg (sv (EV.mv rfl) rfl ?_)))))
   revert H; refine bdI ?_; rintro t12 A12 H
   refine so rfl (op_call (impl_AreValidRows.ok n0 x2_4 Ax2_4 cx2_4 _ A12) [⟨0, 0, 0, false⟩] 3 rfl rfl rfl rfl rfl ?_)
   rintro _ _ _ ⟨rfl, rfl, rfl⟩
   refine sv (EV.nt rfl) rfl (re (pr [4, 33] [] [0] rfl rfl rfl rfl ?_))
   revert H; refine ifsI ?_ ?_ <;> intro c13 H
   ·
    subst c13
    refine gf rfl rfl (gk (gs (rg (sv (EV.mv rfl) rfl (sv (EV.as rfl) rfl (sv (EV.as rfl) rfl (re ?_)))))))
    cases H
    exact rt Try.func74 rfl (.tmp rfl (.tmp rfl .nil)) rfl [] [⟨0, 2, 1, true⟩] rfl rfl rfl rfl rfl ⟨_, _, rfl, rfl, rfl⟩
   ·
    obtain rfl := bF c13
    refine gt rfl rfl (gs (rg (sv (EV.as rfl) rfl (sv (EV.as rfl) rfl (re (nil_ k124 2 dq ?_))))))
    cases H
    exact rt Try.func74 rfl (.tmp rfl (.tmp rfl .nil)) rfl [] [⟨1, 2, 1, true⟩] rfl rfl rfl rfl rfl ⟨_, _, rfl, rfl, rfl⟩
end Go.Proofs.Ytnllplklggoabaa.K
namespace Go.Proofs.Ytnllplklggoabaa.K
open Go Go.RowKit
set_option linter.unusedVariables false
set_option linter.unusedSimpArgs false
def impl_ParseTask.l0 : Nat → ByteArray → (List ByteArray) → Bool → Bool → Bool → Bool → Int → Int → Int → (List S124) → (List S124) → (List Bool) → Int → Int → (List S124) → (List S124) → (List Bool) → Int → Option (Int × (List S124) × (List S124) × (List Bool) × Int × Bool)
 | 0, _, _, _, _, _, _, _, _, _, _, _, _, _, _, _, _, _, _ => none
 | k + 1, x2_0, x2_4, x2_6, x2_8, x2_10, x2_12, x2_57, x2_58, x2_2_0, x2_2_1, x2_2_2, x2_2_3, x2_2_4, x2_13_0, x2_13_1, x2_13_2, x2_13_3, x2_13_4 => if x2_58 < x2_57 then (if 3 < (x2_4.length : Int) then (if 0 ≤ x2_58 then (if x2_13_3.length < 140737488355328 then (if x2_58 < ((rdOf ByteArray.empty x2_4 3).size : Int) then (impl_ParseTask.l0 k x2_0 x2_4 x2_6 x2_8 x2_10 x2_12 x2_57 (wrap64 (x2_58 + 1)) x2_2_0 x2_2_1 x2_2_2 x2_2_3 x2_2_4 x2_13_0 x2_13_1 x2_13_2 (x2_13_3 ++ ([decide ((bt (rdOf ByteArray.empty x2_4 3) x2_58) = 49)] : List Bool)) x2_13_4) else none) else none) else none) else none) else (if x2_6 = true then (if x2_8 = true then (if x2_10 = true then (if x2_12 = true then ((impl_IsValidTask.f k x2_13_0 x2_13_1 x2_13_2 x2_13_3 x2_13_4).bind fun t23 => (if t23 = true then ((impl_FormatTask.f k x2_13_0 x2_13_1 x2_13_2 x2_13_3 x2_13_4).bind fun t25 => (if t25.toList = x2_0.toList then (some (x2_13_0, x2_13_1, x2_13_2, x2_13_3, x2_13_4, true)) else (some (0, [], [], [], 0, false)))) else (some (0, [], [], [], 0, false)))) else (some (0, [], [], [], 0, false))) else (some (0, [], [], [], 0, false))) else (some (0, [], [], [], 0, false))) else (some (0, [], [], [], 0, false)))
def impl_ParseTask.f (k : Nat) (a0 : ByteArray) : Option (Int × (List S124) × (List S124) × (List Bool) × Int × Bool) := (impl_cut.f k a0 59).bind fun t1 => (if (t1.length : Int) = 5 then (if 0 < (t1.length : Int) then ((impl_ParseInt.f k (rdOf ByteArray.empty t1 0)).bind fun bt4 => (if 1 < (t1.length : Int) then ((impl_ParseRows.f k (rdOf ByteArray.empty t1 1)).bind fun bt6 => (if 2 < (t1.length : Int) then ((impl_ParseRows.f k (rdOf ByteArray.empty t1 2)).bind fun bt8 => (if 4 < (t1.length : Int) then ((impl_ParseInt.f k (rdOf ByteArray.empty t1 4)).bind fun bt10 => (if 3 < (t1.length : Int) then (impl_ParseTask.l0 k a0 t1 bt4.2 bt6.2 bt8.2 bt10.2 ((rdOf ByteArray.empty t1 3).size : Int) 0 0 [] [] [] 0 bt4.1 bt6.1 bt8.1 [] bt10.1) else none)) else none)) else none)) else none)) else none) else (some (0, [], [], [], 0, false)))
set_option maxHeartbeats 4000000 in
set_option maxRecDepth 100000 in
theorem impl_ParseTask.ok (k : Nat) (a0 : ByteArray) (r0 : Int) (r1 : List S124) (r2 : List S124) (r3 : List Bool) (r4 : Int) (r5 : Bool) (H : impl_ParseTask.f k a0 = some (r0, r1, r2, r3, r4, r5)) : Fn Try.prog 35 [.string a0] [] [] (fun v bx en => ∃ A1 c1 A2 c2 A3 c3, v = .tuple #[.agg #[.int .i64 r0, .slice A1 r1.length c1, .slice A2 r2.length c2, .slice A3 r3.length c3, .int .i64 r4], .bool r5] ∧ bx = [] ∧ en = [.sl 2 k124 A1 c1 r1 1 true, .sl 2 k124 A2 c2 r2 2 true, .sl 2 .bool A3 c3 r3 3 true]) := by
 refine fn_ 100 Try.func35 rfl rfl rfl (fun base T w0 => ?_)
 rw [impl_ParseTask.f] at H
 refine gs (rg (so rfl (op_alloc (cs := [.int .i64 0, .slice none 0 0, .slice none 0 0, .slice none 0 0, .int .i64 0]) (by kernel_rfl) rfl fun b2 => (sv (EV.as rfl) rfl (re (gs (rg (sv (EV.mv rfl) rfl ?_))))))))
 revert H; refine bdI ?_; rintro t1 A1 H
 refine so rfl (op_call (impl_cut.ok k a0 59 _ A1) [] 1 rfl rfl rfl rfl rfl ?_)
 rintro _ _ _ ⟨At1, ct1, rfl, rfl, rfl⟩
 refine sv (EV.as rfl) rfl (re (gs (gs (rg (sv (EV.mv rfl) rfl (sv (EV.ln rfl) rfl (sv (EV.neq rfl rfl) rfl (re ?_))))))))
 revert H; refine ifsI ?_ ?_ <;> intro c2 H
 ·
  refine gf rfl (nF c2) (gk (gs (rg (sv (EV.mv rfl) rfl ?_))))
  revert H; refine ggI ?_; intro g3 H
  refine sv (EV.ix 0 rfl rfl rfl dq g3 rfl) rfl (sv (EV.le (v := .string (rdOf ByteArray.empty t1 0)) 0 0 none 0 ByteArray.empty rfl rfl rfl dq g3 rfl rfl rfl) rfl ?_)
  revert H; refine bdI ?_; rintro ⟨t4_0, t4_1⟩ A4 H
  refine so rfl (op_call (impl_ParseInt.ok k (rdOf ByteArray.empty t1 0) _ _ A4) [] 3 rfl rfl rfl rfl rfl ?_)
  rintro _ _ _ ⟨rfl, rfl, rfl⟩
  refine sv (EV.mv rfl) rfl (sv (EV.ex rfl rfl) rfl (sv (EV.ex rfl rfl) rfl (sv (EV.as rfl) rfl (sv (EV.as rfl) rfl (re (pr [0, 2, 4, 5, 6] [0] [0] rfl rfl rfl rfl (gs (rg (sv (EV.mv rfl) rfl ?_)))))))))
  revert H; refine ggI ?_; intro g5 H
  refine sv (EV.ix 0 rfl rfl rfl dq g5 rfl) rfl (sv (EV.le (v := .string (rdOf ByteArray.empty t1 1)) 1 0 none 0 ByteArray.empty rfl rfl rfl dq g5 rfl rfl rfl) rfl ?_)
  revert H; refine bdI ?_; rintro ⟨t6_0, t6_1⟩ A6 H
  refine so rfl (op_call (impl_ParseRows.ok k (rdOf ByteArray.empty t1 1) _ _ A6) [] 3 rfl rfl rfl rfl rfl ?_)
  rintro _ _ _ ⟨At6_0, ct6_0, rfl, rfl, rfl⟩
  refine sv (EV.mv rfl) rfl (sv (EV.ex rfl rfl) rfl (sv (EV.ex rfl rfl) rfl (sv (EV.as rfl) rfl (sv (EV.as rfl) rfl (re (pr [0, 2, 4, 5, 6, 7, 8] [0] [0, 1] rfl rfl rfl rfl (gs (rg (sv (EV.mv rfl) rfl ?_)))))))))
  revert H; refine ggI ?_; intro g7 H
  refine sv (EV.ix 0 rfl rfl rfl dq g7 rfl) rfl (sv (EV.le (v := .string (rdOf ByteArray.empty t1 2)) 2 0 none 0 ByteArray.empty rfl rfl rfl dq g7 rfl rfl rfl) rfl ?_)
  revert H; refine bdI ?_; rintro ⟨t8_0, t8_1⟩ A8 H
  refine so rfl (op_call (impl_ParseRows.ok k (rdOf ByteArray.empty t1 2) _ _ A8) [] 5 rfl rfl rfl rfl rfl ?_)
  rintro _ _ _ ⟨At8_0, ct8_0, rfl, rfl, rfl⟩
  refine sv (EV.mv rfl) rfl (sv (EV.ex rfl rfl) rfl (sv (EV.ex rfl rfl) rfl (sv (EV.as rfl) rfl (sv (EV.as rfl) rfl (re (pr [0, 2, 4, 5, 6, 7, 8, 9, 10] [0] [0, 1, 2] rfl rfl rfl rfl (gs (rg (sv (EV.mv rfl) rfl ?_)))))))))
  revert H; refine ggI ?_; intro g9 H
  refine sv (EV.ix 0 rfl rfl rfl dq g9 rfl) rfl (sv (EV.le (v := .string (rdOf ByteArray.empty t1 4)) 4 0 none 0 ByteArray.empty rfl rfl rfl dq g9 rfl rfl rfl) rfl ?_)
  revert H; refine bdI ?_; rintro ⟨t10_0, t10_1⟩ A10 H
  refine so rfl (op_call (impl_ParseInt.ok k (rdOf ByteArray.empty t1 4) _ _ A10) [] 7 rfl rfl rfl rfl rfl ?_)
  rintro _ _ _ ⟨rfl, rfl, rfl⟩
  refine sv (EV.mv rfl) rfl (sv (EV.ex rfl rfl) rfl (sv (EV.ex rfl rfl) rfl (sv (EV.as rfl) rfl (sv (EV.as rfl) rfl (re (pr [0, 2, 4, 5, 6, 7, 8, 9, 10, 11, 12] [0] [0, 1, 2] rfl rfl rfl rfl (gs (rg (sv (EV.mv rfl) rfl (sv (EV.mv rfl) rfl (sv (EV.mv rfl) rfl (sv (EV.mv rfl) rfl (sv (EV.bd (v := .agg #[.int .i64 t4_0, .slice At6_0 t6_0.length ct6_0, .slice At8_0 t8_0.length ct8_0, .slice none 0 0, .int .i64 t10_0]) rfl (by kernel_rfl)) rfl (so rfl (op_alloc (cs := [.int .i64 0, .slice none 0 0, .slice none 0 0, .slice none 0 0, .int .i64 0]) (by kernel_rfl) rfl fun b13 => (so rfl (op_st (cs' := [.int .i64 t4_0, .slice At6_0 t6_0.length ct6_0, .slice At8_0 t8_0.length ct8_0, .slice none 0 0, .int .i64 t10_0]) 1 rfl rfl rfl rfl rfl rfl (re (pr [0, 2, 4, 6, 8, 10, 12, 13] [0, 1] [0, 1, 2] rfl rfl rfl rfl (gs (gs (rg (sv (EV.mv rfl) rfl ?_)))))))))))))))))))))))
  revert H; refine ggI ?_; intro g11 H
  refine sv (EV.ix 0 rfl rfl rfl dq g11 rfl) rfl (sv (EV.le (v := .string (rdOf ByteArray.empty t1 3)) 3 0 none 0 ByteArray.empty rfl rfl rfl dq g11 rfl rfl rfl) rfl (sv (EV.lns rfl) rfl (sv (EV.mv rfl) rfl (re (gb (nil_ k124 7 dq (nil_ k124 8 dq (nil_ .bool 9 dq (nil_ .bool 10 dq ?_)))))))))
  refine lo (fun kk S => ∃ (x2_0 : ByteArray) (x2_4 : List ByteArray) (Ax2_4 : Option Addr) (cx2_4 : Nat) (x2_6 : Bool) (x2_8 : Bool) (x2_10 : Bool) (x2_12 : Bool) (x2_57 : Int) (x2_58 : Int) (x2_2_0 : Int) (x2_2_1 : List S124) (Ax2_2_1 : Option Addr) (cx2_2_1 : Nat) (x2_2_2 : List S124) (Ax2_2_2 : Option Addr) (cx2_2_2 : Nat) (x2_2_3 : List Bool) (Ax2_2_3 : Option Addr) (cx2_2_3 : Nat) (x2_2_4 : Int) (x2_13_0 : Int) (x2_13_1 : List S124) (Ax2_13_1 : Option Addr) (cx2_13_1 : Nat) (x2_13_2 : List S124) (Ax2_13_2 : Option Addr) (cx2_13_2 : Nat) (x2_13_3 : List Bool) (Ax2_13_3 : Option Addr) (cx2_13_3 : Nat) (x2_13_4 : Int), impl_ParseTask.l0 kk x2_0 x2_4 x2_6 x2_8 x2_10 x2_12 x2_57 x2_58 x2_2_0 x2_2_1 x2_2_2 x2_2_3 x2_2_4 x2_13_0 x2_13_1 x2_13_2 x2_13_3 x2_13_4 = some (r0, r1, r2, r3, r4, r5) ∧ S = ⟨[(0, .string x2_0), (2, .pointer (some ⟨b2, 0, none⟩)), (4, .slice Ax2_4 x2_4.length cx2_4), (6, .bool x2_6), (8, .bool x2_8), (10, .bool x2_10), (12, .bool x2_12), (13, .pointer (some ⟨b13, 0, none⟩)), (57, .int .i64 x2_57), (58, .int .i64 x2_58)], [⟨b2, 37, [.int .i64 x2_2_0, .slice Ax2_2_1 x2_2_1.length cx2_2_1, .slice Ax2_2_2 x2_2_2.length cx2_2_2, .slice Ax2_2_3 x2_2_3.length cx2_2_3, .int .i64 x2_2_4]⟩, ⟨b13, 37, [.int .i64 x2_13_0, .slice Ax2_13_1 x2_13_1.length cx2_13_1, .slice Ax2_13_2 x2_13_2.length cx2_13_2, .slice Ax2_13_3 x2_13_3.length cx2_13_3, .int .i64 x2_13_4]⟩], [.sl 2 .str Ax2_4 cx2_4 x2_4 1 true, .sl 2 k124 Ax2_2_1 cx2_2_1 x2_2_1 2 true, .sl 2 k124 Ax2_2_2 cx2_2_2 x2_2_2 3 true, .sl 2 .bool Ax2_2_3 cx2_2_3 x2_2_3 4 true, .sl 2 k124 Ax2_13_1 cx2_13_1 x2_13_1 5 true, .sl 2 k124 Ax2_13_2 cx2_13_2 x2_13_2 6 true, .sl 2 .bool Ax2_13_3 cx2_13_3 x2_13_3 7 true]⟩) (fun S hS => ?_) (fun n0 ih0 S hS => ?_) ⟨a0, t1, At1, ct1, t4_1, t6_1, t8_1, t10_1, ((rdOf ByteArray.empty t1 3).size : Int), 0, 0, [], none, 0, [], none, 0, [], none, 0, 0, t4_0, t6_0, At6_0, ct6_0, t8_0, At8_0, ct8_0, [], none, 0, t10_0, H, rfl⟩ (fun h => wk [0, 2, 4, 6, 8, 10, 12, 13, 57, 58] [0, 1] [⟨0, 2, 1, true⟩, ⟨3, 2, 2, true⟩, ⟨4, 2, 3, true⟩, ⟨5, 2, 4, true⟩, ⟨1, 2, 5, true⟩, ⟨2, 2, 6, true⟩, ⟨6, 2, 7, true⟩] h)
  · clear H; obtain ⟨_, _, _, _, _, _, _, _, _, _, _, _, _, _, _, _, _, _, _, _, _, _, _, _, _, _, _, _, _, _, _, _, H, _⟩ := hS; rw [impl_ParseTask.l0] at H; cases H
  clear H
  obtain ⟨x2_0, x2_4, Ax2_4, cx2_4, x2_6, x2_8, x2_10, x2_12, x2_57, x2_58, x2_2_0, x2_2_1, Ax2_2_1, cx2_2_1, x2_2_2, Ax2_2_2, cx2_2_2, x2_2_3, Ax2_2_3, cx2_2_3, x2_2_4, x2_13_0, x2_13_1, Ax2_13_1, cx2_13_1, x2_13_2, Ax2_13_2, cx2_13_2, x2_13_3, Ax2_13_3, cx2_13_3, x2_13_4, H, rfl⟩ := hS
  rw [impl_ParseTask.l0] at H
  refine gs (rg (sv (EV.lss rfl rfl) rfl (re (gs ?_))))
  revert H; refine ifsI ?_ ?_ <;> intro c12 H
  ·
   refine gt rfl (dT c12) (gk (gs (gb (gs (rg (sv (EV.mv rfl) rfl (sv (EV.as rfl) rfl (re ?_))))))))
   revert H; refine ggI ?_; intro g13 H
   revert H; refine ggI ?_; intro g14 H
   revert H; refine ggI ?_; intro g15 H
   refine dr [0, 1] [0, 1, 2, 3, 4, 5] [10, 11] 12 rfl rfl rfl rfl (xv 0 [0, 1] [0, 1, 2, 3, 4, 5] rfl (EV.fa 3 rfl) rfl rfl rfl rfl (xv 1 [0, 1] [0, 1, 2, 3, 4, 5] rfl (EV.ld 1 none rfl rfl rfl) rfl rfl rfl rfl (xv 2 [0, 1] [0, 1, 2, 3, 4, 5] rfl (EV.mv rfl) rfl rfl rfl rfl (xv 3 [0, 1] [0, 1, 2, 3, 4, 5] rfl (EV.ix 0 rfl rfl rfl dq g13 rfl) rfl rfl rfl rfl (xv 4 [0, 1] [0, 1, 2, 3, 4, 5] rfl (EV.le (v := .string (rdOf ByteArray.empty x2_4 3)) 3 0 none 0 ByteArray.empty rfl rfl rfl dq g13 rfl rfl rfl) rfl rfl rfl rfl (xv 5 [0, 1] [0, 1, 2, 3, 4, 5] rfl (EV.mv rfl) rfl rfl rfl rfl ?_))))))
   revert H; refine ggI ?_; intro g16 H
   exact xv 6 [0, 1] [0, 1, 2, 3, 4, 5] rfl (EV.is rfl rfl g14 g16) rfl rfl rfl rfl (xv 7 [0, 1] [0, 1, 2, 3, 4, 5] rfl (EV.eql rfl rfl) rfl rfl rfl rfl (one1 8 rfl rfl (op_lit (s := 1) (by_ := 1) .bool ([decide ((bt (rdOf ByteArray.empty x2_4 3) x2_58) = 49)] : List Bool) [[]] [] 8 [.tmp 68] rfl rfl rfl rfl rfl rfl rfl rfl rfl rfl rfl rfl rfl dq rfl fun A69_17 c69_17 => (xs [0, 1] [0, 1, 2, 3, 4, 5] rfl rfl rfl (one1 9 rfl rfl (op_app (k := .bool) (s := 1) (by_ := 1) 6 7 rfl rfl rfl rfl (ap1 g15 dq) (ap1n g15 dq) (.inl rfl) true (fun _ => .inl rfl) rfl rfl fun A70_18 c70_18 => (nmE (en := [.sl 2 .str Ax2_4 cx2_4 x2_4 1 true, .sl 2 k124 Ax2_2_1 cx2_2_1 x2_2_1 2 true, .sl 2 k124 Ax2_2_2 cx2_2_2 x2_2_2 3 true, .sl 2 .bool Ax2_2_3 cx2_2_3 x2_2_3 4 true, .sl 2 k124 Ax2_13_1 cx2_13_1 x2_13_1 5 true, .sl 2 k124 Ax2_13_2 cx2_13_2 x2_13_2 6 true, .sl 2 .bool A69_17 c69_17 ([decide ((bt (rdOf ByteArray.empty x2_4 3) x2_58) = 49)] : List Bool) 8 true, .sl 2 .bool A70_18 c70_18 (x2_13_3 ++ ([decide ((bt (rdOf ByteArray.empty x2_4 3) x2_58) = 49)] : List Bool)) 7 true]) (by kernel_rfl) (xs [0, 1] [0, 1, 2, 3, 4, 5] rfl rfl rfl (one1 10 rfl rfl (ov (EV.fa 3 rfl) rfl (xn rfl (one1 11 rfl rfl (op_st (cs' := [.int .i64 x2_13_0, .slice Ax2_13_1 x2_13_1.length cx2_13_1, .slice Ax2_13_2 x2_13_2.length cx2_13_2, .slice A70_18 (x2_13_3 ++ ([decide ((bt (rdOf ByteArray.empty x2_4 3) x2_58) = 49)] : List Bool)).length c70_18, .int .i64 x2_13_4]) 1 rfl rfl rfl rfl rfl rfl (xn rfl (xd (pr [0, 2, 4, 6, 8, 10, 12, 13, 57, 58] [0, 1] [0, 1, 2, 3, 4, 5, 7] rfl rfl rfl rfl (ge (rg (sv (EV.add rfl rfl) rfl (sv (EV.mv rfl) rfl (re (wk [0, 2, 4, 6, 8, 10, 12, 13, 57, 58] [0, 1] [⟨0, 2, 1, true⟩, ⟨1, 2, 2, true⟩, ⟨2, 2, 3, true⟩, ⟨3, 2, 4, true⟩, ⟨4, 2, 5, true⟩, ⟨5, 2, 6, true⟩, ⟨6, 2, 7, true⟩] (ih0 _ (by omega) _ ⟨x2_0, x2_4, Ax2_4, cx2_4, x2_6, x2_8, x2_10, x2_12, x2_57, wrap64 (x2_58 + 1), x2_2_0, x2_2_1, Ax2_2_1, cx2_2_1, x2_2_2, Ax2_2_2, cx2_2_2, x2_2_3, Ax2_2_3, cx2_2_3, x2_2_4, x2_13_0, x2_13_1, Ax2_13_1, cx2_13_1, x2_13_2, Ax2_13_2, cx2_13_2, x2_13_3 ++ ([decide ((bt (rdOf ByteArray.empty x2_4 3) x2_58) = 49)] : List Bool), A70_18, c70_18, x2_13_4, H, rfl⟩)))))))))))))))))))))))
  ·
   refine gf rfl (dF c12) (gx rfl (gs (gs (rg (sv (EV.mv rfl) rfl (sv (EV.nt rfl) rfl (sv (EV.mv rfl) rfl ?_)))))))
   revert H; refine ifsI ?_ ?_ <;> intro c19 H
   ·
    subst c19
    refine ts 75 rfl rfl (sv (EV.mv rfl) rfl (sv (EV.nt rfl) rfl (sv (EV.pf rfl rfl rfl) rfl (sv (EV.mv rfl) rfl ?_))))
    revert H; refine ifsI ?_ ?_ <;> intro c20 H
    ·
     subst c20
     refine ts 79 rfl rfl (sv (EV.mv rfl) rfl (sv (EV.nt rfl) rfl (sv (EV.pf rfl rfl rfl) rfl (sv (EV.mv rfl) rfl ?_))))
     revert H; refine ifsI ?_ ?_ <;> intro c21 H
     ·
      subst c21
      refine ts 83 rfl rfl (sv (EV.mv rfl) rfl (sv (EV.nt rfl) rfl (sv (EV.pf rfl rfl rfl) rfl (sv (EV.mv rfl) rfl ?_))))
      revert H; refine ifsI ?_ ?_ <;> intro c22 H
      ·
       subst c22
       refine ts 87 rfl rfl (sv (EV.ld (v := .agg #[.int .i64 x2_13_0, .slice Ax2_13_1 x2_13_1.length cx2_13_1, .slice Ax2_13_2 x2_13_2.length cx2_13_2, .slice Ax2_13_3 x2_13_3.length cx2_13_3, .int .i64 x2_13_4]) 1 (some 5) rfl rfl rfl) rfl ?_)
       revert H; refine bdI ?_; rintro t23 A23 H
       refine so rfl (op_call (impl_IsValidTask.ok n0 x2_13_0 x2_13_1 Ax2_13_1 cx2_13_1 x2_13_2 Ax2_13_2 cx2_13_2 x2_13_3 Ax2_13_3 cx2_13_3 x2_13_4 _ A23) [⟨4, 0, 0, false⟩, ⟨5, 0, 0, false⟩, ⟨6, 0, 0, false⟩] 8 rfl rfl rfl rfl rfl ?_)
       rintro _ _ _ ⟨rfl, rfl, rfl⟩
       refine sv (EV.nt rfl) rfl (sv (EV.pf rfl rfl rfl) rfl (sv (EV.mv rfl) rfl ?_))
       revert H; refine ifsI ?_ ?_ <;> intro c24 H
       ·
        subst c24
        refine ts 92 rfl rfl (sv (EV.ld (v := .agg #[.int .i64 x2_13_0, .slice Ax2_13_1 x2_13_1.length cx2_13_1, .slice Ax2_13_2 x2_13_2.length cx2_13_2, .slice Ax2_13_3 x2_13_3.length cx2_13_3, .int .i64 x2_13_4]) 1 (some 5) rfl rfl rfl) rfl ?_)
        revert H; refine bdI ?_; rintro t25 A25 H
        refine so rfl (op_call (impl_FormatTask.ok n0 x2_13_0 x2_13_1 Ax2_13_1 cx2_13_1 x2_13_2 Ax2_13_2 cx2_13_2 x2_13_3 Ax2_13_3 cx2_13_3 x2_13_4 _ A25) [⟨4, 0, 0, false⟩, ⟨5, 0, 0, false⟩, ⟨6, 0, 0, false⟩] 8 rfl rfl rfl rfl rfl ?_)
        rintro _ _ _ ⟨rfl, rfl, rfl⟩
        refine sv (EV.mv rfl) rfl (sv (EV.nes rfl rfl) rfl (sv (EV.pf rfl rfl rfl) rfl (re (pr [2, 13, 97] [0, 1] [1, 2, 3, 4, 5, 6] rfl rfl rfl rfl ?_))))
        revert H; refine ifsI ?_ ?_ <;> intro c26 H
        ·
         refine gf rfl (nF c26) (gk (gs (rg (sv (EV.ld (v := .agg #[.int .i64 x2_13_0, .slice Ax2_13_1 x2_13_1.length cx2_13_1, .slice Ax2_13_2 x2_13_2.length cx2_13_2, .slice Ax2_13_3 x2_13_3.length cx2_13_3, .int .i64 x2_13_4]) 1 (some 5) rfl rfl rfl) rfl (so rfl (op_st (cs' := [.int .i64 x2_13_0, .slice Ax2_13_1 x2_13_1.length cx2_13_1, .slice Ax2_13_2 x2_13_2.length cx2_13_2, .slice Ax2_13_3 x2_13_3.length cx2_13_3, .int .i64 x2_13_4]) 0 rfl rfl rfl rfl rfl rfl (sv (EV.as rfl) rfl (re ?_))))))))
         cases H
         exact rt Try.func35 rfl (.cell 0 (some 5) rfl rfl rfl (.tmp rfl .nil)) rfl [] [⟨3, 2, 1, true⟩, ⟨4, 2, 2, true⟩, ⟨5, 2, 3, true⟩] rfl rfl rfl rfl rfl ⟨_, _, _, _, _, _, rfl, rfl, rfl⟩
        ·
         refine gt rfl (nT c26) (gs (rg (sv (EV.bd (v := .agg #[.int .i64 0, .slice none 0 0, .slice none 0 0, .slice none 0 0, .int .i64 0]) rfl (by kernel_rfl)) rfl (so rfl (op_st (cs' := [.int .i64 0, .slice none 0 0, .slice none 0 0, .slice none 0 0, .int .i64 0]) 0 rfl rfl rfl rfl rfl rfl (sv (EV.as rfl) rfl (re (nil_ k124 8 dq (nil_ k124 9 dq (nil_ .bool 10 dq ?_))))))))))
         cases H
         exact rt Try.func35 rfl (.cell 0 (some 5) rfl rfl rfl (.tmp rfl .nil)) rfl [] [⟨6, 2, 1, true⟩, ⟨7, 2, 2, true⟩, ⟨8, 2, 3, true⟩] rfl rfl rfl rfl rfl ⟨_, _, _, _, _, _, rfl, rfl, rfl⟩
       ·
        obtain rfl := bF c24
        refine ts 92 rfl rfl (sk rfl (sk rfl (sk rfl (sk rfl (sv (EV.pt rfl rfl rfl) rfl (re (pr [2, 13, 97] [0, 1] [1, 2, 3, 4, 5, 6] rfl rfl rfl rfl (gt rfl rfl (gs (rg (sv (EV.bd (v := .agg #[.int .i64 0, .slice none 0 0, .slice none 0 0, .slice none 0 0, .int .i64 0]) rfl (by kernel_rfl)) rfl (so rfl (op_st (cs' := [.int .i64 0, .slice none 0 0, .slice none 0 0, .slice none 0 0, .int .i64 0]) 0 rfl rfl rfl rfl rfl rfl (sv (EV.as rfl) rfl (re (nil_ k124 8 dq (nil_ k124 9 dq (nil_ .bool 10 dq ?_))))))))))))))))))
        cases H
        exact rt Try.func35 rfl (.cell 0 (some 5) rfl rfl rfl (.tmp rfl .nil)) rfl [] [⟨6, 2, 1, true⟩, ⟨7, 2, 2, true⟩, ⟨8, 2, 3, true⟩] rfl rfl rfl rfl rfl ⟨_, _, _, _, _, _, rfl, rfl, rfl⟩
      ·
       obtain rfl := bF c22
       refine ts 87 rfl rfl (sk rfl (sk rfl (sk rfl (sv (EV.pt rfl rfl rfl) rfl (sv (EV.mv rfl) rfl (sk rfl (sk rfl (sk rfl (sk rfl (sv (EV.pt rfl rfl rfl) rfl (re (pr [2, 13, 97] [0, 1] [1, 2, 3, 4, 5, 6] rfl rfl rfl rfl (gt rfl rfl (gs (rg (sv (EV.bd (v := .agg #[.int .i64 0, .slice none 0 0, .slice none 0 0, .slice none 0 0, .int .i64 0]) rfl (by kernel_rfl)) rfl (so rfl (op_st (cs' := [.int .i64 0, .slice none 0 0, .slice none 0 0, .slice none 0 0, .int .i64 0]) 0 rfl rfl rfl rfl rfl rfl (sv (EV.as rfl) rfl (re (nil_ k124 8 dq (nil_ k124 9 dq (nil_ .bool 10 dq ?_)))))))))))))))))))))))
       cases H
       exact rt Try.func35 rfl (.cell 0 (some 5) rfl rfl rfl (.tmp rfl .nil)) rfl [] [⟨6, 2, 1, true⟩, ⟨7, 2, 2, true⟩, ⟨8, 2, 3, true⟩] rfl rfl rfl rfl rfl ⟨_, _, _, _, _, _, rfl, rfl, rfl⟩
     ·
      obtain rfl := bF c21
      refine ts 83 rfl rfl (sk rfl (sk rfl (sv (EV.pt rfl rfl rfl) rfl (sv (EV.mv rfl) rfl (sk rfl (sk rfl (sk rfl (sv (EV.pt rfl rfl rfl) rfl (sv (EV.mv rfl) rfl (sk rfl (sk rfl (sk rfl (sk rfl (sv (EV.pt rfl rfl rfl) rfl (re (pr [2, 13, 97] [0, 1] [1, 2, 3, 4, 5, 6] rfl rfl rfl rfl (gt rfl rfl (gs (rg (sv (EV.bd (v := .agg #[.int .i64 0, .slice none 0 0, .slice none 0 0, .slice none 0 0, .int .i64 0]) rfl (by kernel_rfl)) rfl (so rfl (op_st (cs' := [.int .i64 0, .slice none 0 0, .slice none 0 0, .slice none 0 0, .int .i64 0]) 0 rfl rfl rfl rfl rfl rfl (sv (EV.as rfl) rfl (re (nil_ k124 8 dq (nil_ k124 9 dq (nil_ .bool 10 dq ?_)))))))))))))))))))))))))))
      cases H
      exact rt Try.func35 rfl (.cell 0 (some 5) rfl rfl rfl (.tmp rfl .nil)) rfl [] [⟨6, 2, 1, true⟩, ⟨7, 2, 2, true⟩, ⟨8, 2, 3, true⟩] rfl rfl rfl rfl rfl ⟨_, _, _, _, _, _, rfl, rfl, rfl⟩
    ·
     obtain rfl := bF c20
     refine ts 79 rfl rfl (sk rfl (sk rfl (sv (EV.pt rfl rfl rfl) rfl (sv (EV.mv rfl) rfl (sk rfl (sk rfl (sv (EV.pt rfl rfl rfl) rfl (sv (EV.mv rfl) rfl (sk rfl (sk rfl (sk rfl (sv (EV.pt rfl rfl rfl) rfl (sv (EV.mv rfl) rfl (sk rfl (sk rfl (sk rfl (sk rfl (sv (EV.pt rfl rfl rfl) rfl (re (pr [2, 13, 97] [0, 1] [1, 2, 3, 4, 5, 6] rfl rfl rfl rfl (gt rfl rfl (gs (rg (sv (EV.bd (v := .agg #[.int .i64 0, .slice none 0 0, .slice none 0 0, .slice none 0 0, .int .i64 0]) rfl (by kernel_rfl)) rfl (so rfl (op_st (cs' := [.int .i64 0, .slice none 0 0, .slice none 0 0, .slice none 0 0, .int .i64 0]) 0 rfl rfl rfl rfl rfl rfl (sv (EV.as rfl) rfl (re (nil_ k124 8 dq ?_)))))))))))))))))))))))))))))
     refine nil_ k124 9 dq (nil_ .bool 10 dq ?_)
     cases H
     exact rt Try.func35 rfl (.cell 0 (some 5) rfl rfl rfl (.tmp rfl .nil)) rfl [] [⟨6, 2, 1, true⟩, ⟨7, 2, 2, true⟩, ⟨8, 2, 3, true⟩] rfl rfl rfl rfl rfl ⟨_, _, _, _, _, _, rfl, rfl, rfl⟩
   ·
    obtain rfl := bF c19
    refine ts 75 rfl rfl (sk rfl (sk rfl (sv (EV.pt rfl rfl rfl) rfl (sv (EV.mv rfl) rfl (sk rfl (sk rfl (sv (EV.pt rfl rfl rfl) rfl (sv (EV.mv rfl) rfl (sk rfl (sk rfl (sv (EV.pt rfl rfl rfl) rfl (sv (EV.mv rfl) rfl (sk rfl (sk rfl (sk rfl (sv (EV.pt rfl rfl rfl) rfl (sv (EV.mv rfl) rfl (sk rfl (sk rfl (sk rfl (sk rfl (sv (EV.pt rfl rfl rfl) rfl (re (pr [2, 13, 97] [0, 1] [1, 2, 3, 4, 5, 6] rfl rfl rfl rfl (gt rfl rfl (gs (rg (sv (EV.bd (v := .agg #[.int .i64 0, .slice none 0 0, .slice none 0 0, .slice none 0 0, .int .i64 0]) rfl (by kernel_rfl)) rfl (so rfl ?_)))))))))))))))))))))))))))))
    refine op_st (cs' := [.int .i64 0, .slice none 0 0, .slice none 0 0, .slice none 0 0, .int .i64 0]) 0 rfl rfl rfl rfl rfl rfl (sv (EV.as rfl) rfl (re (nil_ k124 8 dq (nil_ k124 9 dq (nil_ .bool 10 dq ?_)))))
    cases H
    exact rt Try.func35 rfl (.cell 0 (some 5) rfl rfl rfl (.tmp rfl .nil)) rfl [] [⟨6, 2, 1, true⟩, ⟨7, 2, 2, true⟩, ⟨8, 2, 3, true⟩] rfl rfl rfl rfl rfl ⟨_, _, _, _, _, _, rfl, rfl, rfl⟩
 ·
  refine gt rfl (nT c2) (gs (rg (sv (EV.bd (v := .agg #[.int .i64 0, .slice none 0 0, .slice none 0 0, .slice none 0 0, .int .i64 0]) rfl (by kernel_rfl)) rfl (so rfl (op_st (cs' := [.int .i64 0, .slice none 0 0, .slice none 0 0, .slice none 0 0, .int .i64 0]) 0 rfl rfl rfl rfl rfl rfl (sv (EV.as rfl) rfl (re (pr [2, 3] [0] [] rfl rfl rfl rfl (nil_ k124 1 dq (nil_ k124 2 dq (nil_ .bool 3 dq ?_)))))))))))
  cases H
  exact rt Try.func35 rfl (.cell 0 (some 5) rfl rfl rfl (.tmp rfl .nil)) rfl [] [⟨0, 2, 1, true⟩, ⟨1, 2, 2, true⟩, ⟨2, 2, 3, true⟩] rfl rfl rfl rfl rfl ⟨_, _, _, _, _, _, rfl, rfl, rfl⟩
end Go.Proofs.Ytnllplklggoabaa.K
namespace Go.Proofs.Ytnllplklggoabaa.K
open Go Go.RowKit
set_option linter.unusedVariables false
set_option linter.unusedSimpArgs false
def impl_IsValidJoiner.l0 : Nat → Int → Int → Int → Int → Int → Int → (List S37) → Option (Bool)
 | 0, _, _, _, _, _, _, _ => none
 | k + 1, x2_3, x2_4, x2_25, x2_26, x2_1_1, x2_1_2, l0_0 => if x2_26 < x2_25 then (if 0 ≤ x2_26 then (if x2_26 < (l0_0.length : Int) then ((impl_IsValidTask.f k ((rd_T37 l0_0 x2_26).f0) ((rd_T37 l0_0 x2_26).f1) ((rd_T37 l0_0 x2_26).f2) ((rd_T37 l0_0 x2_26).f3) ((rd_T37 l0_0 x2_26).f4)).bind fun t12 => (if t12 = true then (if 0 < (l0_0.length : Int) then (if ((rd_T37 l0_0 x2_26).f0) = ((rd_T37 l0_0 0).f0) then (impl_IsValidJoiner.l0 k (wrap64 (x2_3 + (((rd_T37 l0_0 x2_26).f1).length : Int))) (wrap64 (x2_4 + (((rd_T37 l0_0 x2_26).f2).length : Int))) x2_25 (wrap64 (x2_26 + 1)) x2_1_1 x2_1_2 l0_0) else (some false)) else none) else (some false))) else none) else none) else (if x2_3 ≤ 24 then (some (decide (x2_4 ≤ 24))) else (some false))
def impl_IsValidJoiner.f (k : Nat) (l0_0 : List S37) (a0_1 : Int) (a0_2 : Int) : Option (Bool) := if (l0_0.length : Int) > 40 then (some false) else ((impl_within.f a0_1 0 100000).bind fun t2 => (if t2 = true then ((impl_within.f a0_2 0 1000).bind fun t4 => (if t4 = true then (impl_IsValidJoiner.l0 k 0 0 (l0_0.length : Int) 0 a0_1 a0_2 l0_0) else (some false))) else (some false)))
set_option maxHeartbeats 4000000 in
set_option maxRecDepth 100000 in
theorem impl_IsValidJoiner.ok (k : Nat) (l0_0 : List S37) (Al0_0 : Option Addr) (cl0_0 : Nat) (a0_1 : Int) (a0_2 : Int) (r0 : Bool) (H : impl_IsValidJoiner.f k l0_0 a0_1 a0_2 = some r0) : Fn Try.prog 67 [.agg #[.slice Al0_0 l0_0.length cl0_0, .int .i64 a0_1, .int .i64 a0_2]] [] [.sl 0 k37 Al0_0 cl0_0 l0_0 0 false] (fun v bx en => v = .bool r0 ∧ bx = [] ∧ en = []) := by
 refine fn_ 60 Try.func67 rfl rfl rfl (fun base T w0 => ?_)
 rw [impl_IsValidJoiner.f] at H
 refine gs (rg (so rfl (op_box (cs := [.slice Al0_0 l0_0.length cl0_0, .int .i64 a0_1, .int .i64 a0_2]) rfl rfl rfl fun b1 => (sv (EV.as rfl) rfl (re (gs (gs (rg (sv (EV.fa 0 rfl) rfl (sv (EV.ld 0 none rfl rfl rfl) rfl (sv (EV.ln rfl) rfl (sv (EV.gtr rfl rfl) rfl (sv (EV.mv rfl) rfl ?_)))))))))))))
 revert H; refine ifsI ?_ ?_ <;> intro c1 H
 ·
  refine ts 11 rfl (dT c1) (sk rfl (sk rfl (sk rfl (sk rfl (sv (EV.pt rfl rfl rfl) rfl (sv (EV.mv rfl) rfl (sk rfl (sk rfl (sk rfl (sk rfl (sv (EV.pt rfl rfl rfl) rfl (re (pr [1, 22] [0] [0] rfl rfl rfl rfl (gt rfl rfl (gs (rg (sv (EV.as rfl) rfl (re ?_))))))))))))))))))
  cases H
  exact rt Try.func67 rfl (.tmp rfl .nil) rfl [] [] rfl rfl rfl rfl rfl ⟨rfl, rfl, rfl⟩
 ·
  refine ts 11 rfl (dF c1) (sv (EV.fa 1 rfl) rfl (sv (EV.ld 0 none rfl rfl rfl) rfl ?_))
  revert H; refine bdI ?_; rintro t2 A2 H
  refine so rfl (op_call (impl_within.ok a0_1 0 100000 _ A2) [] 1 rfl rfl rfl rfl rfl ?_)
  rintro _ _ _ ⟨rfl, rfl, rfl⟩
  refine sv (EV.nt rfl) rfl (sv (EV.pf rfl rfl rfl) rfl (sv (EV.mv rfl) rfl ?_))
  revert H; refine ifsI ?_ ?_ <;> intro c3 H
  ·
   subst c3
   refine ts 17 rfl rfl (sv (EV.fa 2 rfl) rfl (sv (EV.ld 0 none rfl rfl rfl) rfl ?_))
   revert H; refine bdI ?_; rintro t4 A4 H
   refine so rfl (op_call (impl_within.ok a0_2 0 1000 _ A4) [] 1 rfl rfl rfl rfl rfl ?_)
   rintro _ _ _ ⟨rfl, rfl, rfl⟩
   refine sv (EV.nt rfl) rfl (sv (EV.pf rfl rfl rfl) rfl (re (pr [1, 22] [0] [0] rfl rfl rfl rfl ?_)))
   revert H; refine ifsI ?_ ?_ <;> intro c5 H
   ·
    subst c5
    refine gf rfl rfl (gk (gs (rg (sv (EV.as rfl) rfl (sv (EV.as rfl) rfl (re (gs (gs (rg (sv (EV.fa 0 rfl) rfl (sv (EV.ld 0 none rfl rfl rfl) rfl (sv (EV.ln rfl) rfl (sv (EV.mv rfl) rfl (re (gb ?_)))))))))))))))
    refine lo (fun kk S => ∃ (x2_3 : Int) (x2_4 : Int) (x2_25 : Int) (x2_26 : Int) (x2_1_1 : Int) (x2_1_2 : Int), impl_IsValidJoiner.l0 kk x2_3 x2_4 x2_25 x2_26 x2_1_1 x2_1_2 l0_0 = some r0 ∧ S = ⟨[(1, .pointer (some ⟨b1, 0, none⟩)), (3, .int .i64 x2_3), (4, .int .i64 x2_4), (24, .slice Al0_0 l0_0.length cl0_0), (25, .int .i64 x2_25), (26, .int .i64 x2_26)], [⟨b1, 59, [.slice Al0_0 l0_0.length cl0_0, .int .i64 x2_1_1, .int .i64 x2_1_2]⟩], [.sl 0 k37 Al0_0 cl0_0 l0_0 0 false]⟩) (fun S hS => ?_) (fun n0 ih0 S hS => ?_) ⟨0, 0, (l0_0.length : Int), 0, a0_1, a0_2, H, rfl⟩ (fun h => wk [1, 3, 4, 24, 25, 26] [0] [⟨0, 0, 0, false⟩] h)
    · clear H; obtain ⟨_, _, _, _, _, _, H, _⟩ := hS; rw [impl_IsValidJoiner.l0] at H; cases H
    clear H
    obtain ⟨x2_3, x2_4, x2_25, x2_26, x2_1_1, x2_1_2, H, rfl⟩ := hS
    rw [impl_IsValidJoiner.l0] at H
    refine gs (rg (sv (EV.lss rfl rfl) rfl (re (gs ?_))))
    revert H; refine ifsI ?_ ?_ <;> intro c6 H
    ·
     refine gt rfl (dT c6) (gk (gs (gb (gs (rg ?_)))))
     revert H; refine ggI ?_; intro g7 H
     revert H; refine ggI ?_; intro g8 H
     refine sv (EV.ix 0 rfl rfl rfl g7 g8 rfl) rfl (opn (i := x2_26) 0 z37 rfl g7 g8 fun A_9 c_9 A_10 c_10 A_11 c_11 => (sv (EV.lc (v := .agg #[.int .i64 ((rd_T37 l0_0 x2_26).f0), .slice A_9 ((rd_T37 l0_0 x2_26).f1).length c_9, .slice A_10 ((rd_T37 l0_0 x2_26).f2).length c_10, .slice A_11 ((rd_T37 l0_0 x2_26).f3).length c_11, .int .i64 ((rd_T37 l0_0 x2_26).f4)]) 0 (some 5) 1 rfl rfl rfl rfl) rfl (so rfl (op_alloc (cs := [.int .i64 0, .slice none 0 0, .slice none 0 0, .slice none 0 0, .int .i64 0]) (by kernel_rfl) rfl fun b6 => (so rfl (op_st (cs' := [.int .i64 ((rd_T37 l0_0 x2_26).f0), .slice A_9 ((rd_T37 l0_0 x2_26).f1).length c_9, .slice A_10 ((rd_T37 l0_0 x2_26).f2).length c_10, .slice A_11 ((rd_T37 l0_0 x2_26).f3).length c_11, .int .i64 ((rd_T37 l0_0 x2_26).f4)]) 1 rfl rfl rfl rfl rfl rfl (re (gs (gs (dr [0, 1] [0, 1, 2, 3, 4] [1] 13 rfl rfl rfl rfl (xv 0 [0, 1] [0, 1, 2, 3, 4] rfl (EV.ld (v := .agg #[.int .i64 ((rd_T37 l0_0 x2_26).f0), .slice A_9 ((rd_T37 l0_0 x2_26).f1).length c_9, .slice A_10 ((rd_T37 l0_0 x2_26).f2).length c_10, .slice A_11 ((rd_T37 l0_0 x2_26).f3).length c_11, .int .i64 ((rd_T37 l0_0 x2_26).f4)]) 1 (some 5) rfl rfl rfl) rfl rfl rfl rfl (one1 1 rfl rfl ?_))))))))))))
     revert H; refine bdI ?_; rintro t12 A12 H
     refine op_call (impl_IsValidTask.ok n0 ((rd_T37 l0_0 x2_26).f0) ((rd_T37 l0_0 x2_26).f1) A_9 c_9 ((rd_T37 l0_0 x2_26).f2) A_10 c_10 ((rd_T37 l0_0 x2_26).f3) A_11 c_11 ((rd_T37 l0_0 x2_26).f4) _ A12) [⟨2, 0, 0, false⟩, ⟨3, 0, 0, false⟩, ⟨4, 0, 0, false⟩] 1 rfl rfl rfl rfl rfl ?_
     rintro _ _ _ ⟨rfl, rfl, rfl⟩
     refine xn rfl (xv 2 [0, 1] [0, 1, 2, 3, 4] rfl (EV.nt rfl) rfl rfl rfl rfl (xv 3 [0, 1] [0, 1, 2, 3, 4] rfl (EV.mv rfl) rfl rfl rfl rfl ?_))
     revert H; refine ifsI ?_ ?_ <;> intro c13 H
     ·
      subst c13
      refine ts 33 rfl rfl (xv 4 [0, 1] [0, 1, 2, 3, 4] rfl (EV.fa 0 rfl) rfl rfl rfl rfl (xv 5 [0, 1] [0, 1, 2, 3, 4] rfl (EV.ld 1 none rfl rfl rfl) rfl rfl rfl rfl (xv 6 [0, 1] [0, 1, 2, 3, 4] rfl (EV.fa 0 rfl) rfl rfl rfl rfl (xv 7 [0, 1] [0, 1, 2, 3, 4] rfl (EV.ld 0 none rfl rfl rfl) rfl rfl rfl rfl ?_))))
      revert H; refine ggI ?_; intro g14 H
      refine xv 8 [0, 1] [0, 1, 2, 3, 4] rfl (EV.ix 0 rfl rfl rfl dq g14 rfl) rfl rfl rfl rfl (xv 9 [0, 1] [0, 1, 2, 3, 4] rfl (EV.fa 0 rfl) rfl rfl rfl rfl (xv 10 [0, 1] [0, 1, 2, 3, 4] rfl (EV.lf (v := .int .i64 ((rd_T37 l0_0 0).f0)) 0 0 none 0 z37 rfl rfl rfl dq g14 rfl (fun _ _ _ _ _ _ => rfl)) rfl rfl rfl rfl (xv 11 [0, 1] [0, 1, 2, 3, 4] rfl (EV.neq rfl rfl) rfl rfl rfl rfl (xv 12 [0, 1] [0, 1, 2, 3, 4] rfl (EV.pf rfl rfl rfl) rfl rfl rfl rfl (xd (pr [1, 3, 4, 6, 24, 25, 26, 34, 35, 36, 37, 38, 39, 40, 41, 42] [0, 1] [0, 1, 2, 3, 4] rfl rfl rfl rfl ?_))))))
      revert H; refine ifsI ?_ ?_ <;> intro c15 H
      ·
       exact gf rfl (nF c15) (gk (gs (rg (sv (EV.mv rfl) rfl (sv (EV.fa 1 rfl) rfl (sv (EV.ld 1 none rfl rfl rfl) rfl (sv (EV.ln rfl) rfl (sv (EV.add rfl rfl) rfl (sv (EV.as rfl) rfl (re (pr [1, 3, 4, 6, 24, 25, 26, 34, 35, 36, 37, 38, 39, 40, 41] [0, 1] [0, 1, 2, 3, 4] rfl rfl rfl rfl (rg (sv (EV.mv rfl) rfl (sv (EV.fa 2 rfl) rfl (sv (EV.ld 1 none rfl rfl rfl) rfl (sv (EV.ln rfl) rfl (sv (EV.add rfl rfl) rfl (sv (EV.as rfl) rfl (re (pr [1, 3, 4, 24, 25, 26, 34, 35, 36, 37, 38, 39, 40, 41] [0, 1] [0, 1, 2, 3, 4] rfl rfl rfl rfl (ge (rg (sv (EV.add rfl rfl) rfl (sv (EV.mv rfl) rfl (re (wk [1, 3, 4, 24, 25, 26] [0] [⟨0, 0, 0, false⟩] (ih0 _ (by omega) _ ⟨wrap64 (x2_3 + (((rd_T37 l0_0 x2_26).f1).length : Int)), wrap64 (x2_4 + (((rd_T37 l0_0 x2_26).f2).length : Int)), x2_25, wrap64 (x2_26 + 1), x2_1_1, x2_1_2, H, rfl⟩)))))))))))))))))))))))))))
      ·
       refine gt rfl (nT c15) (gs (rg (sv (EV.as rfl) rfl (re (pr [2] [] [] rfl rfl rfl rfl ?_)))))
       cases H
       exact rt Try.func67 rfl (.tmp rfl .nil) rfl [] [] rfl rfl rfl rfl rfl ⟨rfl, rfl, rfl⟩
     ·
      obtain rfl := bF c13
      refine ts 33 rfl rfl (xk 4 [0, 1] [0, 1, 2, 3, 4] rfl rfl rfl rfl rfl (xk 5 [0, 1] [0, 1, 2, 3, 4] rfl rfl rfl rfl rfl (xk 6 [0, 1] [0, 1, 2, 3, 4] rfl rfl rfl rfl rfl (xk 7 [0, 1] [0, 1, 2, 3, 4] rfl rfl rfl rfl rfl (xk 8 [0, 1] [0, 1, 2, 3, 4] rfl rfl rfl rfl rfl (xk 9 [0, 1] [0, 1, 2, 3, 4] rfl rfl rfl rfl rfl (xk 10 [0, 1] [0, 1, 2, 3, 4] rfl rfl rfl rfl rfl (xk 11 [0, 1] [0, 1, 2, 3, 4] rfl rfl rfl rfl rfl (xv 12 [0, 1] [0, 1, 2, 3, 4] rfl (EV.pt rfl rfl rfl) rfl rfl rfl rfl (xd (pr [1, 3, 4, 6, 24, 25, 26, 42] [0, 1] [0, 1, 2, 3, 4] rfl rfl rfl rfl (gt rfl rfl (gs (rg (sv (EV.as rfl) rfl (re (pr [2] [] [] rfl rfl rfl rfl ?_)))))))))))))))))
      cases H
      exact rt Try.func67 rfl (.tmp rfl .nil) rfl [] [] rfl rfl rfl rfl rfl ⟨rfl, rfl, rfl⟩
    ·
     refine gf rfl (dF c6) (gx rfl (gs (rg (sv (EV.mv rfl) rfl (sv (EV.leq rfl rfl) rfl (sv (EV.mv rfl) rfl ?_))))))
     revert H; refine ifsI ?_ ?_ <;> intro c16 H
     ·
      refine ts 56 rfl (dT c16) (sv (EV.mv rfl) rfl (sv (EV.leq rfl rfl) rfl (sv (EV.pt rfl rfl rfl) rfl (sv (EV.as rfl) rfl (re (pr [2] [] [] rfl rfl rfl rfl ?_))))))
      cases H
      exact rt Try.func67 rfl (.tmp rfl .nil) rfl [] [] rfl rfl rfl rfl rfl ⟨rfl, rfl, rfl⟩
     ·
      refine ts 56 rfl (dF c16) (sk rfl (sk rfl (sv (EV.pf rfl rfl rfl) rfl (sv (EV.as rfl) rfl (re (pr [2] [] [] rfl rfl rfl rfl ?_))))))
      cases H
      exact rt Try.func67 rfl (.tmp rfl .nil) rfl [] [] rfl rfl rfl rfl rfl ⟨rfl, rfl, rfl⟩
   ·
    obtain rfl := bF c5
    refine gt rfl rfl (gs (rg (sv (EV.as rfl) rfl (re ?_))))
    cases H
    exact rt Try.func67 rfl (.tmp rfl .nil) rfl [] [] rfl rfl rfl rfl rfl ⟨rfl, rfl, rfl⟩
  ·
   obtain rfl := bF c3
   refine ts 17 rfl rfl (sk rfl (sk rfl (sk rfl (sk rfl (sv (EV.pt rfl rfl rfl) rfl (re (pr [1, 22] [0] [0] rfl rfl rfl rfl (gt rfl rfl (gs (rg (sv (EV.as rfl) rfl (re ?_))))))))))))
   cases H
   exact rt Try.func67 rfl (.tmp rfl .nil) rfl [] [] rfl rfl rfl rfl rfl ⟨rfl, rfl, rfl⟩
end Go.Proofs.Ytnllplklggoabaa.K
namespace Go.Proofs.Ytnllplklggoabaa.K
open Go Go.RowKit
set_option linter.unusedVariables false
set_option linter.unusedSimpArgs false
def impl_ParseJoiner.l0 : Nat → Bool → Bool → (List ByteArray) → Int → Int → (List S37) → Int → Int → (List S37) → Int → Int → Option ((List S37) × Int × Int × Bool)
 | 0, _, _, _, _, _, _, _, _, _, _, _ => none
 | k + 1, x2_6, x2_8, x2_38, x2_39, x2_40, x2_2_0, x2_2_1, x2_2_2, x2_9_0, x2_9_1, x2_9_2 => if x2_40 < x2_39 then (if 0 ≤ x2_40 then (if x2_40 < (x2_38.length : Int) then ((impl_ParseTask.f k (rdOf ByteArray.empty x2_38 x2_40)).bind fun bt11 => (if bt11.2.2.2.2.2 = true then (if x2_9_0.length < 1599289640401 then (impl_ParseJoiner.l0 k x2_6 x2_8 x2_38 x2_39 (wrap64 (x2_40 + 1)) x2_2_0 x2_2_1 x2_2_2 (x2_9_0 ++ ([(⟨bt11.1, bt11.2.1, bt11.2.2.1, bt11.2.2.2.1, bt11.2.2.2.2.1⟩ : S37)] : List S37)) x2_9_1 x2_9_2) else none) else (some ([], 0, 0, false)))) else none) else none) else (if x2_6 = true then (if x2_8 = true then ((impl_IsValidJoiner.f k x2_9_0 x2_9_1 x2_9_2).bind fun t18 => (if t18 = true then (some (x2_9_0, x2_9_1, x2_9_2, true)) else (some ([], 0, 0, false)))) else (some ([], 0, 0, false))) else (some ([], 0, 0, false)))
def impl_ParseJoiner.f (k : Nat) (a0 : ByteArray) : Option ((List S37) × Int × Int × Bool) := (impl_cut.f k a0 47).bind fun t1 => (if (t1.length : Int) < 2 then (some ([], 0, 0, false)) else (if 0 < (t1.length : Int) then ((impl_ParseInt.f k (rdOf ByteArray.empty t1 0)).bind fun bt4 => (if 1 < (t1.length : Int) then ((impl_ParseInt.f k (rdOf ByteArray.empty t1 1)).bind fun bt6 => (if 2 ≤ (t1.length : Int) then (impl_ParseJoiner.l0 k bt4.2 bt6.2 (t1.drop (2 : Int).toNat) ((t1.drop (2 : Int).toNat).length : Int) 0 [] 0 0 [] bt4.1 bt6.1) else none)) else none)) else none))
set_option maxHeartbeats 4000000 in
set_option maxRecDepth 100000 in
theorem impl_ParseJoiner.ok (k : Nat) (a0 : ByteArray) (r0 : List S37) (r1 : Int) (r2 : Int) (r3 : Bool) (H : impl_ParseJoiner.f k a0 = some (r0, r1, r2, r3)) : Fn Try.prog 39 [.string a0] [] [] (fun v bx en => ∃ A0 c0, v = .tuple #[.agg #[.slice A0 r0.length c0, .int .i64 r1, .int .i64 r2], .bool r3] ∧ bx = [] ∧ en = [.sl 2 k37 A0 c0 r0 1 true]) := by
 refine fn_ 72 Try.func39 rfl rfl rfl (fun base T w0 => ?_)
 rw [impl_ParseJoiner.f] at H
 refine gs (rg (so rfl (op_alloc (cs := [.slice none 0 0, .int .i64 0, .int .i64 0]) (by kernel_rfl) rfl fun b2 => (sv (EV.as rfl) rfl (re (gs (rg (sv (EV.mv rfl) rfl ?_))))))))
 revert H; refine bdI ?_; rintro t1 A1 H
 refine so rfl (op_call (impl_cut.ok k a0 47 _ A1) [] 1 rfl rfl rfl rfl rfl ?_)
 rintro _ _ _ ⟨At1, ct1, rfl, rfl, rfl⟩
 refine sv (EV.as rfl) rfl (re (gs (gs (rg (sv (EV.mv rfl) rfl (sv (EV.ln rfl) rfl (sv (EV.lss rfl rfl) rfl (re (pr [2, 4, 18] [0] [0] rfl rfl rfl rfl ?_)))))))))
 revert H; refine ifsI ?_ ?_ <;> intro c2 H
 ·
  refine gt rfl (dT c2) (gs (rg (sv (EV.bd (v := .agg #[.slice none 0 0, .int .i64 0, .int .i64 0]) rfl (by kernel_rfl)) rfl (so rfl (op_st (cs' := [.slice none 0 0, .int .i64 0, .int .i64 0]) 0 rfl rfl rfl rfl rfl rfl (sv (EV.as rfl) rfl (re (nil_ k37 3 dq ?_))))))))
  cases H
  exact rt Try.func39 rfl (.cell 0 (some 3) rfl rfl rfl (.tmp rfl .nil)) rfl [] [⟨1, 2, 1, true⟩] rfl rfl rfl rfl rfl ⟨_, _, rfl, rfl, rfl⟩
 ·
  refine gf rfl (dF c2) (gk (gs (rg (sv (EV.mv rfl) rfl ?_))))
  revert H; refine ggI ?_; intro g3 H
  refine sv (EV.ix 0 rfl rfl rfl dq g3 rfl) rfl (sv (EV.le (v := .string (rdOf ByteArray.empty t1 0)) 0 0 none 0 ByteArray.empty rfl rfl rfl dq g3 rfl rfl rfl) rfl ?_)
  revert H; refine bdI ?_; rintro ⟨t4_0, t4_1⟩ A4 H
  refine so rfl (op_call (impl_ParseInt.ok k (rdOf ByteArray.empty t1 0) _ _ A4) [] 3 rfl rfl rfl rfl rfl ?_)
  rintro _ _ _ ⟨rfl, rfl, rfl⟩
  refine sv (EV.mv rfl) rfl (sv (EV.ex rfl rfl) rfl (sv (EV.ex rfl rfl) rfl (sv (EV.as rfl) rfl (sv (EV.as rfl) rfl (re (pr [2, 4, 5, 6] [0] [0] rfl rfl rfl rfl (gs (rg (sv (EV.mv rfl) rfl ?_)))))))))
  revert H; refine ggI ?_; intro g5 H
  refine sv (EV.ix 0 rfl rfl rfl dq g5 rfl) rfl (sv (EV.le (v := .string (rdOf ByteArray.empty t1 1)) 1 0 none 0 ByteArray.empty rfl rfl rfl dq g5 rfl rfl rfl) rfl ?_)
  revert H; refine bdI ?_; rintro ⟨t6_0, t6_1⟩ A6 H
  refine so rfl (op_call (impl_ParseInt.ok k (rdOf ByteArray.empty t1 1) _ _ A6) [] 3 rfl rfl rfl rfl rfl ?_)
  rintro _ _ _ ⟨rfl, rfl, rfl⟩
  refine sv (EV.mv rfl) rfl (sv (EV.ex rfl rfl) rfl (sv (EV.ex rfl rfl) rfl (sv (EV.as rfl) rfl (sv (EV.as rfl) rfl (re (pr [2, 4, 5, 6, 7, 8] [0] [0] rfl rfl rfl rfl (gs (rg (sv (EV.mv rfl) rfl (sv (EV.mv rfl) rfl (sv (EV.bd (v := .agg #[.slice none 0 0, .int .i64 t4_0, .int .i64 t6_0]) rfl (by kernel_rfl)) rfl (so rfl (op_alloc (cs := [.slice none 0 0, .int .i64 0, .int .i64 0]) (by kernel_rfl) rfl fun b9 => (so rfl (op_st (cs' := [.slice none 0 0, .int .i64 t4_0, .int .i64 t6_0]) 1 rfl rfl rfl rfl rfl rfl (re (gs (gs (rg (sv (EV.mv rfl) rfl ?_))))))))))))))))))))
  revert H; refine ggI ?_; intro g7 H
  refine cutp (l' := t1.drop (2 : Int).toNat) 2 (t1.length : Int) 0 rfl dq g7 (Int.le_refl _) rfl 1 dq (.inl dq) ctl (sv (EV.ct 2 (t1.length : Int) 0 rfl rfl rfl rfl dq g7 (Int.le_refl _) rfl rfl ctnl) rfl (sv (EV.ln rfl) rfl (sv (EV.mv rfl) rfl (re (pr [2, 6, 8, 9, 38, 39, 40] [0, 1] [1] rfl rfl rfl rfl (gb (nil_ k37 3 dq (nil_ k37 4 dq ?_))))))))
  refine lo (fun kk S => ∃ (x2_6 : Bool) (x2_8 : Bool) (x2_38 : List ByteArray) (Ax2_38 : Option Addr) (cx2_38 : Nat) (x2_39 : Int) (x2_40 : Int) (x2_2_0 : List S37) (Ax2_2_0 : Option Addr) (cx2_2_0 : Nat) (x2_2_1 : Int) (x2_2_2 : Int) (x2_9_0 : List S37) (Ax2_9_0 : Option Addr) (cx2_9_0 : Nat) (x2_9_1 : Int) (x2_9_2 : Int), impl_ParseJoiner.l0 kk x2_6 x2_8 x2_38 x2_39 x2_40 x2_2_0 x2_2_1 x2_2_2 x2_9_0 x2_9_1 x2_9_2 = some (r0, r1, r2, r3) ∧ S = ⟨[(2, .pointer (some ⟨b2, 0, none⟩)), (6, .bool x2_6), (8, .bool x2_8), (9, .pointer (some ⟨b9, 0, none⟩)), (38, .slice Ax2_38 x2_38.length cx2_38), (39, .int .i64 x2_39), (40, .int .i64 x2_40)], [⟨b2, 59, [.slice Ax2_2_0 x2_2_0.length cx2_2_0, .int .i64 x2_2_1, .int .i64 x2_2_2]⟩, ⟨b9, 59, [.slice Ax2_9_0 x2_9_0.length cx2_9_0, .int .i64 x2_9_1, .int .i64 x2_9_2]⟩], [.sl 1 .str Ax2_38 cx2_38 x2_38 1 true, .sl 2 k37 Ax2_2_0 cx2_2_0 x2_2_0 2 true, .sl 2 k37 Ax2_9_0 cx2_9_0 x2_9_0 3 true]⟩) (fun S hS => ?_) (fun n0 ih0 S hS => ?_) ⟨t4_1, t6_1, t1.drop (2 : Int).toNat, (cutA At1 ct1 (2 : Int).toNat 1), (ct1 - (2 : Int).toNat), ((t1.drop (2 : Int).toNat).length : Int), 0, [], none, 0, 0, 0, [], none, 0, t4_0, t6_0, H, rfl⟩ (fun h => wk [2, 6, 8, 9, 38, 39, 40] [0, 1] [⟨0, 1, 1, true⟩, ⟨1, 2, 2, true⟩, ⟨2, 2, 3, true⟩] h)
  · clear H; obtain ⟨_, _, _, _, _, _, _, _, _, _, _, _, _, _, _, _, _, H, _⟩ := hS; rw [impl_ParseJoiner.l0] at H; cases H
  clear H
  obtain ⟨x2_6, x2_8, x2_38, Ax2_38, cx2_38, x2_39, x2_40, x2_2_0, Ax2_2_0, cx2_2_0, x2_2_1, x2_2_2, x2_9_0, Ax2_9_0, cx2_9_0, x2_9_1, x2_9_2, H, rfl⟩ := hS
  rw [impl_ParseJoiner.l0] at H
  refine gs (rg (sv (EV.lss rfl rfl) rfl (re (gs ?_))))
  revert H; refine ifsI ?_ ?_ <;> intro c8 H
  ·
   refine gt rfl (dT c8) (gk (gs (gb (gs (rg ?_)))))
   revert H; refine ggI ?_; intro g9 H
   revert H; refine ggI ?_; intro g10 H
   refine sv (EV.ix 0 rfl rfl rfl g9 g10 rfl) rfl (sv (EV.le (v := .string (rdOf ByteArray.empty x2_38 x2_40)) x2_40 0 none 0 ByteArray.empty rfl rfl rfl g9 g10 rfl rfl rfl) rfl (sv (EV.as rfl) rfl (re (gs (rg (sv (EV.mv rfl) rfl ?_))))))
   revert H; refine bdI ?_; rintro ⟨t11_0, t11_1, t11_2, t11_3, t11_4, t11_5⟩ A11 H
   refine so rfl (op_call (impl_ParseTask.ok n0 (rdOf ByteArray.empty x2_38 x2_40) _ _ _ _ _ _ A11) [] 4 rfl rfl rfl rfl rfl ?_)
   rintro _ _ _ ⟨At11_1, ct11_1, At11_2, ct11_2, At11_3, ct11_3, rfl, rfl, rfl⟩
   refine sv (EV.mv rfl) rfl (sv (EV.ex rfl rfl) rfl (sv (EV.ex rfl rfl) rfl (so rfl (op_alloc (cs := [.int .i64 0, .slice none 0 0, .slice none 0 0, .slice none 0 0, .int .i64 0]) (by kernel_rfl) rfl fun b12 => (so rfl (op_st (cs' := [.int .i64 t11_0, .slice At11_1 t11_1.length ct11_1, .slice At11_2 t11_2.length ct11_2, .slice At11_3 t11_3.length ct11_3, .int .i64 t11_4]) 2 rfl rfl rfl rfl rfl rfl (sv (EV.as rfl) rfl (re (pr [2, 6, 8, 9, 12, 13, 38, 39, 40] [0, 1, 2] [0, 1, 2, 3, 4, 5] rfl rfl rfl rfl (gs (gs (rg (sv (EV.mv rfl) rfl (sv (EV.nt rfl) rfl (re ?_)))))))))))))))
   revert H; refine ifsI ?_ ?_ <;> intro c12 H
   ·
    subst c12
    refine gf rfl rfl (gk (rg (sv (EV.fa 0 rfl) rfl (sv (EV.ld 1 none rfl rfl rfl) rfl (sv (EV.ld (v := .agg #[.int .i64 t11_0, .slice At11_1 t11_1.length ct11_1, .slice At11_2 t11_2.length ct11_2, .slice At11_3 t11_3.length ct11_3, .int .i64 t11_4]) 2 (some 5) rfl rfl rfl) rfl (so rfl (op_lit (s := 5) (by_ := 88) k37 ([(⟨t11_0, t11_1, t11_2, t11_3, t11_4⟩ : S37)] : List S37) [[(At11_1, ct11_1), (At11_2, ct11_2), (At11_3, ct11_3)]] [3, 4, 5] 8 [.tmp 54] rfl rfl rfl rfl rfl rfl rfl rfl rfl rfl rfl rfl rfl dq rfl fun A55_13 c55_13 => (nmE (en := [.sl 1 .str Ax2_38 cx2_38 x2_38 1 true, .sl 2 k37 Ax2_2_0 cx2_2_0 x2_2_0 2 true, .sl 2 k37 Ax2_9_0 cx2_9_0 x2_9_0 3 true, .sl 2 k124 At11_1 ct11_1 t11_1 8 true, .sl 2 k124 At11_2 ct11_2 t11_2 8 true, .sl 2 .bool At11_3 ct11_3 t11_3 8 true, .sl 2 k37 A55_13 c55_13 ([(⟨t11_0, t11_1, t11_2, t11_3, t11_4⟩ : S37)] : List S37) 8 true]) (by kernel_rfl) ?_))))))))
    revert H; refine ggI ?_; intro g14 H
    exact so rfl (op_app (k := k37) (s := 5) (by_ := 88) 2 6 rfl rfl rfl rfl (ap1 g14 dq) (ap1n g14 dq) (.inr ⟨dq, dq, rfl, dq⟩) true (fun _ => .inr ⟨rfl, rfl, dq⟩) rfl rfl fun A56_15 c56_15 => (nmE (en := [.sl 1 .str Ax2_38 cx2_38 x2_38 1 true, .sl 2 k37 Ax2_2_0 cx2_2_0 x2_2_0 2 true, .sl 2 k124 At11_1 ct11_1 t11_1 3 true, .sl 2 k124 At11_2 ct11_2 t11_2 3 true, .sl 2 .bool At11_3 ct11_3 t11_3 3 true, .sl 2 k37 A55_13 c55_13 ([(⟨t11_0, t11_1, t11_2, t11_3, t11_4⟩ : S37)] : List S37) 3 true, .sl 2 k37 A56_15 c56_15 (x2_9_0 ++ ([(⟨t11_0, t11_1, t11_2, t11_3, t11_4⟩ : S37)] : List S37)) 3 true]) (by kernel_rfl) (sv (EV.fa 0 rfl) rfl (so rfl (op_st (cs' := [.slice A56_15 (x2_9_0 ++ ([(⟨t11_0, t11_1, t11_2, t11_3, t11_4⟩ : S37)] : List S37)).length c56_15, .int .i64 x2_9_1, .int .i64 x2_9_2]) 1 rfl rfl rfl rfl rfl rfl (re (pr [2, 6, 8, 9, 38, 39, 40] [0, 1] [0, 1, 6] rfl rfl rfl rfl (ge (rg (sv (EV.add rfl rfl) rfl (sv (EV.mv rfl) rfl (re (wk [2, 6, 8, 9, 38, 39, 40] [0, 1] [⟨0, 1, 1, true⟩, ⟨1, 2, 2, true⟩, ⟨2, 2, 3, true⟩] (ih0 _ (by omega) _ ⟨x2_6, x2_8, x2_38, Ax2_38, cx2_38, x2_39, wrap64 (x2_40 + 1), x2_2_0, Ax2_2_0, cx2_2_0, x2_2_1, x2_2_2, x2_9_0 ++ ([(⟨t11_0, t11_1, t11_2, t11_3, t11_4⟩ : S37)] : List S37), A56_15, c56_15, x2_9_1, x2_9_2, H, rfl⟩))))))))))))))
   ·
    obtain rfl := bF c12
    refine gt rfl rfl (gs (rg (sv (EV.bd (v := .agg #[.slice none 0 0, .int .i64 0, .int .i64 0]) rfl (by kernel_rfl)) rfl (so rfl (op_st (cs' := [.slice none 0 0, .int .i64 0, .int .i64 0]) 0 rfl rfl rfl rfl rfl rfl (sv (EV.as rfl) rfl (re (pr [2, 3] [0] [] rfl rfl rfl rfl (nil_ k37 1 dq ?_)))))))))
    cases H
    exact rt Try.func39 rfl (.cell 0 (some 3) rfl rfl rfl (.tmp rfl .nil)) rfl [] [⟨0, 2, 1, true⟩] rfl rfl rfl rfl rfl ⟨_, _, rfl, rfl, rfl⟩
  ·
   refine gf rfl (dF c8) (gx rfl (gs (gs (rg (sv (EV.mv rfl) rfl (sv (EV.nt rfl) rfl (sv (EV.mv rfl) rfl ?_)))))))
   revert H; refine ifsI ?_ ?_ <;> intro c16 H
   ·
    subst c16
    refine ts 61 rfl rfl (sv (EV.mv rfl) rfl (sv (EV.nt rfl) rfl (sv (EV.pf rfl rfl rfl) rfl (sv (EV.mv rfl) rfl ?_))))
    revert H; refine ifsI ?_ ?_ <;> intro c17 H
    ·
     subst c17
     refine ts 65 rfl rfl (sv (EV.ld (v := .agg #[.slice Ax2_9_0 x2_9_0.length cx2_9_0, .int .i64 x2_9_1, .int .i64 x2_9_2]) 1 (some 3) rfl rfl rfl) rfl ?_)
     revert H; refine bdI ?_; rintro t18 A18 H
     refine so rfl (op_call (impl_IsValidJoiner.ok n0 x2_9_0 Ax2_9_0 cx2_9_0 x2_9_1 x2_9_2 _ A18) [⟨2, 0, 0, false⟩] 4 rfl rfl rfl rfl rfl ?_)
     rintro _ _ _ ⟨rfl, rfl, rfl⟩
     refine sv (EV.nt rfl) rfl (sv (EV.pf rfl rfl rfl) rfl (re (pr [2, 9, 69] [0, 1] [1, 2] rfl rfl rfl rfl ?_)))
     revert H; refine ifsI ?_ ?_ <;> intro c19 H
     ·
      subst c19
      refine gf rfl rfl (gk (gs (rg (sv (EV.ld (v := .agg #[.slice Ax2_9_0 x2_9_0.length cx2_9_0, .int .i64 x2_9_1, .int .i64 x2_9_2]) 1 (some 3) rfl rfl rfl) rfl (so rfl (op_st (cs' := [.slice Ax2_9_0 x2_9_0.length cx2_9_0, .int .i64 x2_9_1, .int .i64 x2_9_2]) 0 rfl rfl rfl rfl rfl rfl (sv (EV.as rfl) rfl (re ?_))))))))
      cases H
      exact rt Try.func39 rfl (.cell 0 (some 3) rfl rfl rfl (.tmp rfl .nil)) rfl [] [⟨1, 2, 1, true⟩] rfl rfl rfl rfl rfl ⟨_, _, rfl, rfl, rfl⟩
     ·
      obtain rfl := bF c19
      refine gt rfl rfl (gs (rg (sv (EV.bd (v := .agg #[.slice none 0 0, .int .i64 0, .int .i64 0]) rfl (by kernel_rfl)) rfl (so rfl (op_st (cs' := [.slice none 0 0, .int .i64 0, .int .i64 0]) 0 rfl rfl rfl rfl rfl rfl (sv (EV.as rfl) rfl (re (nil_ k37 4 dq ?_))))))))
      cases H
      exact rt Try.func39 rfl (.cell 0 (some 3) rfl rfl rfl (.tmp rfl .nil)) rfl [] [⟨2, 2, 1, true⟩] rfl rfl rfl rfl rfl ⟨_, _, rfl, rfl, rfl⟩
    ·
     obtain rfl := bF c17
     refine ts 65 rfl rfl (sk rfl (sk rfl (sk rfl (sv (EV.pt rfl rfl rfl) rfl (re (pr [2, 9, 69] [0, 1] [1, 2] rfl rfl rfl rfl (gt rfl rfl (gs (rg (sv (EV.bd (v := .agg #[.slice none 0 0, .int .i64 0, .int .i64 0]) rfl (by kernel_rfl)) rfl (so rfl (op_st (cs' := [.slice none 0 0, .int .i64 0, .int .i64 0]) 0 rfl rfl rfl rfl rfl rfl (sv (EV.as rfl) rfl (re (nil_ k37 4 dq ?_)))))))))))))))
     cases H
     exact rt Try.func39 rfl (.cell 0 (some 3) rfl rfl rfl (.tmp rfl .nil)) rfl [] [⟨2, 2, 1, true⟩] rfl rfl rfl rfl rfl ⟨_, _, rfl, rfl, rfl⟩
   ·
    obtain rfl := bF c16
    refine ts 61 rfl rfl (sk rfl (sk rfl (sv (EV.pt rfl rfl rfl) rfl (sv (EV.mv rfl) rfl (sk rfl (sk rfl (sk rfl (sv (EV.pt rfl rfl rfl) rfl (re (pr [2, 9, 69] [0, 1] [1, 2] rfl rfl rfl rfl (gt rfl rfl (gs (rg (sv (EV.bd (v := .agg #[.slice none 0 0, .int .i64 0, .int .i64 0]) rfl (by kernel_rfl)) rfl (so rfl (op_st (cs' := [.slice none 0 0, .int .i64 0, .int .i64 0]) 0 rfl rfl rfl rfl rfl rfl (sv (EV.as rfl) rfl (re (nil_ k37 4 dq ?_)))))))))))))))))))
    cases H
    exact rt Try.func39 rfl (.cell 0 (some 3) rfl rfl rfl (.tmp rfl .nil)) rfl [] [⟨2, 2, 1, true⟩] rfl rfl rfl rfl rfl ⟨_, _, rfl, rfl, rfl⟩
end Go.Proofs.Ytnllplklggoabaa.K
namespace Go.Proofs.Ytnllplklggoabaa.K
open Go Go.RowKit
set_option linter.unusedVariables false
set_option linter.unusedSimpArgs false
def laws_markRowS.l0 : Nat → (List S124) → Int → Int → Option (Int × (List S124))
 | 0, _, _, _ => none
 | k + 1, x2_ml0, x2_1, x2_5 => if x2_5 < (x2_ml0.length : Int) then (if 0 ≤ x2_5 then ((some (x2_ml0.set x2_5.toNat (⟨x2_1, (rd_T124 x2_ml0 x2_5).f1, (rd_T124 x2_ml0 x2_5).f2⟩ : S124))).bind fun s3 => (if x2_5 < (s3.length : Int) then ((some (s3.set x2_5.toNat (⟨(rd_T124 s3 x2_5).f0, wrap64 (x2_1 + 1), (rd_T124 s3 x2_5).f2⟩ : S124))).bind fun s5 => (if x2_5 < (s5.length : Int) then ((some (s5.set x2_5.toNat (⟨(rd_T124 s5 x2_5).f0, (rd_T124 s5 x2_5).f1, wrap64 ((wrap64 (x2_1 + 1)) + 1)⟩ : S124))).bind fun s7 => (laws_markRowS.l0 k s7 (wrap64 ((wrap64 ((wrap64 (x2_1 + 1)) + 1)) + 1)) (wrap64 (x2_5 + 1)))) else none)) else none)) else none) else (some (x2_1, x2_ml0))
def laws_markRowS.f (k : Nat) (l0 : List S124) (a1 : Int) : Option (Int × (List S124)) := laws_markRowS.l0 k l0 a1 0
set_option maxHeartbeats 4000000 in
set_option maxRecDepth 100000 in
theorem laws_markRowS.ok (k : Nat) (l0 : List S124) (Al0 : Option Addr) (cl0 : Nat) (a1 : Int) (r0 : Int) (r1 : List S124) (H : laws_markRowS.f k l0 a1 = some (r0, r1)) : Fn Try.prog 77 [.slice Al0 l0.length cl0, .int .i64 a1] [] [.sl 1 k124 Al0 cl0 l0 1 false] (fun v bx en => v = .int .i64 r0 ∧ bx = [] ∧ en = [.sl 1 k124 Al0 cl0 r1 1 false] ∧ r1.length = l0.length) := by
 refine fn_ 34 Try.func77 rfl rfl rfl (fun base T w0 => ?_)
 rw [laws_markRowS.f] at H
 refine gs (rg (sv (EV.as rfl) rfl (re (gs (gs (rg (sv (EV.as rfl) rfl (re (gb ?_)))))))))
 refine lo (fun kk S => ∃ (x2_ml0 : List S124) (x2_1 : Int) (x2_5 : Int), laws_markRowS.l0 kk x2_ml0 x2_1 x2_5 = some (r0, r1) ∧ x2_ml0.length = l0.length ∧ S = ⟨[(0, .slice Al0 x2_ml0.length cl0), (1, .int .i64 x2_1), (5, .int .i64 x2_5)], [], [.sl 1 k124 Al0 cl0 x2_ml0 1 false]⟩) (fun S hS => ?_) (fun n0 ih0 S hS => ?_) ⟨l0, a1, 0, H, (by first | rfl | assumption | omega | (simp only [List.length_set]; first | done | assumption | omega)), rfl⟩ (fun h => wk [0, 1, 5] [] [⟨0, 1, 1, false⟩] h)
 · clear H; obtain ⟨_, _, _, H, _⟩ := hS; rw [laws_markRowS.l0] at H; cases H
 clear H
 obtain ⟨x2_ml0, x2_1, x2_5, H, ex2_ml0, rfl⟩ := hS
 rw [laws_markRowS.l0] at H
 refine gs (gs (rg (sv (EV.mv rfl) rfl (sv (EV.mv rfl) rfl (sv (EV.ln rfl) rfl (sv (EV.lss rfl rfl) rfl (re ?_)))))))
 revert H; refine ifsI ?_ ?_ <;> intro c1 H
 ·
  refine gt rfl (dT c1) (gk (gs (gb (gs (rg (sv (EV.mv rfl) rfl (sv (EV.mv rfl) rfl (sv (EV.mv rfl) rfl ?_))))))))
  revert H; refine ggI ?_; intro g2 H
  refine sv (EV.ix 0 rfl rfl rfl g2 c1 rfl) rfl (sv (EV.fa 0 rfl) rfl ?_)
  revert H; refine bdI ?_; intro s3 A3 H; have q3 := stl (Option.some.inj A3)
  refine so rfl (op_stg x2_5 0 0 z124 (⟨x2_1, (rd_T124 x2_ml0 x2_5).f1, (rd_T124 x2_ml0 x2_5).f2⟩ : S124) (Option.some.inj A3) rfl rfl rfl rfl g2 c1 rfl rfl rfl rfl dq rfl (rlT 0 (v' := .slice Al0 s3.length cl0) rfl (slq _ _ q3) (rlT 7 (v' := .slice Al0 s3.length cl0) rfl (slq _ _ q3) (rlT 12 (v' := .slice Al0 s3.length cl0) rfl (slq _ _ q3) (nmE (en := [.sl 1 k124 Al0 cl0 s3 1 true]) (by kernel_rfl) (re (pr [0, 1, 5] [] [0] rfl rfl rfl rfl (gs (rg (sv (EV.mv rfl) rfl (sv (EV.add rfl rfl) rfl (sv (EV.as rfl) rfl (re (gs (rg (sv (EV.mv rfl) rfl (sv (EV.mv rfl) rfl (sv (EV.mv rfl) rfl ?_))))))))))))))))))
  revert H; refine ggI ?_; intro g4 H
  refine sv (EV.ix 0 rfl rfl rfl g2 g4 rfl) rfl (sv (EV.fa 1 rfl) rfl ?_)
  revert H; refine bdI ?_; intro s5 A5 H; have q5 := stl (Option.some.inj A5)
  refine so rfl (op_stg x2_5 1 0 z124 (⟨(rd_T124 s3 x2_5).f0, wrap64 (x2_1 + 1), (rd_T124 s3 x2_5).f2⟩ : S124) (Option.some.inj A5) rfl rfl rfl rfl g2 g4 rfl rfl rfl rfl dq rfl (rlT 0 (v' := .slice Al0 s5.length cl0) rfl (slq _ _ q5) (rlT 19 (v' := .slice Al0 s5.length cl0) rfl (slq _ _ q5) (nmE (en := [.sl 1 k124 Al0 cl0 s5 1 true]) (by kernel_rfl) (re (gs (rg (sv (EV.mv rfl) rfl (sv (EV.add rfl rfl) rfl (sv (EV.as rfl) rfl (re (pr [0, 1, 5] [] [0] rfl rfl rfl rfl (gs (rg (sv (EV.mv rfl) rfl (sv (EV.mv rfl) rfl (sv (EV.mv rfl) rfl ?_)))))))))))))))))
  revert H; refine ggI ?_; intro g6 H
  refine sv (EV.ix 0 rfl rfl rfl g2 g6 rfl) rfl (sv (EV.fa 2 rfl) rfl ?_)
  revert H; refine bdI ?_; intro s7 A7 H; have q7 := stl (Option.some.inj A7)
  exact so rfl (op_stg x2_5 2 0 z124 (⟨(rd_T124 s5 x2_5).f0, (rd_T124 s5 x2_5).f1, wrap64 ((wrap64 (x2_1 + 1)) + 1)⟩ : S124) (Option.some.inj A7) rfl rfl rfl rfl g2 g6 rfl rfl rfl rfl dq rfl (rlT 0 (v' := .slice Al0 s7.length cl0) rfl (slq _ _ q7) (rlT 26 (v' := .slice Al0 s7.length cl0) rfl (slq _ _ q7) (nmE (en := [.sl 1 k124 Al0 cl0 s7 1 true]) (by kernel_rfl) (re (rg (sv (EV.mv rfl) rfl (sv (EV.add rfl rfl) rfl (sv (EV.as rfl) rfl (re (ge (rg (sv (EV.mv rfl) rfl (sv (EV.add rfl rfl) rfl (sv (EV.as rfl) rfl (re (pr [0, 1, 5] [] [0] rfl rfl rfl rfl (wk [0, 1, 5] [] [⟨0, 1, 1, false⟩] (ih0 _ (by omega) _ ⟨s7, wrap64 ((wrap64 ((wrap64 (x2_1 + 1)) + 1)) + 1), wrap64 (x2_5 + 1), H, (by first | rfl | assumption | omega | (simp only [List.length_set]; first | done | assumption | omega)), rfl⟩)))))))))))))))))))
 ·
  refine gf rfl (dF c1) (gx rfl (gs (rg (sv (EV.mv rfl) rfl (sv (EV.as rfl) rfl (re (pr [4] [] [0] rfl rfl rfl rfl ?_)))))))
  cases H
  exact rt Try.func77 rfl (.tmp rfl .nil) rfl [] [⟨0, 1, 1, false⟩] rfl rfl rfl rfl rfl ⟨rfl, rfl, rfl, by first | rfl | assumption | omega | (simp only [List.length_set]; first | done | assumption | omega)⟩
end Go.Proofs.Ytnllplklggoabaa.K
namespace Go.Proofs.Ytnllplklggoabaa.K
open Go Go.RowKit
set_option linter.unusedVariables false
set_option linter.unusedSimpArgs false
def laws_markBoolS.l0 : Nat → (List Bool) → Int → Int → Option (Int × (List Bool))
 | 0, _, _, _ => none
 | k + 1, x2_ml0, x2_1, x2_5 => if x2_5 < (x2_ml0.length : Int) then (if 0 ≤ x2_5 then (laws_markBoolS.l0 k (x2_ml0.set x2_5.toNat (decide ((Int.tmod x2_1 3) = 0))) (wrap64 (x2_1 + 1)) (wrap64 (x2_5 + 1))) else none) else (some (x2_1, x2_ml0))
def laws_markBoolS.f (k : Nat) (l0 : List Bool) (a1 : Int) : Option (Int × (List Bool)) := laws_markBoolS.l0 k l0 a1 0
set_option maxHeartbeats 4000000 in
set_option maxRecDepth 100000 in
theorem laws_markBoolS.ok (k : Nat) (l0 : List Bool) (Al0 : Option Addr) (cl0 : Nat) (a1 : Int) (r0 : Int) (r1 : List Bool) (H : laws_markBoolS.f k l0 a1 = some (r0, r1)) : Fn Try.prog 78 [.slice Al0 l0.length cl0, .int .i64 a1] [] [.sl 1 .bool Al0 cl0 l0 1 false] (fun v bx en => v = .int .i64 r0 ∧ bx = [] ∧ en = [.sl 1 .bool Al0 cl0 r1 1 false] ∧ r1.length = l0.length) := by
 refine fn_ 21 Try.func78 rfl rfl rfl (fun base T w0 => ?_)
 rw [laws_markBoolS.f] at H
 refine gs (rg (sv (EV.as rfl) rfl (re (gs (gs (rg (sv (EV.as rfl) rfl (re (gb ?_)))))))))
 refine lo (fun kk S => ∃ (x2_ml0 : List Bool) (x2_1 : Int) (x2_5 : Int), laws_markBoolS.l0 kk x2_ml0 x2_1 x2_5 = some (r0, r1) ∧ x2_ml0.length = l0.length ∧ S = ⟨[(0, .slice Al0 x2_ml0.length cl0), (1, .int .i64 x2_1), (5, .int .i64 x2_5)], [], [.sl 1 .bool Al0 cl0 x2_ml0 1 false]⟩) (fun S hS => ?_) (fun n0 ih0 S hS => ?_) ⟨l0, a1, 0, H, (by first | rfl | assumption | omega | (simp only [List.length_set]; first | done | assumption | omega)), rfl⟩ (fun h => wk [0, 1, 5] [] [⟨0, 1, 1, false⟩] h)
 · clear H; obtain ⟨_, _, _, H, _⟩ := hS; rw [laws_markBoolS.l0] at H; cases H
 clear H
 obtain ⟨x2_ml0, x2_1, x2_5, H, ex2_ml0, rfl⟩ := hS
 rw [laws_markBoolS.l0] at H
 refine gs (gs (rg (sv (EV.mv rfl) rfl (sv (EV.mv rfl) rfl (sv (EV.ln rfl) rfl (sv (EV.lss rfl rfl) rfl (re ?_)))))))
 revert H; refine ifsI ?_ ?_ <;> intro c1 H
 ·
  refine gt rfl (dT c1) (gk (gs (gb (gs (rg (sv (EV.mv rfl) rfl (sv (EV.mv rfl) rfl (sv (EV.mv rfl) rfl (sv (EV.rem rfl rfl dq) rfl (sv (EV.eql rfl rfl) rfl ?_))))))))))
  revert H; refine ggI ?_; intro g2 H
  exact sv (EV.ix 0 rfl rfl rfl g2 c1 rfl) rfl (so rfl (op_stf x2_5 0 0 false (decide ((Int.tmod x2_1 3) = 0)) rfl rfl rfl rfl g2 c1 rfl rfl rfl rfl dq rfl (rlT 0 (v' := .slice Al0 (x2_ml0.set x2_5.toNat (decide ((Int.tmod x2_1 3) = 0))).length cl0) rfl (sle _ _ _ _ _) (rlT 7 (v' := .slice Al0 (x2_ml0.set x2_5.toNat (decide ((Int.tmod x2_1 3) = 0))).length cl0) rfl (sle _ _ _ _ _) (rlT 12 (v' := .slice Al0 (x2_ml0.set x2_5.toNat (decide ((Int.tmod x2_1 3) = 0))).length cl0) rfl (sle _ _ _ _ _) (nmE (en := [.sl 1 .bool Al0 cl0 (x2_ml0.set x2_5.toNat (decide ((Int.tmod x2_1 3) = 0))) 1 true]) (by kernel_rfl) (re (pr [0, 1, 5] [] [0] rfl rfl rfl rfl (rg (sv (EV.mv rfl) rfl (sv (EV.add rfl rfl) rfl (sv (EV.as rfl) rfl (re (ge (rg (sv (EV.mv rfl) rfl (sv (EV.add rfl rfl) rfl (sv (EV.as rfl) rfl (re (wk [0, 1, 5] [] [⟨0, 1, 1, false⟩] (ih0 _ (by omega) _ ⟨x2_ml0.set x2_5.toNat (decide ((Int.tmod x2_1 3) = 0)), wrap64 (x2_1 + 1), wrap64 (x2_5 + 1), H, (by first | rfl | assumption | omega | (simp only [List.length_set]; first | done | assumption | omega)), rfl⟩)))))))))))))))))))))
 ·
  refine gf rfl (dF c1) (gx rfl (gs (rg (sv (EV.mv rfl) rfl (sv (EV.as rfl) rfl (re (pr [4] [] [0] rfl rfl rfl rfl ?_)))))))
  cases H
  exact rt Try.func78 rfl (.tmp rfl .nil) rfl [] [⟨0, 1, 1, false⟩] rfl rfl rfl rfl rfl ⟨rfl, rfl, rfl, by first | rfl | assumption | omega | (simp only [List.length_set]; first | done | assumption | omega)⟩
end Go.Proofs.Ytnllplklggoabaa.K
namespace Go.Proofs.Ytnllplklggoabaa.K
open Go Go.RowKit
set_option linter.unusedVariables false
set_option linter.unusedSimpArgs false
def laws_markTaskS.l0 : Nat → (List S37) → Int → Int → Option (Int × (List S37))
 | 0, _, _, _ => none
 | k + 1, x2_ml0, x2_1, x2_5 => if x2_5 < (x2_ml0.length : Int) then (if 0 ≤ x2_5 then ((some (x2_ml0.set x2_5.toNat (⟨x2_1, (rd_T37 x2_ml0 x2_5).f1, (rd_T37 x2_ml0 x2_5).f2, (rd_T37 x2_ml0 x2_5).f3, (rd_T37 x2_ml0 x2_5).f4⟩ : S37))).bind fun s6 => (if x2_5 < (s6.length : Int) then ((laws_markRowS.f k ((rd_T37 s6 x2_5).f1) (wrap64 (x2_1 + 1))).bind fun bt11 => ((some (s6.set x2_5.toNat (⟨(rd_T37 s6 x2_5).f0, bt11.2, (rd_T37 s6 x2_5).f2, (rd_T37 s6 x2_5).f3, (rd_T37 s6 x2_5).f4⟩ : S37))).bind fun s12 => (if x2_5 < (s12.length : Int) then ((laws_markRowS.f k ((rd_T37 s12 x2_5).f2) bt11.1).bind fun bt17 => ((some (s12.set x2_5.toNat (⟨(rd_T37 s12 x2_5).f0, (rd_T37 s12 x2_5).f1, bt17.2, (rd_T37 s12 x2_5).f3, (rd_T37 s12 x2_5).f4⟩ : S37))).bind fun s18 => (if x2_5 < (s18.length : Int) then ((laws_markBoolS.f k ((rd_T37 s18 x2_5).f3) bt17.1).bind fun bt23 => ((some (s18.set x2_5.toNat (⟨(rd_T37 s18 x2_5).f0, (rd_T37 s18 x2_5).f1, (rd_T37 s18 x2_5).f2, bt23.2, (rd_T37 s18 x2_5).f4⟩ : S37))).bind fun s24 => (if x2_5 < (s24.length : Int) then ((some (s24.set x2_5.toNat (⟨(rd_T37 s24 x2_5).f0, (rd_T37 s24 x2_5).f1, (rd_T37 s24 x2_5).f2, (rd_T37 s24 x2_5).f3, bt23.1⟩ : S37))).bind fun s29 => (laws_markTaskS.l0 k s29 (wrap64 (bt23.1 + 1)) (wrap64 (x2_5 + 1)))) else none))) else none))) else none))) else none)) else none) else (some (x2_1, x2_ml0))
def laws_markTaskS.f (k : Nat) (l0 : List S37) (a1 : Int) : Option (Int × (List S37)) := laws_markTaskS.l0 k l0 a1 0
set_option maxHeartbeats 4000000 in
set_option maxRecDepth 100000 in
theorem laws_markTaskS.ok (k : Nat) (l0 : List S37) (Al0 : Option Addr) (cl0 : Nat) (a1 : Int) (r0 : Int) (r1 : List S37) (H : laws_markTaskS.f k l0 a1 = some (r0, r1)) : Fn Try.prog 81 [.slice Al0 l0.length cl0, .int .i64 a1] [] [.sl 1 k37 Al0 cl0 l0 1 true] (fun v bx en => v = .int .i64 r0 ∧ bx = [] ∧ en = [.sl 1 k37 Al0 cl0 r1 1 true] ∧ r1.length = l0.length) := by
 refine fn_ 48 Try.func81 rfl rfl rfl (fun base T w0 => ?_)
 rw [laws_markTaskS.f] at H
 refine gs (rg (sv (EV.as rfl) rfl (re (gs (gs (rg (sv (EV.as rfl) rfl (re (gb ?_)))))))))
 refine lo (fun kk S => ∃ (x2_ml0 : List S37) (x2_1 : Int) (x2_5 : Int), laws_markTaskS.l0 kk x2_ml0 x2_1 x2_5 = some (r0, r1) ∧ x2_ml0.length = l0.length ∧ S = ⟨[(0, .slice Al0 x2_ml0.length cl0), (1, .int .i64 x2_1), (5, .int .i64 x2_5)], [], [.sl 1 k37 Al0 cl0 x2_ml0 1 true]⟩) (fun S hS => ?_) (fun n0 ih0 S hS => ?_) ⟨l0, a1, 0, H, (by first | rfl | assumption | omega | (simp only [List.length_set]; first | done | assumption | omega)), rfl⟩ (fun h => wk [0, 1, 5] [] [⟨0, 1, 1, true⟩] h)
 · clear H; obtain ⟨_, _, _, H, _⟩ := hS; rw [laws_markTaskS.l0] at H; cases H
 clear H
 obtain ⟨x2_ml0, x2_1, x2_5, H, ex2_ml0, rfl⟩ := hS
 rw [laws_markTaskS.l0] at H
 refine gs (gs (rg (sv (EV.mv rfl) rfl (sv (EV.mv rfl) rfl (sv (EV.ln rfl) rfl (sv (EV.lss rfl rfl) rfl (re ?_)))))))
 revert H; refine ifsI ?_ ?_ <;> intro c1 H
 ·
  refine gt rfl (dT c1) (gk (gs (gb (gs (rg (sv (EV.mv rfl) rfl (sv (EV.mv rfl) rfl (sv (EV.mv rfl) rfl ?_))))))))
  revert H; refine ggI ?_; intro g2 H
  refine sv (EV.ix 0 rfl rfl rfl g2 c1 rfl) rfl (sv (EV.fa 0 rfl) rfl (opn (i := x2_5) 0 z37 rfl g2 c1 fun A_3 c_3 A_4 c_4 A_5 c_5 => (opnH (i := x2_5) (s := 5) (cls' := 1) [(A_3, c_3), (A_4, c_4), (A_5, c_5)] 0 1 2 z37 rfl rfl (by kernel_rfl) g2 c1 dq rfl rfl (nmE (en := [holE k37 1 Al0 cl0 x2_ml0 x2_5.toNat [.int .i64 ((rd_T37 x2_ml0 x2_5).f0), .slice A_3 ((rd_T37 x2_ml0 x2_5).f1).length c_3, .slice A_4 ((rd_T37 x2_ml0 x2_5).f2).length c_4, .slice A_5 ((rd_T37 x2_ml0 x2_5).f3).length c_5, .int .i64 ((rd_T37 x2_ml0 x2_5).f4)] 2, .sl 1 k124 A_3 c_3 ((rd_T37 x2_ml0 x2_5).f1) 3 true, .sl 1 k124 A_4 c_4 ((rd_T37 x2_ml0 x2_5).f2) 4 true, .sl 1 .bool A_5 c_5 ((rd_T37 x2_ml0 x2_5).f3) 5 true]) (by kernel_rfl) (so rfl (op_sth (cs' := [.int .i64 x2_1, .slice A_3 ((rd_T37 x2_ml0 x2_5).f1).length c_3, .slice A_4 ((rd_T37 x2_ml0 x2_5).f2).length c_4, .slice A_5 ((rd_T37 x2_ml0 x2_5).f3).length c_5, .int .i64 ((rd_T37 x2_ml0 x2_5).f4)]) 0 0 rfl rfl rfl rfl rfl (by kernel_rfl) rfl rfl (nmE (en := [.sl 1 k124 A_3 c_3 ((rd_T37 x2_ml0 x2_5).f1) 3 true, .sl 1 k124 A_4 c_4 ((rd_T37 x2_ml0 x2_5).f2) 4 true, .sl 1 .bool A_5 c_5 ((rd_T37 x2_ml0 x2_5).f3) 5 true, holE k37 1 Al0 cl0 x2_ml0 x2_5.toNat [.int .i64 x2_1, .slice A_3 ((rd_T37 x2_ml0 x2_5).f1).length c_3, .slice A_4 ((rd_T37 x2_ml0 x2_5).f2).length c_4, .slice A_5 ((rd_T37 x2_ml0 x2_5).f3).length c_5, .int .i64 ((rd_T37 x2_ml0 x2_5).f4)] 2]) (by kernel_rfl) ?_)))))))
  revert H; refine bdI ?_; intro s6 A6 H; have q6 := stl (Option.some.inj A6)
  refine hcl 3 (⟨x2_1, (rd_T37 x2_ml0 x2_5).f1, (rd_T37 x2_ml0 x2_5).f2, (rd_T37 x2_ml0 x2_5).f3, (rd_T37 x2_ml0 x2_5).f4⟩ : S37) [(A_3, c_3), (A_4, c_4), (A_5, c_5)] [0, 1, 2] (Option.some.inj A6) rfl (by kernel_rfl) rfl (by kernel_rfl) (by kernel_rfl) (by kernel_rfl) (nmE (en := [.sl 1 k124 A_3 c_3 ((rd_T37 x2_ml0 x2_5).f1) 2 true, .sl 1 k124 A_4 c_4 ((rd_T37 x2_ml0 x2_5).f2) 2 true, .sl 1 .bool A_5 c_5 ((rd_T37 x2_ml0 x2_5).f3) 2 true, .sl 1 k37 Al0 cl0 s6 2 true]) (by kernel_rfl) (rlT 0 (v' := .slice Al0 s6.length cl0) rfl (slq _ _ q6) (rlT 7 (v' := .slice Al0 s6.length cl0) rfl (slq _ _ q6) (rlT 12 (v' := .slice Al0 s6.length cl0) rfl (slq _ _ q6) (re (pr [0, 1, 5] [] [3] rfl rfl rfl rfl (gs (rg (sv (EV.mv rfl) rfl (sv (EV.add rfl rfl) rfl (sv (EV.as rfl) rfl (re (gs (rg (sv (EV.mv rfl) rfl (sv (EV.mv rfl) rfl ?_))))))))))))))))
  revert H; refine ggI ?_; intro g7 H
  refine sv (EV.ix 0 rfl rfl rfl g2 g7 rfl) rfl (sv (EV.fa 1 rfl) rfl (opn (i := x2_5) 0 z37 rfl g2 g7 fun A_8 c_8 A_9 c_9 A_10 c_10 => (sv (EV.lc (v := .slice A_8 ((rd_T37 s6 x2_5).f1).length c_8) 1 none 1 rfl rfl rfl rfl) rfl (sv (EV.mv rfl) rfl (opnH (i := x2_5) (s := 5) (cls' := 2) [(A_8, c_8), (A_9, c_9), (A_10, c_10)] 0 1 3 z37 rfl rfl (by kernel_rfl) g2 g7 dq rfl rfl (nmE (en := [holE k37 1 Al0 cl0 s6 x2_5.toNat [.int .i64 ((rd_T37 s6 x2_5).f0), .slice A_8 ((rd_T37 s6 x2_5).f1).length c_8, .slice A_9 ((rd_T37 s6 x2_5).f2).length c_9, .slice A_10 ((rd_T37 s6 x2_5).f3).length c_10, .int .i64 ((rd_T37 s6 x2_5).f4)] 3, .sl 1 k124 A_8 c_8 ((rd_T37 s6 x2_5).f1) 4 true, .sl 1 k124 A_9 c_9 ((rd_T37 s6 x2_5).f2) 5 true, .sl 1 .bool A_10 c_10 ((rd_T37 s6 x2_5).f3) 6 true]) (by kernel_rfl) ?_))))))
  revert H; refine bdI ?_; rintro ⟨t11_0, t11_1⟩ A11 H
  refine so rfl (op_callM (laws_markRowS.ok n0 ((rd_T37 s6 x2_5).f1) A_8 c_8 (wrap64 (x2_1 + 1)) _ _ A11) [⟨1, 1, 1, false⟩] [] [] 7 rfl rfl rfl rfl rfl rfl rfl rfl ?_)
  rintro _ _ _ ⟨rfl, rfl, rfl, q11_0⟩
  refine linF 3 rfl rfl ?_
  revert H; refine bdI ?_; intro s12 A12 H; have q12 := stl (Option.some.inj A12)
  refine hcl 0 (⟨(rd_T37 s6 x2_5).f0, t11_1, (rd_T37 s6 x2_5).f2, (rd_T37 s6 x2_5).f3, (rd_T37 s6 x2_5).f4⟩ : S37) [(A_8, c_8), (A_9, c_9), (A_10, c_10)] [4, 1, 2] (Option.some.inj A12) rfl (by rw [← q11_0]; rfl) rfl (by kernel_rfl) (by kernel_rfl) (by kernel_rfl) (nmE (en := [.sl 1 k124 A_9 c_9 ((rd_T37 s6 x2_5).f2) 3 true, .sl 1 .bool A_10 c_10 ((rd_T37 s6 x2_5).f3) 3 true, .sl 1 k124 A_8 c_8 t11_1 3 false, .sl 1 k124 A_8 c_8 t11_1 3 true, .sl 1 k37 Al0 cl0 s12 3 true]) (by kernel_rfl) (rlT 0 (v' := .slice Al0 s12.length cl0) rfl (slq _ _ q12) (rlT 19 (v' := .slice Al0 s12.length cl0) rfl (slq _ _ q12) (nmE (en := [.sl 1 k124 A_9 c_9 ((rd_T37 s6 x2_5).f2) 3 true, .sl 1 .bool A_10 c_10 ((rd_T37 s6 x2_5).f3) 3 true, .sl 1 k124 A_8 c_8 t11_1 3 false, .sl 1 k124 A_8 c_8 t11_1 3 true, .sl 1 k37 Al0 cl0 s12 3 true]) (by kernel_rfl) (sv (EV.as rfl) rfl (re (pr [0, 1, 5] [] [4] rfl rfl rfl rfl (gs (rg (sv (EV.mv rfl) rfl (sv (EV.mv rfl) rfl ?_)))))))))))
  revert H; refine ggI ?_; intro g13 H
  refine sv (EV.ix 0 rfl rfl rfl g2 g13 rfl) rfl (sv (EV.fa 2 rfl) rfl (opn (i := x2_5) 0 z37 rfl g2 g13 fun A_14 c_14 A_15 c_15 A_16 c_16 => (sv (EV.lc (v := .slice A_15 ((rd_T37 s12 x2_5).f2).length c_15) 2 none 1 rfl rfl rfl rfl) rfl (sv (EV.mv rfl) rfl (opnH (i := x2_5) (s := 5) (cls' := 3) [(A_14, c_14), (A_15, c_15), (A_16, c_16)] 0 1 4 z37 rfl rfl (by kernel_rfl) g2 g13 dq rfl rfl (nmE (en := [holE k37 1 Al0 cl0 s12 x2_5.toNat [.int .i64 ((rd_T37 s12 x2_5).f0), .slice A_14 ((rd_T37 s12 x2_5).f1).length c_14, .slice A_15 ((rd_T37 s12 x2_5).f2).length c_15, .slice A_16 ((rd_T37 s12 x2_5).f3).length c_16, .int .i64 ((rd_T37 s12 x2_5).f4)] 4, .sl 1 k124 A_14 c_14 ((rd_T37 s12 x2_5).f1) 5 true, .sl 1 k124 A_15 c_15 ((rd_T37 s12 x2_5).f2) 6 true, .sl 1 .bool A_16 c_16 ((rd_T37 s12 x2_5).f3) 7 true]) (by kernel_rfl) ?_))))))
  revert H; refine bdI ?_; rintro ⟨t17_0, t17_1⟩ A17 H
  refine so rfl (op_callM (laws_markRowS.ok n0 ((rd_T37 s12 x2_5).f2) A_15 c_15 t11_0 _ _ A17) [⟨2, 1, 1, false⟩] [] [] 8 rfl rfl rfl rfl rfl rfl rfl rfl ?_)
  rintro _ _ _ ⟨rfl, rfl, rfl, q17_0⟩
  refine linF 3 rfl rfl ?_
  revert H; refine bdI ?_; intro s18 A18 H; have q18 := stl (Option.some.inj A18)
  refine hcl 0 (⟨(rd_T37 s12 x2_5).f0, (rd_T37 s12 x2_5).f1, t17_1, (rd_T37 s12 x2_5).f3, (rd_T37 s12 x2_5).f4⟩ : S37) [(A_14, c_14), (A_15, c_15), (A_16, c_16)] [1, 4, 2] (Option.some.inj A18) rfl (by rw [← q17_0]; rfl) rfl (by kernel_rfl) (by kernel_rfl) (by kernel_rfl) (nmE (en := [.sl 1 k124 A_14 c_14 ((rd_T37 s12 x2_5).f1) 4 true, .sl 1 .bool A_16 c_16 ((rd_T37 s12 x2_5).f3) 4 true, .sl 1 k124 A_15 c_15 t17_1 4 false, .sl 1 k124 A_15 c_15 t17_1 4 true, .sl 1 k37 Al0 cl0 s18 4 true]) (by kernel_rfl) (rlT 0 (v' := .slice Al0 s18.length cl0) rfl (slq _ _ q18) (rlT 26 (v' := .slice Al0 s18.length cl0) rfl (slq _ _ q18) (nmE (en := [.sl 1 k124 A_14 c_14 ((rd_T37 s12 x2_5).f1) 4 true, .sl 1 .bool A_16 c_16 ((rd_T37 s12 x2_5).f3) 4 true, .sl 1 k124 A_15 c_15 t17_1 4 false, .sl 1 k124 A_15 c_15 t17_1 4 true, .sl 1 k37 Al0 cl0 s18 4 true]) (by kernel_rfl) (sv (EV.as rfl) rfl (re (gs (rg (sv (EV.mv rfl) rfl (sv (EV.mv rfl) rfl ?_))))))))))
  revert H; refine ggI ?_; intro g19 H
  refine sv (EV.ix 4 rfl rfl rfl g2 g19 rfl) rfl (sv (EV.fa 3 rfl) rfl (opn (i := x2_5) 4 z37 rfl g2 g19 fun A_20 c_20 A_21 c_21 A_22 c_22 => (sv (EV.lc (v := .slice A_22 ((rd_T37 s18 x2_5).f3).length c_22) 3 none 5 rfl rfl rfl rfl) rfl (sv (EV.mv rfl) rfl (opnH (i := x2_5) (s := 5) (cls' := 4) [(A_20, c_20), (A_21, c_21), (A_22, c_22)] 4 5 5 z37 rfl rfl (by kernel_rfl) g2 g19 dq rfl rfl (nmE (en := [holE k37 1 Al0 cl0 s18 x2_5.toNat [.int .i64 ((rd_T37 s18 x2_5).f0), .slice A_20 ((rd_T37 s18 x2_5).f1).length c_20, .slice A_21 ((rd_T37 s18 x2_5).f2).length c_21, .slice A_22 ((rd_T37 s18 x2_5).f3).length c_22, .int .i64 ((rd_T37 s18 x2_5).f4)] 5, .sl 1 k124 A_20 c_20 ((rd_T37 s18 x2_5).f1) 6 true, .sl 1 k124 A_21 c_21 ((rd_T37 s18 x2_5).f2) 7 true, .sl 1 .bool A_22 c_22 ((rd_T37 s18 x2_5).f3) 8 true]) (by kernel_rfl) ?_))))))
  revert H; refine bdI ?_; rintro ⟨t23_0, t23_1⟩ A23 H
  refine so rfl (op_callM (laws_markBoolS.ok n0 ((rd_T37 s18 x2_5).f3) A_22 c_22 t17_0 _ _ A23) [⟨3, 1, 1, false⟩] [] [] 9 rfl rfl rfl rfl rfl rfl rfl rfl ?_)
  rintro _ _ _ ⟨rfl, rfl, rfl, q23_0⟩
  refine linF 3 rfl rfl ?_
  revert H; refine bdI ?_; intro s24 A24 H; have q24 := stl (Option.some.inj A24)
  refine hcl 0 (⟨(rd_T37 s18 x2_5).f0, (rd_T37 s18 x2_5).f1, (rd_T37 s18 x2_5).f2, t23_1, (rd_T37 s18 x2_5).f4⟩ : S37) [(A_20, c_20), (A_21, c_21), (A_22, c_22)] [1, 2, 4] (Option.some.inj A24) rfl (by rw [← q23_0]; rfl) rfl (by kernel_rfl) (by kernel_rfl) (by kernel_rfl) (nmE (en := [.sl 1 k124 A_20 c_20 ((rd_T37 s18 x2_5).f1) 5 true, .sl 1 k124 A_21 c_21 ((rd_T37 s18 x2_5).f2) 5 true, .sl 1 .bool A_22 c_22 t23_1 5 false, .sl 1 .bool A_22 c_22 t23_1 5 true, .sl 1 k37 Al0 cl0 s24 5 true]) (by kernel_rfl) (rlT 0 (v' := .slice Al0 s24.length cl0) rfl (slq _ _ q24) (rlT 26 (v' := .slice Al0 s24.length cl0) rfl (slq _ _ q24) (rlT 33 (v' := .slice Al0 s24.length cl0) rfl (slq _ _ q24) (nmE (en := [.sl 1 k124 A_20 c_20 ((rd_T37 s18 x2_5).f1) 5 true, .sl 1 k124 A_21 c_21 ((rd_T37 s18 x2_5).f2) 5 true, .sl 1 .bool A_22 c_22 t23_1 5 false, .sl 1 .bool A_22 c_22 t23_1 5 true, .sl 1 k37 Al0 cl0 s24 5 true]) (by kernel_rfl) (sv (EV.as rfl) rfl (re (pr [0, 1, 5] [] [4] rfl rfl rfl rfl (gs (rg (sv (EV.mv rfl) rfl (sv (EV.mv rfl) rfl (sv (EV.mv rfl) rfl ?_)))))))))))))
  revert H; refine ggI ?_; intro g25 H
  refine sv (EV.ix 0 rfl rfl rfl g2 g25 rfl) rfl (sv (EV.fa 4 rfl) rfl (opn (i := x2_5) 0 z37 rfl g2 g25 fun A_26 c_26 A_27 c_27 A_28 c_28 => (opnH (i := x2_5) (s := 5) (cls' := 5) [(A_26, c_26), (A_27, c_27), (A_28, c_28)] 0 1 6 z37 rfl rfl (by kernel_rfl) g2 g25 dq rfl rfl (nmE (en := [holE k37 1 Al0 cl0 s24 x2_5.toNat [.int .i64 ((rd_T37 s24 x2_5).f0), .slice A_26 ((rd_T37 s24 x2_5).f1).length c_26, .slice A_27 ((rd_T37 s24 x2_5).f2).length c_27, .slice A_28 ((rd_T37 s24 x2_5).f3).length c_28, .int .i64 ((rd_T37 s24 x2_5).f4)] 6, .sl 1 k124 A_26 c_26 ((rd_T37 s24 x2_5).f1) 7 true, .sl 1 k124 A_27 c_27 ((rd_T37 s24 x2_5).f2) 8 true, .sl 1 .bool A_28 c_28 ((rd_T37 s24 x2_5).f3) 9 true]) (by kernel_rfl) (so rfl (op_sth (cs' := [.int .i64 ((rd_T37 s24 x2_5).f0), .slice A_26 ((rd_T37 s24 x2_5).f1).length c_26, .slice A_27 ((rd_T37 s24 x2_5).f2).length c_27, .slice A_28 ((rd_T37 s24 x2_5).f3).length c_28, .int .i64 t23_0]) 4 0 rfl rfl rfl rfl rfl (by kernel_rfl) rfl rfl (nmE (en := [.sl 1 k124 A_26 c_26 ((rd_T37 s24 x2_5).f1) 7 true, .sl 1 k124 A_27 c_27 ((rd_T37 s24 x2_5).f2) 8 true, .sl 1 .bool A_28 c_28 ((rd_T37 s24 x2_5).f3) 9 true, holE k37 1 Al0 cl0 s24 x2_5.toNat [.int .i64 ((rd_T37 s24 x2_5).f0), .slice A_26 ((rd_T37 s24 x2_5).f1).length c_26, .slice A_27 ((rd_T37 s24 x2_5).f2).length c_27, .slice A_28 ((rd_T37 s24 x2_5).f3).length c_28, .int .i64 t23_0] 6]) (by kernel_rfl) ?_)))))))
  revert H; refine bdI ?_; intro s29 A29 H; have q29 := stl (Option.some.inj A29)
  exact hcl 3 (⟨(rd_T37 s24 x2_5).f0, (rd_T37 s24 x2_5).f1, (rd_T37 s24 x2_5).f2, (rd_T37 s24 x2_5).f3, t23_0⟩ : S37) [(A_26, c_26), (A_27, c_27), (A_28, c_28)] [0, 1, 2] (Option.some.inj A29) rfl (by kernel_rfl) rfl (by kernel_rfl) (by kernel_rfl) (by kernel_rfl) (nmE (en := [.sl 1 k124 A_26 c_26 ((rd_T37 s24 x2_5).f1) 6 true, .sl 1 k124 A_27 c_27 ((rd_T37 s24 x2_5).f2) 6 true, .sl 1 .bool A_28 c_28 ((rd_T37 s24 x2_5).f3) 6 true, .sl 1 k37 Al0 cl0 s29 6 true]) (by kernel_rfl) (rlT 0 (v' := .slice Al0 s29.length cl0) rfl (slq _ _ q29) (rlT 40 (v' := .slice Al0 s29.length cl0) rfl (slq _ _ q29) (re (rg (sv (EV.mv rfl) rfl (sv (EV.add rfl rfl) rfl (sv (EV.as rfl) rfl (re (ge (rg (sv (EV.mv rfl) rfl (sv (EV.add rfl rfl) rfl (sv (EV.as rfl) rfl (re (pr [0, 1, 5] [] [3] rfl rfl rfl rfl (wk [0, 1, 5] [] [⟨0, 1, 1, true⟩] (ih0 _ (by omega) _ ⟨s29, wrap64 (t23_0 + 1), wrap64 (x2_5 + 1), H, (by first | rfl | assumption | omega | (simp only [List.length_set]; first | done | assumption | omega)), rfl⟩))))))))))))))))))
 ·
  refine gf rfl (dF c1) (gx rfl (gs (rg (sv (EV.mv rfl) rfl (sv (EV.as rfl) rfl (re (pr [4] [] [0] rfl rfl rfl rfl ?_)))))))
  cases H
  exact rt Try.func81 rfl (.tmp rfl .nil) rfl [] [⟨0, 1, 1, true⟩] rfl rfl rfl rfl rfl ⟨rfl, rfl, rfl, by first | rfl | assumption | omega | (simp only [List.length_set]; first | done | assumption | omega)⟩
end Go.Proofs.Ytnllplklggoabaa.K
namespace Go.Proofs.Ytnllplklggoabaa.K
open Go Go.RowKit
set_option linter.unusedVariables false
set_option linter.unusedSimpArgs false
def laws_markJoiner.f (k : Nat) (l0_0 : List S37) (a0_1 : Int) (a0_2 : Int) (a1 : Int) : Option (Int × (List S37)) := (laws_markTaskS.f k l0_0 a1).bind fun bt1 => (some (bt1.1, bt1.2))
set_option maxHeartbeats 4000000 in
set_option maxRecDepth 100000 in
theorem laws_markJoiner.ok (k : Nat) (l0_0 : List S37) (Al0_0 : Option Addr) (cl0_0 : Nat) (a0_1 : Int) (a0_2 : Int) (a1 : Int) (r0 : Int) (r1 : List S37) (H : laws_markJoiner.f k l0_0 a0_1 a0_2 a1 = some (r0, r1)) : Fn Try.prog 40 [.agg #[.slice Al0_0 l0_0.length cl0_0, .int .i64 a0_1, .int .i64 a0_2], .int .i64 a1] [] [.sl 1 k37 Al0_0 cl0_0 l0_0 1 true] (fun v bx en => v = .int .i64 r0 ∧ bx = [] ∧ en = [.sl 1 k37 Al0_0 cl0_0 r1 1 true] ∧ r1.length = l0_0.length) := by
 refine fn_ 10 Try.func40 rfl rfl rfl (fun base T w0 => ?_)
 rw [laws_markJoiner.f] at H
 refine gs (rg (so rfl (op_box (cs := [.slice Al0_0 l0_0.length cl0_0, .int .i64 a0_1, .int .i64 a0_2]) rfl rfl rfl fun b2 => (sv (EV.as rfl) rfl (re (gs (rg (sv (EV.fa 0 rfl) rfl (sv (EV.ld 0 none rfl rfl rfl) rfl (sv (EV.mv rfl) rfl ?_))))))))))
 revert H; refine bdI ?_; rintro ⟨t1_0, t1_1⟩ A1 H
 refine so rfl (op_callM (laws_markTaskS.ok k l0_0 Al0_0 cl0_0 a1 _ _ A1) [⟨0, 1, 1, true⟩] [] [0] 2 rfl rfl rfl rfl rfl rfl rfl rfl ?_)
 rintro _ _ _ ⟨rfl, rfl, rfl, q1_0⟩
 refine rlT 0 (v' := .agg #[.slice Al0_0 t1_1.length cl0_0, .int .i64 a0_1, .int .i64 a0_2]) rfl (by simp only [q1_0]) (rlT 6 (v' := .slice Al0_0 t1_1.length cl0_0) rfl (slq _ _ q1_0) (rlB 0 (cs' := [.slice Al0_0 t1_1.length cl0_0, .int .i64 a0_1, .int .i64 a0_2]) rfl (by simp only [q1_0]) (nmE (en := [.sl 1 k37 Al0_0 cl0_0 t1_1 3 true]) (by kernel_rfl) (sv (EV.as rfl) rfl (re (pr [1] [] [0] rfl rfl rfl rfl (gs (rg (sv (EV.mv rfl) rfl (sv (EV.as rfl) rfl (re ?_)))))))))))
 cases H
 exact rt Try.func40 rfl (.tmp rfl .nil) rfl [] [⟨0, 1, 1, true⟩] rfl rfl rfl rfl rfl ⟨rfl, rfl, rfl, by first | rfl | assumption | omega | (simp only [List.length_set]; first | done | assumption | omega)⟩
end Go.Proofs.Ytnllplklggoabaa.K
namespace Go.Proofs.Ytnllplklggoabaa.K
open Go Go.RowKit
set_option linter.unusedVariables false
set_option linter.unusedSimpArgs false
def laws_heldRowS.l0 : Nat → Int → Int → (List S124) → Option (Int)
 | 0, _, _, _ => none
 | k + 1, x2_1, x2_5, l0 => if x2_5 < (l0.length : Int) then (if 0 ≤ x2_5 then (if ((rd_T124 l0 x2_5).f0) = x2_1 then (if ((rd_T124 l0 x2_5).f1) = (wrap64 (x2_1 + 1)) then (if ((rd_T124 l0 x2_5).f2) = (wrap64 ((wrap64 (x2_1 + 1)) + 1)) then (laws_heldRowS.l0 k (wrap64 ((wrap64 ((wrap64 (x2_1 + 1)) + 1)) + 1)) (wrap64 (x2_5 + 1)) l0) else (some (-1))) else (some (-1))) else (some (-1))) else none) else (some x2_1)
def laws_heldRowS.f (k : Nat) (l0 : List S124) (a1 : Int) : Option (Int) := laws_heldRowS.l0 k a1 0 l0
set_option maxHeartbeats 4000000 in
set_option maxRecDepth 100000 in
theorem laws_heldRowS.ok (k : Nat) (l0 : List S124) (Al0 : Option Addr) (cl0 : Nat) (a1 : Int) (r0 : Int) (H : laws_heldRowS.f k l0 a1 = some r0) : Fn Try.prog 79 [.slice Al0 l0.length cl0, .int .i64 a1] [] [.sl 0 k124 Al0 cl0 l0 0 false] (fun v bx en => v = .int .i64 r0 ∧ bx = [] ∧ en = []) := by
 refine fn_ 40 Try.func79 rfl rfl rfl (fun base T w0 => ?_)
 rw [laws_heldRowS.f] at H
 refine gs (rg (sv (EV.as rfl) rfl (re (gs (gs (rg (sv (EV.as rfl) rfl (re (gb ?_)))))))))
 refine lo (fun kk S => ∃ (x2_1 : Int) (x2_5 : Int), laws_heldRowS.l0 kk x2_1 x2_5 l0 = some r0 ∧ S = ⟨[(0, .slice Al0 l0.length cl0), (1, .int .i64 x2_1), (5, .int .i64 x2_5)], [], [.sl 0 k124 Al0 cl0 l0 0 false]⟩) (fun S hS => ?_) (fun n0 ih0 S hS => ?_) ⟨a1, 0, H, rfl⟩ (fun h => wk [0, 1, 5] [] [⟨0, 0, 0, false⟩] h)
 · clear H; obtain ⟨_, _, H, _⟩ := hS; rw [laws_heldRowS.l0] at H; cases H
 clear H
 obtain ⟨x2_1, x2_5, H, rfl⟩ := hS
 rw [laws_heldRowS.l0] at H
 refine gs (gs (rg (sv (EV.mv rfl) rfl (sv (EV.mv rfl) rfl (sv (EV.ln rfl) rfl (sv (EV.lss rfl rfl) rfl (re ?_)))))))
 revert H; refine ifsI ?_ ?_ <;> intro c1 H
 ·
  refine gt rfl (dT c1) (gk (gs (gb (gs (gs (rg (sv (EV.mv rfl) rfl (sv (EV.mv rfl) rfl ?_))))))))
  revert H; refine ggI ?_; intro g2 H
  refine sv (EV.ix 0 rfl rfl rfl g2 c1 rfl) rfl (sv (EV.fa 0 rfl) rfl (sv (EV.le (v := .int .i64 ((rd_T124 l0 x2_5).f0)) x2_5 0 none 0 z124 rfl rfl rfl g2 c1 rfl rfl rfl) rfl (sv (EV.mv rfl) rfl (sv (EV.neq rfl rfl) rfl (re (pr [0, 1, 5, 18] [] [0] rfl rfl rfl rfl ?_))))))
  revert H; refine ifsI ?_ ?_ <;> intro c3 H
  ·
   refine gf rfl (nF c3) (gk (gs (rg (sv (EV.mv rfl) rfl (sv (EV.add rfl rfl) rfl (sv (EV.as rfl) rfl (re (gs (gs (rg (sv (EV.mv rfl) rfl (sv (EV.mv rfl) rfl (sv (EV.ix 0 rfl rfl rfl g2 c1 rfl) rfl (sv (EV.fa 1 rfl) rfl (sv (EV.le (v := .int .i64 ((rd_T124 l0 x2_5).f1)) x2_5 1 none 0 z124 rfl rfl rfl g2 c1 rfl rfl rfl) rfl (sv (EV.mv rfl) rfl (sv (EV.neq rfl rfl) rfl (re (pr [0, 1, 5, 27] [] [0] rfl rfl rfl rfl ?_)))))))))))))))))))
   revert H; refine ifsI ?_ ?_ <;> intro c4 H
   ·
    refine gf rfl (nF c4) (gk (gs (rg (sv (EV.mv rfl) rfl (sv (EV.add rfl rfl) rfl (sv (EV.as rfl) rfl (re (gs (gs (rg (sv (EV.mv rfl) rfl (sv (EV.mv rfl) rfl (sv (EV.ix 0 rfl rfl rfl g2 c1 rfl) rfl (sv (EV.fa 2 rfl) rfl (sv (EV.le (v := .int .i64 ((rd_T124 l0 x2_5).f2)) x2_5 2 none 0 z124 rfl rfl rfl g2 c1 rfl rfl rfl) rfl (sv (EV.mv rfl) rfl (sv (EV.neq rfl rfl) rfl (re (pr [0, 1, 5, 36] [] [0] rfl rfl rfl rfl ?_)))))))))))))))))))
    revert H; refine ifsI ?_ ?_ <;> intro c5 H
    ·
     exact gf rfl (nF c5) (gk (rg (sv (EV.mv rfl) rfl (sv (EV.add rfl rfl) rfl (sv (EV.as rfl) rfl (re (ge (rg (sv (EV.mv rfl) rfl (sv (EV.add rfl rfl) rfl (sv (EV.as rfl) rfl (re (wk [0, 1, 5] [] [⟨0, 0, 0, false⟩] (ih0 _ (by omega) _ ⟨wrap64 ((wrap64 ((wrap64 (x2_1 + 1)) + 1)) + 1), wrap64 (x2_5 + 1), H, rfl⟩))))))))))))))
    ·
     refine gt rfl (nT c5) (gs (rg (sv (EV.as rfl) rfl (re ?_))))
     cases H
     exact rt Try.func79 rfl (.tmp rfl .nil) rfl [] [] rfl rfl rfl rfl rfl ⟨rfl, rfl, rfl⟩
   ·
    refine gt rfl (nT c4) (gs (rg (sv (EV.as rfl) rfl (re ?_))))
    cases H
    exact rt Try.func79 rfl (.tmp rfl .nil) rfl [] [] rfl rfl rfl rfl rfl ⟨rfl, rfl, rfl⟩
  ·
   refine gt rfl (nT c3) (gs (rg (sv (EV.as rfl) rfl (re ?_))))
   cases H
   exact rt Try.func79 rfl (.tmp rfl .nil) rfl [] [] rfl rfl rfl rfl rfl ⟨rfl, rfl, rfl⟩
 ·
  refine gf rfl (dF c1) (gx rfl (gs (rg (sv (EV.mv rfl) rfl (sv (EV.as rfl) rfl (re (pr [4] [] [] rfl rfl rfl rfl ?_)))))))
  cases H
  exact rt Try.func79 rfl (.tmp rfl .nil) rfl [] [] rfl rfl rfl rfl rfl ⟨rfl, rfl, rfl⟩
end Go.Proofs.Ytnllplklggoabaa.K
namespace Go.Proofs.Ytnllplklggoabaa.K
open Go Go.RowKit
set_option linter.unusedVariables false
set_option linter.unusedSimpArgs false
def laws_heldBoolS.l0 : Nat → Int → Int → (List Bool) → Option (Int)
 | 0, _, _, _ => none
 | k + 1, x2_1, x2_5, l0 => if x2_5 < (l0.length : Int) then (if 0 ≤ x2_5 then (if ((rdOf false l0 x2_5) == (decide ((Int.tmod x2_1 3) = 0))) = true then (laws_heldBoolS.l0 k (wrap64 (x2_1 + 1)) (wrap64 (x2_5 + 1)) l0) else (some (-1))) else none) else (some x2_1)
def laws_heldBoolS.f (k : Nat) (l0 : List Bool) (a1 : Int) : Option (Int) := laws_heldBoolS.l0 k a1 0 l0
set_option maxHeartbeats 4000000 in
set_option maxRecDepth 100000 in
theorem laws_heldBoolS.ok (k : Nat) (l0 : List Bool) (Al0 : Option Addr) (cl0 : Nat) (a1 : Int) (r0 : Int) (H : laws_heldBoolS.f k l0 a1 = some r0) : Fn Try.prog 80 [.slice Al0 l0.length cl0, .int .i64 a1] [] [.sl 0 .bool Al0 cl0 l0 0 false] (fun v bx en => v = .int .i64 r0 ∧ bx = [] ∧ en = []) := by
 refine fn_ 23 Try.func80 rfl rfl rfl (fun base T w0 => ?_)
 rw [laws_heldBoolS.f] at H
 refine gs (rg (sv (EV.as rfl) rfl (re (gs (gs (rg (sv (EV.as rfl) rfl (re (gb ?_)))))))))
 refine lo (fun kk S => ∃ (x2_1 : Int) (x2_5 : Int), laws_heldBoolS.l0 kk x2_1 x2_5 l0 = some r0 ∧ S = ⟨[(0, .slice Al0 l0.length cl0), (1, .int .i64 x2_1), (5, .int .i64 x2_5)], [], [.sl 0 .bool Al0 cl0 l0 0 false]⟩) (fun S hS => ?_) (fun n0 ih0 S hS => ?_) ⟨a1, 0, H, rfl⟩ (fun h => wk [0, 1, 5] [] [⟨0, 0, 0, false⟩] h)
 · clear H; obtain ⟨_, _, H, _⟩ := hS; rw [laws_heldBoolS.l0] at H; cases H
 clear H
 obtain ⟨x2_1, x2_5, H, rfl⟩ := hS
 rw [laws_heldBoolS.l0] at H
 refine gs (gs (rg (sv (EV.mv rfl) rfl (sv (EV.mv rfl) rfl (sv (EV.ln rfl) rfl (sv (EV.lss rfl rfl) rfl (re ?_)))))))
 revert H; refine ifsI ?_ ?_ <;> intro c1 H
 ·
  refine gt rfl (dT c1) (gk (gs (gb (gs (gs (rg (sv (EV.mv rfl) rfl (sv (EV.mv rfl) rfl ?_))))))))
  revert H; refine ggI ?_; intro g2 H
  refine sv (EV.ix 0 rfl rfl rfl g2 c1 rfl) rfl (sv (EV.le (v := .bool (rdOf false l0 x2_5)) x2_5 0 none 0 false rfl rfl rfl g2 c1 rfl rfl rfl) rfl (sv (EV.mv rfl) rfl (sv (EV.rem rfl rfl dq) rfl (sv (EV.eql rfl rfl) rfl (sv (EV.neb rfl rfl) rfl (re (pr [0, 1, 5, 19] [] [0] rfl rfl rfl rfl ?_)))))))
  revert H; refine ifsI ?_ ?_ <;> intro c3 H
  ·
   exact gf rfl (bN c3) (gk (rg (sv (EV.mv rfl) rfl (sv (EV.add rfl rfl) rfl (sv (EV.as rfl) rfl (re (ge (rg (sv (EV.mv rfl) rfl (sv (EV.add rfl rfl) rfl (sv (EV.as rfl) rfl (re (wk [0, 1, 5] [] [⟨0, 0, 0, false⟩] (ih0 _ (by omega) _ ⟨wrap64 (x2_1 + 1), wrap64 (x2_5 + 1), H, rfl⟩))))))))))))))
  ·
   refine gt rfl (bM c3) (gs (rg (sv (EV.as rfl) rfl (re ?_))))
   cases H
   exact rt Try.func80 rfl (.tmp rfl .nil) rfl [] [] rfl rfl rfl rfl rfl ⟨rfl, rfl, rfl⟩
 ·
  refine gf rfl (dF c1) (gx rfl (gs (rg (sv (EV.mv rfl) rfl (sv (EV.as rfl) rfl (re (pr [4] [] [] rfl rfl rfl rfl ?_)))))))
  cases H
  exact rt Try.func80 rfl (.tmp rfl .nil) rfl [] [] rfl rfl rfl rfl rfl ⟨rfl, rfl, rfl⟩
end Go.Proofs.Ytnllplklggoabaa.K
namespace Go.Proofs.Ytnllplklggoabaa.K
open Go Go.RowKit
set_option linter.unusedVariables false
set_option linter.unusedSimpArgs false
def laws_heldTaskS.l0 : Nat → Int → Int → (List S37) → Option (Int)
 | 0, _, _, _ => none
 | k + 1, x2_1, x2_5, l0 => if x2_5 < (l0.length : Int) then (if 0 ≤ x2_5 then (if ((rd_T37 l0 x2_5).f0) = x2_1 then ((laws_heldRowS.f k ((rd_T37 l0 x2_5).f1) (wrap64 (x2_1 + 1))).bind fun t7 => (if t7 < 0 then (some (-1)) else ((laws_heldRowS.f k ((rd_T37 l0 x2_5).f2) t7).bind fun t12 => (if t12 < 0 then (some (-1)) else ((laws_heldBoolS.f k ((rd_T37 l0 x2_5).f3) t12).bind fun t17 => (if t17 < 0 then (some (-1)) else (if ((rd_T37 l0 x2_5).f4) = t17 then (laws_heldTaskS.l0 k (wrap64 (t17 + 1)) (wrap64 (x2_5 + 1)) l0) else (some (-1))))))))) else (some (-1))) else none) else (some x2_1)
def laws_heldTaskS.f (k : Nat) (l0 : List S37) (a1 : Int) : Option (Int) := laws_heldTaskS.l0 k a1 0 l0
set_option maxHeartbeats 4000000 in
set_option maxRecDepth 100000 in
theorem laws_heldTaskS.ok (k : Nat) (l0 : List S37) (Al0 : Option Addr) (cl0 : Nat) (a1 : Int) (r0 : Int) (H : laws_heldTaskS.f k l0 a1 = some r0) : Fn Try.prog 82 [.slice Al0 l0.length cl0, .int .i64 a1] [] [.sl 0 k37 Al0 cl0 l0 0 false] (fun v bx en => v = .int .i64 r0 ∧ bx = [] ∧ en = []) := by
 refine fn_ 58 Try.func82 rfl rfl rfl (fun base T w0 => ?_)
 rw [laws_heldTaskS.f] at H
 refine gs (rg (sv (EV.as rfl) rfl (re (gs (gs (rg (sv (EV.as rfl) rfl (re (gb ?_)))))))))
 refine lo (fun kk S => ∃ (x2_1 : Int) (x2_5 : Int), laws_heldTaskS.l0 kk x2_1 x2_5 l0 = some r0 ∧ S = ⟨[(0, .slice Al0 l0.length cl0), (1, .int .i64 x2_1), (5, .int .i64 x2_5)], [], [.sl 0 k37 Al0 cl0 l0 0 false]⟩) (fun S hS => ?_) (fun n0 ih0 S hS => ?_) ⟨a1, 0, H, rfl⟩ (fun h => wk [0, 1, 5] [] [⟨0, 0, 0, false⟩] h)
 · clear H; obtain ⟨_, _, H, _⟩ := hS; rw [laws_heldTaskS.l0] at H; cases H
 clear H
 obtain ⟨x2_1, x2_5, H, rfl⟩ := hS
 rw [laws_heldTaskS.l0] at H
 refine gs (gs (rg (sv (EV.mv rfl) rfl (sv (EV.mv rfl) rfl (sv (EV.ln rfl) rfl (sv (EV.lss rfl rfl) rfl (re ?_)))))))
 revert H; refine ifsI ?_ ?_ <;> intro c1 H
 ·
  refine gt rfl (dT c1) (gk (gs (gb (gs (gs (rg (sv (EV.mv rfl) rfl (sv (EV.mv rfl) rfl ?_))))))))
  revert H; refine ggI ?_; intro g2 H
  refine sv (EV.ix 0 rfl rfl rfl g2 c1 rfl) rfl (sv (EV.fa 0 rfl) rfl (sv (EV.lf (v := .int .i64 ((rd_T37 l0 x2_5).f0)) x2_5 0 none 0 z37 rfl rfl rfl g2 c1 rfl (fun _ _ _ _ _ _ => rfl)) rfl (sv (EV.mv rfl) rfl (sv (EV.neq rfl rfl) rfl (re (pr [0, 1, 5, 18] [] [0] rfl rfl rfl rfl ?_))))))
  revert H; refine ifsI ?_ ?_ <;> intro c3 H
  ·
   refine gf rfl (nF c3) (gk (gs (rg (sv (EV.mv rfl) rfl (sv (EV.add rfl rfl) rfl (sv (EV.as rfl) rfl (re (gs (rg (sv (EV.mv rfl) rfl (sv (EV.mv rfl) rfl (sv (EV.ix 0 rfl rfl rfl g2 c1 rfl) rfl (sv (EV.fa 1 rfl) rfl (opn (i := x2_5) 0 z37 rfl g2 c1 fun A_4 c_4 A_5 c_5 A_6 c_6 => (sv (EV.lc (v := .slice A_4 ((rd_T37 l0 x2_5).f1).length c_4) 1 none 1 rfl rfl rfl rfl) rfl (sv (EV.mv rfl) rfl ?_))))))))))))))))
   revert H; refine bdI ?_; rintro t7 A7 H
   refine so rfl (op_call (laws_heldRowS.ok n0 ((rd_T37 l0 x2_5).f1) A_4 c_4 (wrap64 (x2_1 + 1)) _ A7) [⟨2, 0, 0, false⟩] 1 rfl rfl rfl rfl rfl ?_)
   rintro _ _ _ ⟨rfl, rfl, rfl⟩
   refine sv (EV.as rfl) rfl (re (pr [0, 1, 5] [] [0] rfl rfl rfl rfl (gs (gs (rg (sv (EV.mv rfl) rfl (sv (EV.lss rfl rfl) rfl (re ?_))))))))
   revert H; refine ifsI ?_ ?_ <;> intro c8 H
   ·
    refine gt rfl (dT c8) (gs (rg (sv (EV.as rfl) rfl (re ?_))))
    cases H
    exact rt Try.func82 rfl (.tmp rfl .nil) rfl [] [] rfl rfl rfl rfl rfl ⟨rfl, rfl, rfl⟩
   ·
    refine gf rfl (dF c8) (gk (gs (rg (sv (EV.mv rfl) rfl (sv (EV.mv rfl) rfl (sv (EV.ix 0 rfl rfl rfl g2 c1 rfl) rfl (sv (EV.fa 2 rfl) rfl (opn (i := x2_5) 0 z37 rfl g2 c1 fun A_9 c_9 A_10 c_10 A_11 c_11 => (sv (EV.lc (v := .slice A_10 ((rd_T37 l0 x2_5).f2).length c_10) 2 none 1 rfl rfl rfl rfl) rfl (sv (EV.mv rfl) rfl ?_))))))))))
    revert H; refine bdI ?_; rintro t12 A12 H
    refine so rfl (op_call (laws_heldRowS.ok n0 ((rd_T37 l0 x2_5).f2) A_10 c_10 t7 _ A12) [⟨3, 0, 0, false⟩] 1 rfl rfl rfl rfl rfl ?_)
    rintro _ _ _ ⟨rfl, rfl, rfl⟩
    refine sv (EV.as rfl) rfl (re (pr [0, 1, 5] [] [0] rfl rfl rfl rfl (gs (gs (rg (sv (EV.mv rfl) rfl (sv (EV.lss rfl rfl) rfl (re ?_))))))))
    revert H; refine ifsI ?_ ?_ <;> intro c13 H
    ·
     refine gt rfl (dT c13) (gs (rg (sv (EV.as rfl) rfl (re ?_))))
     cases H
     exact rt Try.func82 rfl (.tmp rfl .nil) rfl [] [] rfl rfl rfl rfl rfl ⟨rfl, rfl, rfl⟩
    ·
     refine gf rfl (dF c13) (gk (gs (rg (sv (EV.mv rfl) rfl (sv (EV.mv rfl) rfl (sv (EV.ix 0 rfl rfl rfl g2 c1 rfl) rfl (sv (EV.fa 3 rfl) rfl (opn (i := x2_5) 0 z37 rfl g2 c1 fun A_14 c_14 A_15 c_15 A_16 c_16 => (sv (EV.lc (v := .slice A_16 ((rd_T37 l0 x2_5).f3).length c_16) 3 none 1 rfl rfl rfl rfl) rfl (sv (EV.mv rfl) rfl ?_))))))))))
     revert H; refine bdI ?_; rintro t17 A17 H
     refine so rfl (op_call (laws_heldBoolS.ok n0 ((rd_T37 l0 x2_5).f3) A_16 c_16 t12 _ A17) [⟨4, 0, 0, false⟩] 1 rfl rfl rfl rfl rfl ?_)
     rintro _ _ _ ⟨rfl, rfl, rfl⟩
     refine sv (EV.as rfl) rfl (re (pr [0, 1, 5] [] [0] rfl rfl rfl rfl (gs (gs (rg (sv (EV.mv rfl) rfl (sv (EV.lss rfl rfl) rfl (re ?_))))))))
     revert H; refine ifsI ?_ ?_ <;> intro c18 H
     ·
      refine gt rfl (dT c18) (gs (rg (sv (EV.as rfl) rfl (re ?_))))
      cases H
      exact rt Try.func82 rfl (.tmp rfl .nil) rfl [] [] rfl rfl rfl rfl rfl ⟨rfl, rfl, rfl⟩
     ·
      refine gf rfl (dF c18) (gk (gs (gs (rg (sv (EV.mv rfl) rfl (sv (EV.mv rfl) rfl (sv (EV.ix 0 rfl rfl rfl g2 c1 rfl) rfl (sv (EV.fa 4 rfl) rfl (sv (EV.lf (v := .int .i64 ((rd_T37 l0 x2_5).f4)) x2_5 4 none 0 z37 rfl rfl rfl g2 c1 rfl (fun _ _ _ _ _ _ => rfl)) rfl (sv (EV.mv rfl) rfl (sv (EV.neq rfl rfl) rfl (re (pr [0, 1, 5, 54] [] [0] rfl rfl rfl rfl ?_)))))))))))))
      revert H; refine ifsI ?_ ?_ <;> intro c19 H
      ·
       exact gf rfl (nF c19) (gk (rg (sv (EV.mv rfl) rfl (sv (EV.add rfl rfl) rfl (sv (EV.as rfl) rfl (re (ge (rg (sv (EV.mv rfl) rfl (sv (EV.add rfl rfl) rfl (sv (EV.as rfl) rfl (re (wk [0, 1, 5] [] [⟨0, 0, 0, false⟩] (ih0 _ (by omega) _ ⟨wrap64 (t17 + 1), wrap64 (x2_5 + 1), H, rfl⟩))))))))))))))
      ·
       refine gt rfl (nT c19) (gs (rg (sv (EV.as rfl) rfl (re ?_))))
       cases H
       exact rt Try.func82 rfl (.tmp rfl .nil) rfl [] [] rfl rfl rfl rfl rfl ⟨rfl, rfl, rfl⟩
  ·
   refine gt rfl (nT c3) (gs (rg (sv (EV.as rfl) rfl (re ?_))))
   cases H
   exact rt Try.func82 rfl (.tmp rfl .nil) rfl [] [] rfl rfl rfl rfl rfl ⟨rfl, rfl, rfl⟩
 ·
  refine gf rfl (dF c1) (gx rfl (gs (rg (sv (EV.mv rfl) rfl (sv (EV.as rfl) rfl (re (pr [4] [] [] rfl rfl rfl rfl ?_)))))))
  cases H
  exact rt Try.func82 rfl (.tmp rfl .nil) rfl [] [] rfl rfl rfl rfl rfl ⟨rfl, rfl, rfl⟩
end Go.Proofs.Ytnllplklggoabaa.K
namespace Go.Proofs.Ytnllplklggoabaa.K
open Go Go.RowKit
set_option linter.unusedVariables false
set_option linter.unusedSimpArgs false
def laws_heldJoiner.f (k : Nat) (l0_0 : List S37) (a0_1 : Int) (a0_2 : Int) (a1 : Int) : Option (Int) := (laws_heldTaskS.f k l0_0 a1).bind fun t1 => (if t1 < 0 then (some (-1)) else (some t1))
set_option maxHeartbeats 4000000 in
set_option maxRecDepth 100000 in
theorem laws_heldJoiner.ok (k : Nat) (l0_0 : List S37) (Al0_0 : Option Addr) (cl0_0 : Nat) (a0_1 : Int) (a0_2 : Int) (a1 : Int) (r0 : Int) (H : laws_heldJoiner.f k l0_0 a0_1 a0_2 a1 = some r0) : Fn Try.prog 41 [.agg #[.slice Al0_0 l0_0.length cl0_0, .int .i64 a0_1, .int .i64 a0_2], .int .i64 a1] [] [.sl 0 k37 Al0_0 cl0_0 l0_0 0 false] (fun v bx en => v = .int .i64 r0 ∧ bx = [] ∧ en = []) := by
 refine fn_ 12 Try.func41 rfl rfl rfl (fun base T w0 => ?_)
 rw [laws_heldJoiner.f] at H
 refine gs (rg (so rfl (op_box (cs := [.slice Al0_0 l0_0.length cl0_0, .int .i64 a0_1, .int .i64 a0_2]) rfl rfl rfl fun b2 => (sv (EV.as rfl) rfl (re (gs (rg (sv (EV.fa 0 rfl) rfl (sv (EV.ld 0 none rfl rfl rfl) rfl (sv (EV.mv rfl) rfl ?_))))))))))
 revert H; refine bdI ?_; rintro t1 A1 H
 refine so rfl (op_call (laws_heldTaskS.ok k l0_0 Al0_0 cl0_0 a1 _ A1) [⟨0, 0, 0, false⟩] 1 rfl rfl rfl rfl rfl ?_)
 rintro _ _ _ ⟨rfl, rfl, rfl⟩
 refine sv (EV.as rfl) rfl (re (pr [1] [] [] rfl rfl rfl rfl (gs (gs (rg (sv (EV.mv rfl) rfl (sv (EV.lss rfl rfl) rfl (re ?_))))))))
 revert H; refine ifsI ?_ ?_ <;> intro c2 H
 ·
  refine gt rfl (dT c2) (gs (rg (sv (EV.as rfl) rfl (re ?_))))
  cases H
  exact rt Try.func41 rfl (.tmp rfl .nil) rfl [] [] rfl rfl rfl rfl rfl ⟨rfl, rfl, rfl⟩
 ·
  refine gf rfl (dF c2) (gk (gs (rg (sv (EV.mv rfl) rfl (sv (EV.as rfl) rfl (re ?_))))))
  cases H
  exact rt Try.func41 rfl (.tmp rfl .nil) rfl [] [] rfl rfl rfl rfl rfl ⟨rfl, rfl, rfl⟩
end Go.Proofs.Ytnllplklggoabaa.K
namespace Go.Proofs.Ytnllplklggoabaa.K
open Go Go.RowKit
set_option linter.unusedVariables false
set_option linter.unusedSimpArgs false
def laws_FnExactParseJoiner.f (k : Nat) (a0 : ByteArray) : Option (Bool) := if (a0.size : Int) > 1048576 then (some true) else ((spec_ParseJoiner.f k a0).bind fun bt2 => ((impl_ParseJoiner.f k a0).bind fun bt3 => ((laws_eqJoiner.f k bt3.1 bt3.2.1 bt3.2.2.1 bt2.1 bt2.2.1 bt2.2.2.1).bind fun t4 => (if t4 = true then (if (bt3.2.2.2 == bt2.2.2.2) = true then ((laws_markJoiner.f k bt3.1 bt3.2.1 bt3.2.2.1 1).bind fun bt7 => ((laws_heldJoiner.f k bt7.2 bt3.2.1 bt3.2.2.1 1).bind fun t8 => (if t8 < 0 then (some false) else (if t8 = bt7.1 then ((impl_ParseJoiner.f k a0).bind fun bt11 => ((laws_eqJoiner.f k bt11.1 bt11.2.1 bt11.2.2.1 bt2.1 bt2.2.1 bt2.2.2.1).bind fun t12 => (if t12 = true then (if (bt11.2.2.2 == bt2.2.2.2) = true then ((laws_heldJoiner.f k bt7.2 bt3.2.1 bt3.2.2.1 1).bind fun t15 => (if t15 < 0 then (some false) else (if t15 = bt7.1 then (some true) else (some false)))) else (some false)) else (some false)))) else (some false))))) else (some false)) else (some false)))))
set_option maxHeartbeats 4000000 in
set_option maxRecDepth 100000 in
theorem laws_FnExactParseJoiner.ok (k : Nat) (a0 : ByteArray) (r0 : Bool) (H : laws_FnExactParseJoiner.f k a0 = some r0) : Fn Try.prog 9 [.string a0] [] [] (fun v bx en => v = .bool r0 ∧ bx = [] ∧ en = []) := by
 refine fn_ 66 Try.func9 rfl rfl rfl (fun base T w0 => ?_)
 rw [laws_FnExactParseJoiner.f] at H
 refine gs (rg (sv (EV.as rfl) rfl (re (gs (gs (rg (sv (EV.mv rfl) rfl (sv (EV.lns rfl) rfl (sv (EV.gtr rfl rfl) rfl (re ?_))))))))))
 revert H; refine ifsI ?_ ?_ <;> intro c1 H
 ·
  refine gt rfl (dT c1) (gs (rg (sv (EV.as rfl) rfl (re ?_))))
  cases H
  exact rt Try.func9 rfl (.tmp rfl .nil) rfl [] [] rfl rfl rfl rfl rfl ⟨rfl, rfl, rfl⟩
 ·
  refine gf rfl (dF c1) (gk (gs (rg (sv (EV.mv rfl) rfl ?_))))
  revert H; refine bdI ?_; rintro ⟨t2_0, t2_1, t2_2, t2_3⟩ A2 H
  refine so rfl (op_call (spec_ParseJoiner.ok k a0 _ _ _ _ A2) [] 1 rfl rfl rfl rfl rfl ?_)
  rintro _ _ _ ⟨At2_0, ct2_0, rfl, rfl, rfl⟩
  refine sv (EV.mv rfl) rfl (sv (EV.ex rfl rfl) rfl (sv (EV.ex rfl rfl) rfl (so rfl (op_alloc (cs := [.slice none 0 0, .int .i64 0, .int .i64 0]) (by kernel_rfl) rfl fun b3 => (so rfl (op_st (cs' := [.slice At2_0 t2_0.length ct2_0, .int .i64 t2_1, .int .i64 t2_2]) 0 rfl rfl rfl rfl rfl rfl (sv (EV.as rfl) rfl (re (pr [0, 3, 4] [0] [0] rfl rfl rfl rfl (gs (rg (sv (EV.mv rfl) rfl ?_))))))))))))
  revert H; refine bdI ?_; rintro ⟨t3_0, t3_1, t3_2, t3_3⟩ A3 H
  refine so rfl (op_call (impl_ParseJoiner.ok k a0 _ _ _ _ A3) [] 3 rfl rfl rfl rfl rfl ?_)
  rintro _ _ _ ⟨At3_0, ct3_0, rfl, rfl, rfl⟩
  refine sv (EV.mv rfl) rfl (sv (EV.ex rfl rfl) rfl (sv (EV.ex rfl rfl) rfl (so rfl (op_alloc (cs := [.slice none 0 0, .int .i64 0, .int .i64 0]) (by kernel_rfl) rfl fun b5 => (so rfl (op_st (cs' := [.slice At3_0 t3_0.length ct3_0, .int .i64 t3_1, .int .i64 t3_2]) 1 rfl rfl rfl rfl rfl rfl (sv (EV.as rfl) rfl (re (gs (gs (rg (sv (EV.ld (v := .agg #[.slice At3_0 t3_0.length ct3_0, .int .i64 t3_1, .int .i64 t3_2]) 1 (some 3) rfl rfl rfl) rfl (sv (EV.ld (v := .agg #[.slice At2_0 t2_0.length ct2_0, .int .i64 t2_1, .int .i64 t2_2]) 0 (some 3) rfl rfl rfl) rfl ?_)))))))))))))
  revert H; refine bdI ?_; rintro t4 A4 H
  refine so rfl (op_call (laws_eqJoiner.ok k t3_0 At3_0 ct3_0 t3_1 t3_2 t2_0 At2_0 ct2_0 t2_1 t2_2 _ A4) [⟨1, 0, 0, false⟩, ⟨0, 0, 0, false⟩] 5 rfl rfl rfl rfl rfl ?_)
  rintro _ _ _ ⟨rfl, rfl, rfl⟩
  refine sv (EV.nt rfl) rfl (sv (EV.mv rfl) rfl ?_)
  revert H; refine ifsI ?_ ?_ <;> intro c5 H
  ·
   subst c5
   refine ts 28 rfl rfl (sv (EV.mv rfl) rfl (sv (EV.mv rfl) rfl (sv (EV.neb rfl rfl) rfl (sv (EV.pf rfl rfl rfl) rfl (re (pr [0, 3, 4, 5, 32] [0, 1] [0, 1] rfl rfl rfl rfl ?_))))))
   revert H; refine ifsI ?_ ?_ <;> intro c6 H
   ·
    refine gf rfl (bN c6) (gk (gs (rg (sv (EV.as rfl) rfl (re (gs (rg (sv (EV.ld (v := .agg #[.slice At3_0 t3_0.length ct3_0, .int .i64 t3_1, .int .i64 t3_2]) 1 (some 3) rfl rfl rfl) rfl (sv (EV.mv rfl) rfl ?_)))))))))
    revert H; refine bdI ?_; rintro ⟨t7_0, t7_1⟩ A7 H
    refine so rfl (op_callM (laws_markJoiner.ok k t3_0 At3_0 ct3_0 t3_1 t3_2 1 _ _ A7) [⟨1, 1, 1, true⟩] [] [0, 1] 5 rfl rfl rfl rfl rfl rfl rfl rfl ?_)
    rintro _ _ _ ⟨rfl, rfl, rfl, q7_0⟩
    refine rlT 33 (v' := .agg #[.slice At3_0 t7_1.length ct3_0, .int .i64 t3_1, .int .i64 t3_2]) rfl (by simp only [q7_0]) (rlB 1 (cs' := [.slice At3_0 t7_1.length ct3_0, .int .i64 t3_1, .int .i64 t3_2]) rfl (by simp only [q7_0]) (nmE (en := [.sl 2 k37 At2_0 ct2_0 t2_0 2 true, .sl 1 k37 At3_0 ct3_0 t7_1 6 true]) (by kernel_rfl) (sv (EV.as rfl) rfl (re (gs (rg (sv (EV.as rfl) rfl (re (gs (rg (sv (EV.ld (v := .agg #[.slice At3_0 t7_1.length ct3_0, .int .i64 t3_1, .int .i64 t3_2]) 1 (some 3) rfl rfl rfl) rfl (sv (EV.mv rfl) rfl ?_))))))))))))
    revert H; refine bdI ?_; rintro t8 A8 H
    refine so rfl (op_call (laws_heldJoiner.ok k t7_1 At3_0 ct3_0 t3_1 t3_2 1 _ A8) [⟨1, 0, 0, false⟩] 7 rfl rfl rfl rfl rfl ?_)
    rintro _ _ _ ⟨rfl, rfl, rfl⟩
    refine sv (EV.as rfl) rfl (re (pr [0, 3, 4, 5, 7, 8] [0, 1] [0, 1] rfl rfl rfl rfl (gs (gs (rg (sv (EV.mv rfl) rfl (sv (EV.lss rfl rfl) rfl (re ?_))))))))
    revert H; refine ifsI ?_ ?_ <;> intro c9 H
    ·
     refine gt rfl (dT c9) (gs (rg (sv (EV.as rfl) rfl (re (pr [2] [] [] rfl rfl rfl rfl ?_)))))
     cases H
     exact rt Try.func9 rfl (.tmp rfl .nil) rfl [] [] rfl rfl rfl rfl rfl ⟨rfl, rfl, rfl⟩
    ·
     refine gf rfl (dF c9) (gk (gs (gs (rg (sv (EV.mv rfl) rfl (sv (EV.mv rfl) rfl (sv (EV.neq rfl rfl) rfl (re ?_))))))))
     revert H; refine ifsI ?_ ?_ <;> intro c10 H
     ·
      refine gf rfl (nF c10) (gk (gs (rg (sv (EV.mv rfl) rfl ?_))))
      revert H; refine bdI ?_; rintro ⟨t11_0, t11_1, t11_2, t11_3⟩ A11 H
      refine so rfl (op_call (impl_ParseJoiner.ok k a0 _ _ _ _ A11) [] 7 rfl rfl rfl rfl rfl ?_)
      rintro _ _ _ ⟨At11_0, ct11_0, rfl, rfl, rfl⟩
      refine sv (EV.mv rfl) rfl (sv (EV.ex rfl rfl) rfl (sv (EV.ex rfl rfl) rfl (so rfl (op_alloc (cs := [.slice none 0 0, .int .i64 0, .int .i64 0]) (by kernel_rfl) rfl fun b9 => (so rfl (op_st (cs' := [.slice At11_0 t11_0.length ct11_0, .int .i64 t11_1, .int .i64 t11_2]) 2 rfl rfl rfl rfl rfl rfl (sv (EV.as rfl) rfl (re (pr [3, 4, 5, 7, 9, 10] [0, 1, 2] [0, 1, 2] rfl rfl rfl rfl (gs (gs (rg (sv (EV.ld (v := .agg #[.slice At11_0 t11_0.length ct11_0, .int .i64 t11_1, .int .i64 t11_2]) 2 (some 3) rfl rfl rfl) rfl (sv (EV.ld (v := .agg #[.slice At2_0 t2_0.length ct2_0, .int .i64 t2_1, .int .i64 t2_2]) 0 (some 3) rfl rfl rfl) rfl ?_))))))))))))))
      revert H; refine bdI ?_; rintro t12 A12 H
      refine so rfl (op_call (laws_eqJoiner.ok k t11_0 At11_0 ct11_0 t11_1 t11_2 t2_0 At2_0 ct2_0 t2_1 t2_2 _ A12) [⟨2, 0, 0, false⟩, ⟨0, 0, 0, false⟩] 9 rfl rfl rfl rfl rfl ?_)
      rintro _ _ _ ⟨rfl, rfl, rfl⟩
      refine sv (EV.nt rfl) rfl (sv (EV.mv rfl) rfl ?_)
      revert H; refine ifsI ?_ ?_ <;> intro c13 H
      ·
       subst c13
       refine ts 53 rfl rfl (sv (EV.mv rfl) rfl (sv (EV.mv rfl) rfl (sv (EV.neb rfl rfl) rfl (sv (EV.pf rfl rfl rfl) rfl (re (pr [5, 7, 57] [1] [1] rfl rfl rfl rfl ?_))))))
       revert H; refine ifsI ?_ ?_ <;> intro c14 H
       ·
        refine gf rfl (bN c14) (gk (gs (rg (sv (EV.as rfl) rfl (re (gs (rg (sv (EV.ld (v := .agg #[.slice At3_0 t7_1.length ct3_0, .int .i64 t3_1, .int .i64 t3_2]) 0 (some 3) rfl rfl rfl) rfl (sv (EV.mv rfl) rfl ?_)))))))))
        revert H; refine bdI ?_; rintro t15 A15 H
        refine so rfl (op_call (laws_heldJoiner.ok k t7_1 At3_0 ct3_0 t3_1 t3_2 1 _ A15) [⟨0, 0, 0, false⟩] 7 rfl rfl rfl rfl rfl ?_)
        rintro _ _ _ ⟨rfl, rfl, rfl⟩
        refine sv (EV.as rfl) rfl (re (gs (gs (rg (sv (EV.mv rfl) rfl (sv (EV.lss rfl rfl) rfl (re (pr [7, 8, 62] [] [] rfl rfl rfl rfl ?_))))))))
        revert H; refine ifsI ?_ ?_ <;> intro c16 H
        ·
         refine gt rfl (dT c16) (gs (rg (sv (EV.as rfl) rfl (re ?_))))
         cases H
         exact rt Try.func9 rfl (.tmp rfl .nil) rfl [] [] rfl rfl rfl rfl rfl ⟨rfl, rfl, rfl⟩
        ·
         refine gf rfl (dF c16) (gk (gs (gs (rg (sv (EV.mv rfl) rfl (sv (EV.mv rfl) rfl (sv (EV.neq rfl rfl) rfl (re ?_))))))))
         revert H; refine ifsI ?_ ?_ <;> intro c17 H
         ·
          refine gf rfl (nF c17) (gk (gs (rg (sv (EV.as rfl) rfl (re (pr [2] [] [] rfl rfl rfl rfl ?_))))))
          cases H
          exact rt Try.func9 rfl (.tmp rfl .nil) rfl [] [] rfl rfl rfl rfl rfl ⟨rfl, rfl, rfl⟩
         ·
          refine gt rfl (nT c17) (gs (rg (sv (EV.as rfl) rfl (re (pr [2] [] [] rfl rfl rfl rfl ?_)))))
          cases H
          exact rt Try.func9 rfl (.tmp rfl .nil) rfl [] [] rfl rfl rfl rfl rfl ⟨rfl, rfl, rfl⟩
       ·
        refine gt rfl (bM c14) (gs (rg (sv (EV.as rfl) rfl (re ?_))))
        cases H
        exact rt Try.func9 rfl (.tmp rfl .nil) rfl [] [] rfl rfl rfl rfl rfl ⟨rfl, rfl, rfl⟩
      ·
       obtain rfl := bF c13
       refine ts 53 rfl rfl (sk rfl (sk rfl (sk rfl (sv (EV.pt rfl rfl rfl) rfl (re (pr [5, 7, 57] [1] [1] rfl rfl rfl rfl (gt rfl rfl (gs (rg (sv (EV.as rfl) rfl (re ?_)))))))))))
       cases H
       exact rt Try.func9 rfl (.tmp rfl .nil) rfl [] [] rfl rfl rfl rfl rfl ⟨rfl, rfl, rfl⟩
     ·
      refine gt rfl (nT c10) (gs (rg (sv (EV.as rfl) rfl (re (pr [2] [] [] rfl rfl rfl rfl ?_)))))
      cases H
      exact rt Try.func9 rfl (.tmp rfl .nil) rfl [] [] rfl rfl rfl rfl rfl ⟨rfl, rfl, rfl⟩
   ·
    refine gt rfl (bM c6) (gs (rg (sv (EV.as rfl) rfl (re ?_))))
    cases H
    exact rt Try.func9 rfl (.tmp rfl .nil) rfl [] [] rfl rfl rfl rfl rfl ⟨rfl, rfl, rfl⟩
  ·
   obtain rfl := bF c5
   refine ts 28 rfl rfl (sk rfl (sk rfl (sk rfl (sv (EV.pt rfl rfl rfl) rfl (re (pr [0, 3, 4, 5, 32] [0, 1] [0, 1] rfl rfl rfl rfl (gt rfl rfl (gs (rg (sv (EV.as rfl) rfl (re ?_)))))))))))
   cases H
   exact rt Try.func9 rfl (.tmp rfl .nil) rfl [] [] rfl rfl rfl rfl rfl ⟨rfl, rfl, rfl⟩
end Go.Proofs.Ytnllplklggoabaa.K
