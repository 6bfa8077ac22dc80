/- Walks: what the functions compute. Printed by gen.py; no condition. -/
import Derived.Test.YtnadolmpaeenpaaVFnExactParseSortera
namespace Go.Proofs.Ytnadolmpaeenpaa.K
open Go Go.RowKit
set_option linter.unusedVariables false
set_option linter.unusedSimpArgs false
mutual
def spec_ParseSorter.j0 : Nat → ByteArray → (List ByteArray) → (List S72) → Int → (List S72) → (List S72) → (List S72) → (List S57) → Int → Int → Int → Int → (List S72) → Int → (List S72) → (List S72) → (List S72) → (List S57) → Int → Int → Int → Int → Option ((List S72) × Int × (List S72) × (List S72) × (List S72) × (List S57) × Int × Int × Int × Int × Bool)
 | 0, _, _, _, _, _, _, _, _, _, _, _, _, _, _, _, _, _, _, _, _, _, _ => none
 | k + 1, x2_0, x2_4, x2_2_0, x2_2_1, x2_2_2, x2_2_3, x2_2_4, x2_2_5, x2_2_6, x2_2_7, x2_2_8, x2_2_9, x2_5_0, x2_5_1, x2_5_2, x2_5_3, x2_5_4, x2_5_5, x2_5_6, x2_5_7, x2_5_8, x2_5_9 => if 6 < (x2_4.length : Int) then ((spec_ParseInt.f k (rdOf ByteArray.empty x2_4 6)).bind fun bt17 => (if 7 < (x2_4.length : Int) then ((spec_ParseInt.f k (rdOf ByteArray.empty x2_4 7)).bind fun bt19 => (if 8 < (x2_4.length : Int) then ((spec_ParseInt.f k (rdOf ByteArray.empty x2_4 8)).bind fun bt21 => (if 9 < (x2_4.length : Int) then ((spec_ParseInt.f k (rdOf ByteArray.empty x2_4 9)).bind fun bt23 => ((spec_FormatSorter.f k x2_5_0 x2_5_1 x2_5_2 x2_5_3 x2_5_4 x2_5_5 bt17.1 bt19.1 bt21.1 bt23.1).bind fun t24 => (if t24.toList = x2_0.toList then (some (x2_5_0, x2_5_1, x2_5_2, x2_5_3, x2_5_4, x2_5_5, bt17.1, bt19.1, bt21.1, bt23.1, true)) else (some ([], 0, [], [], [], [], 0, 0, 0, 0, false))))) else none)) else none)) else none)) else none
def spec_ParseSorter.l0 : Nat → ByteArray → (List ByteArray) → (List ByteArray) → Int → (List S72) → Int → (List S72) → (List S72) → (List S72) → (List S57) → Int → Int → Int → Int → (List S72) → Int → (List S72) → (List S72) → (List S72) → (List S57) → Int → Int → Int → Int → Option ((List S72) × Int × (List S72) × (List S72) × (List S72) × (List S57) × Int × Int × Int × Int × Bool)
 | 0, _, _, _, _, _, _, _, _, _, _, _, _, _, _, _, _, _, _, _, _, _, _, _, _ => none
 | k + 1, x3_0, x3_4, x3_6, x3_7, x3_2_0, x3_2_1, x3_2_2, x3_2_3, x3_2_4, x3_2_5, x3_2_6, x3_2_7, x3_2_8, x3_2_9, x3_5_0, x3_5_1, x3_5_2, x3_5_3, x3_5_4, x3_5_5, x3_5_6, x3_5_7, x3_5_8, x3_5_9 => if x3_7 < (x3_6.length : Int) then (if 5 < (x3_4.length : Int) then (if (rdOf ByteArray.empty x3_4 5).toList = (⟨#[]⟩ : ByteArray).toList then (spec_ParseSorter.j0 k x3_0 x3_4 x3_2_0 x3_2_1 x3_2_2 x3_2_3 x3_2_4 x3_2_5 x3_2_6 x3_2_7 x3_2_8 x3_2_9 x3_5_0 x3_5_1 x3_5_2 x3_5_3 x3_5_4 x3_5_5 x3_5_6 x3_5_7 x3_5_8 x3_5_9) else (if 0 ≤ x3_7 then ((spec_ParseRows.f k (rdOf ByteArray.empty x3_6 x3_7)).bind fun bt30 => (if x3_5_5.length < 5864062014805 then (spec_ParseSorter.l0 k x3_0 x3_4 x3_6 (wrap64 (x3_7 + 1)) x3_2_0 x3_2_1 x3_2_2 x3_2_3 x3_2_4 x3_2_5 x3_2_6 x3_2_7 x3_2_8 x3_2_9 x3_5_0 x3_5_1 x3_5_2 x3_5_3 x3_5_4 (x3_5_5 ++ ([(⟨bt30.1⟩ : S57)] : List S57)) x3_5_6 x3_5_7 x3_5_8 x3_5_9) else none)) else none)) else none) else (spec_ParseSorter.j0 k x3_0 x3_4 x3_2_0 x3_2_1 x3_2_2 x3_2_3 x3_2_4 x3_2_5 x3_2_6 x3_2_7 x3_2_8 x3_2_9 x3_5_0 x3_5_1 x3_5_2 x3_5_3 x3_5_4 x3_5_5 x3_5_6 x3_5_7 x3_5_8 x3_5_9)
end
def spec_ParseSorter.f (k : Nat) (a0 : ByteArray) : Option ((List S72) × Int × (List S72) × (List S72) × (List S72) × (List S57) × Int × Int × Int × Int × Bool) := (spec_l2Cut.f k a0 47).bind fun t1 => (if (t1.length : Int) = 10 then (if 0 < (t1.length : Int) then ((spec_ParseRows.f k (rdOf ByteArray.empty t1 0)).bind fun bt4 => (if 1 < (t1.length : Int) then ((spec_ParseInt.f k (rdOf ByteArray.empty t1 1)).bind fun bt6 => (if 2 < (t1.length : Int) then ((spec_ParseRows.f k (rdOf ByteArray.empty t1 2)).bind fun bt8 => (if 3 < (t1.length : Int) then ((spec_ParseRows.f k (rdOf ByteArray.empty t1 3)).bind fun bt10 => (if 4 < (t1.length : Int) then ((spec_ParseRows.f k (rdOf ByteArray.empty t1 4)).bind fun bt12 => (if 5 < (t1.length : Int) then ((spec_l2Cut.f k (rdOf ByteArray.empty t1 5) 124).bind fun t14 => (spec_ParseSorter.l0 k a0 t1 t14 0 [] 0 [] [] [] [] 0 0 0 0 bt4.1 bt6.1 bt8.1 bt10.1 bt12.1 [] 0 0 0 0)) else none)) else none)) else none)) else none)) else none)) else none) else (some ([], 0, [], [], [], [], 0, 0, 0, 0, false)))
set_option maxHeartbeats 4000000 in
set_option maxRecDepth 100000 in
theorem spec_ParseSorter.ok (k : Nat) (a0 : ByteArray) (r0 : List S72) (r1 : Int) (r2 : List S72) (r3 : List S72) (r4 : List S72) (r5 : List S57) (r6 : Int) (r7 : Int) (r8 : Int) (r9 : Int) (r10 : Bool) (H : spec_ParseSorter.f k a0 = some (r0, r1, r2, r3, r4, r5, r6, r7, r8, r9, r10)) : Fn Try.prog 10 [.string a0] [] [] (fun v bx en => ∃ A0 c0 A2 c2 A3 c3 A4 c4 A5 c5, v = .tuple #[.agg #[.slice A0 r0.length c0, .int .i64 r1, .slice A2 r2.length c2, .slice A3 r3.length c3, .slice A4 r4.length c4, .slice A5 r5.length c5, .int .i64 r6, .int .i64 r7, .int .i64 r8, .int .i64 r9], .bool r10] ∧ bx = [] ∧ en = [.sl 2 k72 A0 c0 r0 1 true, .sl 2 k72 A2 c2 r2 2 true, .sl 2 k72 A3 c3 r3 3 true, .sl 2 k72 A4 c4 r4 4 true, .sl 2 k57 A5 c5 r5 5 true]) := by
 refine fn_ 126 Try.func10 rfl rfl rfl (fun base T w0 => ?_)
 rw [spec_ParseSorter.f] at H
 refine gs (rg (so rfl (op_alloc (cs := [.slice none 0 0, .int .i64 0, .slice none 0 0, .slice none 0 0, .slice none 0 0, .slice none 0 0, .int .i64 0, .int .i64 0, .int .i64 0, .int .i64 0]) (by kernel_rfl) rfl fun b2 => (sv (EV.as rfl) rfl (re (gs (rg (sv (EV.mv rfl) rfl ?_))))))))
 revert H; refine bdI ?_; rintro t1 A1 H
 refine so rfl (op_call (spec_l2Cut.ok k a0 47 _ A1) [] 1 rfl rfl rfl rfl rfl ?_)
 rintro _ _ _ ⟨At1, ct1, rfl, rfl, rfl⟩
 refine sv (EV.as rfl) rfl (re (gs (gs (rg (sv (EV.mv rfl) rfl (sv (EV.ln rfl) rfl (sv (EV.neq rfl rfl) rfl (re ?_))))))))
 revert H; refine ifsI ?_ ?_ <;> intro c2 H
 ·
  refine gf rfl (nF c2) (gk (gs (rg (sv (EV.bd (v := .agg #[.slice none 0 0, .int .i64 0, .slice none 0 0, .slice none 0 0, .slice none 0 0, .slice none 0 0, .int .i64 0, .int .i64 0, .int .i64 0, .int .i64 0]) rfl (by kernel_rfl)) rfl (so rfl (op_alloc (cs := [.slice none 0 0, .int .i64 0, .slice none 0 0, .slice none 0 0, .slice none 0 0, .slice none 0 0, .int .i64 0, .int .i64 0, .int .i64 0, .int .i64 0]) (by kernel_rfl) rfl fun b5 => (so rfl (op_st (cs' := [.slice none 0 0, .int .i64 0, .slice none 0 0, .slice none 0 0, .slice none 0 0, .slice none 0 0, .int .i64 0, .int .i64 0, .int .i64 0, .int .i64 0]) 1 rfl rfl rfl rfl rfl rfl (re (pr [0, 2, 4, 5] [0, 1] [0] rfl rfl rfl rfl (gs (rg (sv (EV.mv rfl) rfl ?_)))))))))))))
  revert H; refine ggI ?_; intro g3 H
  refine sv (EV.ix 0 rfl rfl rfl dq g3 rfl) rfl (sv (EV.le (v := .string (rdOf ByteArray.empty t1 0)) 0 0 none 0 ByteArray.empty rfl rfl rfl dq g3 rfl rfl rfl) rfl ?_)
  revert H; refine bdI ?_; rintro ⟨t4_0, t4_1⟩ A4 H
  refine so rfl (op_call (spec_ParseRows.ok k (rdOf ByteArray.empty t1 0) _ _ A4) [] 3 rfl rfl rfl rfl rfl ?_)
  rintro _ _ _ ⟨At4_0, ct4_0, rfl, rfl, rfl⟩
  refine sv (EV.mv rfl) rfl (sv (EV.ex rfl rfl) rfl (sv (EV.ex rfl rfl) rfl (sv (EV.fa 0 rfl) rfl (so rfl (op_st (cs' := [.slice At4_0 t4_0.length ct4_0, .int .i64 0, .slice none 0 0, .slice none 0 0, .slice none 0 0, .slice none 0 0, .int .i64 0, .int .i64 0, .int .i64 0, .int .i64 0]) 1 rfl rfl rfl rfl rfl rfl (re (pr [0, 2, 4, 5] [0, 1] [0, 1] rfl rfl rfl rfl (gs (rg (sv (EV.mv rfl) rfl ?_))))))))))
  revert H; refine ggI ?_; intro g5 H
  refine sv (EV.ix 0 rfl rfl rfl dq g5 rfl) rfl (sv (EV.le (v := .string (rdOf ByteArray.empty t1 1)) 1 0 none 0 ByteArray.empty rfl rfl rfl dq g5 rfl rfl rfl) rfl ?_)
  revert H; refine bdI ?_; rintro ⟨t6_0, t6_1⟩ A6 H
  refine so rfl (op_call (spec_ParseInt.ok k (rdOf ByteArray.empty t1 1) _ _ A6) [] 5 rfl rfl rfl rfl rfl ?_)
  rintro _ _ _ ⟨rfl, rfl, rfl⟩
  refine sv (EV.mv rfl) rfl (sv (EV.ex rfl rfl) rfl (sv (EV.ex rfl rfl) rfl (sv (EV.fa 1 rfl) rfl (so rfl (op_st (cs' := [.slice At4_0 t4_0.length ct4_0, .int .i64 t6_0, .slice none 0 0, .slice none 0 0, .slice none 0 0, .slice none 0 0, .int .i64 0, .int .i64 0, .int .i64 0, .int .i64 0]) 1 rfl rfl rfl rfl rfl rfl (re (pr [0, 2, 4, 5] [0, 1] [0, 1] rfl rfl rfl rfl (gs (rg (sv (EV.mv rfl) rfl ?_))))))))))
  revert H; refine ggI ?_; intro g7 H
  refine sv (EV.ix 0 rfl rfl rfl dq g7 rfl) rfl (sv (EV.le (v := .string (rdOf ByteArray.empty t1 2)) 2 0 none 0 ByteArray.empty rfl rfl rfl dq g7 rfl rfl rfl) rfl ?_)
  revert H; refine bdI ?_; rintro ⟨t8_0, t8_1⟩ A8 H
  refine so rfl (op_call (spec_ParseRows.ok k (rdOf ByteArray.empty t1 2) _ _ A8) [] 5 rfl rfl rfl rfl rfl ?_)
  rintro _ _ _ ⟨At8_0, ct8_0, rfl, rfl, rfl⟩
  refine sv (EV.mv rfl) rfl (sv (EV.ex rfl rfl) rfl (sv (EV.ex rfl rfl) rfl (sv (EV.fa 2 rfl) rfl (so rfl (op_st (cs' := [.slice At4_0 t4_0.length ct4_0, .int .i64 t6_0, .slice At8_0 t8_0.length ct8_0, .slice none 0 0, .slice none 0 0, .slice none 0 0, .int .i64 0, .int .i64 0, .int .i64 0, .int .i64 0]) 1 rfl rfl rfl rfl rfl rfl (re (pr [0, 2, 4, 5] [0, 1] [0, 1, 2] rfl rfl rfl rfl (gs (rg (sv (EV.mv rfl) rfl ?_))))))))))
  revert H; refine ggI ?_; intro g9 H
  refine sv (EV.ix 0 rfl rfl rfl dq g9 rfl) rfl (sv (EV.le (v := .string (rdOf ByteArray.empty t1 3)) 3 0 none 0 ByteArray.empty rfl rfl rfl dq g9 rfl rfl rfl) rfl ?_)
  revert H; refine bdI ?_; rintro ⟨t10_0, t10_1⟩ A10 H
  refine so rfl (op_call (spec_ParseRows.ok k (rdOf ByteArray.empty t1 3) _ _ A10) [] 7 rfl rfl rfl rfl rfl ?_)
  rintro _ _ _ ⟨At10_0, ct10_0, rfl, rfl, rfl⟩
  refine sv (EV.mv rfl) rfl (sv (EV.ex rfl rfl) rfl (sv (EV.ex rfl rfl) rfl (sv (EV.fa 3 rfl) rfl (so rfl (op_st (cs' := [.slice At4_0 t4_0.length ct4_0, .int .i64 t6_0, .slice At8_0 t8_0.length ct8_0, .slice At10_0 t10_0.length ct10_0, .slice none 0 0, .slice none 0 0, .int .i64 0, .int .i64 0, .int .i64 0, .int .i64 0]) 1 rfl rfl rfl rfl rfl rfl (re (pr [0, 2, 4, 5] [0, 1] [0, 1, 2, 3] rfl rfl rfl rfl (gs (rg (sv (EV.mv rfl) rfl ?_))))))))))
  revert H; refine ggI ?_; intro g11 H
  refine sv (EV.ix 0 rfl rfl rfl dq g11 rfl) rfl (sv (EV.le (v := .string (rdOf ByteArray.empty t1 4)) 4 0 none 0 ByteArray.empty rfl rfl rfl dq g11 rfl rfl rfl) rfl ?_)
  revert H; refine bdI ?_; rintro ⟨t12_0, t12_1⟩ A12 H
  refine so rfl (op_call (spec_ParseRows.ok k (rdOf ByteArray.empty t1 4) _ _ A12) [] 9 rfl rfl rfl rfl rfl ?_)
  rintro _ _ _ ⟨At12_0, ct12_0, rfl, rfl, rfl⟩
  refine sv (EV.mv rfl) rfl (sv (EV.ex rfl rfl) rfl (sv (EV.ex rfl rfl) rfl (sv (EV.fa 4 rfl) rfl (so rfl (op_st (cs' := [.slice At4_0 t4_0.length ct4_0, .int .i64 t6_0, .slice At8_0 t8_0.length ct8_0, .slice At10_0 t10_0.length ct10_0, .slice At12_0 t12_0.length ct12_0, .slice none 0 0, .int .i64 0, .int .i64 0, .int .i64 0, .int .i64 0]) 1 rfl rfl rfl rfl rfl rfl (re (pr [0, 2, 4, 5] [0, 1] [0, 1, 2, 3, 4] rfl rfl rfl rfl (gs (rg (sv (EV.mv rfl) rfl ?_))))))))))
  revert H; refine ggI ?_; intro g13 H
  refine sv (EV.ix 0 rfl rfl rfl dq g13 rfl) rfl (sv (EV.le (v := .string (rdOf ByteArray.empty t1 5)) 5 0 none 0 ByteArray.empty rfl rfl rfl dq g13 rfl rfl rfl) rfl ?_)
  revert H; refine bdI ?_; rintro t14 A14 H
  refine so rfl (op_call (spec_l2Cut.ok k (rdOf ByteArray.empty t1 5) 124 _ A14) [] 11 rfl rfl rfl rfl rfl ?_)
  rintro _ _ _ ⟨At14, ct14, rfl, rfl, rfl⟩
  refine sv (EV.as rfl) rfl (re ?_)
  refine jo (fun S => ∃ (m : Nat) (x2_0 : ByteArray) (x2_4 : List ByteArray) (Ax2_4 : Option Addr) (cx2_4 : Nat) (x2_2_0 : List S72) (Ax2_2_0 : Option Addr) (cx2_2_0 : Nat) (x2_2_1 : Int) (x2_2_2 : List S72) (Ax2_2_2 : Option Addr) (cx2_2_2 : Nat) (x2_2_3 : List S72) (Ax2_2_3 : Option Addr) (cx2_2_3 : Nat) (x2_2_4 : List S72) (Ax2_2_4 : Option Addr) (cx2_2_4 : Nat) (x2_2_5 : List S57) (Ax2_2_5 : Option Addr) (cx2_2_5 : Nat) (x2_2_6 : Int) (x2_2_7 : Int) (x2_2_8 : Int) (x2_2_9 : Int) (x2_5_0 : List S72) (Ax2_5_0 : Option Addr) (cx2_5_0 : Nat) (x2_5_1 : Int) (x2_5_2 : List S72) (Ax2_5_2 : Option Addr) (cx2_5_2 : Nat) (x2_5_3 : List S72) (Ax2_5_3 : Option Addr) (cx2_5_3 : Nat) (x2_5_4 : List S72) (Ax2_5_4 : Option Addr) (cx2_5_4 : Nat) (x2_5_5 : List S57) (Ax2_5_5 : Option Addr) (cx2_5_5 : Nat) (x2_5_6 : Int) (x2_5_7 : Int) (x2_5_8 : Int) (x2_5_9 : Int), spec_ParseSorter.j0 m x2_0 x2_4 x2_2_0 x2_2_1 x2_2_2 x2_2_3 x2_2_4 x2_2_5 x2_2_6 x2_2_7 x2_2_8 x2_2_9 x2_5_0 x2_5_1 x2_5_2 x2_5_3 x2_5_4 x2_5_5 x2_5_6 x2_5_7 x2_5_8 x2_5_9 = some (r0, r1, r2, r3, r4, r5, r6, r7, r8, r9, r10) ∧ S = ⟨[(0, .string x2_0), (2, .pointer (some ⟨b2, 0, none⟩)), (4, .slice Ax2_4 x2_4.length cx2_4), (5, .pointer (some ⟨b5, 0, none⟩))], [⟨b2, 31, [.slice Ax2_2_0 x2_2_0.length cx2_2_0, .int .i64 x2_2_1, .slice Ax2_2_2 x2_2_2.length cx2_2_2, .slice Ax2_2_3 x2_2_3.length cx2_2_3, .slice Ax2_2_4 x2_2_4.length cx2_2_4, .slice Ax2_2_5 x2_2_5.length cx2_2_5, .int .i64 x2_2_6, .int .i64 x2_2_7, .int .i64 x2_2_8, .int .i64 x2_2_9]⟩, ⟨b5, 31, [.slice Ax2_5_0 x2_5_0.length cx2_5_0, .int .i64 x2_5_1, .slice Ax2_5_2 x2_5_2.length cx2_5_2, .slice Ax2_5_3 x2_5_3.length cx2_5_3, .slice Ax2_5_4 x2_5_4.length cx2_5_4, .slice Ax2_5_5 x2_5_5.length cx2_5_5, .int .i64 x2_5_6, .int .i64 x2_5_7, .int .i64 x2_5_8, .int .i64 x2_5_9]⟩], [.sl 2 .str Ax2_4 cx2_4 x2_4 1 true, .sl 2 k72 Ax2_2_0 cx2_2_0 x2_2_0 2 true, .sl 2 k72 Ax2_2_2 cx2_2_2 x2_2_2 3 true, .sl 2 k72 Ax2_2_3 cx2_2_3 x2_2_3 4 true, .sl 2 k72 Ax2_2_4 cx2_2_4 x2_2_4 5 true, .sl 2 k57 Ax2_2_5 cx2_2_5 x2_2_5 6 true, .sl 2 k72 Ax2_5_0 cx2_5_0 x2_5_0 7 true, .sl 2 k72 Ax2_5_2 cx2_5_2 x2_5_2 8 true, .sl 2 k72 Ax2_5_3 cx2_5_3 x2_5_3 9 true, .sl 2 k72 Ax2_5_4 cx2_5_4 x2_5_4 10 true, .sl 2 k57 Ax2_5_5 cx2_5_5 x2_5_5 11 true]⟩) (fun S hS => ?_) (fun jh0 => ?_)
  ·
   clear H
   obtain ⟨m15, x2_0, x2_4, Ax2_4, cx2_4, x2_2_0, Ax2_2_0, cx2_2_0, x2_2_1, x2_2_2, Ax2_2_2, cx2_2_2, x2_2_3, Ax2_2_3, cx2_2_3, x2_2_4, Ax2_2_4, cx2_2_4, x2_2_5, Ax2_2_5, cx2_2_5, x2_2_6, x2_2_7, x2_2_8, x2_2_9, x2_5_0, Ax2_5_0, cx2_5_0, x2_5_1, x2_5_2, Ax2_5_2, cx2_5_2, x2_5_3, Ax2_5_3, cx2_5_3, x2_5_4, Ax2_5_4, cx2_5_4, x2_5_5, Ax2_5_5, cx2_5_5, x2_5_6, x2_5_7, x2_5_8, x2_5_9, H, rfl⟩ := hS
   rcases m15 with _ | m15
   · rw [spec_ParseSorter.j0] at H; cases H
   rw [spec_ParseSorter.j0] at H
   refine gs (rg (sv (EV.mv rfl) rfl ?_))
   revert H; refine ggI ?_; intro g16 H
   refine sv (EV.ix 0 rfl rfl rfl dq g16 rfl) rfl (sv (EV.le (v := .string (rdOf ByteArray.empty x2_4 6)) 6 0 none 0 ByteArray.empty rfl rfl rfl dq g16 rfl rfl rfl) rfl ?_)
   revert H; refine bdI ?_; rintro ⟨t17_0, t17_1⟩ A17 H
   refine so rfl (op_call (spec_ParseInt.ok m15 (rdOf ByteArray.empty x2_4 6) _ _ A17) [] 12 rfl rfl rfl rfl rfl ?_)
   rintro _ _ _ ⟨rfl, rfl, rfl⟩
   refine sv (EV.mv rfl) rfl (sv (EV.ex rfl rfl) rfl (sv (EV.ex rfl rfl) rfl (sv (EV.fa 6 rfl) rfl (so rfl (op_st (cs' := [.slice Ax2_5_0 x2_5_0.length cx2_5_0, .int .i64 x2_5_1, .slice Ax2_5_2 x2_5_2.length cx2_5_2, .slice Ax2_5_3 x2_5_3.length cx2_5_3, .slice Ax2_5_4 x2_5_4.length cx2_5_4, .slice Ax2_5_5 x2_5_5.length cx2_5_5, .int .i64 t17_0, .int .i64 x2_5_7, .int .i64 x2_5_8, .int .i64 x2_5_9]) 1 rfl rfl rfl rfl rfl rfl (re (pr [0, 2, 4, 5] [0, 1] [0, 1, 2, 3, 4, 5, 6, 7, 8, 9, 10] rfl rfl rfl rfl (gs (rg (sv (EV.mv rfl) rfl ?_))))))))))
   revert H; refine ggI ?_; intro g18 H
   refine sv (EV.ix 0 rfl rfl rfl dq g18 rfl) rfl (sv (EV.le (v := .string (rdOf ByteArray.empty x2_4 7)) 7 0 none 0 ByteArray.empty rfl rfl rfl dq g18 rfl rfl rfl) rfl ?_)
   revert H; refine bdI ?_; rintro ⟨t19_0, t19_1⟩ A19 H
   refine so rfl (op_call (spec_ParseInt.ok m15 (rdOf ByteArray.empty x2_4 7) _ _ A19) [] 12 rfl rfl rfl rfl rfl ?_)
   rintro _ _ _ ⟨rfl, rfl, rfl⟩
   refine sv (EV.mv rfl) rfl (sv (EV.ex rfl rfl) rfl (sv (EV.ex rfl rfl) rfl (sv (EV.fa 7 rfl) rfl (so rfl (op_st (cs' := [.slice Ax2_5_0 x2_5_0.length cx2_5_0, .int .i64 x2_5_1, .slice Ax2_5_2 x2_5_2.length cx2_5_2, .slice Ax2_5_3 x2_5_3.length cx2_5_3, .slice Ax2_5_4 x2_5_4.length cx2_5_4, .slice Ax2_5_5 x2_5_5.length cx2_5_5, .int .i64 t17_0, .int .i64 t19_0, .int .i64 x2_5_8, .int .i64 x2_5_9]) 1 rfl rfl rfl rfl rfl rfl (re (pr [0, 2, 4, 5] [0, 1] [0, 1, 2, 3, 4, 5, 6, 7, 8, 9, 10] rfl rfl rfl rfl (gs (rg (sv (EV.mv rfl) rfl ?_))))))))))
   revert H; refine ggI ?_; intro g20 H
   refine sv (EV.ix 0 rfl rfl rfl dq g20 rfl) rfl (sv (EV.le (v := .string (rdOf ByteArray.empty x2_4 8)) 8 0 none 0 ByteArray.empty rfl rfl rfl dq g20 rfl rfl rfl) rfl ?_)
   revert H; refine bdI ?_; rintro ⟨t21_0, t21_1⟩ A21 H
   refine so rfl (op_call (spec_ParseInt.ok m15 (rdOf ByteArray.empty x2_4 8) _ _ A21) [] 12 rfl rfl rfl rfl rfl ?_)
   rintro _ _ _ ⟨rfl, rfl, rfl⟩
   refine sv (EV.mv rfl) rfl (sv (EV.ex rfl rfl) rfl (sv (EV.ex rfl rfl) rfl (sv (EV.fa 8 rfl) rfl (so rfl (op_st (cs' := [.slice Ax2_5_0 x2_5_0.length cx2_5_0, .int .i64 x2_5_1, .slice Ax2_5_2 x2_5_2.length cx2_5_2, .slice Ax2_5_3 x2_5_3.length cx2_5_3, .slice Ax2_5_4 x2_5_4.length cx2_5_4, .slice Ax2_5_5 x2_5_5.length cx2_5_5, .int .i64 t17_0, .int .i64 t19_0, .int .i64 t21_0, .int .i64 x2_5_9]) 1 rfl rfl rfl rfl rfl rfl (re (pr [0, 2, 4, 5] [0, 1] [0, 1, 2, 3, 4, 5, 6, 7, 8, 9, 10] rfl rfl rfl rfl (gs (rg (sv (EV.mv rfl) rfl ?_))))))))))
   revert H; refine ggI ?_; intro g22 H
   refine sv (EV.ix 0 rfl rfl rfl dq g22 rfl) rfl (sv (EV.le (v := .string (rdOf ByteArray.empty x2_4 9)) 9 0 none 0 ByteArray.empty rfl rfl rfl dq g22 rfl rfl rfl) rfl ?_)
   revert H; refine bdI ?_; rintro ⟨t23_0, t23_1⟩ A23 H
   refine so rfl (op_call (spec_ParseInt.ok m15 (rdOf ByteArray.empty x2_4 9) _ _ A23) [] 12 rfl rfl rfl rfl rfl ?_)
   rintro _ _ _ ⟨rfl, rfl, rfl⟩
   refine sv (EV.mv rfl) rfl (sv (EV.ex rfl rfl) rfl (sv (EV.ex rfl rfl) rfl (sv (EV.fa 9 rfl) rfl (so rfl (op_st (cs' := [.slice Ax2_5_0 x2_5_0.length cx2_5_0, .int .i64 x2_5_1, .slice Ax2_5_2 x2_5_2.length cx2_5_2, .slice Ax2_5_3 x2_5_3.length cx2_5_3, .slice Ax2_5_4 x2_5_4.length cx2_5_4, .slice Ax2_5_5 x2_5_5.length cx2_5_5, .int .i64 t17_0, .int .i64 t19_0, .int .i64 t21_0, .int .i64 t23_0]) 1 rfl rfl rfl rfl rfl rfl (re (pr [0, 2, 5] [0, 1] [1, 2, 3, 4, 5, 6, 7, 8, 9, 10] rfl rfl rfl rfl (gs (gs (rg (sv (EV.ld (v := .agg #[.slice Ax2_5_0 x2_5_0.length cx2_5_0, .int .i64 x2_5_1, .slice Ax2_5_2 x2_5_2.length cx2_5_2, .slice Ax2_5_3 x2_5_3.length cx2_5_3, .slice Ax2_5_4 x2_5_4.length cx2_5_4, .slice Ax2_5_5 x2_5_5.length cx2_5_5, .int .i64 t17_0, .int .i64 t19_0, .int .i64 t21_0, .int .i64 t23_0]) 1 (some 10) rfl rfl rfl) rfl ?_)))))))))))
   revert H; refine bdI ?_; rintro t24 A24 H
   refine so rfl (op_call (spec_FormatSorter.ok m15 x2_5_0 Ax2_5_0 cx2_5_0 x2_5_1 x2_5_2 Ax2_5_2 cx2_5_2 x2_5_3 Ax2_5_3 cx2_5_3 x2_5_4 Ax2_5_4 cx2_5_4 x2_5_5 Ax2_5_5 cx2_5_5 t17_0 t19_0 t21_0 t23_0 _ A24) [⟨5, 0, 0, false⟩, ⟨6, 0, 0, false⟩, ⟨7, 0, 0, false⟩, ⟨8, 0, 0, false⟩, ⟨9, 0, 0, false⟩] 12 rfl rfl rfl rfl rfl ?_)
   rintro _ _ _ ⟨rfl, rfl, rfl⟩
   refine sv (EV.mv rfl) rfl (sv (EV.nes rfl rfl) rfl (re ?_))
   revert H; refine ifsI ?_ ?_ <;> intro c25 H
   ·
    refine gf rfl (nF c25) (gk (gs (rg (sv (EV.ld (v := .agg #[.slice Ax2_5_0 x2_5_0.length cx2_5_0, .int .i64 x2_5_1, .slice Ax2_5_2 x2_5_2.length cx2_5_2, .slice Ax2_5_3 x2_5_3.length cx2_5_3, .slice Ax2_5_4 x2_5_4.length cx2_5_4, .slice Ax2_5_5 x2_5_5.length cx2_5_5, .int .i64 t17_0, .int .i64 t19_0, .int .i64 t21_0, .int .i64 t23_0]) 1 (some 10) rfl rfl rfl) rfl (so rfl (op_st (cs' := [.slice Ax2_5_0 x2_5_0.length cx2_5_0, .int .i64 x2_5_1, .slice Ax2_5_2 x2_5_2.length cx2_5_2, .slice Ax2_5_3 x2_5_3.length cx2_5_3, .slice Ax2_5_4 x2_5_4.length cx2_5_4, .slice Ax2_5_5 x2_5_5.length cx2_5_5, .int .i64 t17_0, .int .i64 t19_0, .int .i64 t21_0, .int .i64 t23_0]) 0 rfl rfl rfl rfl rfl rfl (sv (EV.as rfl) rfl (re (pr [2, 3] [0] [5, 6, 7, 8, 9] rfl rfl rfl rfl ?_)))))))))
    cases H
    exact rt Try.func10 rfl (.cell 0 (some 10) rfl rfl rfl (.tmp rfl .nil)) rfl [] [⟨0, 2, 1, true⟩, ⟨1, 2, 2, true⟩, ⟨2, 2, 3, true⟩, ⟨3, 2, 4, true⟩, ⟨4, 2, 5, true⟩] rfl rfl rfl rfl rfl ⟨_, _, _, _, _, _, _, _, _, _, rfl, rfl, rfl⟩
   ·
    refine gt rfl (nT c25) (gs (rg (sv (EV.bd (v := .agg #[.slice none 0 0, .int .i64 0, .slice none 0 0, .slice none 0 0, .slice none 0 0, .slice none 0 0, .int .i64 0, .int .i64 0, .int .i64 0, .int .i64 0]) rfl (by kernel_rfl)) rfl (so rfl (op_st (cs' := [.slice none 0 0, .int .i64 0, .slice none 0 0, .slice none 0 0, .slice none 0 0, .slice none 0 0, .int .i64 0, .int .i64 0, .int .i64 0, .int .i64 0]) 0 rfl rfl rfl rfl rfl rfl (sv (EV.as rfl) rfl (re (pr [2, 3] [0] [] rfl rfl rfl rfl (nil_ k72 1 dq (nil_ k72 2 dq (nil_ k72 3 dq (nil_ k72 4 dq (nil_ k57 5 dq ?_)))))))))))))
    cases H
    exact rt Try.func10 rfl (.cell 0 (some 10) rfl rfl rfl (.tmp rfl .nil)) rfl [] [⟨0, 2, 1, true⟩, ⟨1, 2, 2, true⟩, ⟨2, 2, 3, true⟩, ⟨3, 2, 4, true⟩, ⟨4, 2, 5, true⟩] rfl rfl rfl rfl rfl ⟨_, _, _, _, _, _, _, _, _, _, rfl, rfl, rfl⟩
  ·
   refine gs (rg (sv (EV.as rfl) rfl (re (gb (nil_ k72 13 dq (nil_ k72 14 dq (nil_ k72 15 dq (nil_ k72 16 dq (nil_ k57 17 dq (nil_ k57 18 dq ?_))))))))))
   refine lo (fun kk S => ∃ (x3_0 : ByteArray) (x3_4 : List ByteArray) (Ax3_4 : Option Addr) (cx3_4 : Nat) (x3_6 : List ByteArray) (Ax3_6 : Option Addr) (cx3_6 : Nat) (x3_7 : Int) (x3_2_0 : List S72) (Ax3_2_0 : Option Addr) (cx3_2_0 : Nat) (x3_2_1 : Int) (x3_2_2 : List S72) (Ax3_2_2 : Option Addr) (cx3_2_2 : Nat) (x3_2_3 : List S72) (Ax3_2_3 : Option Addr) (cx3_2_3 : Nat) (x3_2_4 : List S72) (Ax3_2_4 : Option Addr) (cx3_2_4 : Nat) (x3_2_5 : List S57) (Ax3_2_5 : Option Addr) (cx3_2_5 : Nat) (x3_2_6 : Int) (x3_2_7 : Int) (x3_2_8 : Int) (x3_2_9 : Int) (x3_5_0 : List S72) (Ax3_5_0 : Option Addr) (cx3_5_0 : Nat) (x3_5_1 : Int) (x3_5_2 : List S72) (Ax3_5_2 : Option Addr) (cx3_5_2 : Nat) (x3_5_3 : List S72) (Ax3_5_3 : Option Addr) (cx3_5_3 : Nat) (x3_5_4 : List S72) (Ax3_5_4 : Option Addr) (cx3_5_4 : Nat) (x3_5_5 : List S57) (Ax3_5_5 : Option Addr) (cx3_5_5 : Nat) (x3_5_6 : Int) (x3_5_7 : Int) (x3_5_8 : Int) (x3_5_9 : Int), spec_ParseSorter.l0 kk x3_0 x3_4 x3_6 x3_7 x3_2_0 x3_2_1 x3_2_2 x3_2_3 x3_2_4 x3_2_5 x3_2_6 x3_2_7 x3_2_8 x3_2_9 x3_5_0 x3_5_1 x3_5_2 x3_5_3 x3_5_4 x3_5_5 x3_5_6 x3_5_7 x3_5_8 x3_5_9 = some (r0, r1, r2, r3, r4, r5, r6, r7, r8, r9, r10) ∧ S = ⟨[(0, .string x3_0), (2, .pointer (some ⟨b2, 0, none⟩)), (4, .slice Ax3_4 x3_4.length cx3_4), (5, .pointer (some ⟨b5, 0, none⟩)), (6, .slice Ax3_6 x3_6.length cx3_6), (7, .int .i64 x3_7)], [⟨b2, 31, [.slice Ax3_2_0 x3_2_0.length cx3_2_0, .int .i64 x3_2_1, .slice Ax3_2_2 x3_2_2.length cx3_2_2, .slice Ax3_2_3 x3_2_3.length cx3_2_3, .slice Ax3_2_4 x3_2_4.length cx3_2_4, .slice Ax3_2_5 x3_2_5.length cx3_2_5, .int .i64 x3_2_6, .int .i64 x3_2_7, .int .i64 x3_2_8, .int .i64 x3_2_9]⟩, ⟨b5, 31, [.slice Ax3_5_0 x3_5_0.length cx3_5_0, .int .i64 x3_5_1, .slice Ax3_5_2 x3_5_2.length cx3_5_2, .slice Ax3_5_3 x3_5_3.length cx3_5_3, .slice Ax3_5_4 x3_5_4.length cx3_5_4, .slice Ax3_5_5 x3_5_5.length cx3_5_5, .int .i64 x3_5_6, .int .i64 x3_5_7, .int .i64 x3_5_8, .int .i64 x3_5_9]⟩], [.sl 2 .str Ax3_4 cx3_4 x3_4 1 true, .sl 2 .str Ax3_6 cx3_6 x3_6 2 true, .sl 2 k72 Ax3_2_0 cx3_2_0 x3_2_0 3 true, .sl 2 k72 Ax3_2_2 cx3_2_2 x3_2_2 4 true, .sl 2 k72 Ax3_2_3 cx3_2_3 x3_2_3 5 true, .sl 2 k72 Ax3_2_4 cx3_2_4 x3_2_4 6 true, .sl 2 k57 Ax3_2_5 cx3_2_5 x3_2_5 7 true, .sl 2 k72 Ax3_5_0 cx3_5_0 x3_5_0 8 true, .sl 2 k72 Ax3_5_2 cx3_5_2 x3_5_2 9 true, .sl 2 k72 Ax3_5_3 cx3_5_3 x3_5_3 10 true, .sl 2 k72 Ax3_5_4 cx3_5_4 x3_5_4 11 true, .sl 2 k57 Ax3_5_5 cx3_5_5 x3_5_5 12 true]⟩) (fun S hS => ?_) (fun n0 ih0 S hS => ?_) ⟨a0, t1, At1, ct1, t14, At14, ct14, 0, [], none, 0, 0, [], none, 0, [], none, 0, [], none, 0, [], none, 0, 0, 0, 0, 0, t4_0, At4_0, ct4_0, t6_0, t8_0, At8_0, ct8_0, t10_0, At10_0, ct10_0, t12_0, At12_0, ct12_0, [], none, 0, 0, 0, 0, 0, H, rfl⟩ (fun h => wk [0, 2, 4, 5, 6, 7] [0, 1] [⟨0, 2, 1, true⟩, ⟨5, 2, 2, true⟩, ⟨6, 2, 3, true⟩, ⟨7, 2, 4, true⟩, ⟨8, 2, 5, true⟩, ⟨9, 2, 6, true⟩, ⟨10, 2, 7, true⟩, ⟨1, 2, 8, true⟩, ⟨2, 2, 9, true⟩, ⟨3, 2, 10, true⟩, ⟨4, 2, 11, true⟩, ⟨11, 2, 12, true⟩] h)
   · clear H; obtain ⟨_, _, _, _, _, _, _, _, _, _, _, _, _, _, _, _, _, _, _, _, _, _, _, _, _, _, _, _, _, _, _, _, _, _, _, _, _, _, _, _, _, _, _, _, _, _, _, _, H, _⟩ := hS; rw [spec_ParseSorter.l0] at H; cases H
   clear H
   obtain ⟨x3_0, x3_4, Ax3_4, cx3_4, x3_6, Ax3_6, cx3_6, x3_7, x3_2_0, Ax3_2_0, cx3_2_0, x3_2_1, x3_2_2, Ax3_2_2, cx3_2_2, x3_2_3, Ax3_2_3, cx3_2_3, x3_2_4, Ax3_2_4, cx3_2_4, x3_2_5, Ax3_2_5, cx3_2_5, x3_2_6, x3_2_7, x3_2_8, x3_2_9, x3_5_0, Ax3_5_0, cx3_5_0, x3_5_1, x3_5_2, Ax3_5_2, cx3_5_2, x3_5_3, Ax3_5_3, cx3_5_3, x3_5_4, Ax3_5_4, cx3_5_4, x3_5_5, Ax3_5_5, cx3_5_5, x3_5_6, x3_5_7, x3_5_8, x3_5_9, H, rfl⟩ := hS
   rw [spec_ParseSorter.l0] at H
   refine gs (gs (rg (sv (EV.mv rfl) rfl (sv (EV.mv rfl) rfl (sv (EV.ln rfl) rfl (sv (EV.lss rfl rfl) rfl (sv (EV.mv rfl) rfl ?_)))))))
   revert H; refine ifsI ?_ ?_ <;> intro c26 H
   ·
    refine ts 65 rfl (dT c26) (sv (EV.mv rfl) rfl ?_)
    revert H; refine ggI ?_; intro g27 H
    refine sv (EV.ix 0 rfl rfl rfl dq g27 rfl) rfl (sv (EV.le (v := .string (rdOf ByteArray.empty x3_4 5)) 5 0 none 0 ByteArray.empty rfl rfl rfl dq g27 rfl rfl rfl) rfl (sv (EV.nes rfl rfl) rfl (sv (EV.pt rfl rfl rfl) rfl (re ?_))))
    revert H; refine ifsI ?_ ?_ <;> intro c28 H
    ·
     exact gf rfl (nF c28) (gx rfl (wk [0, 2, 4, 5] [0, 1] [⟨0, 2, 1, true⟩, ⟨2, 2, 2, true⟩, ⟨3, 2, 3, true⟩, ⟨4, 2, 4, true⟩, ⟨5, 2, 5, true⟩, ⟨6, 2, 6, true⟩, ⟨7, 2, 7, true⟩, ⟨8, 2, 8, true⟩, ⟨9, 2, 9, true⟩, ⟨10, 2, 10, true⟩, ⟨11, 2, 11, true⟩] (jh0 _ ⟨_, x3_0, x3_4, Ax3_4, cx3_4, x3_2_0, Ax3_2_0, cx3_2_0, x3_2_1, x3_2_2, Ax3_2_2, cx3_2_2, x3_2_3, Ax3_2_3, cx3_2_3, x3_2_4, Ax3_2_4, cx3_2_4, x3_2_5, Ax3_2_5, cx3_2_5, x3_2_6, x3_2_7, x3_2_8, x3_2_9, x3_5_0, Ax3_5_0, cx3_5_0, x3_5_1, x3_5_2, Ax3_5_2, cx3_5_2, x3_5_3, Ax3_5_3, cx3_5_3, x3_5_4, Ax3_5_4, cx3_5_4, x3_5_5, Ax3_5_5, cx3_5_5, x3_5_6, x3_5_7, x3_5_8, x3_5_9, H, rfl⟩)))
    ·
     refine gt rfl (nT c28) (gk (gs (gb (gs (rg (sv (EV.mv rfl) rfl (sv (EV.mv rfl) rfl ?_)))))))
     revert H; refine ggI ?_; intro g29 H
     refine sv (EV.ix 1 rfl rfl rfl g29 c26 rfl) rfl (sv (EV.le (v := .string (rdOf ByteArray.empty x3_6 x3_7)) x3_7 0 none 1 ByteArray.empty rfl rfl rfl g29 c26 rfl rfl rfl) rfl ?_)
     revert H; refine bdI ?_; rintro ⟨t30_0, t30_1⟩ A30 H
     refine so rfl (op_call (spec_ParseRows.ok n0 (rdOf ByteArray.empty x3_6 x3_7) _ _ A30) [] 13 rfl rfl rfl rfl rfl ?_)
     rintro _ _ _ ⟨At30_0, ct30_0, rfl, rfl, rfl⟩
     refine sv (EV.mv rfl) rfl (sv (EV.ex rfl rfl) rfl (sv (EV.ex rfl rfl) rfl (sv (EV.as rfl) rfl (sv (EV.as rfl) rfl (re (pr [0, 2, 4, 5, 6, 7, 8, 66, 67, 68, 69] [0, 1] [0, 1, 2, 3, 4, 5, 6, 7, 8, 9, 10, 11, 12] rfl rfl rfl rfl (rg (sv (EV.fa 5 rfl) rfl (sv (EV.ld 1 none rfl rfl rfl) rfl (sv (EV.mv rfl) rfl (sv (EV.bd (v := .agg #[.slice At30_0 t30_0.length ct30_0]) rfl (by kernel_rfl)) rfl (so rfl (op_lit (s := 1) (by_ := 24) k57 ([(⟨t30_0⟩ : S57)] : List S57) [[(At30_0, ct30_0)]] [12] 15 [.tmp 84] rfl rfl rfl rfl rfl rfl rfl rfl rfl rfl rfl rfl rfl dq rfl fun A85_31 c85_31 => (nmE (en := [.sl 2 .str Ax3_4 cx3_4 x3_4 1 true, .sl 2 .str Ax3_6 cx3_6 x3_6 2 true, .sl 2 k72 Ax3_2_0 cx3_2_0 x3_2_0 3 true, .sl 2 k72 Ax3_2_2 cx3_2_2 x3_2_2 4 true, .sl 2 k72 Ax3_2_3 cx3_2_3 x3_2_3 5 true, .sl 2 k72 Ax3_2_4 cx3_2_4 x3_2_4 6 true, .sl 2 k57 Ax3_2_5 cx3_2_5 x3_2_5 7 true, .sl 2 k72 Ax3_5_0 cx3_5_0 x3_5_0 8 true, .sl 2 k72 Ax3_5_2 cx3_5_2 x3_5_2 9 true, .sl 2 k72 Ax3_5_3 cx3_5_3 x3_5_3 10 true, .sl 2 k72 Ax3_5_4 cx3_5_4 x3_5_4 11 true, .sl 2 k57 Ax3_5_5 cx3_5_5 x3_5_5 12 true, .sl 2 k72 At30_0 ct30_0 t30_0 15 true, .sl 2 k57 A85_31 c85_31 ([(⟨t30_0⟩ : S57)] : List S57) 15 true]) (by kernel_rfl) ?_))))))))))))))
     revert H; refine ggI ?_; intro g32 H
     exact so rfl (op_app (k := k57) (s := 1) (by_ := 24) 11 13 rfl rfl rfl rfl (ap1 g32 dq) (ap1n g32 dq) (.inr ⟨dq, dq, rfl, dq⟩) true (fun _ => .inr ⟨rfl, rfl, dq⟩) rfl rfl fun A86_33 c86_33 => (nmE (en := [.sl 2 .str Ax3_4 cx3_4 x3_4 1 true, .sl 2 .str Ax3_6 cx3_6 x3_6 2 true, .sl 2 k72 Ax3_2_0 cx3_2_0 x3_2_0 3 true, .sl 2 k72 Ax3_2_2 cx3_2_2 x3_2_2 4 true, .sl 2 k72 Ax3_2_3 cx3_2_3 x3_2_3 5 true, .sl 2 k72 Ax3_2_4 cx3_2_4 x3_2_4 6 true, .sl 2 k57 Ax3_2_5 cx3_2_5 x3_2_5 7 true, .sl 2 k72 Ax3_5_0 cx3_5_0 x3_5_0 8 true, .sl 2 k72 Ax3_5_2 cx3_5_2 x3_5_2 9 true, .sl 2 k72 Ax3_5_3 cx3_5_3 x3_5_3 10 true, .sl 2 k72 Ax3_5_4 cx3_5_4 x3_5_4 11 true, .sl 2 k72 At30_0 ct30_0 t30_0 12 true, .sl 2 k57 A85_31 c85_31 ([(⟨t30_0⟩ : S57)] : List S57) 12 true, .sl 2 k57 A86_33 c86_33 (x3_5_5 ++ ([(⟨t30_0⟩ : S57)] : List S57)) 12 true]) (by kernel_rfl) (sv (EV.fa 5 rfl) rfl (so rfl (op_st (cs' := [.slice Ax3_5_0 x3_5_0.length cx3_5_0, .int .i64 x3_5_1, .slice Ax3_5_2 x3_5_2.length cx3_5_2, .slice Ax3_5_3 x3_5_3.length cx3_5_3, .slice Ax3_5_4 x3_5_4.length cx3_5_4, .slice A86_33 (x3_5_5 ++ ([(⟨t30_0⟩ : S57)] : List S57)).length c86_33, .int .i64 x3_5_6, .int .i64 x3_5_7, .int .i64 x3_5_8, .int .i64 x3_5_9]) 1 rfl rfl rfl rfl rfl rfl (re (pr [0, 2, 4, 5, 6, 7, 66, 67, 68, 69] [0, 1] [0, 1, 2, 3, 4, 5, 6, 7, 8, 9, 10, 13] rfl rfl rfl rfl (ge (rg (sv (EV.mv rfl) rfl (sv (EV.add rfl rfl) rfl (sv (EV.as rfl) rfl (re (wk [0, 2, 4, 5, 6, 7] [0, 1] [⟨0, 2, 1, true⟩, ⟨1, 2, 2, true⟩, ⟨2, 2, 3, true⟩, ⟨3, 2, 4, true⟩, ⟨4, 2, 5, true⟩, ⟨5, 2, 6, true⟩, ⟨6, 2, 7, true⟩, ⟨7, 2, 8, true⟩, ⟨8, 2, 9, true⟩, ⟨9, 2, 10, true⟩, ⟨10, 2, 11, true⟩, ⟨11, 2, 12, true⟩] (ih0 _ (by omega) _ ⟨x3_0, x3_4, Ax3_4, cx3_4, x3_6, Ax3_6, cx3_6, wrap64 (x3_7 + 1), x3_2_0, Ax3_2_0, cx3_2_0, x3_2_1, x3_2_2, Ax3_2_2, cx3_2_2, x3_2_3, Ax3_2_3, cx3_2_3, x3_2_4, Ax3_2_4, cx3_2_4, x3_2_5, Ax3_2_5, cx3_2_5, x3_2_6, x3_2_7, x3_2_8, x3_2_9, x3_5_0, Ax3_5_0, cx3_5_0, x3_5_1, x3_5_2, Ax3_5_2, cx3_5_2, x3_5_3, Ax3_5_3, cx3_5_3, x3_5_4, Ax3_5_4, cx3_5_4, x3_5_5 ++ ([(⟨t30_0⟩ : S57)] : List S57), A86_33, c86_33, x3_5_6, x3_5_7, x3_5_8, x3_5_9, H, rfl⟩)))))))))))))))
   ·
    exact ts 65 rfl (dF c26) (sk rfl (sk rfl (sk rfl (sk rfl (sv (EV.pf rfl rfl rfl) rfl (re (pr [0, 2, 4, 5, 6, 7, 70] [0, 1] [0, 1, 2, 3, 4, 5, 6, 7, 8, 9, 10, 11] rfl rfl rfl rfl (gf rfl rfl (gx rfl (wk [0, 2, 4, 5] [0, 1] [⟨0, 2, 1, true⟩, ⟨2, 2, 2, true⟩, ⟨3, 2, 3, true⟩, ⟨4, 2, 4, true⟩, ⟨5, 2, 5, true⟩, ⟨6, 2, 6, true⟩, ⟨7, 2, 7, true⟩, ⟨8, 2, 8, true⟩, ⟨9, 2, 9, true⟩, ⟨10, 2, 10, true⟩, ⟨11, 2, 11, true⟩] (jh0 _ ⟨_, x3_0, x3_4, Ax3_4, cx3_4, x3_2_0, Ax3_2_0, cx3_2_0, x3_2_1, x3_2_2, Ax3_2_2, cx3_2_2, x3_2_3, Ax3_2_3, cx3_2_3, x3_2_4, Ax3_2_4, cx3_2_4, x3_2_5, Ax3_2_5, cx3_2_5, x3_2_6, x3_2_7, x3_2_8, x3_2_9, x3_5_0, Ax3_5_0, cx3_5_0, x3_5_1, x3_5_2, Ax3_5_2, cx3_5_2, x3_5_3, Ax3_5_3, cx3_5_3, x3_5_4, Ax3_5_4, cx3_5_4, x3_5_5, Ax3_5_5, cx3_5_5, x3_5_6, x3_5_7, x3_5_8, x3_5_9, H, rfl⟩)))))))))))
 ·
  refine gt rfl (nT c2) (gs (rg (sv (EV.bd (v := .agg #[.slice none 0 0, .int .i64 0, .slice none 0 0, .slice none 0 0, .slice none 0 0, .slice none 0 0, .int .i64 0, .int .i64 0, .int .i64 0, .int .i64 0]) rfl (by kernel_rfl)) rfl (so rfl (op_st (cs' := [.slice none 0 0, .int .i64 0, .slice none 0 0, .slice none 0 0, .slice none 0 0, .slice none 0 0, .int .i64 0, .int .i64 0, .int .i64 0, .int .i64 0]) 0 rfl rfl rfl rfl rfl rfl (sv (EV.as rfl) rfl (re (pr [2, 3] [0] [] rfl rfl rfl rfl (nil_ k72 1 dq (nil_ k72 2 dq (nil_ k72 3 dq (nil_ k72 4 dq (nil_ k57 5 dq ?_)))))))))))))
  cases H
  exact rt Try.func10 rfl (.cell 0 (some 10) rfl rfl rfl (.tmp rfl .nil)) rfl [] [⟨0, 2, 1, true⟩, ⟨1, 2, 2, true⟩, ⟨2, 2, 3, true⟩, ⟨3, 2, 4, true⟩, ⟨4, 2, 5, true⟩] rfl rfl rfl rfl rfl ⟨_, _, _, _, _, _, _, _, _, _, rfl, rfl, rfl⟩
def impl_within.f (a0 : Int) (a1 : Int) (a2 : Int) : Option (Bool) := if a0 ≥ a1 then (some (decide (a0 ≤ a2))) else (some false)
set_option maxHeartbeats 4000000 in
set_option maxRecDepth 100000 in
theorem impl_within.ok (a0 : Int) (a1 : Int) (a2 : Int) (r0 : Bool) (H : impl_within.f a0 a1 a2 = some r0) : Fn Try.prog 58 [.int .i64 a0, .int .i64 a1, .int .i64 a2] [] [] (fun v bx en => v = .bool r0 ∧ bx = [] ∧ en = []) := by
 refine fn_ 15 Try.func58 rfl rfl rfl (fun base T w0 => ?_)
 rw [impl_within.f] at H
 refine gs (rg (sv (EV.as rfl) rfl (re (gs (rg (sv (EV.mv rfl) rfl (sv (EV.mv rfl) rfl (sv (EV.geq rfl rfl) rfl (sv (EV.mv rfl) rfl ?_)))))))))
 revert H; refine ifsI ?_ ?_ <;> intro c1 H
 ·
  refine ts 10 rfl (dT c1) (sv (EV.mv rfl) rfl (sv (EV.mv rfl) rfl (sv (EV.leq rfl rfl) rfl (sv (EV.pt rfl rfl rfl) rfl (sv (EV.as rfl) rfl (re (pr [6] [] [] rfl rfl rfl rfl ?_)))))))
  cases H
  exact rt Try.func58 rfl (.tmp rfl .nil) rfl [] [] rfl rfl rfl rfl rfl ⟨rfl, rfl, rfl⟩
 ·
  refine ts 10 rfl (dF c1) (sk rfl (sk rfl (sk rfl (sv (EV.pf rfl rfl rfl) rfl (sv (EV.as rfl) rfl (re (pr [6] [] [] rfl rfl rfl rfl ?_)))))))
  cases H
  exact rt Try.func58 rfl (.tmp rfl .nil) rfl [] [] rfl rfl rfl rfl rfl ⟨rfl, rfl, rfl⟩
def impl_IsValidRow.f (a0_0 : Int) (a0_1 : Int) (a0_2 : Int) : Option (Bool) := (impl_within.f a0_0 0 9).bind fun t1 => (if t1 = true then ((impl_within.f a0_1 0 99).bind fun t3 => (if t3 = true then ((impl_within.f a0_2 0 3).bind fun t5 => (some t5)) else (some false))) else (some false))
set_option maxHeartbeats 4000000 in
set_option maxRecDepth 100000 in
theorem impl_IsValidRow.ok (a0_0 : Int) (a0_1 : Int) (a0_2 : Int) (r0 : Bool) (H : impl_IsValidRow.f a0_0 a0_1 a0_2 = some r0) : Fn Try.prog 83 [.agg #[.int .i64 a0_0, .int .i64 a0_1, .int .i64 a0_2]] [] [] (fun v bx en => v = .bool r0 ∧ bx = [] ∧ en = []) := by
 refine fn_ 16 Try.func83 rfl rfl rfl (fun base T w0 => ?_)
 rw [impl_IsValidRow.f] at H
 refine gs (rg (so rfl (op_box (cs := [.int .i64 a0_0, .int .i64 a0_1, .int .i64 a0_2]) rfl rfl rfl fun b1 => (sv (EV.as rfl) rfl (re (gs (rg (sv (EV.fa 0 rfl) rfl (sv (EV.ld 0 none rfl rfl rfl) rfl ?_)))))))))
 revert H; refine bdI ?_; rintro t1 A1 H
 refine so rfl (op_call (impl_within.ok a0_0 0 9 _ A1) [] 1 rfl rfl rfl rfl rfl ?_)
 rintro _ _ _ ⟨rfl, rfl, rfl⟩
 refine sv (EV.mv rfl) rfl ?_
 revert H; refine ifsI ?_ ?_ <;> intro c2 H
 ·
  subst c2
  refine ts 6 rfl rfl (sv (EV.fa 1 rfl) rfl (sv (EV.ld 0 none rfl rfl rfl) rfl ?_))
  revert H; refine bdI ?_; rintro t3 A3 H
  refine so rfl (op_call (impl_within.ok a0_1 0 99 _ A3) [] 1 rfl rfl rfl rfl rfl ?_)
  rintro _ _ _ ⟨rfl, rfl, rfl⟩
  refine sv (EV.pt rfl rfl rfl) rfl (sv (EV.mv rfl) rfl ?_)
  revert H; refine ifsI ?_ ?_ <;> intro c4 H
  ·
   subst c4
   refine ts 11 rfl rfl (sv (EV.fa 2 rfl) rfl (sv (EV.ld 0 none rfl rfl rfl) rfl ?_))
   revert H; refine bdI ?_; rintro t5 A5 H
   refine so rfl (op_call (impl_within.ok a0_2 0 3 _ A5) [] 1 rfl rfl rfl rfl rfl ?_)
   rintro _ _ _ ⟨rfl, rfl, rfl⟩
   refine sv (EV.pt rfl rfl rfl) rfl (sv (EV.as rfl) rfl (re (pr [2] [] [] rfl rfl rfl rfl ?_)))
   cases H
   exact rt Try.func83 rfl (.tmp rfl .nil) rfl [] [] rfl rfl rfl rfl rfl ⟨rfl, rfl, rfl⟩
  ·
   have xc4 := bF c4; subst xc4
   refine ts 11 rfl rfl (sk rfl (sk rfl (sk rfl (sv (EV.pf rfl rfl rfl) rfl (sv (EV.as rfl) rfl (re (pr [2] [] [] rfl rfl rfl rfl ?_)))))))
   cases H
   exact rt Try.func83 rfl (.tmp rfl .nil) rfl [] [] rfl rfl rfl rfl rfl ⟨rfl, rfl, rfl⟩
 ·
  have xc2 := bF c2; subst xc2
  refine ts 6 rfl rfl (sk rfl (sk rfl (sk rfl (sv (EV.pf rfl rfl rfl) rfl (sv (EV.mv rfl) rfl (sk rfl (sk rfl (sk rfl (sv (EV.pf rfl rfl rfl) rfl (sv (EV.as rfl) rfl (re (pr [2] [] [] rfl rfl rfl rfl ?_))))))))))))
  cases H
  exact rt Try.func83 rfl (.tmp rfl .nil) rfl [] [] rfl rfl rfl rfl rfl ⟨rfl, rfl, rfl⟩
def impl_allValid.l0 : Nat → Int → Int → (List S72) → Option (Bool)
 | 0, _, _, _ => none
 | k + 1, x2_6, x2_7, l0 => if x2_7 < x2_6 then (if 0 ≤ x2_7 then (if x2_7 < (l0.length : Int) then ((impl_IsValidRow.f ((rd_T72 l0 x2_7).f0) ((rd_T72 l0 x2_7).f1) ((rd_T72 l0 x2_7).f2)).bind fun t4 => (if t4 = true then (impl_allValid.l0 k x2_6 (wrap64 (x2_7 + 1)) l0) else (some false))) else none) else none) else (some true)
def impl_allValid.f (k : Nat) (l0 : List S72) : Option (Bool) := impl_allValid.l0 k (l0.length : Int) 0 l0
set_option maxHeartbeats 4000000 in
set_option maxRecDepth 100000 in
theorem impl_allValid.ok (k : Nat) (l0 : List S72) (Al0 : Option Addr) (cl0 : Nat) (r0 : Bool) (H : impl_allValid.f k l0 = some r0) : Fn Try.prog 78 [.slice Al0 l0.length cl0] [] [.sl 0 k72 Al0 cl0 l0 0 false] (fun v bx en => v = .bool r0 ∧ bx = [] ∧ en = []) := by
 refine fn_ 15 Try.func78 rfl rfl rfl (fun base T w0 => ?_)
 rw [impl_allValid.f] at H
 refine gs (rg (sv (EV.as rfl) rfl (re (gs (gs (rg (sv (EV.mv rfl) rfl (sv (EV.ln rfl) rfl (sv (EV.mv rfl) rfl (re (gb ?_)))))))))))
 refine lo (fun kk S => ∃ (x2_6 : Int) (x2_7 : Int), impl_allValid.l0 kk x2_6 x2_7 l0 = some r0 ∧ S = ⟨[(5, .slice Al0 l0.length cl0), (6, .int .i64 x2_6), (7, .int .i64 x2_7)], [], [.sl 0 k72 Al0 cl0 l0 0 false]⟩) (fun S hS => ?_) (fun n0 ih0 S hS => ?_) ⟨(l0.length : Int), 0, H, rfl⟩ (fun h => wk [5, 6, 7] [] [⟨0, 0, 0, false⟩] h)
 · clear H; obtain ⟨_, _, H, _⟩ := hS; rw [impl_allValid.l0] at H; cases H
 clear H
 obtain ⟨x2_6, x2_7, H, rfl⟩ := hS
 rw [impl_allValid.l0] at H
 refine gs (rg (sv (EV.lss rfl rfl) rfl (re (gs ?_))))
 revert H; refine ifsI ?_ ?_ <;> intro c1 H
 ·
  refine gt rfl (dT c1) (gk (gs (gb (gs (rg ?_)))))
  revert H; refine ggI ?_; intro g2 H
  revert H; refine ggI ?_; intro g3 H
  refine sv (EV.ix 0 rfl rfl rfl g2 g3 rfl) rfl (sv (EV.le (v := .agg #[.int .i64 ((rd_T72 l0 x2_7).f0), .int .i64 ((rd_T72 l0 x2_7).f1), .int .i64 ((rd_T72 l0 x2_7).f2)]) x2_7 0 (some 3) 0 z72 rfl rfl rfl g2 g3 rfl rfl rfl) rfl (so rfl (op_alloc (cs := [.int .i64 0, .int .i64 0, .int .i64 0]) (by kernel_rfl) rfl fun b4 => (so rfl (op_st (cs' := [.int .i64 ((rd_T72 l0 x2_7).f0), .int .i64 ((rd_T72 l0 x2_7).f1), .int .i64 ((rd_T72 l0 x2_7).f2)]) 0 rfl rfl rfl rfl rfl rfl (re (gs (rg (sv (EV.ld (v := .agg #[.int .i64 ((rd_T72 l0 x2_7).f0), .int .i64 ((rd_T72 l0 x2_7).f1), .int .i64 ((rd_T72 l0 x2_7).f2)]) 0 (some 3) rfl rfl rfl) rfl ?_)))))))))
  revert H; refine bdI ?_; rintro t4 A4 H
  refine so rfl (op_call (impl_IsValidRow.ok ((rd_T72 l0 x2_7).f0) ((rd_T72 l0 x2_7).f1) ((rd_T72 l0 x2_7).f2) _ A4) [] 1 rfl rfl rfl rfl rfl ?_)
  rintro _ _ _ ⟨rfl, rfl, rfl⟩
  refine sv (EV.nt rfl) rfl (re (pr [5, 6, 7, 13] [] [0] rfl rfl rfl rfl ?_))
  revert H; refine ifsI ?_ ?_ <;> intro c5 H
  ·
   subst c5
   exact gf rfl rfl (gk (ge (rg (sv (EV.add rfl rfl) rfl (sv (EV.mv rfl) rfl (re (wk [5, 6, 7] [] [⟨0, 0, 0, false⟩] (ih0 _ (by omega) _ ⟨x2_6, wrap64 (x2_7 + 1), H, rfl⟩))))))))
  ·
   have xc5 := bF c5; subst xc5
   refine gt rfl rfl (gs (rg (sv (EV.as rfl) rfl (re ?_))))
   cases H
   exact rt Try.func78 rfl (.tmp rfl .nil) rfl [] [] rfl rfl rfl rfl rfl ⟨rfl, rfl, rfl⟩
 ·
  refine gf rfl (dF c1) (gx rfl (gs (rg (sv (EV.as rfl) rfl (re ?_)))))
  cases H
  exact rt Try.func78 rfl (.tmp rfl .nil) rfl [] [] rfl rfl rfl rfl rfl ⟨rfl, rfl, rfl⟩
def impl_AreValidRows.f (k : Nat) (l0 : List S72) : Option (Bool) := if (l0.length : Int) ≤ 24 then ((impl_allValid.f k l0).bind fun t2 => (some t2)) else (some false)
set_option maxHeartbeats 4000000 in
set_option maxRecDepth 100000 in
theorem impl_AreValidRows.ok (k : Nat) (l0 : List S72) (Al0 : Option Addr) (cl0 : Nat) (r0 : Bool) (H : impl_AreValidRows.f k l0 = some r0) : Fn Try.prog 57 [.slice Al0 l0.length cl0] [] [.sl 0 k72 Al0 cl0 l0 0 false] (fun v bx en => v = .bool r0 ∧ bx = [] ∧ en = []) := by
 refine fn_ 10 Try.func57 rfl rfl rfl (fun base T w0 => ?_)
 rw [impl_AreValidRows.f] at H
 refine gs (rg (sv (EV.as rfl) rfl (re (gs (rg (sv (EV.mv rfl) rfl (sv (EV.ln rfl) rfl (sv (EV.leq rfl rfl) rfl (sv (EV.mv rfl) rfl ?_)))))))))
 revert H; refine ifsI ?_ ?_ <;> intro c1 H
 ·
  refine ts 6 rfl (dT c1) (sv (EV.mv rfl) rfl ?_)
  revert H; refine bdI ?_; rintro t2 A2 H
  refine so rfl (op_call (impl_allValid.ok k l0 Al0 cl0 _ A2) [⟨0, 0, 0, false⟩] 1 rfl rfl rfl rfl rfl ?_)
  rintro _ _ _ ⟨rfl, rfl, rfl⟩
  refine sv (EV.pt rfl rfl rfl) rfl (sv (EV.as rfl) rfl (re (pr [2] [] [] rfl rfl rfl rfl ?_)))
  cases H
  exact rt Try.func57 rfl (.tmp rfl .nil) rfl [] [] rfl rfl rfl rfl rfl ⟨rfl, rfl, rfl⟩
 ·
  refine ts 6 rfl (dF c1) (sk rfl (sk rfl (sv (EV.pf rfl rfl rfl) rfl (sv (EV.as rfl) rfl (re (pr [2] [] [] rfl rfl rfl rfl ?_))))))
  cases H
  exact rt Try.func57 rfl (.tmp rfl .nil) rfl [] [] rfl rfl rfl rfl rfl ⟨rfl, rfl, rfl⟩
def impl_order.f (a0 : Int) (a1 : Int) : Option (Int) := if a0 < a1 then (some (-1)) else (if a0 > a1 then (some 1) else (some 0))
set_option maxHeartbeats 4000000 in
set_option maxRecDepth 100000 in
theorem impl_order.ok (a0 : Int) (a1 : Int) (r0 : Int) (H : impl_order.f a0 a1 = some r0) : Fn Try.prog 85 [.int .i64 a0, .int .i64 a1] [] [] (fun v bx en => v = .int .i64 r0 ∧ bx = [] ∧ en = []) := by
 refine fn_ 13 Try.func85 rfl rfl rfl (fun base T w0 => ?_)
 rw [impl_order.f] at H
 refine gs (rg (sv (EV.as rfl) rfl (re (gs (gb (gs (rg (sv (EV.mv rfl) rfl (sv (EV.mv rfl) rfl (sv (EV.lss rfl rfl) rfl (sv (EV.as rfl) rfl (re ?_))))))))))))
 revert H; refine ifsI ?_ ?_ <;> intro c1 H
 ·
  refine gt rfl (dT c1) (gs (rg (sv (EV.as rfl) rfl (re (pr [4] [] [] rfl rfl rfl rfl ?_)))))
  cases H
  exact rt Try.func85 rfl (.tmp rfl .nil) rfl [] [] rfl rfl rfl rfl rfl ⟨rfl, rfl, rfl⟩
 ·
  refine gf rfl (dF c1) (gs (rg (sv (EV.mv rfl) rfl (sv (EV.mv rfl) rfl (sv (EV.gtr rfl rfl) rfl (sv (EV.as rfl) rfl (re (pr [9] [] [] rfl rfl rfl rfl ?_))))))))
  revert H; refine ifsI ?_ ?_ <;> intro c2 H
  ·
   refine gt rfl (dT c2) (gs (rg (sv (EV.as rfl) rfl (re ?_))))
   cases H
   exact rt Try.func85 rfl (.tmp rfl .nil) rfl [] [] rfl rfl rfl rfl rfl ⟨rfl, rfl, rfl⟩
  ·
   refine gf rfl (dF c2) (gk (ge (gs (rg (sv (EV.as rfl) rfl (re ?_))))))
   cases H
   exact rt Try.func85 rfl (.tmp rfl .nil) rfl [] [] rfl rfl rfl rfl rfl ⟨rfl, rfl, rfl⟩
def impl_CompareRows.f (a0_0 : Int) (a0_1 : Int) (a0_2 : Int) (a1_0 : Int) (a1_1 : Int) (a1_2 : Int) : Option (Int) := (impl_order.f a0_0 a1_0).bind fun t1 => (if t1 = 0 then ((impl_order.f a0_1 a1_1).bind fun t3 => (if t3 = 0 then ((impl_order.f a0_2 a1_2).bind fun t5 => (some t5)) else (some t3))) else (some t1))
set_option maxHeartbeats 4000000 in
set_option maxRecDepth 100000 in
theorem impl_CompareRows.ok (a0_0 : Int) (a0_1 : Int) (a0_2 : Int) (a1_0 : Int) (a1_1 : Int) (a1_2 : Int) (r0 : Int) (H : impl_CompareRows.f a0_0 a0_1 a0_2 a1_0 a1_1 a1_2 = some r0) : Fn Try.prog 79 [.agg #[.int .i64 a0_0, .int .i64 a0_1, .int .i64 a0_2], .agg #[.int .i64 a1_0, .int .i64 a1_1, .int .i64 a1_2]] [] [] (fun v bx en => v = .int .i64 r0 ∧ bx = [] ∧ en = []) := by
 refine fn_ 28 Try.func79 rfl rfl rfl (fun base T w0 => ?_)
 rw [impl_CompareRows.f] at H
 refine gs (rg (so rfl (op_box (cs := [.int .i64 a0_0, .int .i64 a0_1, .int .i64 a0_2]) rfl rfl rfl fun b2 => (so rfl (op_box (cs := [.int .i64 a1_0, .int .i64 a1_1, .int .i64 a1_2]) rfl rfl rfl fun b3 => (sv (EV.as rfl) rfl (re (gs (gs (rg (sv (EV.fa 0 rfl) rfl (sv (EV.ld 0 none rfl rfl rfl) rfl (sv (EV.fa 0 rfl) rfl (sv (EV.ld 1 none rfl rfl rfl) rfl ?_))))))))))))))
 revert H; refine bdI ?_; rintro t1 A1 H
 refine so rfl (op_call (impl_order.ok a0_0 a1_0 _ A1) [] 1 rfl rfl rfl rfl rfl ?_)
 rintro _ _ _ ⟨rfl, rfl, rfl⟩
 refine sv (EV.as rfl) rfl (re (pr [2, 3, 5] [0, 1] [] rfl rfl rfl rfl (gs (rg (sv (EV.mv rfl) rfl (sv (EV.neq rfl rfl) rfl (re ?_)))))))
 revert H; refine ifsI ?_ ?_ <;> intro c2 H
 ·
  refine gf rfl (nF c2) (gk (gs (gs (rg (sv (EV.fa 1 rfl) rfl (sv (EV.ld 0 none rfl rfl rfl) rfl (sv (EV.fa 1 rfl) rfl (sv (EV.ld 1 none rfl rfl rfl) rfl ?_))))))))
  revert H; refine bdI ?_; rintro t3 A3 H
  refine so rfl (op_call (impl_order.ok a0_1 a1_1 _ A3) [] 1 rfl rfl rfl rfl rfl ?_)
  rintro _ _ _ ⟨rfl, rfl, rfl⟩
  refine sv (EV.as rfl) rfl (re (pr [2, 3, 6] [0, 1] [] rfl rfl rfl rfl (gs (rg (sv (EV.mv rfl) rfl (sv (EV.neq rfl rfl) rfl (re ?_)))))))
  revert H; refine ifsI ?_ ?_ <;> intro c4 H
  ·
   refine gf rfl (nF c4) (gk (gs (rg (sv (EV.fa 2 rfl) rfl (sv (EV.ld 0 none rfl rfl rfl) rfl (sv (EV.fa 2 rfl) rfl (sv (EV.ld 1 none rfl rfl rfl) rfl ?_)))))))
   revert H; refine bdI ?_; rintro t5 A5 H
   refine so rfl (op_call (impl_order.ok a0_2 a1_2 _ A5) [] 1 rfl rfl rfl rfl rfl ?_)
   rintro _ _ _ ⟨rfl, rfl, rfl⟩
   refine sv (EV.as rfl) rfl (re (pr [4] [] [] rfl rfl rfl rfl ?_))
   cases H
   exact rt Try.func79 rfl (.tmp rfl .nil) rfl [] [] rfl rfl rfl rfl rfl ⟨rfl, rfl, rfl⟩
  ·
   refine gt rfl (nT c4) (gs (rg (sv (EV.mv rfl) rfl (sv (EV.as rfl) rfl (re (pr [4] [] [] rfl rfl rfl rfl ?_))))))
   cases H
   exact rt Try.func79 rfl (.tmp rfl .nil) rfl [] [] rfl rfl rfl rfl rfl ⟨rfl, rfl, rfl⟩
 ·
  refine gt rfl (nT c2) (gs (rg (sv (EV.mv rfl) rfl (sv (EV.as rfl) rfl (re (pr [4] [] [] rfl rfl rfl rfl ?_))))))
  cases H
  exact rt Try.func79 rfl (.tmp rfl .nil) rfl [] [] rfl rfl rfl rfl rfl ⟨rfl, rfl, rfl⟩
def impl_IsSorted.l0 : Nat → Int → (List S72) → Option (Bool)
 | 0, _, _ => none
 | k + 1, x2_3, l0 => if x2_3 < (l0.length : Int) then (if 0 ≤ x2_3 then (if 0 ≤ (wrap64 (x2_3 - 1)) then (if (wrap64 (x2_3 - 1)) < (l0.length : Int) then ((impl_CompareRows.f ((rd_T72 l0 x2_3).f0) ((rd_T72 l0 x2_3).f1) ((rd_T72 l0 x2_3).f2) ((rd_T72 l0 (wrap64 (x2_3 - 1))).f0) ((rd_T72 l0 (wrap64 (x2_3 - 1))).f1) ((rd_T72 l0 (wrap64 (x2_3 - 1))).f2)).bind fun t5 => (if t5 < 0 then (some false) else (impl_IsSorted.l0 k (wrap64 (x2_3 + 1)) l0))) else none) else none) else none) else (some true)
def impl_IsSorted.f (k : Nat) (l0 : List S72) : Option (Bool) := impl_IsSorted.l0 k 1 l0
set_option maxHeartbeats 4000000 in
set_option maxRecDepth 100000 in
theorem impl_IsSorted.ok (k : Nat) (l0 : List S72) (Al0 : Option Addr) (cl0 : Nat) (r0 : Bool) (H : impl_IsSorted.f k l0 = some r0) : Fn Try.prog 60 [.slice Al0 l0.length cl0] [] [.sl 0 k72 Al0 cl0 l0 0 false] (fun v bx en => v = .bool r0 ∧ bx = [] ∧ en = []) := by
 refine fn_ 21 Try.func60 rfl rfl rfl (fun base T w0 => ?_)
 rw [impl_IsSorted.f] at H
 refine gs (rg (sv (EV.as rfl) rfl (re (gs (gs (rg (sv (EV.as rfl) rfl (re (gb ?_)))))))))
 refine lo (fun kk S => ∃ (x2_3 : Int), impl_IsSorted.l0 kk x2_3 l0 = some r0 ∧ S = ⟨[(0, .slice Al0 l0.length cl0), (3, .int .i64 x2_3)], [], [.sl 0 k72 Al0 cl0 l0 0 false]⟩) (fun S hS => ?_) (fun n0 ih0 S hS => ?_) ⟨1, H, rfl⟩ (fun h => wk [0, 3] [] [⟨0, 0, 0, false⟩] h)
 · clear H; obtain ⟨_, H, _⟩ := hS; rw [impl_IsSorted.l0] at H; cases H
 clear H
 obtain ⟨x2_3, H, rfl⟩ := hS
 rw [impl_IsSorted.l0] at H
 refine gs (gs (rg (sv (EV.mv rfl) rfl (sv (EV.mv rfl) rfl (sv (EV.ln rfl) rfl (sv (EV.lss rfl rfl) rfl (re ?_)))))))
 revert H; refine ifsI ?_ ?_ <;> intro c1 H
 ·
  refine gt rfl (dT c1) (gk (gs (gb (gs ?_))))
  revert H; refine ggI ?_; intro g2 H
  revert H; refine ggI ?_; intro g3 H
  revert H; refine ggI ?_; intro g4 H
  refine dr [] [0] [] 11 rfl rfl rfl rfl (xv 0 [] [0] rfl (EV.mv rfl) rfl rfl rfl rfl (xv 1 [] [0] rfl (EV.mv rfl) rfl rfl rfl rfl (xv 2 [] [0] rfl (EV.ix 0 rfl rfl rfl g2 c1 rfl) rfl rfl rfl rfl (xv 3 [] [0] rfl (EV.le (v := .agg #[.int .i64 ((rd_T72 l0 x2_3).f0), .int .i64 ((rd_T72 l0 x2_3).f1), .int .i64 ((rd_T72 l0 x2_3).f2)]) x2_3 0 (some 3) 0 z72 rfl rfl rfl g2 c1 rfl rfl rfl) rfl rfl rfl rfl (xv 4 [] [0] rfl (EV.mv rfl) rfl rfl rfl rfl (xv 5 [] [0] rfl (EV.mv rfl) rfl rfl rfl rfl (xv 6 [] [0] rfl (EV.sub rfl rfl) rfl rfl rfl rfl (xv 7 [] [0] rfl (EV.ix 0 rfl rfl rfl g3 g4 rfl) rfl rfl rfl rfl (xv 8 [] [0] rfl (EV.le (v := .agg #[.int .i64 ((rd_T72 l0 (wrap64 (x2_3 - 1))).f0), .int .i64 ((rd_T72 l0 (wrap64 (x2_3 - 1))).f1), .int .i64 ((rd_T72 l0 (wrap64 (x2_3 - 1))).f2)]) (wrap64 (x2_3 - 1)) 0 (some 3) 0 z72 rfl rfl rfl g3 g4 rfl rfl rfl) rfl rfl rfl rfl (one1 9 rfl rfl ?_))))))))))
  revert H; refine bdI ?_; rintro t5 A5 H
  refine op_call (impl_CompareRows.ok ((rd_T72 l0 x2_3).f0) ((rd_T72 l0 x2_3).f1) ((rd_T72 l0 x2_3).f2) ((rd_T72 l0 (wrap64 (x2_3 - 1))).f0) ((rd_T72 l0 (wrap64 (x2_3 - 1))).f1) ((rd_T72 l0 (wrap64 (x2_3 - 1))).f2) _ A5) [] 1 rfl rfl rfl rfl rfl ?_
  rintro _ _ _ ⟨rfl, rfl, rfl⟩
  refine xs [] [0] rfl rfl rfl (xv 10 [] [0] rfl (EV.lss rfl rfl) rfl rfl rfl rfl (xd (pr [0, 3, 20] [] [0] rfl rfl rfl rfl ?_)))
  revert H; refine ifsI ?_ ?_ <;> intro c6 H
  ·
   refine gt rfl (dT c6) (gs (rg (sv (EV.as rfl) rfl (re ?_))))
   cases H
   exact rt Try.func60 rfl (.tmp rfl .nil) rfl [] [] rfl rfl rfl rfl rfl ⟨rfl, rfl, rfl⟩
  ·
   exact gf rfl (dF c6) (gk (ge (rg (sv (EV.mv rfl) rfl (sv (EV.add rfl rfl) rfl (sv (EV.as rfl) rfl (re (wk [0, 3] [] [⟨0, 0, 0, false⟩] (ih0 _ (by omega) _ ⟨wrap64 (x2_3 + 1), H, rfl⟩)))))))))
 ·
  refine gf rfl (dF c1) (gx rfl (gs (rg (sv (EV.as rfl) rfl (re (pr [2] [] [] rfl rfl rfl rfl ?_))))))
  cases H
  exact rt Try.func60 rfl (.tmp rfl .nil) rfl [] [] rfl rfl rfl rfl rfl ⟨rfl, rfl, rfl⟩
def impl_AreValidRuns.l0 : Nat → Int → Int → (List S57) → Option (Bool)
 | 0, _, _, _ => none
 | k + 1, x2_6, x2_7, l0 => if x2_7 < x2_6 then (if 0 ≤ x2_7 then (if x2_7 < (l0.length : Int) then (if (((rd_T57 l0 x2_7).f0).length : Int) = 0 then (some false) else ((impl_IsSorted.f k ((rd_T57 l0 x2_7).f0)).bind fun t6 => (if t6 = true then ((impl_AreValidRows.f k ((rd_T57 l0 x2_7).f0)).bind fun t8 => (if t8 = true then (impl_AreValidRuns.l0 k x2_6 (wrap64 (x2_7 + 1)) l0) else (some false))) else (some false)))) else none) else none) else (some true)
def impl_AreValidRuns.f (k : Nat) (l0 : List S57) : Option (Bool) := impl_AreValidRuns.l0 k (l0.length : Int) 0 l0
set_option maxHeartbeats 4000000 in
set_option maxRecDepth 100000 in
theorem impl_AreValidRuns.ok (k : Nat) (l0 : List S57) (Al0 : Option Addr) (cl0 : Nat) (r0 : Bool) (H : impl_AreValidRuns.f k l0 = some r0) : Fn Try.prog 59 [.slice Al0 l0.length cl0] [] [.sl 0 k57 Al0 cl0 l0 0 false] (fun v bx en => v = .bool r0 ∧ bx = [] ∧ en = []) := by
 refine fn_ 28 Try.func59 rfl rfl rfl (fun base T w0 => ?_)
 rw [impl_AreValidRuns.f] at H
 refine gs (rg (sv (EV.as rfl) rfl (re (gs (gs (rg (sv (EV.mv rfl) rfl (sv (EV.ln rfl) rfl (sv (EV.mv rfl) rfl (re (gb ?_)))))))))))
 refine lo (fun kk S => ∃ (x2_6 : Int) (x2_7 : Int), impl_AreValidRuns.l0 kk x2_6 x2_7 l0 = some r0 ∧ S = ⟨[(5, .slice Al0 l0.length cl0), (6, .int .i64 x2_6), (7, .int .i64 x2_7)], [], [.sl 0 k57 Al0 cl0 l0 0 false]⟩) (fun S hS => ?_) (fun n0 ih0 S hS => ?_) ⟨(l0.length : Int), 0, H, rfl⟩ (fun h => wk [5, 6, 7] [] [⟨0, 0, 0, false⟩] h)
 · clear H; obtain ⟨_, _, H, _⟩ := hS; rw [impl_AreValidRuns.l0] at H; cases H
 clear H
 obtain ⟨x2_6, x2_7, H, rfl⟩ := hS
 rw [impl_AreValidRuns.l0] at H
 refine gs (rg (sv (EV.lss rfl rfl) rfl (re (gs ?_))))
 revert H; refine ifsI ?_ ?_ <;> intro c1 H
 ·
  refine gt rfl (dT c1) (gk (gs (gb (gs (rg ?_)))))
  revert H; refine ggI ?_; intro g2 H
  revert H; refine ggI ?_; intro g3 H
  refine sv (EV.ix 0 rfl rfl rfl g2 g3 rfl) rfl (opn (i := x2_7) 0 z57 rfl g2 g3 fun A_4 c_4 => (sv (EV.lc (v := .agg #[.slice A_4 ((rd_T57 l0 x2_7).f0).length c_4]) 0 (some 1) 1 rfl rfl rfl rfl) rfl (so rfl (op_alloc (cs := [.slice none 0 0]) (by kernel_rfl) rfl fun b4 => (so rfl (op_st (cs' := [.slice A_4 ((rd_T57 l0 x2_7).f0).length c_4]) 0 rfl rfl rfl rfl rfl rfl (re (gs (rg (sv (EV.fa 0 rfl) rfl (sv (EV.ld 0 none rfl rfl rfl) rfl (sv (EV.ln rfl) rfl (sv (EV.eql rfl rfl) rfl (sv (EV.mv rfl) rfl ?_))))))))))))))
  revert H; refine ifsI ?_ ?_ <;> intro c5 H
  ·
   refine ts 15 rfl (dT c5) (sk rfl (sk rfl (sk rfl (sk rfl (sv (EV.pt rfl rfl rfl) rfl (sv (EV.mv rfl) rfl (sk rfl (sk rfl (sk rfl (sk rfl (sv (EV.pt rfl rfl rfl) rfl (re (pr [5, 6, 7, 26] [] [0] rfl rfl rfl rfl (gt rfl rfl (gs (rg (sv (EV.as rfl) rfl (re ?_))))))))))))))))))
   cases H
   exact rt Try.func59 rfl (.tmp rfl .nil) rfl [] [] rfl rfl rfl rfl rfl ⟨rfl, rfl, rfl⟩
  ·
   refine ts 15 rfl (dF c5) (sv (EV.fa 0 rfl) rfl (sv (EV.ld 0 none rfl rfl rfl) rfl ?_))
   revert H; refine bdI ?_; rintro t6 A6 H
   refine so rfl (op_call (impl_IsSorted.ok n0 ((rd_T57 l0 x2_7).f0) A_4 c_4 _ A6) [⟨2, 0, 0, false⟩] 1 rfl rfl rfl rfl rfl ?_)
   rintro _ _ _ ⟨rfl, rfl, rfl⟩
   refine sv (EV.nt rfl) rfl (sv (EV.pf rfl rfl rfl) rfl (sv (EV.mv rfl) rfl ?_))
   revert H; refine ifsI ?_ ?_ <;> intro c7 H
   ·
    subst c7
    refine ts 21 rfl rfl (sv (EV.fa 0 rfl) rfl (sv (EV.ld 0 none rfl rfl rfl) rfl ?_))
    revert H; refine bdI ?_; rintro t8 A8 H
    refine so rfl (op_call (impl_AreValidRows.ok n0 ((rd_T57 l0 x2_7).f0) A_4 c_4 _ A8) [⟨2, 0, 0, false⟩] 1 rfl rfl rfl rfl rfl ?_)
    rintro _ _ _ ⟨rfl, rfl, rfl⟩
    refine sv (EV.nt rfl) rfl (sv (EV.pf rfl rfl rfl) rfl (re (pr [5, 6, 7, 16, 17, 18, 19, 22, 23, 24, 25, 26] [0] [0, 1, 2] rfl rfl rfl rfl ?_)))
    revert H; refine ifsI ?_ ?_ <;> intro c9 H
    ·
     subst c9
     exact gf rfl rfl (gk (ge (rg (sv (EV.add rfl rfl) rfl (sv (EV.mv rfl) rfl (re (wk [5, 6, 7] [] [⟨0, 0, 0, false⟩] (ih0 _ (by omega) _ ⟨x2_6, wrap64 (x2_7 + 1), H, rfl⟩))))))))
    ·
     have xc9 := bF c9; subst xc9
     refine gt rfl rfl (gs (rg (sv (EV.as rfl) rfl (re (pr [2] [] [] rfl rfl rfl rfl ?_)))))
     cases H
     exact rt Try.func59 rfl (.tmp rfl .nil) rfl [] [] rfl rfl rfl rfl rfl ⟨rfl, rfl, rfl⟩
   ·
    have xc7 := bF c7; subst xc7
    refine ts 21 rfl rfl (sk rfl (sk rfl (sk rfl (sk rfl (sv (EV.pt rfl rfl rfl) rfl (re (pr [5, 6, 7, 16, 17, 18, 19, 26] [0] [0, 1, 2] rfl rfl rfl rfl (gt rfl rfl (gs (rg (sv (EV.as rfl) rfl (re (pr [2] [] [] rfl rfl rfl rfl ?_)))))))))))))
    cases H
    exact rt Try.func59 rfl (.tmp rfl .nil) rfl [] [] rfl rfl rfl rfl rfl ⟨rfl, rfl, rfl⟩
 ·
  refine gf rfl (dF c1) (gx rfl (gs (rg (sv (EV.as rfl) rfl (re ?_)))))
  cases H
  exact rt Try.func59 rfl (.tmp rfl .nil) rfl [] [] rfl rfl rfl rfl rfl ⟨rfl, rfl, rfl⟩
def impl_below.f (a0_0 : Int) (a0_1 : Int) (a0_2 : Int) (l1 : List S72) : Option (Bool) := if (l1.length : Int) > 0 then (if 0 ≤ (wrap64 ((l1.length : Int) - 1)) then (if (wrap64 ((l1.length : Int) - 1)) < (l1.length : Int) then ((impl_CompareRows.f a0_0 a0_1 a0_2 ((rd_T72 l1 (wrap64 ((l1.length : Int) - 1))).f0) ((rd_T72 l1 (wrap64 ((l1.length : Int) - 1))).f1) ((rd_T72 l1 (wrap64 ((l1.length : Int) - 1))).f2)).bind fun t4 => (some (decide (t4 < 0)))) else none) else none) else (some false)
set_option maxHeartbeats 4000000 in
set_option maxRecDepth 100000 in
theorem impl_below.ok (a0_0 : Int) (a0_1 : Int) (a0_2 : Int) (l1 : List S72) (Al1 : Option Addr) (cl1 : Nat) (r0 : Bool) (H : impl_below.f a0_0 a0_1 a0_2 l1 = some r0) : Fn Try.prog 61 [.agg #[.int .i64 a0_0, .int .i64 a0_1, .int .i64 a0_2], .slice Al1 l1.length cl1] [] [.sl 0 k72 Al1 cl1 l1 0 false] (fun v bx en => v = .bool r0 ∧ bx = [] ∧ en = []) := by
 refine fn_ 19 Try.func61 rfl rfl rfl (fun base T w0 => ?_)
 rw [impl_below.f] at H
 refine gs (rg (so rfl (op_box (cs := [.int .i64 a0_0, .int .i64 a0_1, .int .i64 a0_2]) rfl rfl rfl fun b2 => (sv (EV.as rfl) rfl (re (gs (dr [0] [0] [] 15 rfl rfl rfl rfl (xv 0 [0] [0] rfl (EV.mv rfl) rfl rfl rfl rfl (xv 1 [0] [0] rfl (EV.ln rfl) rfl rfl rfl rfl (xv 2 [0] [0] rfl (EV.gtr rfl rfl) rfl rfl rfl rfl (xv 3 [0] [0] rfl (EV.mv rfl) rfl rfl rfl rfl ?_)))))))))))
 revert H; refine ifsI ?_ ?_ <;> intro c1 H
 ·
  refine ts 8 rfl (dT c1) (xv 4 [0] [0] rfl (EV.ld (v := .agg #[.int .i64 a0_0, .int .i64 a0_1, .int .i64 a0_2]) 0 (some 3) rfl rfl rfl) rfl rfl rfl rfl (xv 5 [0] [0] rfl (EV.mv rfl) rfl rfl rfl rfl (xv 6 [0] [0] rfl (EV.mv rfl) rfl rfl rfl rfl (xv 7 [0] [0] rfl (EV.ln rfl) rfl rfl rfl rfl (xv 8 [0] [0] rfl (EV.sub rfl rfl) rfl rfl rfl rfl ?_)))))
  revert H; refine ggI ?_; intro g2 H
  revert H; refine ggI ?_; intro g3 H
  refine xv 9 [0] [0] rfl (EV.ix 0 rfl rfl rfl g2 g3 rfl) rfl rfl rfl rfl (xv 10 [0] [0] rfl (EV.le (v := .agg #[.int .i64 ((rd_T72 l1 (wrap64 ((l1.length : Int) - 1))).f0), .int .i64 ((rd_T72 l1 (wrap64 ((l1.length : Int) - 1))).f1), .int .i64 ((rd_T72 l1 (wrap64 ((l1.length : Int) - 1))).f2)]) (wrap64 ((l1.length : Int) - 1)) 0 (some 3) 0 z72 rfl rfl rfl g2 g3 rfl rfl rfl) rfl rfl rfl rfl (one1 11 rfl rfl ?_))
  revert H; refine bdI ?_; rintro t4 A4 H
  refine op_call (impl_CompareRows.ok a0_0 a0_1 a0_2 ((rd_T72 l1 (wrap64 ((l1.length : Int) - 1))).f0) ((rd_T72 l1 (wrap64 ((l1.length : Int) - 1))).f1) ((rd_T72 l1 (wrap64 ((l1.length : Int) - 1))).f2) _ A4) [] 1 rfl rfl rfl rfl rfl ?_
  rintro _ _ _ ⟨rfl, rfl, rfl⟩
  refine xs [0] [0] rfl rfl rfl (xv 12 [0] [0] rfl (EV.lss rfl rfl) rfl rfl rfl rfl (xv 13 [0] [0] rfl (EV.pt rfl rfl rfl) rfl rfl rfl rfl (xv 14 [0] [0] rfl (EV.as rfl) rfl rfl rfl rfl (xd (pr [4] [] [] rfl rfl rfl rfl ?_)))))
  cases H
  exact rt Try.func61 rfl (.tmp rfl .nil) rfl [] [] rfl rfl rfl rfl rfl ⟨rfl, rfl, rfl⟩
 ·
  refine ts 8 rfl (dF c1) (xk 4 [0] [0] rfl rfl rfl rfl rfl (xk 5 [0] [0] rfl rfl rfl rfl rfl (xk 6 [0] [0] rfl rfl rfl rfl rfl (xk 7 [0] [0] rfl rfl rfl rfl rfl (xk 8 [0] [0] rfl rfl rfl rfl rfl (xk 9 [0] [0] rfl rfl rfl rfl rfl (xk 10 [0] [0] rfl rfl rfl rfl rfl (xk 11 [0] [0] rfl rfl rfl rfl rfl (xk 12 [0] [0] rfl rfl rfl rfl rfl (xv 13 [0] [0] rfl (EV.pf rfl rfl rfl) rfl rfl rfl rfl (xv 14 [0] [0] rfl (EV.as rfl) rfl rfl rfl rfl (xd (pr [4] [] [] rfl rfl rfl rfl ?_)))))))))))))
  cases H
  exact rt Try.func61 rfl (.tmp rfl .nil) rfl [] [] rfl rfl rfl rfl rfl ⟨rfl, rfl, rfl⟩
def impl_FlattenRuns.l0 : Nat → (List S72) → Int → Int → (List S57) → Option ((List S72))
 | 0, _, _, _, _ => none
 | k + 1, x2_3, x2_8, x2_9, l0 => if x2_9 < x2_8 then (if 0 ≤ x2_9 then (if x2_9 < (l0.length : Int) then (if x2_3.length + ((rd_T57 l0 x2_9).f0).length ≤ 5864062014805 then (impl_FlattenRuns.l0 k (x2_3 ++ ((rd_T57 l0 x2_9).f0)) x2_8 (wrap64 (x2_9 + 1)) l0) else none) else none) else none) else (some x2_3)
def impl_FlattenRuns.f (k : Nat) (l0 : List S57) : Option ((List S72)) := impl_FlattenRuns.l0 k [] (l0.length : Int) 0 l0
set_option maxHeartbeats 4000000 in
set_option maxRecDepth 100000 in
theorem impl_FlattenRuns.ok (k : Nat) (l0 : List S57) (Al0 : Option Addr) (cl0 : Nat) (r0 : List S72) (H : impl_FlattenRuns.f k l0 = some r0) : Fn Try.prog 62 [.slice Al0 l0.length cl0] [] [.sl 0 k57 Al0 cl0 l0 0 false] (fun v bx en => ∃ A0 c0, v = .slice A0 r0.length c0 ∧ bx = [] ∧ en = [.sl 2 k72 A0 c0 r0 1 true]) := by
 refine fn_ 19 Try.func62 rfl rfl rfl (fun base T w0 => ?_)
 rw [impl_FlattenRuns.f] at H
 refine gs (rg (sv (EV.as rfl) rfl (re (gs (rg (so rfl (op_lit (s := 3) (by_ := 24) k72 ([] : List S72) [] [] 1 [] rfl rfl rfl rfl rfl rfl rfl rfl rfl rfl rfl rfl rfl dq rfl fun A6_1 c6_1 => (sv (EV.as rfl) rfl (re (gs (gs (rg (sv (EV.mv rfl) rfl (sv (EV.ln rfl) rfl (sv (EV.mv rfl) rfl (re (gb ?_)))))))))))))))))
 refine lo (fun kk S => ∃ (x2_3 : List S72) (Ax2_3 : Option Addr) (cx2_3 : Nat) (x2_8 : Int) (x2_9 : Int), impl_FlattenRuns.l0 kk x2_3 x2_8 x2_9 l0 = some r0 ∧ S = ⟨[(3, .slice Ax2_3 x2_3.length cx2_3), (7, .slice Al0 l0.length cl0), (8, .int .i64 x2_8), (9, .int .i64 x2_9)], [], [.sl 2 k72 Ax2_3 cx2_3 x2_3 1 true, .sl 0 k57 Al0 cl0 l0 0 false]⟩) (fun S hS => ?_) (fun n0 ih0 S hS => ?_) ⟨[], A6_1, c6_1, (l0.length : Int), 0, H, rfl⟩ (fun h => wk [3, 7, 8, 9] [] [⟨1, 2, 1, true⟩, ⟨0, 0, 0, false⟩] h)
 · clear H; obtain ⟨_, _, _, _, _, H, _⟩ := hS; rw [impl_FlattenRuns.l0] at H; cases H
 clear H
 obtain ⟨x2_3, Ax2_3, cx2_3, x2_8, x2_9, H, rfl⟩ := hS
 rw [impl_FlattenRuns.l0] at H
 refine gs (rg (sv (EV.lss rfl rfl) rfl (re (gs ?_))))
 revert H; refine ifsI ?_ ?_ <;> intro c2 H
 ·
  refine gt rfl (dT c2) (gk (gs (gb (gs (rg ?_)))))
  revert H; refine ggI ?_; intro g3 H
  revert H; refine ggI ?_; intro g4 H
  refine sv (EV.ix 1 rfl rfl rfl g3 g4 rfl) rfl (opn (i := x2_9) 1 z57 rfl g3 g4 fun A_5 c_5 => (sv (EV.lc (v := .agg #[.slice A_5 ((rd_T57 l0 x2_9).f0).length c_5]) 0 (some 1) 2 rfl rfl rfl rfl) rfl (so rfl (op_alloc (cs := [.slice none 0 0]) (by kernel_rfl) rfl fun b5 => (so rfl (op_st (cs' := [.slice A_5 ((rd_T57 l0 x2_9).f0).length c_5]) 0 rfl rfl rfl rfl rfl rfl (re (rg (sv (EV.mv rfl) rfl (sv (EV.fa 0 rfl) rfl (sv (EV.ld 0 none rfl rfl rfl) rfl ?_)))))))))))
  revert H; refine ggI ?_; intro g6 H
  exact so rfl (op_app (k := k72) (s := 3) (by_ := 24) 0 3 rfl rfl rfl rfl (ap2 g6 dq) (ap2n g6 dq) (.inl rfl) true (fun _ => .inl rfl) rfl rfl fun A16_7 c16_7 => (nmE (en := [.sl 0 k57 Al0 cl0 l0 0 false, celE Al0 (x2_9.toNat * 1) [.slice A_5 ((rd_T57 l0 x2_9).f0).length c_5] 0, .sl 0 k72 A_5 c_5 ((rd_T57 l0 x2_9).f0) 0 false, .sl 2 k72 A16_7 c16_7 (x2_3 ++ ((rd_T57 l0 x2_9).f0)) 1 true]) (by kernel_rfl) (sv (EV.as rfl) rfl (re (pr [3, 7, 8, 9] [] [0, 3] rfl rfl rfl rfl (ge (rg (sv (EV.add rfl rfl) rfl (sv (EV.mv rfl) rfl (re (wk [3, 7, 8, 9] [] [⟨1, 2, 1, true⟩, ⟨0, 0, 0, false⟩] (ih0 _ (by omega) _ ⟨x2_3 ++ ((rd_T57 l0 x2_9).f0), A16_7, c16_7, x2_8, wrap64 (x2_9 + 1), H, rfl⟩))))))))))))
 ·
  refine gf rfl (dF c2) (gx rfl (gs (rg (sv (EV.mv rfl) rfl (sv (EV.as rfl) rfl (re (pr [2] [] [0] rfl rfl rfl rfl ?_)))))))
  cases H
  exact rt Try.func62 rfl (.tmp rfl .nil) rfl [] [⟨0, 2, 1, true⟩] rfl rfl rfl rfl rfl ⟨_, _, rfl, rfl, rfl⟩
def impl_RowCost.f (a0_0 : Int) (a0_1 : Int) (a0_2 : Int) : Option (Int) := (impl_IsValidRow.f a0_0 a0_1 a0_2).bind fun t1 => (if t1 = true then (some (wrap64 (1 + a0_2))) else (some 0))
set_option maxHeartbeats 4000000 in
set_option maxRecDepth 100000 in
theorem impl_RowCost.ok (a0_0 : Int) (a0_1 : Int) (a0_2 : Int) (r0 : Int) (H : impl_RowCost.f a0_0 a0_1 a0_2 = some r0) : Fn Try.prog 86 [.agg #[.int .i64 a0_0, .int .i64 a0_1, .int .i64 a0_2]] [] [] (fun v bx en => v = .int .i64 r0 ∧ bx = [] ∧ en = []) := by
 refine fn_ 9 Try.func86 rfl rfl rfl (fun base T w0 => ?_)
 rw [impl_RowCost.f] at H
 refine gs (rg (so rfl (op_box (cs := [.int .i64 a0_0, .int .i64 a0_1, .int .i64 a0_2]) rfl rfl rfl fun b1 => (sv (EV.as rfl) rfl (re (gs (gs (rg (sv (EV.ld (v := .agg #[.int .i64 a0_0, .int .i64 a0_1, .int .i64 a0_2]) 0 (some 3) rfl rfl rfl) rfl ?_)))))))))
 revert H; refine bdI ?_; rintro t1 A1 H
 refine so rfl (op_call (impl_IsValidRow.ok a0_0 a0_1 a0_2 _ A1) [] 1 rfl rfl rfl rfl rfl ?_)
 rintro _ _ _ ⟨rfl, rfl, rfl⟩
 refine sv (EV.nt rfl) rfl (re ?_)
 revert H; refine ifsI ?_ ?_ <;> intro c2 H
 ·
  subst c2
  refine gf rfl rfl (gk (gs (rg (sv (EV.fa 2 rfl) rfl (sv (EV.ld 0 none rfl rfl rfl) rfl (sv (EV.add rfl rfl) rfl (sv (EV.as rfl) rfl (re (pr [2] [] [] rfl rfl rfl rfl ?_)))))))))
  cases H
  exact rt Try.func86 rfl (.tmp rfl .nil) rfl [] [] rfl rfl rfl rfl rfl ⟨rfl, rfl, rfl⟩
 ·
  have xc2 := bF c2; subst xc2
  refine gt rfl rfl (gs (rg (sv (EV.as rfl) rfl (re ?_))))
  cases H
  exact rt Try.func86 rfl (.tmp rfl .nil) rfl [] [] rfl rfl rfl rfl rfl ⟨rfl, rfl, rfl⟩
def impl_TotalCost.l0 : Nat → Int → Int → Int → (List S72) → Option (Int)
 | 0, _, _, _, _ => none
 | k + 1, x2_3, x2_7, x2_8, l0 => if x2_8 < x2_7 then (if 0 ≤ x2_8 then (if x2_8 < (l0.length : Int) then ((impl_RowCost.f ((rd_T72 l0 x2_8).f0) ((rd_T72 l0 x2_8).f1) ((rd_T72 l0 x2_8).f2)).bind fun t4 => (impl_TotalCost.l0 k (wrap64 (x2_3 + t4)) x2_7 (wrap64 (x2_8 + 1)) l0)) else none) else none) else (some x2_3)
def impl_TotalCost.f (k : Nat) (l0 : List S72) : Option (Int) := impl_TotalCost.l0 k 0 (l0.length : Int) 0 l0
set_option maxHeartbeats 4000000 in
set_option maxRecDepth 100000 in
theorem impl_TotalCost.ok (k : Nat) (l0 : List S72) (Al0 : Option Addr) (cl0 : Nat) (r0 : Int) (H : impl_TotalCost.f k l0 = some r0) : Fn Try.prog 80 [.slice Al0 l0.length cl0] [] [.sl 0 k72 Al0 cl0 l0 0 false] (fun v bx en => v = .int .i64 r0 ∧ bx = [] ∧ en = []) := by
 refine fn_ 18 Try.func80 rfl rfl rfl (fun base T w0 => ?_)
 rw [impl_TotalCost.f] at H
 refine gs (rg (sv (EV.as rfl) rfl (re (gs (rg (sv (EV.as rfl) rfl (re (gs (gs (rg (sv (EV.mv rfl) rfl (sv (EV.ln rfl) rfl (sv (EV.mv rfl) rfl (re (gb ?_)))))))))))))))
 refine lo (fun kk S => ∃ (x2_3 : Int) (x2_7 : Int) (x2_8 : Int), impl_TotalCost.l0 kk x2_3 x2_7 x2_8 l0 = some r0 ∧ S = ⟨[(3, .int .i64 x2_3), (6, .slice Al0 l0.length cl0), (7, .int .i64 x2_7), (8, .int .i64 x2_8)], [], [.sl 0 k72 Al0 cl0 l0 0 false]⟩) (fun S hS => ?_) (fun n0 ih0 S hS => ?_) ⟨0, (l0.length : Int), 0, H, rfl⟩ (fun h => wk [3, 6, 7, 8] [] [⟨0, 0, 0, false⟩] h)
 · clear H; obtain ⟨_, _, _, H, _⟩ := hS; rw [impl_TotalCost.l0] at H; cases H
 clear H
 obtain ⟨x2_3, x2_7, x2_8, H, rfl⟩ := hS
 rw [impl_TotalCost.l0] at H
 refine gs (rg (sv (EV.lss rfl rfl) rfl (re (gs ?_))))
 revert H; refine ifsI ?_ ?_ <;> intro c1 H
 ·
  refine gt rfl (dT c1) (gk (gs (gb (gs (rg ?_)))))
  revert H; refine ggI ?_; intro g2 H
  revert H; refine ggI ?_; intro g3 H
  refine sv (EV.ix 0 rfl rfl rfl g2 g3 rfl) rfl (sv (EV.le (v := .agg #[.int .i64 ((rd_T72 l0 x2_8).f0), .int .i64 ((rd_T72 l0 x2_8).f1), .int .i64 ((rd_T72 l0 x2_8).f2)]) x2_8 0 (some 3) 0 z72 rfl rfl rfl g2 g3 rfl rfl rfl) rfl (so rfl (op_alloc (cs := [.int .i64 0, .int .i64 0, .int .i64 0]) (by kernel_rfl) rfl fun b5 => (so rfl (op_st (cs' := [.int .i64 ((rd_T72 l0 x2_8).f0), .int .i64 ((rd_T72 l0 x2_8).f1), .int .i64 ((rd_T72 l0 x2_8).f2)]) 0 rfl rfl rfl rfl rfl rfl (re (rg (sv (EV.mv rfl) rfl (sv (EV.ld (v := .agg #[.int .i64 ((rd_T72 l0 x2_8).f0), .int .i64 ((rd_T72 l0 x2_8).f1), .int .i64 ((rd_T72 l0 x2_8).f2)]) 0 (some 3) rfl rfl rfl) rfl ?_)))))))))
  revert H; refine bdI ?_; rintro t4 A4 H
  refine so rfl (op_call (impl_RowCost.ok ((rd_T72 l0 x2_8).f0) ((rd_T72 l0 x2_8).f1) ((rd_T72 l0 x2_8).f2) _ A4) [] 1 rfl rfl rfl rfl rfl ?_)
  rintro _ _ _ ⟨rfl, rfl, rfl⟩
  exact sv (EV.add rfl rfl) rfl (sv (EV.as rfl) rfl (re (pr [3, 6, 7, 8] [] [0] rfl rfl rfl rfl (ge (rg (sv (EV.add rfl rfl) rfl (sv (EV.mv rfl) rfl (re (wk [3, 6, 7, 8] [] [⟨0, 0, 0, false⟩] (ih0 _ (by omega) _ ⟨wrap64 (x2_3 + t4), x2_7, wrap64 (x2_8 + 1), H, rfl⟩))))))))))
 ·
  refine gf rfl (dF c1) (gx rfl (gs (rg (sv (EV.mv rfl) rfl (sv (EV.as rfl) rfl (re (pr [2] [] [] rfl rfl rfl rfl ?_)))))))
  cases H
  exact rt Try.func80 rfl (.tmp rfl .nil) rfl [] [] rfl rfl rfl rfl rfl ⟨rfl, rfl, rfl⟩
def impl_runCost.f (l0_0 : List S72) (a0_1 : Int) (l0_2 : List S72) (l0_3 : List S72) (l0_4 : List S72) (l0_5 : List S57) (a0_6 : Int) (a0_7 : Int) (a0_8 : Int) (a0_9 : Int) (a1 : Int) (a2 : Int) : Option (Int) := if a1 ≥ (l0_5.length : Int) then (some 0) else (if a2 < 0 then (some 0) else (if 0 ≤ a1 then (if a1 < (l0_5.length : Int) then (if a2 ≥ (((rd_T57 l0_5 a1).f0).length : Int) then (some 0) else (if 0 ≤ a2 then (if a2 < (((rd_T57 l0_5 a1).f0).length : Int) then ((impl_RowCost.f ((rd_T72 ((rd_T57 l0_5 a1).f0) a2).f0) ((rd_T72 ((rd_T57 l0_5 a1).f0) a2).f1) ((rd_T72 ((rd_T57 l0_5 a1).f0) a2).f2)).bind fun t10 => (some t10)) else none) else none)) else none) else none))
set_option maxHeartbeats 4000000 in
set_option maxRecDepth 100000 in
theorem impl_runCost.ok (l0_0 : List S72) (Al0_0 : Option Addr) (cl0_0 : Nat) (a0_1 : Int) (l0_2 : List S72) (Al0_2 : Option Addr) (cl0_2 : Nat) (l0_3 : List S72) (Al0_3 : Option Addr) (cl0_3 : Nat) (l0_4 : List S72) (Al0_4 : Option Addr) (cl0_4 : Nat) (l0_5 : List S57) (Al0_5 : Option Addr) (cl0_5 : Nat) (a0_6 : Int) (a0_7 : Int) (a0_8 : Int) (a0_9 : Int) (a1 : Int) (a2 : Int) (r0 : Int) (H : impl_runCost.f l0_0 a0_1 l0_2 l0_3 l0_4 l0_5 a0_6 a0_7 a0_8 a0_9 a1 a2 = some r0) : Fn Try.prog 81 [.agg #[.slice Al0_0 l0_0.length cl0_0, .int .i64 a0_1, .slice Al0_2 l0_2.length cl0_2, .slice Al0_3 l0_3.length cl0_3, .slice Al0_4 l0_4.length cl0_4, .slice Al0_5 l0_5.length cl0_5, .int .i64 a0_6, .int .i64 a0_7, .int .i64 a0_8, .int .i64 a0_9], .int .i64 a1, .int .i64 a2] [] [.sl 0 k72 Al0_0 cl0_0 l0_0 0 false, .sl 0 k72 Al0_2 cl0_2 l0_2 0 false, .sl 0 k72 Al0_3 cl0_3 l0_3 0 false, .sl 0 k72 Al0_4 cl0_4 l0_4 0 false, .sl 0 k57 Al0_5 cl0_5 l0_5 0 false] (fun v bx en => v = .int .i64 r0 ∧ bx = [] ∧ en = []) := by
 refine fn_ 37 Try.func81 rfl rfl rfl (fun base T w0 => ?_)
 rw [impl_runCost.f] at H
 refine gs (rg (so rfl (op_box (cs := [.slice Al0_0 l0_0.length cl0_0, .int .i64 a0_1, .slice Al0_2 l0_2.length cl0_2, .slice Al0_3 l0_3.length cl0_3, .slice Al0_4 l0_4.length cl0_4, .slice Al0_5 l0_5.length cl0_5, .int .i64 a0_6, .int .i64 a0_7, .int .i64 a0_8, .int .i64 a0_9]) rfl rfl rfl fun b3 => (sv (EV.as rfl) rfl (re (gs (gs (rg (sv (EV.mv rfl) rfl (sv (EV.fa 5 rfl) rfl (sv (EV.ld 0 none rfl rfl rfl) rfl (sv (EV.ln rfl) rfl (sv (EV.geq rfl rfl) rfl (sv (EV.mv rfl) rfl ?_))))))))))))))
 revert H; refine ifsI ?_ ?_ <;> intro c1 H
 ·
  refine ts 12 rfl (dT c1) (sk rfl (sk rfl (sv (EV.pt rfl rfl rfl) rfl (sv (EV.mv rfl) rfl (sk rfl (sk rfl (sk rfl (sk rfl (sk rfl (sk rfl (sk rfl (sk rfl (sk rfl (sv (EV.pt rfl rfl rfl) rfl (re (pr [1, 2, 3, 26] [0] [0, 1, 2, 3, 4] rfl rfl rfl rfl (gt rfl rfl (gs (rg (sv (EV.as rfl) rfl (re ?_)))))))))))))))))))))
  cases H
  exact rt Try.func81 rfl (.tmp rfl .nil) rfl [] [] rfl rfl rfl rfl rfl ⟨rfl, rfl, rfl⟩
 ·
  refine ts 12 rfl (dF c1) (sv (EV.mv rfl) rfl (sv (EV.lss rfl rfl) rfl (sv (EV.pf rfl rfl rfl) rfl (sv (EV.mv rfl) rfl ?_))))
  revert H; refine ifsI ?_ ?_ <;> intro c2 H
  ·
   refine ts 16 rfl (dT c2) (sk rfl (sk rfl (sk rfl (sk rfl (sk rfl (sk rfl (sk rfl (sk rfl (sk rfl (sv (EV.pt rfl rfl rfl) rfl (re (pr [1, 2, 3, 26] [0] [0, 1, 2, 3, 4] rfl rfl rfl rfl (gt rfl rfl (gs (rg (sv (EV.as rfl) rfl (re ?_)))))))))))))))))
   cases H
   exact rt Try.func81 rfl (.tmp rfl .nil) rfl [] [] rfl rfl rfl rfl rfl ⟨rfl, rfl, rfl⟩
  ·
   refine ts 16 rfl (dF c2) (sv (EV.mv rfl) rfl (sv (EV.fa 5 rfl) rfl (sv (EV.ld 0 none rfl rfl rfl) rfl (sv (EV.mv rfl) rfl ?_))))
   revert H; refine ggI ?_; intro g3 H
   revert H; refine ggI ?_; intro g4 H
   refine sv (EV.ix 4 rfl rfl rfl g3 g4 rfl) rfl (sv (EV.fa 0 rfl) rfl (opn (i := a1) 4 z57 rfl g3 g4 fun A_5 c_5 => (sv (EV.lc (v := .slice A_5 ((rd_T57 l0_5 a1).f0).length c_5) 0 none 5 rfl rfl rfl rfl) rfl (sv (EV.ln rfl) rfl (sv (EV.geq rfl rfl) rfl (sv (EV.pf rfl rfl rfl) rfl (re (pr [1, 2, 3, 26] [0] [0, 1, 2, 3, 4] rfl rfl rfl rfl ?_))))))))
   revert H; refine ifsI ?_ ?_ <;> intro c6 H
   ·
    refine gt rfl (dT c6) (gs (rg (sv (EV.as rfl) rfl (re ?_))))
    cases H
    exact rt Try.func81 rfl (.tmp rfl .nil) rfl [] [] rfl rfl rfl rfl rfl ⟨rfl, rfl, rfl⟩
   ·
    refine gf rfl (dF c6) (gk (gs (rg (sv (EV.fa 5 rfl) rfl (sv (EV.ld 0 none rfl rfl rfl) rfl (sv (EV.mv rfl) rfl (sv (EV.ix 4 rfl rfl rfl g3 g4 rfl) rfl (sv (EV.fa 0 rfl) rfl (opn (i := a1) 4 z57 rfl g3 g4 fun A_7 c_7 => (sv (EV.lc (v := .slice A_7 ((rd_T57 l0_5 a1).f0).length c_7) 0 none 5 rfl rfl rfl rfl) rfl (sv (EV.mv rfl) rfl ?_)))))))))))
    revert H; refine ggI ?_; intro g8 H
    revert H; refine ggI ?_; intro g9 H
    refine sv (EV.ix 6 rfl rfl rfl g8 g9 rfl) rfl (sv (EV.le (v := .agg #[.int .i64 ((rd_T72 ((rd_T57 l0_5 a1).f0) a2).f0), .int .i64 ((rd_T72 ((rd_T57 l0_5 a1).f0) a2).f1), .int .i64 ((rd_T72 ((rd_T57 l0_5 a1).f0) a2).f2)]) a2 0 (some 3) 6 z72 rfl rfl rfl g8 g9 rfl rfl rfl) rfl ?_)
    revert H; refine bdI ?_; rintro t10 A10 H
    refine so rfl (op_call (impl_RowCost.ok ((rd_T72 ((rd_T57 l0_5 a1).f0) a2).f0) ((rd_T72 ((rd_T57 l0_5 a1).f0) a2).f1) ((rd_T72 ((rd_T57 l0_5 a1).f0) a2).f2) _ A10) [] 1 rfl rfl rfl rfl rfl ?_)
    rintro _ _ _ ⟨rfl, rfl, rfl⟩
    refine sv (EV.as rfl) rfl (re (pr [6] [] [] rfl rfl rfl rfl ?_))
    cases H
    exact rt Try.func81 rfl (.tmp rfl .nil) rfl [] [] rfl rfl rfl rfl rfl ⟨rfl, rfl, rfl⟩
def impl_SorterMemory.f (k : Nat) (l0_0 : List S72) (a0_1 : Int) (l0_2 : List S72) (l0_3 : List S72) (l0_4 : List S72) (l0_5 : List S57) (a0_6 : Int) (a0_7 : Int) (a0_8 : Int) (a0_9 : Int) : Option (Int) := if a0_8 = 1 then ((impl_TotalCost.f k l0_2).bind fun t2 => ((impl_TotalCost.f k l0_3).bind fun t3 => (some (wrap64 (t2 + t3))))) else (if a0_8 = 2 then (if a0_6 < 0 then (some 0) else (if a0_7 < 0 then (some 0) else ((impl_runCost.f l0_0 a0_1 l0_2 l0_3 l0_4 l0_5 a0_6 a0_7 a0_8 a0_9 0 a0_6).bind fun t7 => ((impl_runCost.f l0_0 a0_1 l0_2 l0_3 l0_4 l0_5 a0_6 a0_7 a0_8 a0_9 1 a0_7).bind fun t8 => (some (wrap64 (t7 + t8))))))) else (if a0_8 = 3 then ((impl_runCost.f l0_0 a0_1 l0_2 l0_3 l0_4 l0_5 a0_6 a0_7 a0_8 a0_9 0 a0_6).bind fun t10 => (some t10)) else (some 0)))
set_option maxHeartbeats 4000000 in
set_option maxRecDepth 100000 in
theorem impl_SorterMemory.ok (k : Nat) (l0_0 : List S72) (Al0_0 : Option Addr) (cl0_0 : Nat) (a0_1 : Int) (l0_2 : List S72) (Al0_2 : Option Addr) (cl0_2 : Nat) (l0_3 : List S72) (Al0_3 : Option Addr) (cl0_3 : Nat) (l0_4 : List S72) (Al0_4 : Option Addr) (cl0_4 : Nat) (l0_5 : List S57) (Al0_5 : Option Addr) (cl0_5 : Nat) (a0_6 : Int) (a0_7 : Int) (a0_8 : Int) (a0_9 : Int) (r0 : Int) (H : impl_SorterMemory.f k l0_0 a0_1 l0_2 l0_3 l0_4 l0_5 a0_6 a0_7 a0_8 a0_9 = some r0) : Fn Try.prog 63 [.agg #[.slice Al0_0 l0_0.length cl0_0, .int .i64 a0_1, .slice Al0_2 l0_2.length cl0_2, .slice Al0_3 l0_3.length cl0_3, .slice Al0_4 l0_4.length cl0_4, .slice Al0_5 l0_5.length cl0_5, .int .i64 a0_6, .int .i64 a0_7, .int .i64 a0_8, .int .i64 a0_9]] [] [.sl 0 k72 Al0_0 cl0_0 l0_0 0 false, .sl 0 k72 Al0_2 cl0_2 l0_2 0 false, .sl 0 k72 Al0_3 cl0_3 l0_3 0 false, .sl 0 k72 Al0_4 cl0_4 l0_4 0 false, .sl 0 k57 Al0_5 cl0_5 l0_5 0 false] (fun v bx en => v = .int .i64 r0 ∧ bx = [] ∧ en = []) := by
 refine fn_ 39 Try.func63 rfl rfl rfl (fun base T w0 => ?_)
 rw [impl_SorterMemory.f] at H
 refine gs (rg (so rfl (op_box (cs := [.slice Al0_0 l0_0.length cl0_0, .int .i64 a0_1, .slice Al0_2 l0_2.length cl0_2, .slice Al0_3 l0_3.length cl0_3, .slice Al0_4 l0_4.length cl0_4, .slice Al0_5 l0_5.length cl0_5, .int .i64 a0_6, .int .i64 a0_7, .int .i64 a0_8, .int .i64 a0_9]) rfl rfl rfl fun b1 => (sv (EV.as rfl) rfl (re (gs (gs (rg (sv (EV.fa 8 rfl) rfl (sv (EV.ld 0 none rfl rfl rfl) rfl (re (gb (gs (rg (sv (EV.eql rfl rfl) rfl (sv (EV.as rfl) rfl (re ?_)))))))))))))))))
 revert H; refine ifsI ?_ ?_ <;> intro c1 H
 ·
  refine gt rfl (dT c1) (gs (dr [0] [0, 1, 2, 3, 4] [] 8 rfl rfl rfl rfl (xv 0 [0] [0, 1, 2, 3, 4] rfl (EV.fa 2 rfl) rfl rfl rfl rfl (xv 1 [0] [0, 1, 2, 3, 4] rfl (EV.ld 0 none rfl rfl rfl) rfl rfl rfl rfl (xv 3 [0] [0, 1, 2, 3, 4] rfl (EV.fa 3 rfl) rfl rfl rfl rfl (xv 4 [0] [0, 1, 2, 3, 4] rfl (EV.ld 0 none rfl rfl rfl) rfl rfl rfl rfl (one1 2 rfl rfl ?_)))))))
  revert H; refine bdI ?_; rintro t2 A2 H
  refine op_call (impl_TotalCost.ok k l0_2 Al0_2 cl0_2 _ A2) [⟨1, 0, 0, false⟩] 1 rfl rfl rfl rfl rfl ?_
  rintro _ _ _ ⟨rfl, rfl, rfl⟩
  refine xs [0] [0, 1, 2, 3, 4] rfl rfl rfl (one1 5 rfl rfl ?_)
  revert H; refine bdI ?_; rintro t3 A3 H
  refine op_call (impl_TotalCost.ok k l0_3 Al0_3 cl0_3 _ A3) [⟨2, 0, 0, false⟩] 1 rfl rfl rfl rfl rfl ?_
  rintro _ _ _ ⟨rfl, rfl, rfl⟩
  refine xs [0] [0, 1, 2, 3, 4] rfl rfl rfl (xv 6 [0] [0, 1, 2, 3, 4] rfl (EV.add rfl rfl) rfl rfl rfl rfl (xv 7 [0] [0, 1, 2, 3, 4] rfl (EV.as rfl) rfl rfl rfl rfl (xd (pr [2] [] [] rfl rfl rfl rfl ?_))))
  cases H
  exact rt Try.func63 rfl (.tmp rfl .nil) rfl [] [] rfl rfl rfl rfl rfl ⟨rfl, rfl, rfl⟩
 ·
  refine gf rfl (dF c1) (gs (rg (sv (EV.eql rfl rfl) rfl (sv (EV.as rfl) rfl (re (pr [1, 4, 14] [0] [0, 1, 2, 3, 4] rfl rfl rfl rfl ?_))))))
  revert H; refine ifsI ?_ ?_ <;> intro c4 H
  ·
   refine gt rfl (dT c4) (gs (gs (rg (sv (EV.fa 6 rfl) rfl (sv (EV.ld 0 none rfl rfl rfl) rfl (sv (EV.lss rfl rfl) rfl (sv (EV.mv rfl) rfl ?_)))))))
   revert H; refine ifsI ?_ ?_ <;> intro c5 H
   ·
    refine ts 19 rfl (dT c5) (sk rfl (sk rfl (sk rfl (sv (EV.pt rfl rfl rfl) rfl (re (pr [1, 23] [0] [0, 1, 2, 3, 4] rfl rfl rfl rfl (gt rfl rfl (gs (rg (sv (EV.as rfl) rfl (re ?_)))))))))))
    cases H
    exact rt Try.func63 rfl (.tmp rfl .nil) rfl [] [] rfl rfl rfl rfl rfl ⟨rfl, rfl, rfl⟩
   ·
    refine ts 19 rfl (dF c5) (sv (EV.fa 7 rfl) rfl (sv (EV.ld 0 none rfl rfl rfl) rfl (sv (EV.lss rfl rfl) rfl (sv (EV.pf rfl rfl rfl) rfl (re (pr [1, 23] [0] [0, 1, 2, 3, 4] rfl rfl rfl rfl ?_))))))
    revert H; refine ifsI ?_ ?_ <;> intro c6 H
    ·
     refine gt rfl (dT c6) (gs (rg (sv (EV.as rfl) rfl (re ?_))))
     cases H
     exact rt Try.func63 rfl (.tmp rfl .nil) rfl [] [] rfl rfl rfl rfl rfl ⟨rfl, rfl, rfl⟩
    ·
     refine gf rfl (dF c6) (gk (gs (dr [0] [0, 1, 2, 3, 4] [] 10 rfl rfl rfl rfl (xv 0 [0] [0, 1, 2, 3, 4] rfl (EV.ld (v := .agg #[.slice Al0_0 l0_0.length cl0_0, .int .i64 a0_1, .slice Al0_2 l0_2.length cl0_2, .slice Al0_3 l0_3.length cl0_3, .slice Al0_4 l0_4.length cl0_4, .slice Al0_5 l0_5.length cl0_5, .int .i64 a0_6, .int .i64 a0_7, .int .i64 a0_8, .int .i64 a0_9]) 0 (some 10) rfl rfl rfl) rfl rfl rfl rfl (xv 1 [0] [0, 1, 2, 3, 4] rfl (EV.fa 6 rfl) rfl rfl rfl rfl (xv 2 [0] [0, 1, 2, 3, 4] rfl (EV.ld 0 none rfl rfl rfl) rfl rfl rfl rfl (xv 4 [0] [0, 1, 2, 3, 4] rfl (EV.ld (v := .agg #[.slice Al0_0 l0_0.length cl0_0, .int .i64 a0_1, .slice Al0_2 l0_2.length cl0_2, .slice Al0_3 l0_3.length cl0_3, .slice Al0_4 l0_4.length cl0_4, .slice Al0_5 l0_5.length cl0_5, .int .i64 a0_6, .int .i64 a0_7, .int .i64 a0_8, .int .i64 a0_9]) 0 (some 10) rfl rfl rfl) rfl rfl rfl rfl (xv 5 [0] [0, 1, 2, 3, 4] rfl (EV.fa 7 rfl) rfl rfl rfl rfl (xv 6 [0] [0, 1, 2, 3, 4] rfl (EV.ld 0 none rfl rfl rfl) rfl rfl rfl rfl (one1 3 rfl rfl ?_))))))))))
     revert H; refine bdI ?_; rintro t7 A7 H
     refine op_call (impl_runCost.ok l0_0 Al0_0 cl0_0 a0_1 l0_2 Al0_2 cl0_2 l0_3 Al0_3 cl0_3 l0_4 Al0_4 cl0_4 l0_5 Al0_5 cl0_5 a0_6 a0_7 a0_8 a0_9 0 a0_6 _ A7) [⟨0, 0, 0, false⟩, ⟨1, 0, 0, false⟩, ⟨2, 0, 0, false⟩, ⟨3, 0, 0, false⟩, ⟨4, 0, 0, false⟩] 1 rfl rfl rfl rfl rfl ?_
     rintro _ _ _ ⟨rfl, rfl, rfl⟩
     refine xs [0] [0, 1, 2, 3, 4] rfl rfl rfl (one1 7 rfl rfl ?_)
     revert H; refine bdI ?_; rintro t8 A8 H
     refine op_call (impl_runCost.ok l0_0 Al0_0 cl0_0 a0_1 l0_2 Al0_2 cl0_2 l0_3 Al0_3 cl0_3 l0_4 Al0_4 cl0_4 l0_5 Al0_5 cl0_5 a0_6 a0_7 a0_8 a0_9 1 a0_7 _ A8) [⟨0, 0, 0, false⟩, ⟨1, 0, 0, false⟩, ⟨2, 0, 0, false⟩, ⟨3, 0, 0, false⟩, ⟨4, 0, 0, false⟩] 1 rfl rfl rfl rfl rfl ?_
     rintro _ _ _ ⟨rfl, rfl, rfl⟩
     refine xs [0] [0, 1, 2, 3, 4] rfl rfl rfl (xv 8 [0] [0, 1, 2, 3, 4] rfl (EV.add rfl rfl) rfl rfl rfl rfl (xv 9 [0] [0, 1, 2, 3, 4] rfl (EV.as rfl) rfl rfl rfl rfl (xd (pr [2] [] [] rfl rfl rfl rfl ?_))))
     cases H
     exact rt Try.func63 rfl (.tmp rfl .nil) rfl [] [] rfl rfl rfl rfl rfl ⟨rfl, rfl, rfl⟩
  ·
   refine gf rfl (dF c4) (gs (rg (sv (EV.eql rfl rfl) rfl (sv (EV.as rfl) rfl (re ?_)))))
   revert H; refine ifsI ?_ ?_ <;> intro c9 H
   ·
    refine gt rfl (dT c9) (gs (rg (sv (EV.ld (v := .agg #[.slice Al0_0 l0_0.length cl0_0, .int .i64 a0_1, .slice Al0_2 l0_2.length cl0_2, .slice Al0_3 l0_3.length cl0_3, .slice Al0_4 l0_4.length cl0_4, .slice Al0_5 l0_5.length cl0_5, .int .i64 a0_6, .int .i64 a0_7, .int .i64 a0_8, .int .i64 a0_9]) 0 (some 10) rfl rfl rfl) rfl (sv (EV.fa 6 rfl) rfl (sv (EV.ld 0 none rfl rfl rfl) rfl ?_)))))
    revert H; refine bdI ?_; rintro t10 A10 H
    refine so rfl (op_call (impl_runCost.ok l0_0 Al0_0 cl0_0 a0_1 l0_2 Al0_2 cl0_2 l0_3 Al0_3 cl0_3 l0_4 Al0_4 cl0_4 l0_5 Al0_5 cl0_5 a0_6 a0_7 a0_8 a0_9 0 a0_6 _ A10) [⟨0, 0, 0, false⟩, ⟨1, 0, 0, false⟩, ⟨2, 0, 0, false⟩, ⟨3, 0, 0, false⟩, ⟨4, 0, 0, false⟩] 1 rfl rfl rfl rfl rfl ?_)
    rintro _ _ _ ⟨rfl, rfl, rfl⟩
    refine sv (EV.as rfl) rfl (re (pr [2] [] [] rfl rfl rfl rfl ?_))
    cases H
    exact rt Try.func63 rfl (.tmp rfl .nil) rfl [] [] rfl rfl rfl rfl rfl ⟨rfl, rfl, rfl⟩
   ·
    refine gf rfl (dF c9) (gk (ge (gs (rg (sv (EV.as rfl) rfl (re ?_))))))
    cases H
    exact rt Try.func63 rfl (.tmp rfl .nil) rfl [] [] rfl rfl rfl rfl rfl ⟨rfl, rfl, rfl⟩
def impl_equal.l0 : Nat → Int → Int → (List S72) → (List S72) → Option (Bool)
 | 0, _, _, _, _ => none
 | k + 1, x2_12, x2_13, l0, l1 => if x2_13 < x2_12 then (if 0 ≤ x2_13 then (if x2_13 < (l0.length : Int) then (if x2_13 < (l1.length : Int) then (if (((rd_T72 l0 x2_13).f0) == ((rd_T72 l1 x2_13).f0) && (((rd_T72 l0 x2_13).f1) == ((rd_T72 l1 x2_13).f1) && (((rd_T72 l0 x2_13).f2) == ((rd_T72 l1 x2_13).f2)))) = true then (impl_equal.l0 k x2_12 (wrap64 (x2_13 + 1)) l0 l1) else (some false)) else none) else none) else none) else (some true)
def impl_equal.f (k : Nat) (l0 : List S72) (l1 : List S72) : Option (Bool) := if (l0.length : Int) = (l1.length : Int) then (impl_equal.l0 k (l0.length : Int) 0 l0 l1) else (some false)
set_option maxHeartbeats 4000000 in
set_option maxRecDepth 100000 in
theorem impl_equal.ok (k : Nat) (l0 : List S72) (Al0 : Option Addr) (cl0 : Nat) (l1 : List S72) (Al1 : Option Addr) (cl1 : Nat) (r0 : Bool) (H : impl_equal.f k l0 l1 = some r0) : Fn Try.prog 66 [.slice Al0 l0.length cl0, .slice Al1 l1.length cl1] [] [.sl 0 k72 Al0 cl0 l0 0 false, .sl 0 k72 Al1 cl1 l1 0 false] (fun v bx en => v = .bool r0 ∧ bx = [] ∧ en = []) := by
 refine fn_ 26 Try.func66 rfl rfl rfl (fun base T w0 => ?_)
 rw [impl_equal.f] at H
 refine gs (rg (sv (EV.as rfl) rfl (re (gs (gs (rg (sv (EV.mv rfl) rfl (sv (EV.ln rfl) rfl (sv (EV.mv rfl) rfl (sv (EV.ln rfl) rfl (sv (EV.neq rfl rfl) rfl (re ?_))))))))))))
 revert H; refine ifsI ?_ ?_ <;> intro c1 H
 ·
  refine gf rfl (nF c1) (gk (gs (gs (rg (sv (EV.mv rfl) rfl (sv (EV.ln rfl) rfl (sv (EV.mv rfl) rfl (re (pr [0, 1, 12, 13] [] [0, 1] rfl rfl rfl rfl (gb ?_))))))))))
  refine lo (fun kk S => ∃ (x2_12 : Int) (x2_13 : Int), impl_equal.l0 kk x2_12 x2_13 l0 l1 = some r0 ∧ S = ⟨[(0, .slice Al0 l0.length cl0), (1, .slice Al1 l1.length cl1), (12, .int .i64 x2_12), (13, .int .i64 x2_13)], [], [.sl 0 k72 Al0 cl0 l0 0 false, .sl 0 k72 Al1 cl1 l1 0 false]⟩) (fun S hS => ?_) (fun n0 ih0 S hS => ?_) ⟨(l0.length : Int), 0, H, rfl⟩ (fun h => wk [0, 1, 12, 13] [] [⟨0, 0, 0, false⟩, ⟨1, 0, 0, false⟩] h)
  · clear H; obtain ⟨_, _, H, _⟩ := hS; rw [impl_equal.l0] at H; cases H
  clear H
  obtain ⟨x2_12, x2_13, H, rfl⟩ := hS
  rw [impl_equal.l0] at H
  refine gs (rg (sv (EV.lss rfl rfl) rfl (re (gs ?_))))
  revert H; refine ifsI ?_ ?_ <;> intro c2 H
  ·
   refine gt rfl (dT c2) (gk (gs (gb (gs (rg (sv (EV.mv rfl) rfl (sv (EV.as rfl) rfl (re (gs ?_)))))))))
   revert H; refine ggI ?_; intro g3 H
   revert H; refine ggI ?_; intro g4 H
   revert H; refine ggI ?_; intro g5 H
   refine dr [] [0, 1] [] 9 rfl rfl rfl rfl (xv 0 [] [0, 1] rfl (EV.mv rfl) rfl rfl rfl rfl (xv 1 [] [0, 1] rfl (EV.mv rfl) rfl rfl rfl rfl (xv 2 [] [0, 1] rfl (EV.ix 0 rfl rfl rfl g3 g4 rfl) rfl rfl rfl rfl (xv 3 [] [0, 1] rfl (EV.le (v := .agg #[.int .i64 ((rd_T72 l0 x2_13).f0), .int .i64 ((rd_T72 l0 x2_13).f1), .int .i64 ((rd_T72 l0 x2_13).f2)]) x2_13 0 (some 3) 0 z72 rfl rfl rfl g3 g4 rfl rfl rfl) rfl rfl rfl rfl (xv 4 [] [0, 1] rfl (EV.mv rfl) rfl rfl rfl rfl (xv 5 [] [0, 1] rfl (EV.mv rfl) rfl rfl rfl rfl (xv 6 [] [0, 1] rfl (EV.ix 1 rfl rfl rfl g3 g5 rfl) rfl rfl rfl rfl (xv 7 [] [0, 1] rfl (EV.le (v := .agg #[.int .i64 ((rd_T72 l1 x2_13).f0), .int .i64 ((rd_T72 l1 x2_13).f1), .int .i64 ((rd_T72 l1 x2_13).f2)]) x2_13 0 (some 3) 1 z72 rfl rfl rfl g3 g5 rfl rfl rfl) rfl rfl rfl rfl (xv 8 [] [0, 1] rfl (EV.neS rfl rfl (fun d w => eq72 d w ((rd_T72 l0 x2_13).f0) ((rd_T72 l1 x2_13).f0) ((rd_T72 l0 x2_13).f1) ((rd_T72 l1 x2_13).f1) ((rd_T72 l0 x2_13).f2) ((rd_T72 l1 x2_13).f2))) rfl rfl rfl rfl (xd (pr [0, 1, 12, 13, 24] [] [0, 1] rfl rfl rfl rfl ?_)))))))))))
   revert H; refine ifsI ?_ ?_ <;> intro c6 H
   ·
    exact gf rfl (bN c6) (gk (ge (rg (sv (EV.add rfl rfl) rfl (sv (EV.mv rfl) rfl (re (wk [0, 1, 12, 13] [] [⟨0, 0, 0, false⟩, ⟨1, 0, 0, false⟩] (ih0 _ (by omega) _ ⟨x2_12, wrap64 (x2_13 + 1), H, rfl⟩))))))))
   ·
    refine gt rfl (bM c6) (gs (rg (sv (EV.as rfl) rfl (re ?_))))
    cases H
    exact rt Try.func66 rfl (.tmp rfl .nil) rfl [] [] rfl rfl rfl rfl rfl ⟨rfl, rfl, rfl⟩
  ·
   refine gf rfl (dF c2) (gx rfl (gs (rg (sv (EV.as rfl) rfl (re ?_)))))
   cases H
   exact rt Try.func66 rfl (.tmp rfl .nil) rfl [] [] rfl rfl rfl rfl rfl ⟨rfl, rfl, rfl⟩
 ·
  refine gt rfl (nT c1) (gs (rg (sv (EV.as rfl) rfl (re (pr [4] [] [] rfl rfl rfl rfl ?_)))))
  cases H
  exact rt Try.func66 rfl (.tmp rfl .nil) rfl [] [] rfl rfl rfl rfl rfl ⟨rfl, rfl, rfl⟩
mutual
def slices_insertionSortCmpFunc_impl_Row_at79.l1 : Nat → (List S72) → Int → Int → Int → Int → Option ((List S72))
 | 0, _, _, _, _, _ => none
 | k + 1, x5_ml0, x5_1, x5_2, x5_8, x5_9 => if x5_9 > x5_1 then (if 0 ≤ x5_9 then (if x5_9 < (x5_ml0.length : Int) then (if 0 ≤ (wrap64 (x5_9 - 1)) then (if (wrap64 (x5_9 - 1)) < (x5_ml0.length : Int) then ((impl_CompareRows.f ((rd_T72 x5_ml0 x5_9).f0) ((rd_T72 x5_ml0 x5_9).f1) ((rd_T72 x5_ml0 x5_9).f2) ((rd_T72 x5_ml0 (wrap64 (x5_9 - 1))).f0) ((rd_T72 x5_ml0 (wrap64 (x5_9 - 1))).f1) ((rd_T72 x5_ml0 (wrap64 (x5_9 - 1))).f2)).bind fun t7 => (if t7 < 0 then ((some (x5_ml0.set x5_9.toNat (⟨(rd_T72 x5_ml0 (wrap64 (x5_9 - 1))).f0, (rd_T72 x5_ml0 (wrap64 (x5_9 - 1))).f1, (rd_T72 x5_ml0 (wrap64 (x5_9 - 1))).f2⟩ : S72))).bind fun s9 => (if (wrap64 (x5_9 - 1)) < (s9.length : Int) then ((some (s9.set (wrap64 (x5_9 - 1)).toNat (⟨(rd_T72 x5_ml0 x5_9).f0, (rd_T72 x5_ml0 x5_9).f1, (rd_T72 x5_ml0 x5_9).f2⟩ : S72))).bind fun s11 => (slices_insertionSortCmpFunc_impl_Row_at79.l1 k s11 x5_1 x5_2 x5_8 (wrap64 (x5_9 - 1)))) else none)) else (slices_insertionSortCmpFunc_impl_Row_at79.l0 k x5_ml0 x5_1 x5_2 (wrap64 (x5_8 + 1))))) else none) else none) else none) else none) else (slices_insertionSortCmpFunc_impl_Row_at79.l0 k x5_ml0 x5_1 x5_2 (wrap64 (x5_8 + 1)))
def slices_insertionSortCmpFunc_impl_Row_at79.l0 : Nat → (List S72) → Int → Int → Int → Option ((List S72))
 | 0, _, _, _, _ => none
 | k + 1, x1_ml0, x1_1, x1_2, x1_8 => if x1_8 < x1_2 then (slices_insertionSortCmpFunc_impl_Row_at79.l1 k x1_ml0 x1_1 x1_2 x1_8 x1_8) else (some x1_ml0)
end
def slices_insertionSortCmpFunc_impl_Row_at79.f (k : Nat) (l0 : List S72) (a1 : Int) (a2 : Int) : Option ((List S72)) := slices_insertionSortCmpFunc_impl_Row_at79.l0 k l0 a1 a2 (wrap64 (a1 + 1))
set_option maxHeartbeats 4000000 in
set_option maxRecDepth 100000 in
theorem slices_insertionSortCmpFunc_impl_Row_at79.ok (k : Nat) (l0 : List S72) (Al0 : Option Addr) (cl0 : Nat) (a1 : Int) (a2 : Int) (r0 : List S72) (H : slices_insertionSortCmpFunc_impl_Row_at79.f k l0 a1 a2 = some r0) : Fn Try.prog 90 [.slice Al0 l0.length cl0, .int .i64 a1, .int .i64 a2, .func (.func 79) #[] #[]] [] [.sl 1 k72 Al0 cl0 l0 1 false] (fun v bx en => v = .tuple #[] ∧ bx = [] ∧ en = [.sl 1 k72 Al0 cl0 r0 1 false] ∧ r0.length = l0.length) := by
 refine fn_ 53 Try.func90 rfl rfl rfl (fun base T w0 => ?_)
 rw [slices_insertionSortCmpFunc_impl_Row_at79.f] at H
 refine gs (rg (sv (EV.mv rfl) rfl (sv (EV.add rfl rfl) rfl (sv (EV.as rfl) rfl (re (gb ?_))))))
 refine lo (fun kk S => ∃ (x1_ml0 : List S72) (x1_1 : Int) (x1_2 : Int) (x1_8 : Int), slices_insertionSortCmpFunc_impl_Row_at79.l0 kk x1_ml0 x1_1 x1_2 x1_8 = some r0 ∧ x1_ml0.length = l0.length ∧ S = ⟨[(0, .slice Al0 x1_ml0.length cl0), (1, .int .i64 x1_1), (2, .int .i64 x1_2), (3, .func (.func 79) #[] #[]), (8, .int .i64 x1_8)], [], [.sl 1 k72 Al0 cl0 x1_ml0 1 false]⟩) (fun S hS => ?_) (fun n0 ih0 S hS => ?_) ⟨l0, a1, a2, wrap64 (a1 + 1), H, (by first | rfl | assumption | omega | (simp only [List.length_set]; first | done | assumption | omega)), rfl⟩ (fun h => wk [0, 1, 2, 3, 8] [] [⟨0, 1, 1, false⟩] h)
 · clear H; obtain ⟨_, _, _, _, H, _⟩ := hS; rw [slices_insertionSortCmpFunc_impl_Row_at79.l0] at H; cases H
 clear H
 obtain ⟨x1_ml0, x1_1, x1_2, x1_8, H, ex1_ml0, rfl⟩ := hS
 rw [slices_insertionSortCmpFunc_impl_Row_at79.l0] at H
 refine gs (gs (rg (sv (EV.mv rfl) rfl (sv (EV.mv rfl) rfl (sv (EV.lss rfl rfl) rfl (re ?_))))))
 revert H; refine ifsI ?_ ?_ <;> intro c1 H
 ·
  refine gt rfl (dT c1) (gk (gs (gb (gs (rg (sv (EV.mv rfl) rfl (sv (EV.as rfl) rfl (re (gb ?_)))))))))
  refine lo (fun kk S => ∃ (x5_ml0 : List S72) (x5_1 : Int) (x5_2 : Int) (x5_8 : Int) (x5_9 : Int), kk ≤ n0 ∧ slices_insertionSortCmpFunc_impl_Row_at79.l1 kk x5_ml0 x5_1 x5_2 x5_8 x5_9 = some r0 ∧ x5_ml0.length = l0.length ∧ S = ⟨[(0, .slice Al0 x5_ml0.length cl0), (1, .int .i64 x5_1), (2, .int .i64 x5_2), (3, .func (.func 79) #[] #[]), (8, .int .i64 x5_8), (9, .int .i64 x5_9)], [], [.sl 1 k72 Al0 cl0 x5_ml0 1 false]⟩) (fun S hS => ?_) (fun n1 ih1 S hS => ?_) ⟨x1_ml0, x1_1, x1_2, x1_8, x1_8, by omega, H, (by first | rfl | assumption | omega | (simp only [List.length_set]; first | done | assumption | omega)), rfl⟩ (fun h => wk [0, 1, 2, 3, 8, 9] [] [⟨0, 1, 1, false⟩] h)
  · clear H; obtain ⟨_, _, _, _, _, _, H, _⟩ := hS; rw [slices_insertionSortCmpFunc_impl_Row_at79.l1] at H; cases H
  clear H
  obtain ⟨x5_ml0, x5_1, x5_2, x5_8, x5_9, lk1, H, ex5_ml0, rfl⟩ := hS
  rw [slices_insertionSortCmpFunc_impl_Row_at79.l1] at H
  refine gs (gs (dr [] [0] [] 17 rfl rfl rfl rfl (xv 0 [] [0] rfl (EV.mv rfl) rfl rfl rfl rfl (xv 1 [] [0] rfl (EV.mv rfl) rfl rfl rfl rfl (xv 2 [] [0] rfl (EV.gtr rfl rfl) rfl rfl rfl rfl (xv 3 [] [0] rfl (EV.mv rfl) rfl rfl rfl rfl ?_))))))
  revert H; refine ifsI ?_ ?_ <;> intro c2 H
  ·
   refine ts 21 rfl (dT c2) (xv 4 [] [0] rfl (EV.mv rfl) rfl rfl rfl rfl (xv 5 [] [0] rfl (EV.mv rfl) rfl rfl rfl rfl (xv 6 [] [0] rfl (EV.mv rfl) rfl rfl rfl rfl ?_)))
   revert H; refine ggI ?_; intro g3 H
   revert H; refine ggI ?_; intro g4 H
   refine xv 7 [] [0] rfl (EV.ix 0 rfl rfl rfl g3 g4 rfl) rfl rfl rfl rfl (xv 8 [] [0] rfl (EV.le (v := .agg #[.int .i64 ((rd_T72 x5_ml0 x5_9).f0), .int .i64 ((rd_T72 x5_ml0 x5_9).f1), .int .i64 ((rd_T72 x5_ml0 x5_9).f2)]) x5_9 0 (some 3) 0 z72 rfl rfl rfl g3 g4 rfl rfl rfl) rfl rfl rfl rfl (xv 9 [] [0] rfl (EV.mv rfl) rfl rfl rfl rfl (xv 10 [] [0] rfl (EV.mv rfl) rfl rfl rfl rfl (xv 11 [] [0] rfl (EV.sub rfl rfl) rfl rfl rfl rfl ?_))))
   revert H; refine ggI ?_; intro g5 H
   revert H; refine ggI ?_; intro g6 H
   refine xv 12 [] [0] rfl (EV.ix 0 rfl rfl rfl g5 g6 rfl) rfl rfl rfl rfl (xv 13 [] [0] rfl (EV.le (v := .agg #[.int .i64 ((rd_T72 x5_ml0 (wrap64 (x5_9 - 1))).f0), .int .i64 ((rd_T72 x5_ml0 (wrap64 (x5_9 - 1))).f1), .int .i64 ((rd_T72 x5_ml0 (wrap64 (x5_9 - 1))).f2)]) (wrap64 (x5_9 - 1)) 0 (some 3) 0 z72 rfl rfl rfl g5 g6 rfl rfl rfl) rfl rfl rfl rfl (one1 14 rfl rfl ?_))
   revert H; refine bdI ?_; rintro t7 A7 H
   refine cvf (f := 79) rfl (op_call (impl_CompareRows.ok ((rd_T72 x5_ml0 x5_9).f0) ((rd_T72 x5_ml0 x5_9).f1) ((rd_T72 x5_ml0 x5_9).f2) ((rd_T72 x5_ml0 (wrap64 (x5_9 - 1))).f0) ((rd_T72 x5_ml0 (wrap64 (x5_9 - 1))).f1) ((rd_T72 x5_ml0 (wrap64 (x5_9 - 1))).f2) _ A7) [] 2 rfl rfl rfl rfl rfl ?_)
   rintro _ _ _ ⟨rfl, rfl, rfl⟩
   refine xs [] [0] rfl rfl rfl (xv 15 [] [0] rfl (EV.lss rfl rfl) rfl rfl rfl rfl (xv 16 [] [0] rfl (EV.pt rfl rfl rfl) rfl rfl rfl rfl (xd ?_)))
   revert H; refine ifsI ?_ ?_ <;> intro c8 H
   ·
    refine gt rfl (dT c8) (gk (gs (gb (dr [] [] [16, 17] 18 rfl rfl rfl rfl (xv 0 [] [] rfl (EV.mv rfl) rfl rfl rfl rfl (xv 1 [] [] rfl (EV.mv rfl) rfl rfl rfl rfl (xv 2 [] [] rfl (EV.mv rfl) rfl rfl rfl rfl (xv 3 [] [] rfl (EV.mv rfl) rfl rfl rfl rfl (xv 4 [] [] rfl (EV.sub rfl rfl) rfl rfl rfl rfl (xv 5 [] [] rfl (EV.mv rfl) rfl rfl rfl rfl (xv 6 [] [] rfl (EV.mv rfl) rfl rfl rfl rfl (xv 7 [] [] rfl (EV.sub rfl rfl) rfl rfl rfl rfl (xv 10 [] [] rfl (EV.mv rfl) rfl rfl rfl rfl (xv 11 [] [] rfl (EV.mv rfl) rfl rfl rfl rfl ?_))))))))))))))
    refine one2 8 12 rfl rfl rfl rfl ?_ ?_
    ·
     refine ov (EV.ix 0 rfl rfl rfl g5 g6 rfl) rfl (xs [] [] rfl rfl rfl ?_)
     refine one2 9 12 rfl rfl rfl rfl ?_ ?_
     ·
      refine ov (EV.le (v := .agg #[.int .i64 ((rd_T72 x5_ml0 (wrap64 (x5_9 - 1))).f0), .int .i64 ((rd_T72 x5_ml0 (wrap64 (x5_9 - 1))).f1), .int .i64 ((rd_T72 x5_ml0 (wrap64 (x5_9 - 1))).f2)]) (wrap64 (x5_9 - 1)) 0 (some 3) 0 z72 rfl rfl rfl g5 g6 rfl rfl rfl) rfl (xs [] [] rfl rfl rfl (one1 12 rfl rfl (ov (EV.ix 0 rfl rfl rfl g3 g4 rfl) rfl (xs [] [] rfl rfl rfl (one1 13 rfl rfl (ov (EV.le (v := .agg #[.int .i64 ((rd_T72 x5_ml0 x5_9).f0), .int .i64 ((rd_T72 x5_ml0 x5_9).f1), .int .i64 ((rd_T72 x5_ml0 x5_9).f2)]) x5_9 0 (some 3) 0 z72 rfl rfl rfl g3 g4 rfl rfl rfl) rfl (xs [] [] rfl rfl rfl (one1 14 rfl rfl (ov (EV.ix 0 rfl rfl rfl g3 g4 rfl) rfl (xs [] [] rfl rfl rfl (one1 15 rfl rfl ?_)))))))))))
      revert H; refine bdI ?_; intro s9 A9 H; have q9 := stl (Option.some.inj A9)
      refine op_stg x5_9 0 0 z72 (⟨(rd_T72 x5_ml0 (wrap64 (x5_9 - 1))).f0, (rd_T72 x5_ml0 (wrap64 (x5_9 - 1))).f1, (rd_T72 x5_ml0 (wrap64 (x5_9 - 1))).f2⟩ : S72) (Option.some.inj A9) rfl rfl rfl rfl g3 g4 rfl rfl rfl rfl dq rfl (rlT 0 (v' := .slice Al0 s9.length cl0) rfl (slq _ _ q9) (rlT 23 (v' := .slice Al0 s9.length cl0) rfl (slq _ _ q9) (rlT 27 (v' := .slice Al0 s9.length cl0) rfl (slq _ _ q9) (rlT 37 (v' := .slice Al0 s9.length cl0) rfl (slq _ _ q9) (rlT 39 (v' := .slice Al0 s9.length cl0) rfl (slq _ _ q9) (rlT 42 (v' := .slice Al0 s9.length cl0) rfl (slq _ _ q9) (rlT 47 (v' := .slice Al0 s9.length cl0) rfl (slq _ _ q9) (nmE (en := [.sl 1 k72 Al0 cl0 s9 1 true]) (by kernel_rfl) (xs [] [] rfl rfl rfl (one1 16 rfl rfl ?_))))))))))
      revert H; refine ggI ?_; intro g10 H
      refine ov (EV.ix 0 rfl rfl rfl g5 g10 rfl) rfl (xn rfl (one1 17 rfl rfl ?_))
      revert H; refine bdI ?_; intro s11 A11 H; have q11 := stl (Option.some.inj A11)
      exact op_stg (wrap64 (x5_9 - 1)) 0 0 z72 (⟨(rd_T72 x5_ml0 x5_9).f0, (rd_T72 x5_ml0 x5_9).f1, (rd_T72 x5_ml0 x5_9).f2⟩ : S72) (Option.some.inj A11) rfl rfl rfl rfl g5 g10 rfl rfl rfl rfl dq rfl (rlT 0 (v' := .slice Al0 s11.length cl0) rfl (slq _ _ q11) (rlT 23 (v' := .slice Al0 s11.length cl0) rfl (slq _ _ q11) (rlT 27 (v' := .slice Al0 s11.length cl0) rfl (slq _ _ q11) (rlT 37 (v' := .slice Al0 s11.length cl0) rfl (slq _ _ q11) (rlT 39 (v' := .slice Al0 s11.length cl0) rfl (slq _ _ q11) (rlT 42 (v' := .slice Al0 s11.length cl0) rfl (slq _ _ q11) (rlT 47 (v' := .slice Al0 s11.length cl0) rfl (slq _ _ q11) (nmE (en := [.sl 1 k72 Al0 cl0 s11 1 true]) (by kernel_rfl) (xn rfl (xd (pr [0, 1, 2, 3, 8, 9, 22, 23, 24, 26, 27, 28, 29, 31, 32, 33] [] [0] rfl rfl rfl rfl (ge (rg (sv (EV.mv rfl) rfl (sv (EV.sub rfl rfl) rfl (sv (EV.as rfl) rfl (re (wk [0, 1, 2, 3, 8, 9] [] [⟨0, 1, 1, false⟩] (ih1 _ (by omega) _ ⟨s11, x5_1, x5_2, x5_8, wrap64 (x5_9 - 1), by omega, H, (by first | rfl | assumption | omega | (simp only [List.length_set]; first | done | assumption | omega)), rfl⟩)))))))))))))))))))
     ·
      refine ov (EV.ix 0 rfl rfl rfl g3 g4 rfl) rfl (xs [] [] rfl rfl rfl ?_)
      refine one2 9 13 rfl rfl rfl rfl ?_ ?_
      ·
       refine ov (EV.le (v := .agg #[.int .i64 ((rd_T72 x5_ml0 (wrap64 (x5_9 - 1))).f0), .int .i64 ((rd_T72 x5_ml0 (wrap64 (x5_9 - 1))).f1), .int .i64 ((rd_T72 x5_ml0 (wrap64 (x5_9 - 1))).f2)]) (wrap64 (x5_9 - 1)) 0 (some 3) 0 z72 rfl rfl rfl g5 g6 rfl rfl rfl) rfl (xs [] [] rfl rfl rfl (one1 13 rfl rfl (ov (EV.le (v := .agg #[.int .i64 ((rd_T72 x5_ml0 x5_9).f0), .int .i64 ((rd_T72 x5_ml0 x5_9).f1), .int .i64 ((rd_T72 x5_ml0 x5_9).f2)]) x5_9 0 (some 3) 0 z72 rfl rfl rfl g3 g4 rfl rfl rfl) rfl (xs [] [] rfl rfl rfl (one1 14 rfl rfl (ov (EV.ix 0 rfl rfl rfl g3 g4 rfl) rfl (xs [] [] rfl rfl rfl (one1 15 rfl rfl ?_))))))))
       revert H; refine bdI ?_; intro s12 A12 H; have q12 := stl (Option.some.inj A12)
       refine op_stg x5_9 0 0 z72 (⟨(rd_T72 x5_ml0 (wrap64 (x5_9 - 1))).f0, (rd_T72 x5_ml0 (wrap64 (x5_9 - 1))).f1, (rd_T72 x5_ml0 (wrap64 (x5_9 - 1))).f2⟩ : S72) (Option.some.inj A12) rfl rfl rfl rfl g3 g4 rfl rfl rfl rfl dq rfl (rlT 0 (v' := .slice Al0 s12.length cl0) rfl (slq _ _ q12) (rlT 23 (v' := .slice Al0 s12.length cl0) rfl (slq _ _ q12) (rlT 27 (v' := .slice Al0 s12.length cl0) rfl (slq _ _ q12) (rlT 37 (v' := .slice Al0 s12.length cl0) rfl (slq _ _ q12) (rlT 39 (v' := .slice Al0 s12.length cl0) rfl (slq _ _ q12) (rlT 42 (v' := .slice Al0 s12.length cl0) rfl (slq _ _ q12) (rlT 47 (v' := .slice Al0 s12.length cl0) rfl (slq _ _ q12) (nmE (en := [.sl 1 k72 Al0 cl0 s12 1 true]) (by kernel_rfl) (xs [] [] rfl rfl rfl (one1 16 rfl rfl ?_))))))))))
       revert H; refine ggI ?_; intro g13 H
       refine ov (EV.ix 0 rfl rfl rfl g5 g13 rfl) rfl (xn rfl (one1 17 rfl rfl ?_))
       revert H; refine bdI ?_; intro s14 A14 H; have q14 := stl (Option.some.inj A14)
       exact op_stg (wrap64 (x5_9 - 1)) 0 0 z72 (⟨(rd_T72 x5_ml0 x5_9).f0, (rd_T72 x5_ml0 x5_9).f1, (rd_T72 x5_ml0 x5_9).f2⟩ : S72) (Option.some.inj A14) rfl rfl rfl rfl g5 g13 rfl rfl rfl rfl dq rfl (rlT 0 (v' := .slice Al0 s14.length cl0) rfl (slq _ _ q14) (rlT 23 (v' := .slice Al0 s14.length cl0) rfl (slq _ _ q14) (rlT 27 (v' := .slice Al0 s14.length cl0) rfl (slq _ _ q14) (rlT 37 (v' := .slice Al0 s14.length cl0) rfl (slq _ _ q14) (rlT 39 (v' := .slice Al0 s14.length cl0) rfl (slq _ _ q14) (rlT 42 (v' := .slice Al0 s14.length cl0) rfl (slq _ _ q14) (rlT 47 (v' := .slice Al0 s14.length cl0) rfl (slq _ _ q14) (nmE (en := [.sl 1 k72 Al0 cl0 s14 1 true]) (by kernel_rfl) (xn rfl (xd (pr [0, 1, 2, 3, 8, 9, 22, 23, 24, 26, 27, 28, 29, 31, 32, 33] [] [0] rfl rfl rfl rfl (ge (rg (sv (EV.mv rfl) rfl (sv (EV.sub rfl rfl) rfl (sv (EV.as rfl) rfl (re (wk [0, 1, 2, 3, 8, 9] [] [⟨0, 1, 1, false⟩] (ih1 _ (by omega) _ ⟨s14, x5_1, x5_2, x5_8, wrap64 (x5_9 - 1), by omega, H, (by first | rfl | assumption | omega | (simp only [List.length_set]; first | done | assumption | omega)), rfl⟩)))))))))))))))))))
      ·
       refine ov (EV.le (v := .agg #[.int .i64 ((rd_T72 x5_ml0 x5_9).f0), .int .i64 ((rd_T72 x5_ml0 x5_9).f1), .int .i64 ((rd_T72 x5_ml0 x5_9).f2)]) x5_9 0 (some 3) 0 z72 rfl rfl rfl g3 g4 rfl rfl rfl) rfl (xs [] [] rfl rfl rfl (one1 9 rfl rfl (ov (EV.le (v := .agg #[.int .i64 ((rd_T72 x5_ml0 (wrap64 (x5_9 - 1))).f0), .int .i64 ((rd_T72 x5_ml0 (wrap64 (x5_9 - 1))).f1), .int .i64 ((rd_T72 x5_ml0 (wrap64 (x5_9 - 1))).f2)]) (wrap64 (x5_9 - 1)) 0 (some 3) 0 z72 rfl rfl rfl g5 g6 rfl rfl rfl) rfl (xs [] [] rfl rfl rfl (one1 14 rfl rfl (ov (EV.ix 0 rfl rfl rfl g3 g4 rfl) rfl (xs [] [] rfl rfl rfl (one1 15 rfl rfl ?_))))))))
       revert H; refine bdI ?_; intro s15 A15 H; have q15 := stl (Option.some.inj A15)
       refine op_stg x5_9 0 0 z72 (⟨(rd_T72 x5_ml0 (wrap64 (x5_9 - 1))).f0, (rd_T72 x5_ml0 (wrap64 (x5_9 - 1))).f1, (rd_T72 x5_ml0 (wrap64 (x5_9 - 1))).f2⟩ : S72) (Option.some.inj A15) rfl rfl rfl rfl g3 g4 rfl rfl rfl rfl dq rfl (rlT 0 (v' := .slice Al0 s15.length cl0) rfl (slq _ _ q15) (rlT 23 (v' := .slice Al0 s15.length cl0) rfl (slq _ _ q15) (rlT 27 (v' := .slice Al0 s15.length cl0) rfl (slq _ _ q15) (rlT 37 (v' := .slice Al0 s15.length cl0) rfl (slq _ _ q15) (rlT 39 (v' := .slice Al0 s15.length cl0) rfl (slq _ _ q15) (rlT 42 (v' := .slice Al0 s15.length cl0) rfl (slq _ _ q15) (rlT 47 (v' := .slice Al0 s15.length cl0) rfl (slq _ _ q15) (nmE (en := [.sl 1 k72 Al0 cl0 s15 1 true]) (by kernel_rfl) (xs [] [] rfl rfl rfl (one1 16 rfl rfl ?_))))))))))
       revert H; refine ggI ?_; intro g16 H
       refine ov (EV.ix 0 rfl rfl rfl g5 g16 rfl) rfl (xn rfl (one1 17 rfl rfl ?_))
       revert H; refine bdI ?_; intro s17 A17 H; have q17 := stl (Option.some.inj A17)
       exact op_stg (wrap64 (x5_9 - 1)) 0 0 z72 (⟨(rd_T72 x5_ml0 x5_9).f0, (rd_T72 x5_ml0 x5_9).f1, (rd_T72 x5_ml0 x5_9).f2⟩ : S72) (Option.some.inj A17) rfl rfl rfl rfl g5 g16 rfl rfl rfl rfl dq rfl (rlT 0 (v' := .slice Al0 s17.length cl0) rfl (slq _ _ q17) (rlT 23 (v' := .slice Al0 s17.length cl0) rfl (slq _ _ q17) (rlT 27 (v' := .slice Al0 s17.length cl0) rfl (slq _ _ q17) (rlT 37 (v' := .slice Al0 s17.length cl0) rfl (slq _ _ q17) (rlT 39 (v' := .slice Al0 s17.length cl0) rfl (slq _ _ q17) (rlT 42 (v' := .slice Al0 s17.length cl0) rfl (slq _ _ q17) (rlT 47 (v' := .slice Al0 s17.length cl0) rfl (slq _ _ q17) (nmE (en := [.sl 1 k72 Al0 cl0 s17 1 true]) (by kernel_rfl) (xn rfl (xd (pr [0, 1, 2, 3, 8, 9, 22, 23, 24, 26, 27, 28, 29, 31, 32, 33] [] [0] rfl rfl rfl rfl (ge (rg (sv (EV.mv rfl) rfl (sv (EV.sub rfl rfl) rfl (sv (EV.as rfl) rfl (re (wk [0, 1, 2, 3, 8, 9] [] [⟨0, 1, 1, false⟩] (ih1 _ (by omega) _ ⟨s17, x5_1, x5_2, x5_8, wrap64 (x5_9 - 1), by omega, H, (by first | rfl | assumption | omega | (simp only [List.length_set]; first | done | assumption | omega)), rfl⟩)))))))))))))))))))
    ·
     refine ov (EV.ix 0 rfl rfl rfl g3 g4 rfl) rfl (xs [] [] rfl rfl rfl ?_)
     refine one2 8 13 rfl rfl rfl rfl ?_ ?_
     ·
      refine ov (EV.ix 0 rfl rfl rfl g5 g6 rfl) rfl (xs [] [] rfl rfl rfl ?_)
      refine one2 9 13 rfl rfl rfl rfl ?_ ?_
      ·
       refine ov (EV.le (v := .agg #[.int .i64 ((rd_T72 x5_ml0 (wrap64 (x5_9 - 1))).f0), .int .i64 ((rd_T72 x5_ml0 (wrap64 (x5_9 - 1))).f1), .int .i64 ((rd_T72 x5_ml0 (wrap64 (x5_9 - 1))).f2)]) (wrap64 (x5_9 - 1)) 0 (some 3) 0 z72 rfl rfl rfl g5 g6 rfl rfl rfl) rfl (xs [] [] rfl rfl rfl (one1 13 rfl rfl (ov (EV.le (v := .agg #[.int .i64 ((rd_T72 x5_ml0 x5_9).f0), .int .i64 ((rd_T72 x5_ml0 x5_9).f1), .int .i64 ((rd_T72 x5_ml0 x5_9).f2)]) x5_9 0 (some 3) 0 z72 rfl rfl rfl g3 g4 rfl rfl rfl) rfl (xs [] [] rfl rfl rfl (one1 14 rfl rfl (ov (EV.ix 0 rfl rfl rfl g3 g4 rfl) rfl (xs [] [] rfl rfl rfl (one1 15 rfl rfl ?_))))))))
       revert H; refine bdI ?_; intro s18 A18 H; have q18 := stl (Option.some.inj A18)
       refine op_stg x5_9 0 0 z72 (⟨(rd_T72 x5_ml0 (wrap64 (x5_9 - 1))).f0, (rd_T72 x5_ml0 (wrap64 (x5_9 - 1))).f1, (rd_T72 x5_ml0 (wrap64 (x5_9 - 1))).f2⟩ : S72) (Option.some.inj A18) rfl rfl rfl rfl g3 g4 rfl rfl rfl rfl dq rfl (rlT 0 (v' := .slice Al0 s18.length cl0) rfl (slq _ _ q18) (rlT 23 (v' := .slice Al0 s18.length cl0) rfl (slq _ _ q18) (rlT 27 (v' := .slice Al0 s18.length cl0) rfl (slq _ _ q18) (rlT 37 (v' := .slice Al0 s18.length cl0) rfl (slq _ _ q18) (rlT 39 (v' := .slice Al0 s18.length cl0) rfl (slq _ _ q18) (rlT 42 (v' := .slice Al0 s18.length cl0) rfl (slq _ _ q18) (rlT 47 (v' := .slice Al0 s18.length cl0) rfl (slq _ _ q18) (nmE (en := [.sl 1 k72 Al0 cl0 s18 1 true]) (by kernel_rfl) (xs [] [] rfl rfl rfl (one1 16 rfl rfl ?_))))))))))
       revert H; refine ggI ?_; intro g19 H
       refine ov (EV.ix 0 rfl rfl rfl g5 g19 rfl) rfl (xn rfl (one1 17 rfl rfl ?_))
       revert H; refine bdI ?_; intro s20 A20 H; have q20 := stl (Option.some.inj A20)
       exact op_stg (wrap64 (x5_9 - 1)) 0 0 z72 (⟨(rd_T72 x5_ml0 x5_9).f0, (rd_T72 x5_ml0 x5_9).f1, (rd_T72 x5_ml0 x5_9).f2⟩ : S72) (Option.some.inj A20) rfl rfl rfl rfl g5 g19 rfl rfl rfl rfl dq rfl (rlT 0 (v' := .slice Al0 s20.length cl0) rfl (slq _ _ q20) (rlT 23 (v' := .slice Al0 s20.length cl0) rfl (slq _ _ q20) (rlT 27 (v' := .slice Al0 s20.length cl0) rfl (slq _ _ q20) (rlT 37 (v' := .slice Al0 s20.length cl0) rfl (slq _ _ q20) (rlT 39 (v' := .slice Al0 s20.length cl0) rfl (slq _ _ q20) (rlT 42 (v' := .slice Al0 s20.length cl0) rfl (slq _ _ q20) (rlT 47 (v' := .slice Al0 s20.length cl0) rfl (slq _ _ q20) (nmE (en := [.sl 1 k72 Al0 cl0 s20 1 true]) (by kernel_rfl) (xn rfl (xd (pr [0, 1, 2, 3, 8, 9, 22, 23, 24, 26, 27, 28, 29, 31, 32, 33] [] [0] rfl rfl rfl rfl (ge (rg (sv (EV.mv rfl) rfl (sv (EV.sub rfl rfl) rfl (sv (EV.as rfl) rfl (re (wk [0, 1, 2, 3, 8, 9] [] [⟨0, 1, 1, false⟩] (ih1 _ (by omega) _ ⟨s20, x5_1, x5_2, x5_8, wrap64 (x5_9 - 1), by omega, H, (by first | rfl | assumption | omega | (simp only [List.length_set]; first | done | assumption | omega)), rfl⟩)))))))))))))))))))
      ·
       refine ov (EV.le (v := .agg #[.int .i64 ((rd_T72 x5_ml0 x5_9).f0), .int .i64 ((rd_T72 x5_ml0 x5_9).f1), .int .i64 ((rd_T72 x5_ml0 x5_9).f2)]) x5_9 0 (some 3) 0 z72 rfl rfl rfl g3 g4 rfl rfl rfl) rfl (xs [] [] rfl rfl rfl (one1 9 rfl rfl (ov (EV.le (v := .agg #[.int .i64 ((rd_T72 x5_ml0 (wrap64 (x5_9 - 1))).f0), .int .i64 ((rd_T72 x5_ml0 (wrap64 (x5_9 - 1))).f1), .int .i64 ((rd_T72 x5_ml0 (wrap64 (x5_9 - 1))).f2)]) (wrap64 (x5_9 - 1)) 0 (some 3) 0 z72 rfl rfl rfl g5 g6 rfl rfl rfl) rfl (xs [] [] rfl rfl rfl (one1 14 rfl rfl (ov (EV.ix 0 rfl rfl rfl g3 g4 rfl) rfl (xs [] [] rfl rfl rfl (one1 15 rfl rfl ?_))))))))
       revert H; refine bdI ?_; intro s21 A21 H; have q21 := stl (Option.some.inj A21)
       refine op_stg x5_9 0 0 z72 (⟨(rd_T72 x5_ml0 (wrap64 (x5_9 - 1))).f0, (rd_T72 x5_ml0 (wrap64 (x5_9 - 1))).f1, (rd_T72 x5_ml0 (wrap64 (x5_9 - 1))).f2⟩ : S72) (Option.some.inj A21) rfl rfl rfl rfl g3 g4 rfl rfl rfl rfl dq rfl (rlT 0 (v' := .slice Al0 s21.length cl0) rfl (slq _ _ q21) (rlT 23 (v' := .slice Al0 s21.length cl0) rfl (slq _ _ q21) (rlT 27 (v' := .slice Al0 s21.length cl0) rfl (slq _ _ q21) (rlT 37 (v' := .slice Al0 s21.length cl0) rfl (slq _ _ q21) (rlT 39 (v' := .slice Al0 s21.length cl0) rfl (slq _ _ q21) (rlT 42 (v' := .slice Al0 s21.length cl0) rfl (slq _ _ q21) (rlT 47 (v' := .slice Al0 s21.length cl0) rfl (slq _ _ q21) (nmE (en := [.sl 1 k72 Al0 cl0 s21 1 true]) (by kernel_rfl) (xs [] [] rfl rfl rfl (one1 16 rfl rfl ?_))))))))))
       revert H; refine ggI ?_; intro g22 H
       refine ov (EV.ix 0 rfl rfl rfl g5 g22 rfl) rfl (xn rfl (one1 17 rfl rfl ?_))
       revert H; refine bdI ?_; intro s23 A23 H; have q23 := stl (Option.some.inj A23)
       exact op_stg (wrap64 (x5_9 - 1)) 0 0 z72 (⟨(rd_T72 x5_ml0 x5_9).f0, (rd_T72 x5_ml0 x5_9).f1, (rd_T72 x5_ml0 x5_9).f2⟩ : S72) (Option.some.inj A23) rfl rfl rfl rfl g5 g22 rfl rfl rfl rfl dq rfl (rlT 0 (v' := .slice Al0 s23.length cl0) rfl (slq _ _ q23) (rlT 23 (v' := .slice Al0 s23.length cl0) rfl (slq _ _ q23) (rlT 27 (v' := .slice Al0 s23.length cl0) rfl (slq _ _ q23) (rlT 37 (v' := .slice Al0 s23.length cl0) rfl (slq _ _ q23) (rlT 39 (v' := .slice Al0 s23.length cl0) rfl (slq _ _ q23) (rlT 42 (v' := .slice Al0 s23.length cl0) rfl (slq _ _ q23) (rlT 47 (v' := .slice Al0 s23.length cl0) rfl (slq _ _ q23) (nmE (en := [.sl 1 k72 Al0 cl0 s23 1 true]) (by kernel_rfl) (xn rfl (xd (pr [0, 1, 2, 3, 8, 9, 22, 23, 24, 26, 27, 28, 29, 31, 32, 33] [] [0] rfl rfl rfl rfl (ge (rg (sv (EV.mv rfl) rfl (sv (EV.sub rfl rfl) rfl (sv (EV.as rfl) rfl (re (wk [0, 1, 2, 3, 8, 9] [] [⟨0, 1, 1, false⟩] (ih1 _ (by omega) _ ⟨s23, x5_1, x5_2, x5_8, wrap64 (x5_9 - 1), by omega, H, (by first | rfl | assumption | omega | (simp only [List.length_set]; first | done | assumption | omega)), rfl⟩)))))))))))))))))))
     ·
      refine ov (EV.le (v := .agg #[.int .i64 ((rd_T72 x5_ml0 x5_9).f0), .int .i64 ((rd_T72 x5_ml0 x5_9).f1), .int .i64 ((rd_T72 x5_ml0 x5_9).f2)]) x5_9 0 (some 3) 0 z72 rfl rfl rfl g3 g4 rfl rfl rfl) rfl (xs [] [] rfl rfl rfl (one1 8 rfl rfl (ov (EV.ix 0 rfl rfl rfl g5 g6 rfl) rfl (xs [] [] rfl rfl rfl (one1 9 rfl rfl (ov (EV.le (v := .agg #[.int .i64 ((rd_T72 x5_ml0 (wrap64 (x5_9 - 1))).f0), .int .i64 ((rd_T72 x5_ml0 (wrap64 (x5_9 - 1))).f1), .int .i64 ((rd_T72 x5_ml0 (wrap64 (x5_9 - 1))).f2)]) (wrap64 (x5_9 - 1)) 0 (some 3) 0 z72 rfl rfl rfl g5 g6 rfl rfl rfl) rfl (xs [] [] rfl rfl rfl (one1 14 rfl rfl (ov (EV.ix 0 rfl rfl rfl g3 g4 rfl) rfl (xs [] [] rfl rfl rfl (one1 15 rfl rfl ?_)))))))))))
      revert H; refine bdI ?_; intro s24 A24 H; have q24 := stl (Option.some.inj A24)
      refine op_stg x5_9 0 0 z72 (⟨(rd_T72 x5_ml0 (wrap64 (x5_9 - 1))).f0, (rd_T72 x5_ml0 (wrap64 (x5_9 - 1))).f1, (rd_T72 x5_ml0 (wrap64 (x5_9 - 1))).f2⟩ : S72) (Option.some.inj A24) rfl rfl rfl rfl g3 g4 rfl rfl rfl rfl dq rfl (rlT 0 (v' := .slice Al0 s24.length cl0) rfl (slq _ _ q24) (rlT 23 (v' := .slice Al0 s24.length cl0) rfl (slq _ _ q24) (rlT 27 (v' := .slice Al0 s24.length cl0) rfl (slq _ _ q24) (rlT 37 (v' := .slice Al0 s24.length cl0) rfl (slq _ _ q24) (rlT 39 (v' := .slice Al0 s24.length cl0) rfl (slq _ _ q24) (rlT 42 (v' := .slice Al0 s24.length cl0) rfl (slq _ _ q24) (rlT 47 (v' := .slice Al0 s24.length cl0) rfl (slq _ _ q24) (nmE (en := [.sl 1 k72 Al0 cl0 s24 1 true]) (by kernel_rfl) (xs [] [] rfl rfl rfl (one1 16 rfl rfl ?_))))))))))
      revert H; refine ggI ?_; intro g25 H
      refine ov (EV.ix 0 rfl rfl rfl g5 g25 rfl) rfl (xn rfl (one1 17 rfl rfl ?_))
      revert H; refine bdI ?_; intro s26 A26 H; have q26 := stl (Option.some.inj A26)
      exact op_stg (wrap64 (x5_9 - 1)) 0 0 z72 (⟨(rd_T72 x5_ml0 x5_9).f0, (rd_T72 x5_ml0 x5_9).f1, (rd_T72 x5_ml0 x5_9).f2⟩ : S72) (Option.some.inj A26) rfl rfl rfl rfl g5 g25 rfl rfl rfl rfl dq rfl (rlT 0 (v' := .slice Al0 s26.length cl0) rfl (slq _ _ q26) (rlT 23 (v' := .slice Al0 s26.length cl0) rfl (slq _ _ q26) (rlT 27 (v' := .slice Al0 s26.length cl0) rfl (slq _ _ q26) (rlT 37 (v' := .slice Al0 s26.length cl0) rfl (slq _ _ q26) (rlT 39 (v' := .slice Al0 s26.length cl0) rfl (slq _ _ q26) (rlT 42 (v' := .slice Al0 s26.length cl0) rfl (slq _ _ q26) (rlT 47 (v' := .slice Al0 s26.length cl0) rfl (slq _ _ q26) (nmE (en := [.sl 1 k72 Al0 cl0 s26 1 true]) (by kernel_rfl) (xn rfl (xd (pr [0, 1, 2, 3, 8, 9, 22, 23, 24, 26, 27, 28, 29, 31, 32, 33] [] [0] rfl rfl rfl rfl (ge (rg (sv (EV.mv rfl) rfl (sv (EV.sub rfl rfl) rfl (sv (EV.as rfl) rfl (re (wk [0, 1, 2, 3, 8, 9] [] [⟨0, 1, 1, false⟩] (ih1 _ (by omega) _ ⟨s26, x5_1, x5_2, x5_8, wrap64 (x5_9 - 1), by omega, H, (by first | rfl | assumption | omega | (simp only [List.length_set]; first | done | assumption | omega)), rfl⟩)))))))))))))))))))
   ·
    exact gf rfl (dF c8) (gx rfl (ge (rg (sv (EV.mv rfl) rfl (sv (EV.add rfl rfl) rfl (sv (EV.as rfl) rfl (re (pr [0, 1, 2, 3, 8, 22, 23, 24, 25, 26, 27, 28, 29, 30, 31, 32, 33] [] [0] rfl rfl rfl rfl (wk [0, 1, 2, 3, 8] [] [⟨0, 1, 1, false⟩] (ih0 _ (by omega) _ ⟨x5_ml0, x5_1, x5_2, wrap64 (x5_8 + 1), H, (by first | rfl | assumption | omega | (simp only [List.length_set]; first | done | assumption | omega)), rfl⟩))))))))))
  ·
   exact ts 21 rfl (dF c2) (xk 4 [] [0] rfl rfl rfl rfl rfl (xk 5 [] [0] rfl rfl rfl rfl rfl (xk 6 [] [0] rfl rfl rfl rfl rfl (xk 7 [] [0] rfl rfl rfl rfl rfl (xk 8 [] [0] rfl rfl rfl rfl rfl (xk 9 [] [0] rfl rfl rfl rfl rfl (xk 10 [] [0] rfl rfl rfl rfl rfl (xk 11 [] [0] rfl rfl rfl rfl rfl (xk 12 [] [0] rfl rfl rfl rfl rfl (xk 13 [] [0] rfl rfl rfl rfl rfl (xk 14 [] [0] rfl rfl rfl rfl rfl (xk 15 [] [0] rfl rfl rfl rfl rfl (xv 16 [] [0] rfl (EV.pf rfl rfl rfl) rfl rfl rfl rfl (xd (pr [0, 1, 2, 3, 8, 9, 34] [] [0] rfl rfl rfl rfl (gf rfl rfl (gx rfl (ge (rg (sv (EV.mv rfl) rfl (sv (EV.add rfl rfl) rfl (sv (EV.as rfl) rfl (re (wk [0, 1, 2, 3, 8] [] [⟨0, 1, 1, false⟩] (ih0 _ (by omega) _ ⟨x5_ml0, x5_1, x5_2, wrap64 (x5_8 + 1), H, (by first | rfl | assumption | omega | (simp only [List.length_set]; first | done | assumption | omega)), rfl⟩)))))))))))))))))))))))))
 ·
  refine gf rfl (dF c1) (gx rfl ?_)
  cases H
  exact rt0 Try.func90 rfl .nil rfl [] [⟨0, 1, 1, false⟩] rfl rfl rfl rfl rfl ⟨rfl, rfl, rfl, by first | rfl | assumption | omega | (simp only [List.length_set]; first | done | assumption | omega)⟩
def slices_swapRangeCmpFunc_impl_Row_at79.l0 : Nat → (List S72) → Int → Int → Int → Int → Option ((List S72))
 | 0, _, _, _, _, _ => none
 | k + 1, x1_ml0, x1_1, x1_2, x1_3, x1_10 => if x1_10 < x1_3 then (if 0 ≤ (wrap64 (x1_2 + x1_10)) then (if (wrap64 (x1_2 + x1_10)) < (x1_ml0.length : Int) then (if 0 ≤ (wrap64 (x1_1 + x1_10)) then (if (wrap64 (x1_1 + x1_10)) < (x1_ml0.length : Int) then ((some (x1_ml0.set (wrap64 (x1_1 + x1_10)).toNat (⟨(rd_T72 x1_ml0 (wrap64 (x1_2 + x1_10))).f0, (rd_T72 x1_ml0 (wrap64 (x1_2 + x1_10))).f1, (rd_T72 x1_ml0 (wrap64 (x1_2 + x1_10))).f2⟩ : S72))).bind fun s6 => (if (wrap64 (x1_2 + x1_10)) < (s6.length : Int) then ((some (s6.set (wrap64 (x1_2 + x1_10)).toNat (⟨(rd_T72 x1_ml0 (wrap64 (x1_1 + x1_10))).f0, (rd_T72 x1_ml0 (wrap64 (x1_1 + x1_10))).f1, (rd_T72 x1_ml0 (wrap64 (x1_1 + x1_10))).f2⟩ : S72))).bind fun s8 => (slices_swapRangeCmpFunc_impl_Row_at79.l0 k s8 x1_1 x1_2 x1_3 (wrap64 (x1_10 + 1)))) else none)) else none) else none) else none) else none) else (some x1_ml0)
def slices_swapRangeCmpFunc_impl_Row_at79.f (k : Nat) (l0 : List S72) (a1 : Int) (a2 : Int) (a3 : Int) : Option ((List S72)) := slices_swapRangeCmpFunc_impl_Row_at79.l0 k l0 a1 a2 a3 0
set_option maxHeartbeats 4000000 in
set_option maxRecDepth 100000 in
theorem slices_swapRangeCmpFunc_impl_Row_at79.ok (k : Nat) (l0 : List S72) (Al0 : Option Addr) (cl0 : Nat) (a1 : Int) (a2 : Int) (a3 : Int) (r0 : List S72) (H : slices_swapRangeCmpFunc_impl_Row_at79.f k l0 a1 a2 a3 = some r0) : Fn Try.prog 93 [.slice Al0 l0.length cl0, .int .i64 a1, .int .i64 a2, .int .i64 a3, .func (.func 79) #[] #[]] [] [.sl 1 k72 Al0 cl0 l0 1 false] (fun v bx en => v = .tuple #[] ∧ bx = [] ∧ en = [.sl 1 k72 Al0 cl0 r0 1 false] ∧ r0.length = l0.length) := by
 refine fn_ 38 Try.func93 rfl rfl rfl (fun base T w0 => ?_)
 rw [slices_swapRangeCmpFunc_impl_Row_at79.f] at H
 refine gs (rg (sv (EV.as rfl) rfl (re (gb ?_))))
 refine lo (fun kk S => ∃ (x1_ml0 : List S72) (x1_1 : Int) (x1_2 : Int) (x1_3 : Int) (x1_10 : Int), slices_swapRangeCmpFunc_impl_Row_at79.l0 kk x1_ml0 x1_1 x1_2 x1_3 x1_10 = some r0 ∧ x1_ml0.length = l0.length ∧ S = ⟨[(0, .slice Al0 x1_ml0.length cl0), (1, .int .i64 x1_1), (2, .int .i64 x1_2), (3, .int .i64 x1_3), (10, .int .i64 x1_10)], [], [.sl 1 k72 Al0 cl0 x1_ml0 1 false]⟩) (fun S hS => ?_) (fun n0 ih0 S hS => ?_) ⟨l0, a1, a2, a3, 0, H, (by first | rfl | assumption | omega | (simp only [List.length_set]; first | done | assumption | omega)), rfl⟩ (fun h => wk [0, 1, 2, 3, 10] [] [⟨0, 1, 1, false⟩] h)
 · clear H; obtain ⟨_, _, _, _, _, H, _⟩ := hS; rw [slices_swapRangeCmpFunc_impl_Row_at79.l0] at H; cases H
 clear H
 obtain ⟨x1_ml0, x1_1, x1_2, x1_3, x1_10, H, ex1_ml0, rfl⟩ := hS
 rw [slices_swapRangeCmpFunc_impl_Row_at79.l0] at H
 refine gs (gs (rg (sv (EV.mv rfl) rfl (sv (EV.mv rfl) rfl (sv (EV.lss rfl rfl) rfl (re ?_))))))
 revert H; refine ifsI ?_ ?_ <;> intro c1 H
 ·
  refine gt rfl (dT c1) (gk (gs (gb ?_)))
  revert H; refine ggI ?_; intro g2 H
  revert H; refine ggI ?_; intro g3 H
  revert H; refine ggI ?_; intro g4 H
  revert H; refine ggI ?_; intro g5 H
  refine dr [] [] [22, 23] 24 rfl rfl rfl rfl (xv 0 [] [] rfl (EV.mv rfl) rfl rfl rfl rfl (xv 1 [] [] rfl (EV.mv rfl) rfl rfl rfl rfl (xv 2 [] [] rfl (EV.mv rfl) rfl rfl rfl rfl (xv 3 [] [] rfl (EV.add rfl rfl) rfl rfl rfl rfl (xv 4 [] [] rfl (EV.mv rfl) rfl rfl rfl rfl (xv 5 [] [] rfl (EV.mv rfl) rfl rfl rfl rfl (xv 6 [] [] rfl (EV.mv rfl) rfl rfl rfl rfl (xv 7 [] [] rfl (EV.add rfl rfl) rfl rfl rfl rfl (xv 8 [] [] rfl (EV.mv rfl) rfl rfl rfl rfl (xv 9 [] [] rfl (EV.mv rfl) rfl rfl rfl rfl (xv 10 [] [] rfl (EV.mv rfl) rfl rfl rfl rfl (xv 11 [] [] rfl (EV.add rfl rfl) rfl rfl rfl rfl (xv 14 [] [] rfl (EV.mv rfl) rfl rfl rfl rfl (xv 15 [] [] rfl (EV.mv rfl) rfl rfl rfl rfl (xv 16 [] [] rfl (EV.mv rfl) rfl rfl rfl rfl (xv 17 [] [] rfl (EV.add rfl rfl) rfl rfl rfl rfl ?_))))))))))))))))
  refine one2 12 18 rfl rfl rfl rfl ?_ ?_
  ·
   refine ov (EV.ix 0 rfl rfl rfl g2 g3 rfl) rfl (xs [] [] rfl rfl rfl ?_)
   refine one2 13 18 rfl rfl rfl rfl ?_ ?_
   ·
    refine ov (EV.le (v := .agg #[.int .i64 ((rd_T72 x1_ml0 (wrap64 (x1_2 + x1_10))).f0), .int .i64 ((rd_T72 x1_ml0 (wrap64 (x1_2 + x1_10))).f1), .int .i64 ((rd_T72 x1_ml0 (wrap64 (x1_2 + x1_10))).f2)]) (wrap64 (x1_2 + x1_10)) 0 (some 3) 0 z72 rfl rfl rfl g2 g3 rfl rfl rfl) rfl (xs [] [] rfl rfl rfl (one1 18 rfl rfl (ov (EV.ix 0 rfl rfl rfl g4 g5 rfl) rfl (xs [] [] rfl rfl rfl (one1 19 rfl rfl (ov (EV.le (v := .agg #[.int .i64 ((rd_T72 x1_ml0 (wrap64 (x1_1 + x1_10))).f0), .int .i64 ((rd_T72 x1_ml0 (wrap64 (x1_1 + x1_10))).f1), .int .i64 ((rd_T72 x1_ml0 (wrap64 (x1_1 + x1_10))).f2)]) (wrap64 (x1_1 + x1_10)) 0 (some 3) 0 z72 rfl rfl rfl g4 g5 rfl rfl rfl) rfl (xs [] [] rfl rfl rfl (one1 20 rfl rfl (ov (EV.ix 0 rfl rfl rfl g4 g5 rfl) rfl (xs [] [] rfl rfl rfl (one1 21 rfl rfl ?_)))))))))))
    revert H; refine bdI ?_; intro s6 A6 H; have q6 := stl (Option.some.inj A6)
    refine op_stg (wrap64 (x1_1 + x1_10)) 0 0 z72 (⟨(rd_T72 x1_ml0 (wrap64 (x1_2 + x1_10))).f0, (rd_T72 x1_ml0 (wrap64 (x1_2 + x1_10))).f1, (rd_T72 x1_ml0 (wrap64 (x1_2 + x1_10))).f2⟩ : S72) (Option.some.inj A6) rfl rfl rfl rfl g4 g5 rfl rfl rfl rfl dq rfl (rlT 0 (v' := .slice Al0 s6.length cl0) rfl (slq _ _ q6) (rlT 16 (v' := .slice Al0 s6.length cl0) rfl (slq _ _ q6) (rlT 20 (v' := .slice Al0 s6.length cl0) rfl (slq _ _ q6) (rlT 24 (v' := .slice Al0 s6.length cl0) rfl (slq _ _ q6) (rlT 30 (v' := .slice Al0 s6.length cl0) rfl (slq _ _ q6) (nmE (en := [.sl 1 k72 Al0 cl0 s6 1 true]) (by kernel_rfl) (xs [] [] rfl rfl rfl (one1 22 rfl rfl ?_))))))))
    revert H; refine ggI ?_; intro g7 H
    refine ov (EV.ix 0 rfl rfl rfl g2 g7 rfl) rfl (xn rfl (one1 23 rfl rfl ?_))
    revert H; refine bdI ?_; intro s8 A8 H; have q8 := stl (Option.some.inj A8)
    exact op_stg (wrap64 (x1_2 + x1_10)) 0 0 z72 (⟨(rd_T72 x1_ml0 (wrap64 (x1_1 + x1_10))).f0, (rd_T72 x1_ml0 (wrap64 (x1_1 + x1_10))).f1, (rd_T72 x1_ml0 (wrap64 (x1_1 + x1_10))).f2⟩ : S72) (Option.some.inj A8) rfl rfl rfl rfl g2 g7 rfl rfl rfl rfl dq rfl (rlT 0 (v' := .slice Al0 s8.length cl0) rfl (slq _ _ q8) (rlT 16 (v' := .slice Al0 s8.length cl0) rfl (slq _ _ q8) (rlT 20 (v' := .slice Al0 s8.length cl0) rfl (slq _ _ q8) (rlT 24 (v' := .slice Al0 s8.length cl0) rfl (slq _ _ q8) (rlT 30 (v' := .slice Al0 s8.length cl0) rfl (slq _ _ q8) (nmE (en := [.sl 1 k72 Al0 cl0 s8 1 true]) (by kernel_rfl) (xn rfl (xd (pr [0, 1, 2, 3, 10] [] [0] rfl rfl rfl rfl (ge (rg (sv (EV.mv rfl) rfl (sv (EV.add rfl rfl) rfl (sv (EV.as rfl) rfl (re (wk [0, 1, 2, 3, 10] [] [⟨0, 1, 1, false⟩] (ih0 _ (by omega) _ ⟨s8, x1_1, x1_2, x1_3, wrap64 (x1_10 + 1), H, (by first | rfl | assumption | omega | (simp only [List.length_set]; first | done | assumption | omega)), rfl⟩)))))))))))))))))
   ·
    refine ov (EV.ix 0 rfl rfl rfl g4 g5 rfl) rfl (xs [] [] rfl rfl rfl ?_)
    refine one2 13 19 rfl rfl rfl rfl ?_ ?_
    ·
     refine ov (EV.le (v := .agg #[.int .i64 ((rd_T72 x1_ml0 (wrap64 (x1_2 + x1_10))).f0), .int .i64 ((rd_T72 x1_ml0 (wrap64 (x1_2 + x1_10))).f1), .int .i64 ((rd_T72 x1_ml0 (wrap64 (x1_2 + x1_10))).f2)]) (wrap64 (x1_2 + x1_10)) 0 (some 3) 0 z72 rfl rfl rfl g2 g3 rfl rfl rfl) rfl (xs [] [] rfl rfl rfl (one1 19 rfl rfl (ov (EV.le (v := .agg #[.int .i64 ((rd_T72 x1_ml0 (wrap64 (x1_1 + x1_10))).f0), .int .i64 ((rd_T72 x1_ml0 (wrap64 (x1_1 + x1_10))).f1), .int .i64 ((rd_T72 x1_ml0 (wrap64 (x1_1 + x1_10))).f2)]) (wrap64 (x1_1 + x1_10)) 0 (some 3) 0 z72 rfl rfl rfl g4 g5 rfl rfl rfl) rfl (xs [] [] rfl rfl rfl (one1 20 rfl rfl (ov (EV.ix 0 rfl rfl rfl g4 g5 rfl) rfl (xs [] [] rfl rfl rfl (one1 21 rfl rfl ?_))))))))
     revert H; refine bdI ?_; intro s9 A9 H; have q9 := stl (Option.some.inj A9)
     refine op_stg (wrap64 (x1_1 + x1_10)) 0 0 z72 (⟨(rd_T72 x1_ml0 (wrap64 (x1_2 + x1_10))).f0, (rd_T72 x1_ml0 (wrap64 (x1_2 + x1_10))).f1, (rd_T72 x1_ml0 (wrap64 (x1_2 + x1_10))).f2⟩ : S72) (Option.some.inj A9) rfl rfl rfl rfl g4 g5 rfl rfl rfl rfl dq rfl (rlT 0 (v' := .slice Al0 s9.length cl0) rfl (slq _ _ q9) (rlT 16 (v' := .slice Al0 s9.length cl0) rfl (slq _ _ q9) (rlT 20 (v' := .slice Al0 s9.length cl0) rfl (slq _ _ q9) (rlT 24 (v' := .slice Al0 s9.length cl0) rfl (slq _ _ q9) (rlT 30 (v' := .slice Al0 s9.length cl0) rfl (slq _ _ q9) (nmE (en := [.sl 1 k72 Al0 cl0 s9 1 true]) (by kernel_rfl) (xs [] [] rfl rfl rfl (one1 22 rfl rfl ?_))))))))
     revert H; refine ggI ?_; intro g10 H
     refine ov (EV.ix 0 rfl rfl rfl g2 g10 rfl) rfl (xn rfl (one1 23 rfl rfl ?_))
     revert H; refine bdI ?_; intro s11 A11 H; have q11 := stl (Option.some.inj A11)
     exact op_stg (wrap64 (x1_2 + x1_10)) 0 0 z72 (⟨(rd_T72 x1_ml0 (wrap64 (x1_1 + x1_10))).f0, (rd_T72 x1_ml0 (wrap64 (x1_1 + x1_10))).f1, (rd_T72 x1_ml0 (wrap64 (x1_1 + x1_10))).f2⟩ : S72) (Option.some.inj A11) rfl rfl rfl rfl g2 g10 rfl rfl rfl rfl dq rfl (rlT 0 (v' := .slice Al0 s11.length cl0) rfl (slq _ _ q11) (rlT 16 (v' := .slice Al0 s11.length cl0) rfl (slq _ _ q11) (rlT 20 (v' := .slice Al0 s11.length cl0) rfl (slq _ _ q11) (rlT 24 (v' := .slice Al0 s11.length cl0) rfl (slq _ _ q11) (rlT 30 (v' := .slice Al0 s11.length cl0) rfl (slq _ _ q11) (nmE (en := [.sl 1 k72 Al0 cl0 s11 1 true]) (by kernel_rfl) (xn rfl (xd (pr [0, 1, 2, 3, 10] [] [0] rfl rfl rfl rfl (ge (rg (sv (EV.mv rfl) rfl (sv (EV.add rfl rfl) rfl (sv (EV.as rfl) rfl (re (wk [0, 1, 2, 3, 10] [] [⟨0, 1, 1, false⟩] (ih0 _ (by omega) _ ⟨s11, x1_1, x1_2, x1_3, wrap64 (x1_10 + 1), H, (by first | rfl | assumption | omega | (simp only [List.length_set]; first | done | assumption | omega)), rfl⟩)))))))))))))))))
    ·
     refine ov (EV.le (v := .agg #[.int .i64 ((rd_T72 x1_ml0 (wrap64 (x1_1 + x1_10))).f0), .int .i64 ((rd_T72 x1_ml0 (wrap64 (x1_1 + x1_10))).f1), .int .i64 ((rd_T72 x1_ml0 (wrap64 (x1_1 + x1_10))).f2)]) (wrap64 (x1_1 + x1_10)) 0 (some 3) 0 z72 rfl rfl rfl g4 g5 rfl rfl rfl) rfl (xs [] [] rfl rfl rfl (one1 13 rfl rfl (ov (EV.le (v := .agg #[.int .i64 ((rd_T72 x1_ml0 (wrap64 (x1_2 + x1_10))).f0), .int .i64 ((rd_T72 x1_ml0 (wrap64 (x1_2 + x1_10))).f1), .int .i64 ((rd_T72 x1_ml0 (wrap64 (x1_2 + x1_10))).f2)]) (wrap64 (x1_2 + x1_10)) 0 (some 3) 0 z72 rfl rfl rfl g2 g3 rfl rfl rfl) rfl (xs [] [] rfl rfl rfl (one1 20 rfl rfl (ov (EV.ix 0 rfl rfl rfl g4 g5 rfl) rfl (xs [] [] rfl rfl rfl (one1 21 rfl rfl ?_))))))))
     revert H; refine bdI ?_; intro s12 A12 H; have q12 := stl (Option.some.inj A12)
     refine op_stg (wrap64 (x1_1 + x1_10)) 0 0 z72 (⟨(rd_T72 x1_ml0 (wrap64 (x1_2 + x1_10))).f0, (rd_T72 x1_ml0 (wrap64 (x1_2 + x1_10))).f1, (rd_T72 x1_ml0 (wrap64 (x1_2 + x1_10))).f2⟩ : S72) (Option.some.inj A12) rfl rfl rfl rfl g4 g5 rfl rfl rfl rfl dq rfl (rlT 0 (v' := .slice Al0 s12.length cl0) rfl (slq _ _ q12) (rlT 16 (v' := .slice Al0 s12.length cl0) rfl (slq _ _ q12) (rlT 20 (v' := .slice Al0 s12.length cl0) rfl (slq _ _ q12) (rlT 24 (v' := .slice Al0 s12.length cl0) rfl (slq _ _ q12) (rlT 30 (v' := .slice Al0 s12.length cl0) rfl (slq _ _ q12) (nmE (en := [.sl 1 k72 Al0 cl0 s12 1 true]) (by kernel_rfl) (xs [] [] rfl rfl rfl (one1 22 rfl rfl ?_))))))))
     revert H; refine ggI ?_; intro g13 H
     refine ov (EV.ix 0 rfl rfl rfl g2 g13 rfl) rfl (xn rfl (one1 23 rfl rfl ?_))
     revert H; refine bdI ?_; intro s14 A14 H; have q14 := stl (Option.some.inj A14)
     exact op_stg (wrap64 (x1_2 + x1_10)) 0 0 z72 (⟨(rd_T72 x1_ml0 (wrap64 (x1_1 + x1_10))).f0, (rd_T72 x1_ml0 (wrap64 (x1_1 + x1_10))).f1, (rd_T72 x1_ml0 (wrap64 (x1_1 + x1_10))).f2⟩ : S72) (Option.some.inj A14) rfl rfl rfl rfl g2 g13 rfl rfl rfl rfl dq rfl (rlT 0 (v' := .slice Al0 s14.length cl0) rfl (slq _ _ q14) (rlT 16 (v' := .slice Al0 s14.length cl0) rfl (slq _ _ q14) (rlT 20 (v' := .slice Al0 s14.length cl0) rfl (slq _ _ q14) (rlT 24 (v' := .slice Al0 s14.length cl0) rfl (slq _ _ q14) (rlT 30 (v' := .slice Al0 s14.length cl0) rfl (slq _ _ q14) (nmE (en := [.sl 1 k72 Al0 cl0 s14 1 true]) (by kernel_rfl) (xn rfl (xd (pr [0, 1, 2, 3, 10] [] [0] rfl rfl rfl rfl (ge (rg (sv (EV.mv rfl) rfl (sv (EV.add rfl rfl) rfl (sv (EV.as rfl) rfl (re (wk [0, 1, 2, 3, 10] [] [⟨0, 1, 1, false⟩] (ih0 _ (by omega) _ ⟨s14, x1_1, x1_2, x1_3, wrap64 (x1_10 + 1), H, (by first | rfl | assumption | omega | (simp only [List.length_set]; first | done | assumption | omega)), rfl⟩)))))))))))))))))
  ·
   refine ov (EV.ix 0 rfl rfl rfl g4 g5 rfl) rfl (xs [] [] rfl rfl rfl ?_)
   refine one2 12 19 rfl rfl rfl rfl ?_ ?_
   ·
    refine ov (EV.ix 0 rfl rfl rfl g2 g3 rfl) rfl (xs [] [] rfl rfl rfl ?_)
    refine one2 13 19 rfl rfl rfl rfl ?_ ?_
    ·
     refine ov (EV.le (v := .agg #[.int .i64 ((rd_T72 x1_ml0 (wrap64 (x1_2 + x1_10))).f0), .int .i64 ((rd_T72 x1_ml0 (wrap64 (x1_2 + x1_10))).f1), .int .i64 ((rd_T72 x1_ml0 (wrap64 (x1_2 + x1_10))).f2)]) (wrap64 (x1_2 + x1_10)) 0 (some 3) 0 z72 rfl rfl rfl g2 g3 rfl rfl rfl) rfl (xs [] [] rfl rfl rfl (one1 19 rfl rfl (ov (EV.le (v := .agg #[.int .i64 ((rd_T72 x1_ml0 (wrap64 (x1_1 + x1_10))).f0), .int .i64 ((rd_T72 x1_ml0 (wrap64 (x1_1 + x1_10))).f1), .int .i64 ((rd_T72 x1_ml0 (wrap64 (x1_1 + x1_10))).f2)]) (wrap64 (x1_1 + x1_10)) 0 (some 3) 0 z72 rfl rfl rfl g4 g5 rfl rfl rfl) rfl (xs [] [] rfl rfl rfl (one1 20 rfl rfl (ov (EV.ix 0 rfl rfl rfl g4 g5 rfl) rfl (xs [] [] rfl rfl rfl (one1 21 rfl rfl ?_))))))))
     revert H; refine bdI ?_; intro s15 A15 H; have q15 := stl (Option.some.inj A15)
     refine op_stg (wrap64 (x1_1 + x1_10)) 0 0 z72 (⟨(rd_T72 x1_ml0 (wrap64 (x1_2 + x1_10))).f0, (rd_T72 x1_ml0 (wrap64 (x1_2 + x1_10))).f1, (rd_T72 x1_ml0 (wrap64 (x1_2 + x1_10))).f2⟩ : S72) (Option.some.inj A15) rfl rfl rfl rfl g4 g5 rfl rfl rfl rfl dq rfl (rlT 0 (v' := .slice Al0 s15.length cl0) rfl (slq _ _ q15) (rlT 16 (v' := .slice Al0 s15.length cl0) rfl (slq _ _ q15) (rlT 20 (v' := .slice Al0 s15.length cl0) rfl (slq _ _ q15) (rlT 24 (v' := .slice Al0 s15.length cl0) rfl (slq _ _ q15) (rlT 30 (v' := .slice Al0 s15.length cl0) rfl (slq _ _ q15) (nmE (en := [.sl 1 k72 Al0 cl0 s15 1 true]) (by kernel_rfl) (xs [] [] rfl rfl rfl (one1 22 rfl rfl ?_))))))))
     revert H; refine ggI ?_; intro g16 H
     refine ov (EV.ix 0 rfl rfl rfl g2 g16 rfl) rfl (xn rfl (one1 23 rfl rfl ?_))
     revert H; refine bdI ?_; intro s17 A17 H; have q17 := stl (Option.some.inj A17)
     exact op_stg (wrap64 (x1_2 + x1_10)) 0 0 z72 (⟨(rd_T72 x1_ml0 (wrap64 (x1_1 + x1_10))).f0, (rd_T72 x1_ml0 (wrap64 (x1_1 + x1_10))).f1, (rd_T72 x1_ml0 (wrap64 (x1_1 + x1_10))).f2⟩ : S72) (Option.some.inj A17) rfl rfl rfl rfl g2 g16 rfl rfl rfl rfl dq rfl (rlT 0 (v' := .slice Al0 s17.length cl0) rfl (slq _ _ q17) (rlT 16 (v' := .slice Al0 s17.length cl0) rfl (slq _ _ q17) (rlT 20 (v' := .slice Al0 s17.length cl0) rfl (slq _ _ q17) (rlT 24 (v' := .slice Al0 s17.length cl0) rfl (slq _ _ q17) (rlT 30 (v' := .slice Al0 s17.length cl0) rfl (slq _ _ q17) (nmE (en := [.sl 1 k72 Al0 cl0 s17 1 true]) (by kernel_rfl) (xn rfl (xd (pr [0, 1, 2, 3, 10] [] [0] rfl rfl rfl rfl (ge (rg (sv (EV.mv rfl) rfl (sv (EV.add rfl rfl) rfl (sv (EV.as rfl) rfl (re (wk [0, 1, 2, 3, 10] [] [⟨0, 1, 1, false⟩] (ih0 _ (by omega) _ ⟨s17, x1_1, x1_2, x1_3, wrap64 (x1_10 + 1), H, (by first | rfl | assumption | omega | (simp only [List.length_set]; first | done | assumption | omega)), rfl⟩)))))))))))))))))
    ·
     refine ov (EV.le (v := .agg #[.int .i64 ((rd_T72 x1_ml0 (wrap64 (x1_1 + x1_10))).f0), .int .i64 ((rd_T72 x1_ml0 (wrap64 (x1_1 + x1_10))).f1), .int .i64 ((rd_T72 x1_ml0 (wrap64 (x1_1 + x1_10))).f2)]) (wrap64 (x1_1 + x1_10)) 0 (some 3) 0 z72 rfl rfl rfl g4 g5 rfl rfl rfl) rfl (xs [] [] rfl rfl rfl (one1 13 rfl rfl (ov (EV.le (v := .agg #[.int .i64 ((rd_T72 x1_ml0 (wrap64 (x1_2 + x1_10))).f0), .int .i64 ((rd_T72 x1_ml0 (wrap64 (x1_2 + x1_10))).f1), .int .i64 ((rd_T72 x1_ml0 (wrap64 (x1_2 + x1_10))).f2)]) (wrap64 (x1_2 + x1_10)) 0 (some 3) 0 z72 rfl rfl rfl g2 g3 rfl rfl rfl) rfl (xs [] [] rfl rfl rfl (one1 20 rfl rfl (ov (EV.ix 0 rfl rfl rfl g4 g5 rfl) rfl (xs [] [] rfl rfl rfl (one1 21 rfl rfl ?_))))))))
     revert H; refine bdI ?_; intro s18 A18 H; have q18 := stl (Option.some.inj A18)
     refine op_stg (wrap64 (x1_1 + x1_10)) 0 0 z72 (⟨(rd_T72 x1_ml0 (wrap64 (x1_2 + x1_10))).f0, (rd_T72 x1_ml0 (wrap64 (x1_2 + x1_10))).f1, (rd_T72 x1_ml0 (wrap64 (x1_2 + x1_10))).f2⟩ : S72) (Option.some.inj A18) rfl rfl rfl rfl g4 g5 rfl rfl rfl rfl dq rfl (rlT 0 (v' := .slice Al0 s18.length cl0) rfl (slq _ _ q18) (rlT 16 (v' := .slice Al0 s18.length cl0) rfl (slq _ _ q18) (rlT 20 (v' := .slice Al0 s18.length cl0) rfl (slq _ _ q18) (rlT 24 (v' := .slice Al0 s18.length cl0) rfl (slq _ _ q18) (rlT 30 (v' := .slice Al0 s18.length cl0) rfl (slq _ _ q18) (nmE (en := [.sl 1 k72 Al0 cl0 s18 1 true]) (by kernel_rfl) (xs [] [] rfl rfl rfl (one1 22 rfl rfl ?_))))))))
     revert H; refine ggI ?_; intro g19 H
     refine ov (EV.ix 0 rfl rfl rfl g2 g19 rfl) rfl (xn rfl (one1 23 rfl rfl ?_))
     revert H; refine bdI ?_; intro s20 A20 H; have q20 := stl (Option.some.inj A20)
     exact op_stg (wrap64 (x1_2 + x1_10)) 0 0 z72 (⟨(rd_T72 x1_ml0 (wrap64 (x1_1 + x1_10))).f0, (rd_T72 x1_ml0 (wrap64 (x1_1 + x1_10))).f1, (rd_T72 x1_ml0 (wrap64 (x1_1 + x1_10))).f2⟩ : S72) (Option.some.inj A20) rfl rfl rfl rfl g2 g19 rfl rfl rfl rfl dq rfl (rlT 0 (v' := .slice Al0 s20.length cl0) rfl (slq _ _ q20) (rlT 16 (v' := .slice Al0 s20.length cl0) rfl (slq _ _ q20) (rlT 20 (v' := .slice Al0 s20.length cl0) rfl (slq _ _ q20) (rlT 24 (v' := .slice Al0 s20.length cl0) rfl (slq _ _ q20) (rlT 30 (v' := .slice Al0 s20.length cl0) rfl (slq _ _ q20) (nmE (en := [.sl 1 k72 Al0 cl0 s20 1 true]) (by kernel_rfl) (xn rfl (xd (pr [0, 1, 2, 3, 10] [] [0] rfl rfl rfl rfl (ge (rg (sv (EV.mv rfl) rfl (sv (EV.add rfl rfl) rfl (sv (EV.as rfl) rfl (re (wk [0, 1, 2, 3, 10] [] [⟨0, 1, 1, false⟩] (ih0 _ (by omega) _ ⟨s20, x1_1, x1_2, x1_3, wrap64 (x1_10 + 1), H, (by first | rfl | assumption | omega | (simp only [List.length_set]; first | done | assumption | omega)), rfl⟩)))))))))))))))))
   ·
    refine ov (EV.le (v := .agg #[.int .i64 ((rd_T72 x1_ml0 (wrap64 (x1_1 + x1_10))).f0), .int .i64 ((rd_T72 x1_ml0 (wrap64 (x1_1 + x1_10))).f1), .int .i64 ((rd_T72 x1_ml0 (wrap64 (x1_1 + x1_10))).f2)]) (wrap64 (x1_1 + x1_10)) 0 (some 3) 0 z72 rfl rfl rfl g4 g5 rfl rfl rfl) rfl (xs [] [] rfl rfl rfl (one1 12 rfl rfl (ov (EV.ix 0 rfl rfl rfl g2 g3 rfl) rfl (xs [] [] rfl rfl rfl (one1 13 rfl rfl (ov (EV.le (v := .agg #[.int .i64 ((rd_T72 x1_ml0 (wrap64 (x1_2 + x1_10))).f0), .int .i64 ((rd_T72 x1_ml0 (wrap64 (x1_2 + x1_10))).f1), .int .i64 ((rd_T72 x1_ml0 (wrap64 (x1_2 + x1_10))).f2)]) (wrap64 (x1_2 + x1_10)) 0 (some 3) 0 z72 rfl rfl rfl g2 g3 rfl rfl rfl) rfl (xs [] [] rfl rfl rfl (one1 20 rfl rfl (ov (EV.ix 0 rfl rfl rfl g4 g5 rfl) rfl (xs [] [] rfl rfl rfl (one1 21 rfl rfl ?_)))))))))))
    revert H; refine bdI ?_; intro s21 A21 H; have q21 := stl (Option.some.inj A21)
    refine op_stg (wrap64 (x1_1 + x1_10)) 0 0 z72 (⟨(rd_T72 x1_ml0 (wrap64 (x1_2 + x1_10))).f0, (rd_T72 x1_ml0 (wrap64 (x1_2 + x1_10))).f1, (rd_T72 x1_ml0 (wrap64 (x1_2 + x1_10))).f2⟩ : S72) (Option.some.inj A21) rfl rfl rfl rfl g4 g5 rfl rfl rfl rfl dq rfl (rlT 0 (v' := .slice Al0 s21.length cl0) rfl (slq _ _ q21) (rlT 16 (v' := .slice Al0 s21.length cl0) rfl (slq _ _ q21) (rlT 20 (v' := .slice Al0 s21.length cl0) rfl (slq _ _ q21) (rlT 24 (v' := .slice Al0 s21.length cl0) rfl (slq _ _ q21) (rlT 30 (v' := .slice Al0 s21.length cl0) rfl (slq _ _ q21) (nmE (en := [.sl 1 k72 Al0 cl0 s21 1 true]) (by kernel_rfl) (xs [] [] rfl rfl rfl (one1 22 rfl rfl ?_))))))))
    revert H; refine ggI ?_; intro g22 H
    refine ov (EV.ix 0 rfl rfl rfl g2 g22 rfl) rfl (xn rfl (one1 23 rfl rfl ?_))
    revert H; refine bdI ?_; intro s23 A23 H; have q23 := stl (Option.some.inj A23)
    exact op_stg (wrap64 (x1_2 + x1_10)) 0 0 z72 (⟨(rd_T72 x1_ml0 (wrap64 (x1_1 + x1_10))).f0, (rd_T72 x1_ml0 (wrap64 (x1_1 + x1_10))).f1, (rd_T72 x1_ml0 (wrap64 (x1_1 + x1_10))).f2⟩ : S72) (Option.some.inj A23) rfl rfl rfl rfl g2 g22 rfl rfl rfl rfl dq rfl (rlT 0 (v' := .slice Al0 s23.length cl0) rfl (slq _ _ q23) (rlT 16 (v' := .slice Al0 s23.length cl0) rfl (slq _ _ q23) (rlT 20 (v' := .slice Al0 s23.length cl0) rfl (slq _ _ q23) (rlT 24 (v' := .slice Al0 s23.length cl0) rfl (slq _ _ q23) (rlT 30 (v' := .slice Al0 s23.length cl0) rfl (slq _ _ q23) (nmE (en := [.sl 1 k72 Al0 cl0 s23 1 true]) (by kernel_rfl) (xn rfl (xd (pr [0, 1, 2, 3, 10] [] [0] rfl rfl rfl rfl (ge (rg (sv (EV.mv rfl) rfl (sv (EV.add rfl rfl) rfl (sv (EV.as rfl) rfl (re (wk [0, 1, 2, 3, 10] [] [⟨0, 1, 1, false⟩] (ih0 _ (by omega) _ ⟨s23, x1_1, x1_2, x1_3, wrap64 (x1_10 + 1), H, (by first | rfl | assumption | omega | (simp only [List.length_set]; first | done | assumption | omega)), rfl⟩)))))))))))))))))
 ·
  refine gf rfl (dF c1) (gx rfl ?_)
  cases H
  exact rt0 Try.func93 rfl .nil rfl [] [⟨0, 1, 1, false⟩] rfl rfl rfl rfl rfl ⟨rfl, rfl, rfl, by first | rfl | assumption | omega | (simp only [List.length_set]; first | done | assumption | omega)⟩
def slices_rotateCmpFunc_impl_Row_at79.l0 : Nat → (List S72) → Int → Int → Int → Option ((List S72))
 | 0, _, _, _, _ => none
 | k + 1, x2_ml0, x2_2, x2_10, x2_11 => if x2_10 = x2_11 then ((slices_swapRangeCmpFunc_impl_Row_at79.f k x2_ml0 (wrap64 (x2_2 - x2_10)) x2_2 x2_10).bind fun t2 => (some t2)) else (if x2_10 > x2_11 then ((slices_swapRangeCmpFunc_impl_Row_at79.f k x2_ml0 (wrap64 (x2_2 - x2_10)) x2_2 x2_11).bind fun t4 => (slices_rotateCmpFunc_impl_Row_at79.l0 k t4 x2_2 (wrap64 (x2_10 - x2_11)) x2_11)) else ((slices_swapRangeCmpFunc_impl_Row_at79.f k x2_ml0 (wrap64 (x2_2 - x2_10)) (wrap64 ((wrap64 (x2_2 + x2_11)) - x2_10)) x2_10).bind fun t5 => (slices_rotateCmpFunc_impl_Row_at79.l0 k t5 x2_2 x2_10 (wrap64 (x2_11 - x2_10)))))
def slices_rotateCmpFunc_impl_Row_at79.f (k : Nat) (l0 : List S72) (a1 : Int) (a2 : Int) (a3 : Int) : Option ((List S72)) := slices_rotateCmpFunc_impl_Row_at79.l0 k l0 a2 (wrap64 (a2 - a1)) (wrap64 (a3 - a2))
set_option maxHeartbeats 4000000 in
set_option maxRecDepth 100000 in
theorem slices_rotateCmpFunc_impl_Row_at79.ok (k : Nat) (l0 : List S72) (Al0 : Option Addr) (cl0 : Nat) (a1 : Int) (a2 : Int) (a3 : Int) (r0 : List S72) (H : slices_rotateCmpFunc_impl_Row_at79.f k l0 a1 a2 a3 = some r0) : Fn Try.prog 92 [.slice Al0 l0.length cl0, .int .i64 a1, .int .i64 a2, .int .i64 a3, .func (.func 79) #[] #[]] [] [.sl 1 k72 Al0 cl0 l0 1 false] (fun v bx en => v = .tuple #[] ∧ bx = [] ∧ en = [.sl 1 k72 Al0 cl0 r0 1 false] ∧ r0.length = l0.length) := by
 refine fn_ 58 Try.func92 rfl rfl rfl (fun base T w0 => ?_)
 rw [slices_rotateCmpFunc_impl_Row_at79.f] at H
 refine gs (rg (sv (EV.mv rfl) rfl (sv (EV.mv rfl) rfl (sv (EV.sub rfl rfl) rfl (sv (EV.as rfl) rfl (re (gs (rg (sv (EV.mv rfl) rfl (sv (EV.mv rfl) rfl (sv (EV.sub rfl rfl) rfl (sv (EV.as rfl) rfl (re (pr [0, 2, 4, 10, 11] [] [0] rfl rfl rfl rfl (gs (gb ?_))))))))))))))))
 refine lo (fun kk S => ∃ (x2_ml0 : List S72) (x2_2 : Int) (x2_10 : Int) (x2_11 : Int), slices_rotateCmpFunc_impl_Row_at79.l0 kk x2_ml0 x2_2 x2_10 x2_11 = some r0 ∧ x2_ml0.length = l0.length ∧ S = ⟨[(0, .slice Al0 x2_ml0.length cl0), (2, .int .i64 x2_2), (4, .func (.func 79) #[] #[]), (10, .int .i64 x2_10), (11, .int .i64 x2_11)], [], [.sl 1 k72 Al0 cl0 x2_ml0 1 false]⟩) (fun S hS => ?_) (fun n0 ih0 S hS => ?_) ⟨l0, a2, wrap64 (a2 - a1), wrap64 (a3 - a2), H, (by first | rfl | assumption | omega | (simp only [List.length_set]; first | done | assumption | omega)), rfl⟩ (fun h => wk [0, 2, 4, 10, 11] [] [⟨0, 1, 1, false⟩] h)
 · clear H; obtain ⟨_, _, _, _, H, _⟩ := hS; rw [slices_rotateCmpFunc_impl_Row_at79.l0] at H; cases H
 clear H
 obtain ⟨x2_ml0, x2_2, x2_10, x2_11, H, ex2_ml0, rfl⟩ := hS
 rw [slices_rotateCmpFunc_impl_Row_at79.l0] at H
 refine gs (gs (rg (sv (EV.mv rfl) rfl (sv (EV.mv rfl) rfl (sv (EV.neq rfl rfl) rfl (re ?_))))))
 revert H; refine ifsI ?_ ?_ <;> intro c1 H
 ·
  refine gf rfl (nF c1) (gx rfl (rg (sv (EV.mv rfl) rfl (sv (EV.mv rfl) rfl (sv (EV.mv rfl) rfl (sv (EV.sub rfl rfl) rfl (sv (EV.mv rfl) rfl (sv (EV.mv rfl) rfl (sv (EV.mv rfl) rfl ?_)))))))))
  revert H; refine bdI ?_; rintro t2 A2 H
  refine so rfl (op_callM (slices_swapRangeCmpFunc_impl_Row_at79.ok n0 x2_ml0 Al0 cl0 (wrap64 (x2_2 - x2_10)) x2_2 x2_10 _ A2) [⟨0, 1, 1, false⟩] [] [] 2 rfl rfl rfl rfl rfl rfl rfl rfl ?_)
  rintro _ _ _ ⟨rfl, rfl, rfl, q2_0⟩
  refine rlT 0 (v' := .slice Al0 t2.length cl0) rfl (slq _ _ q2_0) (rlT 50 (v' := .slice Al0 t2.length cl0) rfl (slq _ _ q2_0) (nmE (en := [.sl 1 k72 Al0 cl0 t2 3 false]) (by kernel_rfl) (re (pr [] [] [0] rfl rfl rfl rfl ?_))))
  cases H
  exact rt0 Try.func92 rfl .nil rfl [] [⟨0, 1, 1, false⟩] rfl rfl rfl rfl rfl ⟨rfl, rfl, rfl, by first | rfl | assumption | omega | (simp only [List.length_set]; first | done | assumption | omega)⟩
 ·
  refine gt rfl (nT c1) (gk (gb (gs (rg (sv (EV.mv rfl) rfl (sv (EV.mv rfl) rfl (sv (EV.gtr rfl rfl) rfl (re ?_))))))))
  revert H; refine ifsI ?_ ?_ <;> intro c3 H
  ·
   refine gt rfl (dT c3) (gs (rg (sv (EV.mv rfl) rfl (sv (EV.mv rfl) rfl (sv (EV.mv rfl) rfl (sv (EV.sub rfl rfl) rfl (sv (EV.mv rfl) rfl (sv (EV.mv rfl) rfl (sv (EV.mv rfl) rfl ?_)))))))))
   revert H; refine bdI ?_; rintro t4 A4 H
   refine so rfl (op_callM (slices_swapRangeCmpFunc_impl_Row_at79.ok n0 x2_ml0 Al0 cl0 (wrap64 (x2_2 - x2_10)) x2_2 x2_11 _ A4) [⟨0, 1, 1, false⟩] [] [] 2 rfl rfl rfl rfl rfl rfl rfl rfl ?_)
   rintro _ _ _ ⟨rfl, rfl, rfl, q4_0⟩
   exact rlT 0 (v' := .slice Al0 t4.length cl0) rfl (slq _ _ q4_0) (rlT 24 (v' := .slice Al0 t4.length cl0) rfl (slq _ _ q4_0) (nmE (en := [.sl 1 k72 Al0 cl0 t4 3 false]) (by kernel_rfl) (re (pr [0, 2, 4, 10, 11] [] [0] rfl rfl rfl rfl (rg (sv (EV.mv rfl) rfl (sv (EV.mv rfl) rfl (sv (EV.sub rfl rfl) rfl (sv (EV.as rfl) rfl (re (ge (wk [0, 2, 4, 10, 11] [] [⟨0, 1, 1, false⟩] (ih0 _ (by omega) _ ⟨t4, x2_2, wrap64 (x2_10 - x2_11), x2_11, H, (by first | rfl | assumption | omega | (simp only [List.length_set]; first | done | assumption | omega)), rfl⟩)))))))))))))
  ·
   refine gf rfl (dF c3) (gs (rg (sv (EV.mv rfl) rfl (sv (EV.mv rfl) rfl (sv (EV.mv rfl) rfl (sv (EV.sub rfl rfl) rfl (sv (EV.mv rfl) rfl (sv (EV.mv rfl) rfl (sv (EV.add rfl rfl) rfl (sv (EV.mv rfl) rfl (sv (EV.sub rfl rfl) rfl (sv (EV.mv rfl) rfl (sv (EV.mv rfl) rfl ?_)))))))))))))
   revert H; refine bdI ?_; rintro t5 A5 H
   refine so rfl (op_callM (slices_swapRangeCmpFunc_impl_Row_at79.ok n0 x2_ml0 Al0 cl0 (wrap64 (x2_2 - x2_10)) (wrap64 ((wrap64 (x2_2 + x2_11)) - x2_10)) x2_10 _ A5) [⟨0, 1, 1, false⟩] [] [] 2 rfl rfl rfl rfl rfl rfl rfl rfl ?_)
   rintro _ _ _ ⟨rfl, rfl, rfl, q5_0⟩
   exact rlT 0 (v' := .slice Al0 t5.length cl0) rfl (slq _ _ q5_0) (rlT 35 (v' := .slice Al0 t5.length cl0) rfl (slq _ _ q5_0) (nmE (en := [.sl 1 k72 Al0 cl0 t5 3 false]) (by kernel_rfl) (re (pr [0, 2, 4, 10, 11] [] [0] rfl rfl rfl rfl (rg (sv (EV.mv rfl) rfl (sv (EV.mv rfl) rfl (sv (EV.sub rfl rfl) rfl (sv (EV.as rfl) rfl (re (ge (wk [0, 2, 4, 10, 11] [] [⟨0, 1, 1, false⟩] (ih0 _ (by omega) _ ⟨t5, x2_2, x2_10, wrap64 (x2_11 - x2_10), H, (by first | rfl | assumption | omega | (simp only [List.length_set]; first | done | assumption | omega)), rfl⟩)))))))))))))
mutual
def slices_symMergeCmpFunc_impl_Row_at79.l1 : Nat → (List S72) → Int → Int → Option ((List S72))
 | 0, _, _, _ => none
 | k + 1, x12_ml0, x12_10, x12_13 => if x12_13 < (wrap64 (x12_10 - 1)) then (if 0 ≤ (wrap64 (x12_13 + 1)) then (if (wrap64 (x12_13 + 1)) < (x12_ml0.length : Int) then (if 0 ≤ x12_13 then (if x12_13 < (x12_ml0.length : Int) then ((some (x12_ml0.set x12_13.toNat (⟨(rd_T72 x12_ml0 (wrap64 (x12_13 + 1))).f0, (rd_T72 x12_ml0 (wrap64 (x12_13 + 1))).f1, (rd_T72 x12_ml0 (wrap64 (x12_13 + 1))).f2⟩ : S72))).bind fun s14 => (if (wrap64 (x12_13 + 1)) < (s14.length : Int) then ((some (s14.set (wrap64 (x12_13 + 1)).toNat (⟨(rd_T72 x12_ml0 x12_13).f0, (rd_T72 x12_ml0 x12_13).f1, (rd_T72 x12_ml0 x12_13).f2⟩ : S72))).bind fun s16 => (slices_symMergeCmpFunc_impl_Row_at79.l1 k s16 x12_10 (wrap64 (x12_13 + 1)))) else none)) else none) else none) else none) else none) else (some x12_ml0)
def slices_symMergeCmpFunc_impl_Row_at79.l0 : Nat → (List S72) → Int → Int → Int → Option ((List S72))
 | 0, _, _, _, _ => none
 | k + 1, x8_ml0, x8_1, x8_10, x8_11 => if x8_10 < x8_11 then (if 0 ≤ (IntKind.i64.wrap (shrI (IntKind.u64.wrap (wrap64 (x8_10 + x8_11))) 1)) then (if (IntKind.i64.wrap (shrI (IntKind.u64.wrap (wrap64 (x8_10 + x8_11))) 1)) < (x8_ml0.length : Int) then (if 0 ≤ x8_1 then (if x8_1 < (x8_ml0.length : Int) then ((impl_CompareRows.f ((rd_T72 x8_ml0 (IntKind.i64.wrap (shrI (IntKind.u64.wrap (wrap64 (x8_10 + x8_11))) 1))).f0) ((rd_T72 x8_ml0 (IntKind.i64.wrap (shrI (IntKind.u64.wrap (wrap64 (x8_10 + x8_11))) 1))).f1) ((rd_T72 x8_ml0 (IntKind.i64.wrap (shrI (IntKind.u64.wrap (wrap64 (x8_10 + x8_11))) 1))).f2) ((rd_T72 x8_ml0 x8_1).f0) ((rd_T72 x8_ml0 x8_1).f1) ((rd_T72 x8_ml0 x8_1).f2)).bind fun t7 => (if t7 < 0 then (slices_symMergeCmpFunc_impl_Row_at79.l0 k x8_ml0 x8_1 (wrap64 ((IntKind.i64.wrap (shrI (IntKind.u64.wrap (wrap64 (x8_10 + x8_11))) 1)) + 1)) x8_11) else (slices_symMergeCmpFunc_impl_Row_at79.l0 k x8_ml0 x8_1 x8_10 (IntKind.i64.wrap (shrI (IntKind.u64.wrap (wrap64 (x8_10 + x8_11))) 1))))) else none) else none) else none) else none) else (slices_symMergeCmpFunc_impl_Row_at79.l1 k x8_ml0 x8_10 x8_1)
def slices_symMergeCmpFunc_impl_Row_at79.l3 : Nat → (List S72) → Int → Int → Option ((List S72))
 | 0, _, _, _ => none
 | k + 1, x24_ml0, x24_14, x24_17 => if x24_17 > x24_14 then (if 0 ≤ (wrap64 (x24_17 - 1)) then (if (wrap64 (x24_17 - 1)) < (x24_ml0.length : Int) then (if 0 ≤ x24_17 then (if x24_17 < (x24_ml0.length : Int) then ((some (x24_ml0.set x24_17.toNat (⟨(rd_T72 x24_ml0 (wrap64 (x24_17 - 1))).f0, (rd_T72 x24_ml0 (wrap64 (x24_17 - 1))).f1, (rd_T72 x24_ml0 (wrap64 (x24_17 - 1))).f2⟩ : S72))).bind fun s45 => (if (wrap64 (x24_17 - 1)) < (s45.length : Int) then ((some (s45.set (wrap64 (x24_17 - 1)).toNat (⟨(rd_T72 x24_ml0 x24_17).f0, (rd_T72 x24_ml0 x24_17).f1, (rd_T72 x24_ml0 x24_17).f2⟩ : S72))).bind fun s47 => (slices_symMergeCmpFunc_impl_Row_at79.l3 k s47 x24_14 (wrap64 (x24_17 - 1)))) else none)) else none) else none) else none) else none) else (some x24_ml0)
def slices_symMergeCmpFunc_impl_Row_at79.l2 : Nat → (List S72) → Int → Int → Int → Option ((List S72))
 | 0, _, _, _, _ => none
 | k + 1, x20_ml0, x20_2, x20_14, x20_15 => if x20_14 < x20_15 then (if 0 ≤ x20_2 then (if x20_2 < (x20_ml0.length : Int) then (if 0 ≤ (IntKind.i64.wrap (shrI (IntKind.u64.wrap (wrap64 (x20_14 + x20_15))) 1)) then (if (IntKind.i64.wrap (shrI (IntKind.u64.wrap (wrap64 (x20_14 + x20_15))) 1)) < (x20_ml0.length : Int) then ((impl_CompareRows.f ((rd_T72 x20_ml0 x20_2).f0) ((rd_T72 x20_ml0 x20_2).f1) ((rd_T72 x20_ml0 x20_2).f2) ((rd_T72 x20_ml0 (IntKind.i64.wrap (shrI (IntKind.u64.wrap (wrap64 (x20_14 + x20_15))) 1))).f0) ((rd_T72 x20_ml0 (IntKind.i64.wrap (shrI (IntKind.u64.wrap (wrap64 (x20_14 + x20_15))) 1))).f1) ((rd_T72 x20_ml0 (IntKind.i64.wrap (shrI (IntKind.u64.wrap (wrap64 (x20_14 + x20_15))) 1))).f2)).bind fun t38 => (if t38 < 0 then (slices_symMergeCmpFunc_impl_Row_at79.l2 k x20_ml0 x20_2 x20_14 (IntKind.i64.wrap (shrI (IntKind.u64.wrap (wrap64 (x20_14 + x20_15))) 1))) else (slices_symMergeCmpFunc_impl_Row_at79.l2 k x20_ml0 x20_2 (wrap64 ((IntKind.i64.wrap (shrI (IntKind.u64.wrap (wrap64 (x20_14 + x20_15))) 1)) + 1)) x20_15))) else none) else none) else none) else none) else (slices_symMergeCmpFunc_impl_Row_at79.l3 k x20_ml0 x20_14 x20_2)
def slices_symMergeCmpFunc_impl_Row_at79.j2 : Nat → (List S72) → Int → Int → Int → Option ((List S72))
 | 0, _, _, _, _ => none
 | k + 1, x31_ml0, x31_3, x31_18, x31_24 => if x31_18 < x31_24 then (if x31_24 < x31_3 then ((slices_symMergeCmpFunc_impl_Row_at79.f k x31_ml0 x31_18 x31_24 x31_3).bind fun t75 => (some t75)) else (some x31_ml0)) else (some x31_ml0)
def slices_symMergeCmpFunc_impl_Row_at79.j1 : Nat → (List S72) → Int → Int → Int → Int → Int → Option ((List S72))
 | 0, _, _, _, _, _, _ => none
 | k + 1, x30_ml0, x30_1, x30_3, x30_18, x30_20, x30_24 => if x30_1 < x30_20 then (if x30_20 < x30_18 then ((slices_symMergeCmpFunc_impl_Row_at79.f k x30_ml0 x30_1 x30_20 x30_18).bind fun t78 => (slices_symMergeCmpFunc_impl_Row_at79.j2 k t78 x30_3 x30_18 x30_24)) else (slices_symMergeCmpFunc_impl_Row_at79.j2 k x30_ml0 x30_3 x30_18 x30_24)) else (slices_symMergeCmpFunc_impl_Row_at79.j2 k x30_ml0 x30_3 x30_18 x30_24)
def slices_symMergeCmpFunc_impl_Row_at79.l4 : Nat → (List S72) → Int → Int → Int → Int → Int → Int → Int → Int → Option ((List S72))
 | 0, _, _, _, _, _, _, _, _, _ => none
 | k + 1, x27_ml0, x27_1, x27_2, x27_3, x27_18, x27_19, x27_20, x27_21, x27_22 => if x27_20 < x27_21 then (if 0 ≤ (wrap64 (x27_22 - (IntKind.i64.wrap (shrI (IntKind.u64.wrap (wrap64 (x27_20 + x27_21))) 1)))) then (if (wrap64 (x27_22 - (IntKind.i64.wrap (shrI (IntKind.u64.wrap (wrap64 (x27_20 + x27_21))) 1)))) < (x27_ml0.length : Int) then (if 0 ≤ (IntKind.i64.wrap (shrI (IntKind.u64.wrap (wrap64 (x27_20 + x27_21))) 1)) then (if (IntKind.i64.wrap (shrI (IntKind.u64.wrap (wrap64 (x27_20 + x27_21))) 1)) < (x27_ml0.length : Int) then ((impl_CompareRows.f ((rd_T72 x27_ml0 (wrap64 (x27_22 - (IntKind.i64.wrap (shrI (IntKind.u64.wrap (wrap64 (x27_20 + x27_21))) 1))))).f0) ((rd_T72 x27_ml0 (wrap64 (x27_22 - (IntKind.i64.wrap (shrI (IntKind.u64.wrap (wrap64 (x27_20 + x27_21))) 1))))).f1) ((rd_T72 x27_ml0 (wrap64 (x27_22 - (IntKind.i64.wrap (shrI (IntKind.u64.wrap (wrap64 (x27_20 + x27_21))) 1))))).f2) ((rd_T72 x27_ml0 (IntKind.i64.wrap (shrI (IntKind.u64.wrap (wrap64 (x27_20 + x27_21))) 1))).f0) ((rd_T72 x27_ml0 (IntKind.i64.wrap (shrI (IntKind.u64.wrap (wrap64 (x27_20 + x27_21))) 1))).f1) ((rd_T72 x27_ml0 (IntKind.i64.wrap (shrI (IntKind.u64.wrap (wrap64 (x27_20 + x27_21))) 1))).f2)).bind fun t69 => (if t69 < 0 then (slices_symMergeCmpFunc_impl_Row_at79.l4 k x27_ml0 x27_1 x27_2 x27_3 x27_18 x27_19 x27_20 (IntKind.i64.wrap (shrI (IntKind.u64.wrap (wrap64 (x27_20 + x27_21))) 1)) x27_22) else (slices_symMergeCmpFunc_impl_Row_at79.l4 k x27_ml0 x27_1 x27_2 x27_3 x27_18 x27_19 (wrap64 ((IntKind.i64.wrap (shrI (IntKind.u64.wrap (wrap64 (x27_20 + x27_21))) 1)) + 1)) x27_21 x27_22))) else none) else none) else none) else none) else (if x27_20 < x27_2 then (if x27_2 < (wrap64 (x27_19 - x27_20)) then ((slices_rotateCmpFunc_impl_Row_at79.f k x27_ml0 x27_20 x27_2 (wrap64 (x27_19 - x27_20))).bind fun t81 => (slices_symMergeCmpFunc_impl_Row_at79.j1 k t81 x27_1 x27_3 x27_18 x27_20 (wrap64 (x27_19 - x27_20)))) else (slices_symMergeCmpFunc_impl_Row_at79.j1 k x27_ml0 x27_1 x27_3 x27_18 x27_20 (wrap64 (x27_19 - x27_20)))) else (slices_symMergeCmpFunc_impl_Row_at79.j1 k x27_ml0 x27_1 x27_3 x27_18 x27_20 (wrap64 (x27_19 - x27_20))))
def slices_symMergeCmpFunc_impl_Row_at79.j0 : Nat → (List S72) → Int → Int → Int → Int → Int → Int → Int → Option ((List S72))
 | 0, _, _, _, _, _, _, _, _ => none
 | k + 1, x25_ml0, x25_1, x25_2, x25_3, x25_18, x25_19, x25_20, x25_21 => slices_symMergeCmpFunc_impl_Row_at79.l4 k x25_ml0 x25_1 x25_2 x25_3 x25_18 x25_19 x25_20 x25_21 (wrap64 (x25_19 - 1))
def slices_symMergeCmpFunc_impl_Row_at79.f : Nat → (List S72) → Int → Int → Int → Option ((List S72))
 | 0, _, _, _, _ => none
 | k + 1, l0, a1, a2, a3 => if (wrap64 (a2 - a1)) = 1 then (slices_symMergeCmpFunc_impl_Row_at79.l0 k l0 a1 a2 a3) else (if (wrap64 (a3 - a2)) = 1 then (slices_symMergeCmpFunc_impl_Row_at79.l2 k l0 a2 a1 a2) else (if a2 > (IntKind.i64.wrap (shrI (IntKind.u64.wrap (wrap64 (a1 + a3))) 1)) then (slices_symMergeCmpFunc_impl_Row_at79.j0 k l0 a1 a2 a3 (IntKind.i64.wrap (shrI (IntKind.u64.wrap (wrap64 (a1 + a3))) 1)) (wrap64 ((IntKind.i64.wrap (shrI (IntKind.u64.wrap (wrap64 (a1 + a3))) 1)) + a2)) (wrap64 ((wrap64 ((IntKind.i64.wrap (shrI (IntKind.u64.wrap (wrap64 (a1 + a3))) 1)) + a2)) - a3)) (IntKind.i64.wrap (shrI (IntKind.u64.wrap (wrap64 (a1 + a3))) 1))) else (slices_symMergeCmpFunc_impl_Row_at79.j0 k l0 a1 a2 a3 (IntKind.i64.wrap (shrI (IntKind.u64.wrap (wrap64 (a1 + a3))) 1)) (wrap64 ((IntKind.i64.wrap (shrI (IntKind.u64.wrap (wrap64 (a1 + a3))) 1)) + a2)) a1 a2)))
end
set_option maxHeartbeats 4000000 in
set_option maxRecDepth 100000 in
theorem slices_symMergeCmpFunc_impl_Row_at79.ok_ : ∀ (N k : Nat) (hk : k ≤ N) (l0 : List S72) (Al0 : Option Addr) (cl0 : Nat) (a1 : Int) (a2 : Int) (a3 : Int) (r0 : List S72) (h : slices_symMergeCmpFunc_impl_Row_at79.f k l0 a1 a2 a3 = some r0), Fn Try.prog 91 [.slice Al0 l0.length cl0, .int .i64 a1, .int .i64 a2, .int .i64 a3, .func (.func 79) #[] #[]] [] [.sl 1 k72 Al0 cl0 l0 1 false] (fun v bx en => v = .tuple #[] ∧ bx = [] ∧ en = [.sl 1 k72 Al0 cl0 r0 1 false] ∧ r0.length = l0.length) := by
 intro N
 induction N with
 | zero => intro k hk l0 Al0 cl0 a1 a2 a3 r0 h; obtain rfl : k = 0 := by omega
           rw [slices_symMergeCmpFunc_impl_Row_at79.f] at h; cases h
 | succ N ih =>
 intro k hk l0 Al0 cl0 a1 a2 a3 r0 H
 rcases k with _ | k
 · rw [slices_symMergeCmpFunc_impl_Row_at79.f] at H; cases H
 refine fn_ 220 Try.func91 rfl rfl rfl (fun base T w0 => ?_)
 rw [slices_symMergeCmpFunc_impl_Row_at79.f] at H
 refine gs (gs (rg (sv (EV.mv rfl) rfl (sv (EV.mv rfl) rfl (sv (EV.sub rfl rfl) rfl (sv (EV.eql rfl rfl) rfl (re ?_)))))))
 revert H; refine ifsI ?_ ?_ <;> intro c1 H
 ·
  refine gt rfl (dT c1) (gs (rg (sv (EV.mv rfl) rfl (sv (EV.as rfl) rfl (re (pr [0, 1, 3, 4, 10] [] [0] rfl rfl rfl rfl (gs (rg (sv (EV.mv rfl) rfl (sv (EV.as rfl) rfl (re (gs (gb ?_)))))))))))))
  refine lo (fun kk S => ∃ (x8_ml0 : List S72) (x8_1 : Int) (x8_10 : Int) (x8_11 : Int), kk ≤ k ∧ slices_symMergeCmpFunc_impl_Row_at79.l0 kk x8_ml0 x8_1 x8_10 x8_11 = some r0 ∧ x8_ml0.length = l0.length ∧ S = ⟨[(0, .slice Al0 x8_ml0.length cl0), (1, .int .i64 x8_1), (4, .func (.func 79) #[] #[]), (10, .int .i64 x8_10), (11, .int .i64 x8_11)], [], [.sl 1 k72 Al0 cl0 x8_ml0 1 false]⟩) (fun S hS => ?_) (fun n0 ih0 S hS => ?_) ⟨l0, a1, a2, a3, by omega, H, (by first | rfl | assumption | omega | (simp only [List.length_set]; first | done | assumption | omega)), rfl⟩ (fun h => wk [0, 1, 4, 10, 11] [] [⟨0, 1, 1, false⟩] h)
  · clear H; obtain ⟨_, _, _, _, _, H, _⟩ := hS; rw [slices_symMergeCmpFunc_impl_Row_at79.l0] at H; cases H
  clear H
  obtain ⟨x8_ml0, x8_1, x8_10, x8_11, lk0, H, ex8_ml0, rfl⟩ := hS
  rw [slices_symMergeCmpFunc_impl_Row_at79.l0] at H
  refine gs (gs (rg (sv (EV.mv rfl) rfl (sv (EV.mv rfl) rfl (sv (EV.lss rfl rfl) rfl (re ?_))))))
  revert H; refine ifsI ?_ ?_ <;> intro c2 H
  ·
   refine gt rfl (dT c2) (gk (gb (gs (rg (sv (EV.mv rfl) rfl (sv (EV.mv rfl) rfl (sv (EV.add rfl rfl) rfl (sv (EV.cv (k' := .u64) rfl) rfl (sv (EV.shr64 rfl rfl dq) rfl (sv (EV.cv (k' := .i64) rfl) rfl (sv (EV.as rfl) rfl (re (pr [0, 1, 4, 10, 11, 12] [] [0] rfl rfl rfl rfl (gs ?_))))))))))))))
   revert H; refine ggI ?_; intro g3 H
   revert H; refine ggI ?_; intro g4 H
   revert H; refine ggI ?_; intro g5 H
   revert H; refine ggI ?_; intro g6 H
   refine dr [] [0] [] 11 rfl rfl rfl rfl (xv 0 [] [0] rfl (EV.mv rfl) rfl rfl rfl rfl (xv 1 [] [0] rfl (EV.mv rfl) rfl rfl rfl rfl (xv 2 [] [0] rfl (EV.mv rfl) rfl rfl rfl rfl (xv 3 [] [0] rfl (EV.ix 0 rfl rfl rfl g3 g4 rfl) rfl rfl rfl rfl (xv 4 [] [0] rfl (EV.le (v := .agg #[.int .i64 ((rd_T72 x8_ml0 (IntKind.i64.wrap (shrI (IntKind.u64.wrap (wrap64 (x8_10 + x8_11))) 1))).f0), .int .i64 ((rd_T72 x8_ml0 (IntKind.i64.wrap (shrI (IntKind.u64.wrap (wrap64 (x8_10 + x8_11))) 1))).f1), .int .i64 ((rd_T72 x8_ml0 (IntKind.i64.wrap (shrI (IntKind.u64.wrap (wrap64 (x8_10 + x8_11))) 1))).f2)]) (IntKind.i64.wrap (shrI (IntKind.u64.wrap (wrap64 (x8_10 + x8_11))) 1)) 0 (some 3) 0 z72 rfl rfl rfl g3 g4 rfl rfl rfl) rfl rfl rfl rfl (xv 5 [] [0] rfl (EV.mv rfl) rfl rfl rfl rfl (xv 6 [] [0] rfl (EV.mv rfl) rfl rfl rfl rfl (xv 7 [] [0] rfl (EV.ix 0 rfl rfl rfl g5 g6 rfl) rfl rfl rfl rfl (xv 8 [] [0] rfl (EV.le (v := .agg #[.int .i64 ((rd_T72 x8_ml0 x8_1).f0), .int .i64 ((rd_T72 x8_ml0 x8_1).f1), .int .i64 ((rd_T72 x8_ml0 x8_1).f2)]) x8_1 0 (some 3) 0 z72 rfl rfl rfl g5 g6 rfl rfl rfl) rfl rfl rfl rfl (one1 9 rfl rfl ?_))))))))))
   revert H; refine bdI ?_; rintro t7 A7 H
   refine cvf (f := 79) rfl (op_call (impl_CompareRows.ok ((rd_T72 x8_ml0 (IntKind.i64.wrap (shrI (IntKind.u64.wrap (wrap64 (x8_10 + x8_11))) 1))).f0) ((rd_T72 x8_ml0 (IntKind.i64.wrap (shrI (IntKind.u64.wrap (wrap64 (x8_10 + x8_11))) 1))).f1) ((rd_T72 x8_ml0 (IntKind.i64.wrap (shrI (IntKind.u64.wrap (wrap64 (x8_10 + x8_11))) 1))).f2) ((rd_T72 x8_ml0 x8_1).f0) ((rd_T72 x8_ml0 x8_1).f1) ((rd_T72 x8_ml0 x8_1).f2) _ A7) [] 2 rfl rfl rfl rfl rfl ?_)
   rintro _ _ _ ⟨rfl, rfl, rfl⟩
   refine xs [] [0] rfl rfl rfl (xv 10 [] [0] rfl (EV.lss rfl rfl) rfl rfl rfl rfl (xd (pr [0, 1, 4, 10, 11, 12, 50] [] [0] rfl rfl rfl rfl ?_)))
   revert H; refine ifsI ?_ ?_ <;> intro c8 H
   ·
    exact gt rfl (dT c8) (rg (sv (EV.mv rfl) rfl (sv (EV.add rfl rfl) rfl (sv (EV.as rfl) rfl (re (ge (wk [0, 1, 4, 10, 11] [] [⟨0, 1, 1, false⟩] (ih0 _ (by omega) _ ⟨x8_ml0, x8_1, wrap64 ((IntKind.i64.wrap (shrI (IntKind.u64.wrap (wrap64 (x8_10 + x8_11))) 1)) + 1), x8_11, by omega, H, (by first | rfl | assumption | omega | (simp only [List.length_set]; first | done | assumption | omega)), rfl⟩))))))))
   ·
    exact gf rfl (dF c8) (rg (sv (EV.mv rfl) rfl (sv (EV.as rfl) rfl (re (ge (wk [0, 1, 4, 10, 11] [] [⟨0, 1, 1, false⟩] (ih0 _ (by omega) _ ⟨x8_ml0, x8_1, x8_10, IntKind.i64.wrap (shrI (IntKind.u64.wrap (wrap64 (x8_10 + x8_11))) 1), by omega, H, (by first | rfl | assumption | omega | (simp only [List.length_set]; first | done | assumption | omega)), rfl⟩)))))))
  ·
   refine gf rfl (dF c2) (gx rfl (gs (gs (rg (sv (EV.mv rfl) rfl (sv (EV.as rfl) rfl (re (pr [0, 10, 13] [] [0] rfl rfl rfl rfl (gb ?_)))))))))
   refine lo (fun kk S => ∃ (x12_ml0 : List S72) (x12_10 : Int) (x12_13 : Int), kk ≤ n0 ∧ slices_symMergeCmpFunc_impl_Row_at79.l1 kk x12_ml0 x12_10 x12_13 = some r0 ∧ x12_ml0.length = l0.length ∧ S = ⟨[(0, .slice Al0 x12_ml0.length cl0), (10, .int .i64 x12_10), (13, .int .i64 x12_13)], [], [.sl 1 k72 Al0 cl0 x12_ml0 1 false]⟩) (fun S hS => ?_) (fun n1 ih1 S hS => ?_) ⟨x8_ml0, x8_10, x8_1, by omega, H, (by first | rfl | assumption | omega | (simp only [List.length_set]; first | done | assumption | omega)), rfl⟩ (fun h => wk [0, 10, 13] [] [⟨0, 1, 1, false⟩] h)
   · clear H; obtain ⟨_, _, _, _, H, _⟩ := hS; rw [slices_symMergeCmpFunc_impl_Row_at79.l1] at H; cases H
   clear H
   obtain ⟨x12_ml0, x12_10, x12_13, lk1, H, ex12_ml0, rfl⟩ := hS
   rw [slices_symMergeCmpFunc_impl_Row_at79.l1] at H
   refine gs (gs (rg (sv (EV.mv rfl) rfl (sv (EV.mv rfl) rfl (sv (EV.sub rfl rfl) rfl (sv (EV.lss rfl rfl) rfl (re ?_)))))))
   revert H; refine ifsI ?_ ?_ <;> intro c9 H
   ·
    refine gt rfl (dT c9) (gk (gs (gb ?_)))
    revert H; refine ggI ?_; intro g10 H
    revert H; refine ggI ?_; intro g11 H
    revert H; refine ggI ?_; intro g12 H
    revert H; refine ggI ?_; intro g13 H
    refine dr [] [] [16, 17] 18 rfl rfl rfl rfl (xv 0 [] [] rfl (EV.mv rfl) rfl rfl rfl rfl (xv 1 [] [] rfl (EV.mv rfl) rfl rfl rfl rfl (xv 2 [] [] rfl (EV.mv rfl) rfl rfl rfl rfl (xv 3 [] [] rfl (EV.mv rfl) rfl rfl rfl rfl (xv 4 [] [] rfl (EV.add rfl rfl) rfl rfl rfl rfl (xv 5 [] [] rfl (EV.mv rfl) rfl rfl rfl rfl (xv 6 [] [] rfl (EV.mv rfl) rfl rfl rfl rfl (xv 7 [] [] rfl (EV.add rfl rfl) rfl rfl rfl rfl (xv 10 [] [] rfl (EV.mv rfl) rfl rfl rfl rfl (xv 11 [] [] rfl (EV.mv rfl) rfl rfl rfl rfl ?_))))))))))
    refine one2 8 12 rfl rfl rfl rfl ?_ ?_
    ·
     refine ov (EV.ix 0 rfl rfl rfl g10 g11 rfl) rfl (xs [] [] rfl rfl rfl ?_)
     refine one2 9 12 rfl rfl rfl rfl ?_ ?_
     ·
      refine ov (EV.le (v := .agg #[.int .i64 ((rd_T72 x12_ml0 (wrap64 (x12_13 + 1))).f0), .int .i64 ((rd_T72 x12_ml0 (wrap64 (x12_13 + 1))).f1), .int .i64 ((rd_T72 x12_ml0 (wrap64 (x12_13 + 1))).f2)]) (wrap64 (x12_13 + 1)) 0 (some 3) 0 z72 rfl rfl rfl g10 g11 rfl rfl rfl) rfl (xs [] [] rfl rfl rfl (one1 12 rfl rfl (ov (EV.ix 0 rfl rfl rfl g12 g13 rfl) rfl (xs [] [] rfl rfl rfl (one1 13 rfl rfl (ov (EV.le (v := .agg #[.int .i64 ((rd_T72 x12_ml0 x12_13).f0), .int .i64 ((rd_T72 x12_ml0 x12_13).f1), .int .i64 ((rd_T72 x12_ml0 x12_13).f2)]) x12_13 0 (some 3) 0 z72 rfl rfl rfl g12 g13 rfl rfl rfl) rfl (xs [] [] rfl rfl rfl (one1 14 rfl rfl (ov (EV.ix 0 rfl rfl rfl g12 g13 rfl) rfl (xs [] [] rfl rfl rfl (one1 15 rfl rfl ?_)))))))))))
      revert H; refine bdI ?_; intro s14 A14 H; have q14 := stl (Option.some.inj A14)
      refine op_stg x12_13 0 0 z72 (⟨(rd_T72 x12_ml0 (wrap64 (x12_13 + 1))).f0, (rd_T72 x12_ml0 (wrap64 (x12_13 + 1))).f1, (rd_T72 x12_ml0 (wrap64 (x12_13 + 1))).f2⟩ : S72) (Option.some.inj A14) rfl rfl rfl rfl g12 g13 rfl rfl rfl rfl dq rfl (rlT 0 (v' := .slice Al0 s14.length cl0) rfl (slq _ _ q14) (rlT 61 (v' := .slice Al0 s14.length cl0) rfl (slq _ _ q14) (rlT 63 (v' := .slice Al0 s14.length cl0) rfl (slq _ _ q14) (rlT 66 (v' := .slice Al0 s14.length cl0) rfl (slq _ _ q14) (rlT 71 (v' := .slice Al0 s14.length cl0) rfl (slq _ _ q14) (nmE (en := [.sl 1 k72 Al0 cl0 s14 1 true]) (by kernel_rfl) (xs [] [] rfl rfl rfl (one1 16 rfl rfl ?_))))))))
      revert H; refine ggI ?_; intro g15 H
      refine ov (EV.ix 0 rfl rfl rfl g10 g15 rfl) rfl (xn rfl (one1 17 rfl rfl ?_))
      revert H; refine bdI ?_; intro s16 A16 H; have q16 := stl (Option.some.inj A16)
      exact op_stg (wrap64 (x12_13 + 1)) 0 0 z72 (⟨(rd_T72 x12_ml0 x12_13).f0, (rd_T72 x12_ml0 x12_13).f1, (rd_T72 x12_ml0 x12_13).f2⟩ : S72) (Option.some.inj A16) rfl rfl rfl rfl g10 g15 rfl rfl rfl rfl dq rfl (rlT 0 (v' := .slice Al0 s16.length cl0) rfl (slq _ _ q16) (rlT 61 (v' := .slice Al0 s16.length cl0) rfl (slq _ _ q16) (rlT 63 (v' := .slice Al0 s16.length cl0) rfl (slq _ _ q16) (rlT 66 (v' := .slice Al0 s16.length cl0) rfl (slq _ _ q16) (rlT 71 (v' := .slice Al0 s16.length cl0) rfl (slq _ _ q16) (nmE (en := [.sl 1 k72 Al0 cl0 s16 1 true]) (by kernel_rfl) (xn rfl (xd (pr [0, 10, 13] [] [0] rfl rfl rfl rfl (ge (rg (sv (EV.mv rfl) rfl (sv (EV.add rfl rfl) rfl (sv (EV.as rfl) rfl (re (wk [0, 10, 13] [] [⟨0, 1, 1, false⟩] (ih1 _ (by omega) _ ⟨s16, x12_10, wrap64 (x12_13 + 1), by omega, H, (by first | rfl | assumption | omega | (simp only [List.length_set]; first | done | assumption | omega)), rfl⟩)))))))))))))))))
     ·
      refine ov (EV.ix 0 rfl rfl rfl g12 g13 rfl) rfl (xs [] [] rfl rfl rfl ?_)
      refine one2 9 13 rfl rfl rfl rfl ?_ ?_
      ·
       refine ov (EV.le (v := .agg #[.int .i64 ((rd_T72 x12_ml0 (wrap64 (x12_13 + 1))).f0), .int .i64 ((rd_T72 x12_ml0 (wrap64 (x12_13 + 1))).f1), .int .i64 ((rd_T72 x12_ml0 (wrap64 (x12_13 + 1))).f2)]) (wrap64 (x12_13 + 1)) 0 (some 3) 0 z72 rfl rfl rfl g10 g11 rfl rfl rfl) rfl (xs [] [] rfl rfl rfl (one1 13 rfl rfl (ov (EV.le (v := .agg #[.int .i64 ((rd_T72 x12_ml0 x12_13).f0), .int .i64 ((rd_T72 x12_ml0 x12_13).f1), .int .i64 ((rd_T72 x12_ml0 x12_13).f2)]) x12_13 0 (some 3) 0 z72 rfl rfl rfl g12 g13 rfl rfl rfl) rfl (xs [] [] rfl rfl rfl (one1 14 rfl rfl (ov (EV.ix 0 rfl rfl rfl g12 g13 rfl) rfl (xs [] [] rfl rfl rfl (one1 15 rfl rfl ?_))))))))
       revert H; refine bdI ?_; intro s17 A17 H; have q17 := stl (Option.some.inj A17)
       refine op_stg x12_13 0 0 z72 (⟨(rd_T72 x12_ml0 (wrap64 (x12_13 + 1))).f0, (rd_T72 x12_ml0 (wrap64 (x12_13 + 1))).f1, (rd_T72 x12_ml0 (wrap64 (x12_13 + 1))).f2⟩ : S72) (Option.some.inj A17) rfl rfl rfl rfl g12 g13 rfl rfl rfl rfl dq rfl (rlT 0 (v' := .slice Al0 s17.length cl0) rfl (slq _ _ q17) (rlT 61 (v' := .slice Al0 s17.length cl0) rfl (slq _ _ q17) (rlT 63 (v' := .slice Al0 s17.length cl0) rfl (slq _ _ q17) (rlT 66 (v' := .slice Al0 s17.length cl0) rfl (slq _ _ q17) (rlT 71 (v' := .slice Al0 s17.length cl0) rfl (slq _ _ q17) (nmE (en := [.sl 1 k72 Al0 cl0 s17 1 true]) (by kernel_rfl) (xs [] [] rfl rfl rfl (one1 16 rfl rfl ?_))))))))
       revert H; refine ggI ?_; intro g18 H
       refine ov (EV.ix 0 rfl rfl rfl g10 g18 rfl) rfl (xn rfl (one1 17 rfl rfl ?_))
       revert H; refine bdI ?_; intro s19 A19 H; have q19 := stl (Option.some.inj A19)
       exact op_stg (wrap64 (x12_13 + 1)) 0 0 z72 (⟨(rd_T72 x12_ml0 x12_13).f0, (rd_T72 x12_ml0 x12_13).f1, (rd_T72 x12_ml0 x12_13).f2⟩ : S72) (Option.some.inj A19) rfl rfl rfl rfl g10 g18 rfl rfl rfl rfl dq rfl (rlT 0 (v' := .slice Al0 s19.length cl0) rfl (slq _ _ q19) (rlT 61 (v' := .slice Al0 s19.length cl0) rfl (slq _ _ q19) (rlT 63 (v' := .slice Al0 s19.length cl0) rfl (slq _ _ q19) (rlT 66 (v' := .slice Al0 s19.length cl0) rfl (slq _ _ q19) (rlT 71 (v' := .slice Al0 s19.length cl0) rfl (slq _ _ q19) (nmE (en := [.sl 1 k72 Al0 cl0 s19 1 true]) (by kernel_rfl) (xn rfl (xd (pr [0, 10, 13] [] [0] rfl rfl rfl rfl (ge (rg (sv (EV.mv rfl) rfl (sv (EV.add rfl rfl) rfl (sv (EV.as rfl) rfl (re (wk [0, 10, 13] [] [⟨0, 1, 1, false⟩] (ih1 _ (by omega) _ ⟨s19, x12_10, wrap64 (x12_13 + 1), by omega, H, (by first | rfl | assumption | omega | (simp only [List.length_set]; first | done | assumption | omega)), rfl⟩)))))))))))))))))
      ·
       refine ov (EV.le (v := .agg #[.int .i64 ((rd_T72 x12_ml0 x12_13).f0), .int .i64 ((rd_T72 x12_ml0 x12_13).f1), .int .i64 ((rd_T72 x12_ml0 x12_13).f2)]) x12_13 0 (some 3) 0 z72 rfl rfl rfl g12 g13 rfl rfl rfl) rfl (xs [] [] rfl rfl rfl (one1 9 rfl rfl (ov (EV.le (v := .agg #[.int .i64 ((rd_T72 x12_ml0 (wrap64 (x12_13 + 1))).f0), .int .i64 ((rd_T72 x12_ml0 (wrap64 (x12_13 + 1))).f1), .int .i64 ((rd_T72 x12_ml0 (wrap64 (x12_13 + 1))).f2)]) (wrap64 (x12_13 + 1)) 0 (some 3) 0 z72 rfl rfl rfl g10 g11 rfl rfl rfl) rfl (xs [] [] rfl rfl rfl (one1 14 rfl rfl (ov (EV.ix 0 rfl rfl rfl g12 g13 rfl) rfl (xs [] [] rfl rfl rfl (one1 15 rfl rfl ?_))))))))
       revert H; refine bdI ?_; intro s20 A20 H; have q20 := stl (Option.some.inj A20)
       refine op_stg x12_13 0 0 z72 (⟨(rd_T72 x12_ml0 (wrap64 (x12_13 + 1))).f0, (rd_T72 x12_ml0 (wrap64 (x12_13 + 1))).f1, (rd_T72 x12_ml0 (wrap64 (x12_13 + 1))).f2⟩ : S72) (Option.some.inj A20) rfl rfl rfl rfl g12 g13 rfl rfl rfl rfl dq rfl (rlT 0 (v' := .slice Al0 s20.length cl0) rfl (slq _ _ q20) (rlT 61 (v' := .slice Al0 s20.length cl0) rfl (slq _ _ q20) (rlT 63 (v' := .slice Al0 s20.length cl0) rfl (slq _ _ q20) (rlT 66 (v' := .slice Al0 s20.length cl0) rfl (slq _ _ q20) (rlT 71 (v' := .slice Al0 s20.length cl0) rfl (slq _ _ q20) (nmE (en := [.sl 1 k72 Al0 cl0 s20 1 true]) (by kernel_rfl) (xs [] [] rfl rfl rfl (one1 16 rfl rfl ?_))))))))
       revert H; refine ggI ?_; intro g21 H
       refine ov (EV.ix 0 rfl rfl rfl g10 g21 rfl) rfl (xn rfl (one1 17 rfl rfl ?_))
       revert H; refine bdI ?_; intro s22 A22 H; have q22 := stl (Option.some.inj A22)
       exact op_stg (wrap64 (x12_13 + 1)) 0 0 z72 (⟨(rd_T72 x12_ml0 x12_13).f0, (rd_T72 x12_ml0 x12_13).f1, (rd_T72 x12_ml0 x12_13).f2⟩ : S72) (Option.some.inj A22) rfl rfl rfl rfl g10 g21 rfl rfl rfl rfl dq rfl (rlT 0 (v' := .slice Al0 s22.length cl0) rfl (slq _ _ q22) (rlT 61 (v' := .slice Al0 s22.length cl0) rfl (slq _ _ q22) (rlT 63 (v' := .slice Al0 s22.length cl0) rfl (slq _ _ q22) (rlT 66 (v' := .slice Al0 s22.length cl0) rfl (slq _ _ q22) (rlT 71 (v' := .slice Al0 s22.length cl0) rfl (slq _ _ q22) (nmE (en := [.sl 1 k72 Al0 cl0 s22 1 true]) (by kernel_rfl) (xn rfl (xd (pr [0, 10, 13] [] [0] rfl rfl rfl rfl (ge (rg (sv (EV.mv rfl) rfl (sv (EV.add rfl rfl) rfl (sv (EV.as rfl) rfl (re (wk [0, 10, 13] [] [⟨0, 1, 1, false⟩] (ih1 _ (by omega) _ ⟨s22, x12_10, wrap64 (x12_13 + 1), by omega, H, (by first | rfl | assumption | omega | (simp only [List.length_set]; first | done | assumption | omega)), rfl⟩)))))))))))))))))
    ·
     refine ov (EV.ix 0 rfl rfl rfl g12 g13 rfl) rfl (xs [] [] rfl rfl rfl ?_)
     refine one2 8 13 rfl rfl rfl rfl ?_ ?_
     ·
      refine ov (EV.ix 0 rfl rfl rfl g10 g11 rfl) rfl (xs [] [] rfl rfl rfl ?_)
      refine one2 9 13 rfl rfl rfl rfl ?_ ?_
      ·
       refine ov (EV.le (v := .agg #[.int .i64 ((rd_T72 x12_ml0 (wrap64 (x12_13 + 1))).f0), .int .i64 ((rd_T72 x12_ml0 (wrap64 (x12_13 + 1))).f1), .int .i64 ((rd_T72 x12_ml0 (wrap64 (x12_13 + 1))).f2)]) (wrap64 (x12_13 + 1)) 0 (some 3) 0 z72 rfl rfl rfl g10 g11 rfl rfl rfl) rfl (xs [] [] rfl rfl rfl (one1 13 rfl rfl (ov (EV.le (v := .agg #[.int .i64 ((rd_T72 x12_ml0 x12_13).f0), .int .i64 ((rd_T72 x12_ml0 x12_13).f1), .int .i64 ((rd_T72 x12_ml0 x12_13).f2)]) x12_13 0 (some 3) 0 z72 rfl rfl rfl g12 g13 rfl rfl rfl) rfl (xs [] [] rfl rfl rfl (one1 14 rfl rfl (ov (EV.ix 0 rfl rfl rfl g12 g13 rfl) rfl (xs [] [] rfl rfl rfl (one1 15 rfl rfl ?_))))))))
       revert H; refine bdI ?_; intro s23 A23 H; have q23 := stl (Option.some.inj A23)
       refine op_stg x12_13 0 0 z72 (⟨(rd_T72 x12_ml0 (wrap64 (x12_13 + 1))).f0, (rd_T72 x12_ml0 (wrap64 (x12_13 + 1))).f1, (rd_T72 x12_ml0 (wrap64 (x12_13 + 1))).f2⟩ : S72) (Option.some.inj A23) rfl rfl rfl rfl g12 g13 rfl rfl rfl rfl dq rfl (rlT 0 (v' := .slice Al0 s23.length cl0) rfl (slq _ _ q23) (rlT 61 (v' := .slice Al0 s23.length cl0) rfl (slq _ _ q23) (rlT 63 (v' := .slice Al0 s23.length cl0) rfl (slq _ _ q23) (rlT 66 (v' := .slice Al0 s23.length cl0) rfl (slq _ _ q23) (rlT 71 (v' := .slice Al0 s23.length cl0) rfl (slq _ _ q23) (nmE (en := [.sl 1 k72 Al0 cl0 s23 1 true]) (by kernel_rfl) (xs [] [] rfl rfl rfl (one1 16 rfl rfl ?_))))))))
       revert H; refine ggI ?_; intro g24 H
       refine ov (EV.ix 0 rfl rfl rfl g10 g24 rfl) rfl (xn rfl (one1 17 rfl rfl ?_))
       revert H; refine bdI ?_; intro s25 A25 H; have q25 := stl (Option.some.inj A25)
       exact op_stg (wrap64 (x12_13 + 1)) 0 0 z72 (⟨(rd_T72 x12_ml0 x12_13).f0, (rd_T72 x12_ml0 x12_13).f1, (rd_T72 x12_ml0 x12_13).f2⟩ : S72) (Option.some.inj A25) rfl rfl rfl rfl g10 g24 rfl rfl rfl rfl dq rfl (rlT 0 (v' := .slice Al0 s25.length cl0) rfl (slq _ _ q25) (rlT 61 (v' := .slice Al0 s25.length cl0) rfl (slq _ _ q25) (rlT 63 (v' := .slice Al0 s25.length cl0) rfl (slq _ _ q25) (rlT 66 (v' := .slice Al0 s25.length cl0) rfl (slq _ _ q25) (rlT 71 (v' := .slice Al0 s25.length cl0) rfl (slq _ _ q25) (nmE (en := [.sl 1 k72 Al0 cl0 s25 1 true]) (by kernel_rfl) (xn rfl (xd (pr [0, 10, 13] [] [0] rfl rfl rfl rfl (ge (rg (sv (EV.mv rfl) rfl (sv (EV.add rfl rfl) rfl (sv (EV.as rfl) rfl (re (wk [0, 10, 13] [] [⟨0, 1, 1, false⟩] (ih1 _ (by omega) _ ⟨s25, x12_10, wrap64 (x12_13 + 1), by omega, H, (by first | rfl | assumption | omega | (simp only [List.length_set]; first | done | assumption | omega)), rfl⟩)))))))))))))))))
      ·
       refine ov (EV.le (v := .agg #[.int .i64 ((rd_T72 x12_ml0 x12_13).f0), .int .i64 ((rd_T72 x12_ml0 x12_13).f1), .int .i64 ((rd_T72 x12_ml0 x12_13).f2)]) x12_13 0 (some 3) 0 z72 rfl rfl rfl g12 g13 rfl rfl rfl) rfl (xs [] [] rfl rfl rfl (one1 9 rfl rfl (ov (EV.le (v := .agg #[.int .i64 ((rd_T72 x12_ml0 (wrap64 (x12_13 + 1))).f0), .int .i64 ((rd_T72 x12_ml0 (wrap64 (x12_13 + 1))).f1), .int .i64 ((rd_T72 x12_ml0 (wrap64 (x12_13 + 1))).f2)]) (wrap64 (x12_13 + 1)) 0 (some 3) 0 z72 rfl rfl rfl g10 g11 rfl rfl rfl) rfl (xs [] [] rfl rfl rfl (one1 14 rfl rfl (ov (EV.ix 0 rfl rfl rfl g12 g13 rfl) rfl (xs [] [] rfl rfl rfl (one1 15 rfl rfl ?_))))))))
       revert H; refine bdI ?_; intro s26 A26 H; have q26 := stl (Option.some.inj A26)
       refine op_stg x12_13 0 0 z72 (⟨(rd_T72 x12_ml0 (wrap64 (x12_13 + 1))).f0, (rd_T72 x12_ml0 (wrap64 (x12_13 + 1))).f1, (rd_T72 x12_ml0 (wrap64 (x12_13 + 1))).f2⟩ : S72) (Option.some.inj A26) rfl rfl rfl rfl g12 g13 rfl rfl rfl rfl dq rfl (rlT 0 (v' := .slice Al0 s26.length cl0) rfl (slq _ _ q26) (rlT 61 (v' := .slice Al0 s26.length cl0) rfl (slq _ _ q26) (rlT 63 (v' := .slice Al0 s26.length cl0) rfl (slq _ _ q26) (rlT 66 (v' := .slice Al0 s26.length cl0) rfl (slq _ _ q26) (rlT 71 (v' := .slice Al0 s26.length cl0) rfl (slq _ _ q26) (nmE (en := [.sl 1 k72 Al0 cl0 s26 1 true]) (by kernel_rfl) (xs [] [] rfl rfl rfl (one1 16 rfl rfl ?_))))))))
       revert H; refine ggI ?_; intro g27 H
       refine ov (EV.ix 0 rfl rfl rfl g10 g27 rfl) rfl (xn rfl (one1 17 rfl rfl ?_))
       revert H; refine bdI ?_; intro s28 A28 H; have q28 := stl (Option.some.inj A28)
       exact op_stg (wrap64 (x12_13 + 1)) 0 0 z72 (⟨(rd_T72 x12_ml0 x12_13).f0, (rd_T72 x12_ml0 x12_13).f1, (rd_T72 x12_ml0 x12_13).f2⟩ : S72) (Option.some.inj A28) rfl rfl rfl rfl g10 g27 rfl rfl rfl rfl dq rfl (rlT 0 (v' := .slice Al0 s28.length cl0) rfl (slq _ _ q28) (rlT 61 (v' := .slice Al0 s28.length cl0) rfl (slq _ _ q28) (rlT 63 (v' := .slice Al0 s28.length cl0) rfl (slq _ _ q28) (rlT 66 (v' := .slice Al0 s28.length cl0) rfl (slq _ _ q28) (rlT 71 (v' := .slice Al0 s28.length cl0) rfl (slq _ _ q28) (nmE (en := [.sl 1 k72 Al0 cl0 s28 1 true]) (by kernel_rfl) (xn rfl (xd (pr [0, 10, 13] [] [0] rfl rfl rfl rfl (ge (rg (sv (EV.mv rfl) rfl (sv (EV.add rfl rfl) rfl (sv (EV.as rfl) rfl (re (wk [0, 10, 13] [] [⟨0, 1, 1, false⟩] (ih1 _ (by omega) _ ⟨s28, x12_10, wrap64 (x12_13 + 1), by omega, H, (by first | rfl | assumption | omega | (simp only [List.length_set]; first | done | assumption | omega)), rfl⟩)))))))))))))))))
     ·
      refine ov (EV.le (v := .agg #[.int .i64 ((rd_T72 x12_ml0 x12_13).f0), .int .i64 ((rd_T72 x12_ml0 x12_13).f1), .int .i64 ((rd_T72 x12_ml0 x12_13).f2)]) x12_13 0 (some 3) 0 z72 rfl rfl rfl g12 g13 rfl rfl rfl) rfl (xs [] [] rfl rfl rfl (one1 8 rfl rfl (ov (EV.ix 0 rfl rfl rfl g10 g11 rfl) rfl (xs [] [] rfl rfl rfl (one1 9 rfl rfl (ov (EV.le (v := .agg #[.int .i64 ((rd_T72 x12_ml0 (wrap64 (x12_13 + 1))).f0), .int .i64 ((rd_T72 x12_ml0 (wrap64 (x12_13 + 1))).f1), .int .i64 ((rd_T72 x12_ml0 (wrap64 (x12_13 + 1))).f2)]) (wrap64 (x12_13 + 1)) 0 (some 3) 0 z72 rfl rfl rfl g10 g11 rfl rfl rfl) rfl (xs [] [] rfl rfl rfl (one1 14 rfl rfl (ov (EV.ix 0 rfl rfl rfl g12 g13 rfl) rfl (xs [] [] rfl rfl rfl (one1 15 rfl rfl ?_)))))))))))
      revert H; refine bdI ?_; intro s29 A29 H; have q29 := stl (Option.some.inj A29)
      refine op_stg x12_13 0 0 z72 (⟨(rd_T72 x12_ml0 (wrap64 (x12_13 + 1))).f0, (rd_T72 x12_ml0 (wrap64 (x12_13 + 1))).f1, (rd_T72 x12_ml0 (wrap64 (x12_13 + 1))).f2⟩ : S72) (Option.some.inj A29) rfl rfl rfl rfl g12 g13 rfl rfl rfl rfl dq rfl (rlT 0 (v' := .slice Al0 s29.length cl0) rfl (slq _ _ q29) (rlT 61 (v' := .slice Al0 s29.length cl0) rfl (slq _ _ q29) (rlT 63 (v' := .slice Al0 s29.length cl0) rfl (slq _ _ q29) (rlT 66 (v' := .slice Al0 s29.length cl0) rfl (slq _ _ q29) (rlT 71 (v' := .slice Al0 s29.length cl0) rfl (slq _ _ q29) (nmE (en := [.sl 1 k72 Al0 cl0 s29 1 true]) (by kernel_rfl) (xs [] [] rfl rfl rfl (one1 16 rfl rfl ?_))))))))
      revert H; refine ggI ?_; intro g30 H
      refine ov (EV.ix 0 rfl rfl rfl g10 g30 rfl) rfl (xn rfl (one1 17 rfl rfl ?_))
      revert H; refine bdI ?_; intro s31 A31 H; have q31 := stl (Option.some.inj A31)
      exact op_stg (wrap64 (x12_13 + 1)) 0 0 z72 (⟨(rd_T72 x12_ml0 x12_13).f0, (rd_T72 x12_ml0 x12_13).f1, (rd_T72 x12_ml0 x12_13).f2⟩ : S72) (Option.some.inj A31) rfl rfl rfl rfl g10 g30 rfl rfl rfl rfl dq rfl (rlT 0 (v' := .slice Al0 s31.length cl0) rfl (slq _ _ q31) (rlT 61 (v' := .slice Al0 s31.length cl0) rfl (slq _ _ q31) (rlT 63 (v' := .slice Al0 s31.length cl0) rfl (slq _ _ q31) (rlT 66 (v' := .slice Al0 s31.length cl0) rfl (slq _ _ q31) (rlT 71 (v' := .slice Al0 s31.length cl0) rfl (slq _ _ q31) (nmE (en := [.sl 1 k72 Al0 cl0 s31 1 true]) (by kernel_rfl) (xn rfl (xd (pr [0, 10, 13] [] [0] rfl rfl rfl rfl (ge (rg (sv (EV.mv rfl) rfl (sv (EV.add rfl rfl) rfl (sv (EV.as rfl) rfl (re (wk [0, 10, 13] [] [⟨0, 1, 1, false⟩] (ih1 _ (by omega) _ ⟨s31, x12_10, wrap64 (x12_13 + 1), by omega, H, (by first | rfl | assumption | omega | (simp only [List.length_set]; first | done | assumption | omega)), rfl⟩)))))))))))))))))
   ·
    refine gf rfl (dF c9) (gx rfl ?_)
    cases H
    exact rt Try.func91 rfl .nil rfl [] [⟨0, 1, 1, false⟩] rfl rfl rfl rfl rfl ⟨rfl, rfl, rfl, by first | rfl | assumption | omega | (simp only [List.length_set]; first | done | assumption | omega)⟩
 ·
  refine gf rfl (dF c1) (gk (gs (gs (rg (sv (EV.mv rfl) rfl (sv (EV.mv rfl) rfl (sv (EV.sub rfl rfl) rfl (sv (EV.eql rfl rfl) rfl (re (pr [0, 1, 2, 3, 4, 80] [] [0] rfl rfl rfl rfl ?_))))))))))
  revert H; refine ifsI ?_ ?_ <;> intro c32 H
  ·
   refine gt rfl (dT c32) (gs (rg (sv (EV.mv rfl) rfl (sv (EV.as rfl) rfl (re (gs (rg (sv (EV.mv rfl) rfl (sv (EV.as rfl) rfl (re (gs (gb ?_))))))))))))
   refine lo (fun kk S => ∃ (x20_ml0 : List S72) (x20_2 : Int) (x20_14 : Int) (x20_15 : Int), kk ≤ k ∧ slices_symMergeCmpFunc_impl_Row_at79.l2 kk x20_ml0 x20_2 x20_14 x20_15 = some r0 ∧ x20_ml0.length = l0.length ∧ S = ⟨[(0, .slice Al0 x20_ml0.length cl0), (2, .int .i64 x20_2), (4, .func (.func 79) #[] #[]), (14, .int .i64 x20_14), (15, .int .i64 x20_15)], [], [.sl 1 k72 Al0 cl0 x20_ml0 1 false]⟩) (fun S hS => ?_) (fun n2 ih2 S hS => ?_) ⟨l0, a2, a1, a2, by omega, H, (by first | rfl | assumption | omega | (simp only [List.length_set]; first | done | assumption | omega)), rfl⟩ (fun h => wk [0, 2, 4, 14, 15] [] [⟨0, 1, 1, false⟩] h)
   · clear H; obtain ⟨_, _, _, _, _, H, _⟩ := hS; rw [slices_symMergeCmpFunc_impl_Row_at79.l2] at H; cases H
   clear H
   obtain ⟨x20_ml0, x20_2, x20_14, x20_15, lk2, H, ex20_ml0, rfl⟩ := hS
   rw [slices_symMergeCmpFunc_impl_Row_at79.l2] at H
   refine gs (gs (rg (sv (EV.mv rfl) rfl (sv (EV.mv rfl) rfl (sv (EV.lss rfl rfl) rfl (re ?_))))))
   revert H; refine ifsI ?_ ?_ <;> intro c33 H
   ·
    refine gt rfl (dT c33) (gk (gb (gs (rg (sv (EV.mv rfl) rfl (sv (EV.mv rfl) rfl (sv (EV.add rfl rfl) rfl (sv (EV.cv (k' := .u64) rfl) rfl (sv (EV.shr64 rfl rfl dq) rfl (sv (EV.cv (k' := .i64) rfl) rfl (sv (EV.as rfl) rfl (re (pr [0, 2, 4, 14, 15, 16] [] [0] rfl rfl rfl rfl (gs ?_))))))))))))))
    revert H; refine ggI ?_; intro g34 H
    revert H; refine ggI ?_; intro g35 H
    revert H; refine ggI ?_; intro g36 H
    revert H; refine ggI ?_; intro g37 H
    refine dr [] [0] [] 12 rfl rfl rfl rfl (xv 0 [] [0] rfl (EV.mv rfl) rfl rfl rfl rfl (xv 1 [] [0] rfl (EV.mv rfl) rfl rfl rfl rfl (xv 2 [] [0] rfl (EV.mv rfl) rfl rfl rfl rfl (xv 3 [] [0] rfl (EV.ix 0 rfl rfl rfl g34 g35 rfl) rfl rfl rfl rfl (xv 4 [] [0] rfl (EV.le (v := .agg #[.int .i64 ((rd_T72 x20_ml0 x20_2).f0), .int .i64 ((rd_T72 x20_ml0 x20_2).f1), .int .i64 ((rd_T72 x20_ml0 x20_2).f2)]) x20_2 0 (some 3) 0 z72 rfl rfl rfl g34 g35 rfl rfl rfl) rfl rfl rfl rfl (xv 5 [] [0] rfl (EV.mv rfl) rfl rfl rfl rfl (xv 6 [] [0] rfl (EV.mv rfl) rfl rfl rfl rfl (xv 7 [] [0] rfl (EV.ix 0 rfl rfl rfl g36 g37 rfl) rfl rfl rfl rfl (xv 8 [] [0] rfl (EV.le (v := .agg #[.int .i64 ((rd_T72 x20_ml0 (IntKind.i64.wrap (shrI (IntKind.u64.wrap (wrap64 (x20_14 + x20_15))) 1))).f0), .int .i64 ((rd_T72 x20_ml0 (IntKind.i64.wrap (shrI (IntKind.u64.wrap (wrap64 (x20_14 + x20_15))) 1))).f1), .int .i64 ((rd_T72 x20_ml0 (IntKind.i64.wrap (shrI (IntKind.u64.wrap (wrap64 (x20_14 + x20_15))) 1))).f2)]) (IntKind.i64.wrap (shrI (IntKind.u64.wrap (wrap64 (x20_14 + x20_15))) 1)) 0 (some 3) 0 z72 rfl rfl rfl g36 g37 rfl rfl rfl) rfl rfl rfl rfl (one1 9 rfl rfl ?_))))))))))
    revert H; refine bdI ?_; rintro t38 A38 H
    refine cvf (f := 79) rfl (op_call (impl_CompareRows.ok ((rd_T72 x20_ml0 x20_2).f0) ((rd_T72 x20_ml0 x20_2).f1) ((rd_T72 x20_ml0 x20_2).f2) ((rd_T72 x20_ml0 (IntKind.i64.wrap (shrI (IntKind.u64.wrap (wrap64 (x20_14 + x20_15))) 1))).f0) ((rd_T72 x20_ml0 (IntKind.i64.wrap (shrI (IntKind.u64.wrap (wrap64 (x20_14 + x20_15))) 1))).f1) ((rd_T72 x20_ml0 (IntKind.i64.wrap (shrI (IntKind.u64.wrap (wrap64 (x20_14 + x20_15))) 1))).f2) _ A38) [] 2 rfl rfl rfl rfl rfl ?_)
    rintro _ _ _ ⟨rfl, rfl, rfl⟩
    refine xs [] [0] rfl rfl rfl (xv 10 [] [0] rfl (EV.lss rfl rfl) rfl rfl rfl rfl (xv 11 [] [0] rfl (EV.nt rfl) rfl rfl rfl rfl (xd (pr [0, 2, 4, 14, 15, 16, 103] [] [0] rfl rfl rfl rfl ?_))))
    revert H; refine ifsI ?_ ?_ <;> intro c39 H
    ·
     exact gf rfl (nF c39) (rg (sv (EV.mv rfl) rfl (sv (EV.as rfl) rfl (re (ge (wk [0, 2, 4, 14, 15] [] [⟨0, 1, 1, false⟩] (ih2 _ (by omega) _ ⟨x20_ml0, x20_2, x20_14, IntKind.i64.wrap (shrI (IntKind.u64.wrap (wrap64 (x20_14 + x20_15))) 1), by omega, H, (by first | rfl | assumption | omega | (simp only [List.length_set]; first | done | assumption | omega)), rfl⟩)))))))
    ·
     exact gt rfl (nT c39) (rg (sv (EV.mv rfl) rfl (sv (EV.add rfl rfl) rfl (sv (EV.as rfl) rfl (re (ge (wk [0, 2, 4, 14, 15] [] [⟨0, 1, 1, false⟩] (ih2 _ (by omega) _ ⟨x20_ml0, x20_2, wrap64 ((IntKind.i64.wrap (shrI (IntKind.u64.wrap (wrap64 (x20_14 + x20_15))) 1)) + 1), x20_15, by omega, H, (by first | rfl | assumption | omega | (simp only [List.length_set]; first | done | assumption | omega)), rfl⟩))))))))
   ·
    refine gf rfl (dF c33) (gx rfl (gs (gs (rg (sv (EV.mv rfl) rfl (sv (EV.as rfl) rfl (re (pr [0, 14, 17] [] [0] rfl rfl rfl rfl (gb ?_)))))))))
    refine lo (fun kk S => ∃ (x24_ml0 : List S72) (x24_14 : Int) (x24_17 : Int), kk ≤ n2 ∧ slices_symMergeCmpFunc_impl_Row_at79.l3 kk x24_ml0 x24_14 x24_17 = some r0 ∧ x24_ml0.length = l0.length ∧ S = ⟨[(0, .slice Al0 x24_ml0.length cl0), (14, .int .i64 x24_14), (17, .int .i64 x24_17)], [], [.sl 1 k72 Al0 cl0 x24_ml0 1 false]⟩) (fun S hS => ?_) (fun n3 ih3 S hS => ?_) ⟨x20_ml0, x20_14, x20_2, by omega, H, (by first | rfl | assumption | omega | (simp only [List.length_set]; first | done | assumption | omega)), rfl⟩ (fun h => wk [0, 14, 17] [] [⟨0, 1, 1, false⟩] h)
    · clear H; obtain ⟨_, _, _, _, H, _⟩ := hS; rw [slices_symMergeCmpFunc_impl_Row_at79.l3] at H; cases H
    clear H
    obtain ⟨x24_ml0, x24_14, x24_17, lk3, H, ex24_ml0, rfl⟩ := hS
    rw [slices_symMergeCmpFunc_impl_Row_at79.l3] at H
    refine gs (gs (rg (sv (EV.mv rfl) rfl (sv (EV.mv rfl) rfl (sv (EV.gtr rfl rfl) rfl (re ?_))))))
    revert H; refine ifsI ?_ ?_ <;> intro c40 H
    ·
     refine gt rfl (dT c40) (gk (gs (gb ?_)))
     revert H; refine ggI ?_; intro g41 H
     revert H; refine ggI ?_; intro g42 H
     revert H; refine ggI ?_; intro g43 H
     revert H; refine ggI ?_; intro g44 H
     refine dr [] [] [16, 17] 18 rfl rfl rfl rfl (xv 0 [] [] rfl (EV.mv rfl) rfl rfl rfl rfl (xv 1 [] [] rfl (EV.mv rfl) rfl rfl rfl rfl (xv 2 [] [] rfl (EV.mv rfl) rfl rfl rfl rfl (xv 3 [] [] rfl (EV.mv rfl) rfl rfl rfl rfl (xv 4 [] [] rfl (EV.sub rfl rfl) rfl rfl rfl rfl (xv 5 [] [] rfl (EV.mv rfl) rfl rfl rfl rfl (xv 6 [] [] rfl (EV.mv rfl) rfl rfl rfl rfl (xv 7 [] [] rfl (EV.sub rfl rfl) rfl rfl rfl rfl (xv 10 [] [] rfl (EV.mv rfl) rfl rfl rfl rfl (xv 11 [] [] rfl (EV.mv rfl) rfl rfl rfl rfl ?_))))))))))
     refine one2 8 12 rfl rfl rfl rfl ?_ ?_
     ·
      refine ov (EV.ix 0 rfl rfl rfl g41 g42 rfl) rfl (xs [] [] rfl rfl rfl ?_)
      refine one2 9 12 rfl rfl rfl rfl ?_ ?_
      ·
       refine ov (EV.le (v := .agg #[.int .i64 ((rd_T72 x24_ml0 (wrap64 (x24_17 - 1))).f0), .int .i64 ((rd_T72 x24_ml0 (wrap64 (x24_17 - 1))).f1), .int .i64 ((rd_T72 x24_ml0 (wrap64 (x24_17 - 1))).f2)]) (wrap64 (x24_17 - 1)) 0 (some 3) 0 z72 rfl rfl rfl g41 g42 rfl rfl rfl) rfl (xs [] [] rfl rfl rfl (one1 12 rfl rfl (ov (EV.ix 0 rfl rfl rfl g43 g44 rfl) rfl (xs [] [] rfl rfl rfl (one1 13 rfl rfl (ov (EV.le (v := .agg #[.int .i64 ((rd_T72 x24_ml0 x24_17).f0), .int .i64 ((rd_T72 x24_ml0 x24_17).f1), .int .i64 ((rd_T72 x24_ml0 x24_17).f2)]) x24_17 0 (some 3) 0 z72 rfl rfl rfl g43 g44 rfl rfl rfl) rfl (xs [] [] rfl rfl rfl (one1 14 rfl rfl (ov (EV.ix 0 rfl rfl rfl g43 g44 rfl) rfl (xs [] [] rfl rfl rfl (one1 15 rfl rfl ?_)))))))))))
       revert H; refine bdI ?_; intro s45 A45 H; have q45 := stl (Option.some.inj A45)
       refine op_stg x24_17 0 0 z72 (⟨(rd_T72 x24_ml0 (wrap64 (x24_17 - 1))).f0, (rd_T72 x24_ml0 (wrap64 (x24_17 - 1))).f1, (rd_T72 x24_ml0 (wrap64 (x24_17 - 1))).f2⟩ : S72) (Option.some.inj A45) rfl rfl rfl rfl g43 g44 rfl rfl rfl rfl dq rfl (rlT 0 (v' := .slice Al0 s45.length cl0) rfl (slq _ _ q45) (rlT 113 (v' := .slice Al0 s45.length cl0) rfl (slq _ _ q45) (rlT 115 (v' := .slice Al0 s45.length cl0) rfl (slq _ _ q45) (rlT 118 (v' := .slice Al0 s45.length cl0) rfl (slq _ _ q45) (rlT 123 (v' := .slice Al0 s45.length cl0) rfl (slq _ _ q45) (nmE (en := [.sl 1 k72 Al0 cl0 s45 1 true]) (by kernel_rfl) (xs [] [] rfl rfl rfl (one1 16 rfl rfl ?_))))))))
       revert H; refine ggI ?_; intro g46 H
       refine ov (EV.ix 0 rfl rfl rfl g41 g46 rfl) rfl (xn rfl (one1 17 rfl rfl ?_))
       revert H; refine bdI ?_; intro s47 A47 H; have q47 := stl (Option.some.inj A47)
       exact op_stg (wrap64 (x24_17 - 1)) 0 0 z72 (⟨(rd_T72 x24_ml0 x24_17).f0, (rd_T72 x24_ml0 x24_17).f1, (rd_T72 x24_ml0 x24_17).f2⟩ : S72) (Option.some.inj A47) rfl rfl rfl rfl g41 g46 rfl rfl rfl rfl dq rfl (rlT 0 (v' := .slice Al0 s47.length cl0) rfl (slq _ _ q47) (rlT 113 (v' := .slice Al0 s47.length cl0) rfl (slq _ _ q47) (rlT 115 (v' := .slice Al0 s47.length cl0) rfl (slq _ _ q47) (rlT 118 (v' := .slice Al0 s47.length cl0) rfl (slq _ _ q47) (rlT 123 (v' := .slice Al0 s47.length cl0) rfl (slq _ _ q47) (nmE (en := [.sl 1 k72 Al0 cl0 s47 1 true]) (by kernel_rfl) (xn rfl (xd (pr [0, 14, 17] [] [0] rfl rfl rfl rfl (ge (rg (sv (EV.mv rfl) rfl (sv (EV.sub rfl rfl) rfl (sv (EV.as rfl) rfl (re (wk [0, 14, 17] [] [⟨0, 1, 1, false⟩] (ih3 _ (by omega) _ ⟨s47, x24_14, wrap64 (x24_17 - 1), by omega, H, (by first | rfl | assumption | omega | (simp only [List.length_set]; first | done | assumption | omega)), rfl⟩)))))))))))))))))
      ·
       refine ov (EV.ix 0 rfl rfl rfl g43 g44 rfl) rfl (xs [] [] rfl rfl rfl ?_)
       refine one2 9 13 rfl rfl rfl rfl ?_ ?_
       ·
        refine ov (EV.le (v := .agg #[.int .i64 ((rd_T72 x24_ml0 (wrap64 (x24_17 - 1))).f0), .int .i64 ((rd_T72 x24_ml0 (wrap64 (x24_17 - 1))).f1), .int .i64 ((rd_T72 x24_ml0 (wrap64 (x24_17 - 1))).f2)]) (wrap64 (x24_17 - 1)) 0 (some 3) 0 z72 rfl rfl rfl g41 g42 rfl rfl rfl) rfl (xs [] [] rfl rfl rfl (one1 13 rfl rfl (ov (EV.le (v := .agg #[.int .i64 ((rd_T72 x24_ml0 x24_17).f0), .int .i64 ((rd_T72 x24_ml0 x24_17).f1), .int .i64 ((rd_T72 x24_ml0 x24_17).f2)]) x24_17 0 (some 3) 0 z72 rfl rfl rfl g43 g44 rfl rfl rfl) rfl (xs [] [] rfl rfl rfl (one1 14 rfl rfl (ov (EV.ix 0 rfl rfl rfl g43 g44 rfl) rfl (xs [] [] rfl rfl rfl (one1 15 rfl rfl ?_))))))))
        revert H; refine bdI ?_; intro s48 A48 H; have q48 := stl (Option.some.inj A48)
        refine op_stg x24_17 0 0 z72 (⟨(rd_T72 x24_ml0 (wrap64 (x24_17 - 1))).f0, (rd_T72 x24_ml0 (wrap64 (x24_17 - 1))).f1, (rd_T72 x24_ml0 (wrap64 (x24_17 - 1))).f2⟩ : S72) (Option.some.inj A48) rfl rfl rfl rfl g43 g44 rfl rfl rfl rfl dq rfl (rlT 0 (v' := .slice Al0 s48.length cl0) rfl (slq _ _ q48) (rlT 113 (v' := .slice Al0 s48.length cl0) rfl (slq _ _ q48) (rlT 115 (v' := .slice Al0 s48.length cl0) rfl (slq _ _ q48) (rlT 118 (v' := .slice Al0 s48.length cl0) rfl (slq _ _ q48) (rlT 123 (v' := .slice Al0 s48.length cl0) rfl (slq _ _ q48) (nmE (en := [.sl 1 k72 Al0 cl0 s48 1 true]) (by kernel_rfl) (xs [] [] rfl rfl rfl (one1 16 rfl rfl ?_))))))))
        revert H; refine ggI ?_; intro g49 H
        refine ov (EV.ix 0 rfl rfl rfl g41 g49 rfl) rfl (xn rfl (one1 17 rfl rfl ?_))
        revert H; refine bdI ?_; intro s50 A50 H; have q50 := stl (Option.some.inj A50)
        exact op_stg (wrap64 (x24_17 - 1)) 0 0 z72 (⟨(rd_T72 x24_ml0 x24_17).f0, (rd_T72 x24_ml0 x24_17).f1, (rd_T72 x24_ml0 x24_17).f2⟩ : S72) (Option.some.inj A50) rfl rfl rfl rfl g41 g49 rfl rfl rfl rfl dq rfl (rlT 0 (v' := .slice Al0 s50.length cl0) rfl (slq _ _ q50) (rlT 113 (v' := .slice Al0 s50.length cl0) rfl (slq _ _ q50) (rlT 115 (v' := .slice Al0 s50.length cl0) rfl (slq _ _ q50) (rlT 118 (v' := .slice Al0 s50.length cl0) rfl (slq _ _ q50) (rlT 123 (v' := .slice Al0 s50.length cl0) rfl (slq _ _ q50) (nmE (en := [.sl 1 k72 Al0 cl0 s50 1 true]) (by kernel_rfl) (xn rfl (xd (pr [0, 14, 17] [] [0] rfl rfl rfl rfl (ge (rg (sv (EV.mv rfl) rfl (sv (EV.sub rfl rfl) rfl (sv (EV.as rfl) rfl (re (wk [0, 14, 17] [] [⟨0, 1, 1, false⟩] (ih3 _ (by omega) _ ⟨s50, x24_14, wrap64 (x24_17 - 1), by omega, H, (by first | rfl | assumption | omega | (simp only [List.length_set]; first | done | assumption | omega)), rfl⟩)))))))))))))))))
       ·
        refine ov (EV.le (v := .agg #[.int .i64 ((rd_T72 x24_ml0 x24_17).f0), .int .i64 ((rd_T72 x24_ml0 x24_17).f1), .int .i64 ((rd_T72 x24_ml0 x24_17).f2)]) x24_17 0 (some 3) 0 z72 rfl rfl rfl g43 g44 rfl rfl rfl) rfl (xs [] [] rfl rfl rfl (one1 9 rfl rfl (ov (EV.le (v := .agg #[.int .i64 ((rd_T72 x24_ml0 (wrap64 (x24_17 - 1))).f0), .int .i64 ((rd_T72 x24_ml0 (wrap64 (x24_17 - 1))).f1), .int .i64 ((rd_T72 x24_ml0 (wrap64 (x24_17 - 1))).f2)]) (wrap64 (x24_17 - 1)) 0 (some 3) 0 z72 rfl rfl rfl g41 g42 rfl rfl rfl) rfl (xs [] [] rfl rfl rfl (one1 14 rfl rfl (ov (EV.ix 0 rfl rfl rfl g43 g44 rfl) rfl (xs [] [] rfl rfl rfl (one1 15 rfl rfl ?_))))))))
        revert H; refine bdI ?_; intro s51 A51 H; have q51 := stl (Option.some.inj A51)
        refine op_stg x24_17 0 0 z72 (⟨(rd_T72 x24_ml0 (wrap64 (x24_17 - 1))).f0, (rd_T72 x24_ml0 (wrap64 (x24_17 - 1))).f1, (rd_T72 x24_ml0 (wrap64 (x24_17 - 1))).f2⟩ : S72) (Option.some.inj A51) rfl rfl rfl rfl g43 g44 rfl rfl rfl rfl dq rfl (rlT 0 (v' := .slice Al0 s51.length cl0) rfl (slq _ _ q51) (rlT 113 (v' := .slice Al0 s51.length cl0) rfl (slq _ _ q51) (rlT 115 (v' := .slice Al0 s51.length cl0) rfl (slq _ _ q51) (rlT 118 (v' := .slice Al0 s51.length cl0) rfl (slq _ _ q51) (rlT 123 (v' := .slice Al0 s51.length cl0) rfl (slq _ _ q51) (nmE (en := [.sl 1 k72 Al0 cl0 s51 1 true]) (by kernel_rfl) (xs [] [] rfl rfl rfl (one1 16 rfl rfl ?_))))))))
        revert H; refine ggI ?_; intro g52 H
        refine ov (EV.ix 0 rfl rfl rfl g41 g52 rfl) rfl (xn rfl (one1 17 rfl rfl ?_))
        revert H; refine bdI ?_; intro s53 A53 H; have q53 := stl (Option.some.inj A53)
        exact op_stg (wrap64 (x24_17 - 1)) 0 0 z72 (⟨(rd_T72 x24_ml0 x24_17).f0, (rd_T72 x24_ml0 x24_17).f1, (rd_T72 x24_ml0 x24_17).f2⟩ : S72) (Option.some.inj A53) rfl rfl rfl rfl g41 g52 rfl rfl rfl rfl dq rfl (rlT 0 (v' := .slice Al0 s53.length cl0) rfl (slq _ _ q53) (rlT 113 (v' := .slice Al0 s53.length cl0) rfl (slq _ _ q53) (rlT 115 (v' := .slice Al0 s53.length cl0) rfl (slq _ _ q53) (rlT 118 (v' := .slice Al0 s53.length cl0) rfl (slq _ _ q53) (rlT 123 (v' := .slice Al0 s53.length cl0) rfl (slq _ _ q53) (nmE (en := [.sl 1 k72 Al0 cl0 s53 1 true]) (by kernel_rfl) (xn rfl (xd (pr [0, 14, 17] [] [0] rfl rfl rfl rfl (ge (rg (sv (EV.mv rfl) rfl (sv (EV.sub rfl rfl) rfl (sv (EV.as rfl) rfl (re (wk [0, 14, 17] [] [⟨0, 1, 1, false⟩] (ih3 _ (by omega) _ ⟨s53, x24_14, wrap64 (x24_17 - 1), by omega, H, (by first | rfl | assumption | omega | (simp only [List.length_set]; first | done | assumption | omega)), rfl⟩)))))))))))))))))
     ·
      refine ov (EV.ix 0 rfl rfl rfl g43 g44 rfl) rfl (xs [] [] rfl rfl rfl ?_)
      refine one2 8 13 rfl rfl rfl rfl ?_ ?_
      ·
       refine ov (EV.ix 0 rfl rfl rfl g41 g42 rfl) rfl (xs [] [] rfl rfl rfl ?_)
       refine one2 9 13 rfl rfl rfl rfl ?_ ?_
       ·
        refine ov (EV.le (v := .agg #[.int .i64 ((rd_T72 x24_ml0 (wrap64 (x24_17 - 1))).f0), .int .i64 ((rd_T72 x24_ml0 (wrap64 (x24_17 - 1))).f1), .int .i64 ((rd_T72 x24_ml0 (wrap64 (x24_17 - 1))).f2)]) (wrap64 (x24_17 - 1)) 0 (some 3) 0 z72 rfl rfl rfl g41 g42 rfl rfl rfl) rfl (xs [] [] rfl rfl rfl (one1 13 rfl rfl (ov (EV.le (v := .agg #[.int .i64 ((rd_T72 x24_ml0 x24_17).f0), .int .i64 ((rd_T72 x24_ml0 x24_17).f1), .int .i64 ((rd_T72 x24_ml0 x24_17).f2)]) x24_17 0 (some 3) 0 z72 rfl rfl rfl g43 g44 rfl rfl rfl) rfl (xs [] [] rfl rfl rfl (one1 14 rfl rfl (ov (EV.ix 0 rfl rfl rfl g43 g44 rfl) rfl (xs [] [] rfl rfl rfl (one1 15 rfl rfl ?_))))))))
        revert H; refine bdI ?_; intro s54 A54 H; have q54 := stl (Option.some.inj A54)
        refine op_stg x24_17 0 0 z72 (⟨(rd_T72 x24_ml0 (wrap64 (x24_17 - 1))).f0, (rd_T72 x24_ml0 (wrap64 (x24_17 - 1))).f1, (rd_T72 x24_ml0 (wrap64 (x24_17 - 1))).f2⟩ : S72) (Option.some.inj A54) rfl rfl rfl rfl g43 g44 rfl rfl rfl rfl dq rfl (rlT 0 (v' := .slice Al0 s54.length cl0) rfl (slq _ _ q54) (rlT 113 (v' := .slice Al0 s54.length cl0) rfl (slq _ _ q54) (rlT 115 (v' := .slice Al0 s54.length cl0) rfl (slq _ _ q54) (rlT 118 (v' := .slice Al0 s54.length cl0) rfl (slq _ _ q54) (rlT 123 (v' := .slice Al0 s54.length cl0) rfl (slq _ _ q54) (nmE (en := [.sl 1 k72 Al0 cl0 s54 1 true]) (by kernel_rfl) (xs [] [] rfl rfl rfl (one1 16 rfl rfl ?_))))))))
        revert H; refine ggI ?_; intro g55 H
        refine ov (EV.ix 0 rfl rfl rfl g41 g55 rfl) rfl (xn rfl (one1 17 rfl rfl ?_))
        revert H; refine bdI ?_; intro s56 A56 H; have q56 := stl (Option.some.inj A56)
        exact op_stg (wrap64 (x24_17 - 1)) 0 0 z72 (⟨(rd_T72 x24_ml0 x24_17).f0, (rd_T72 x24_ml0 x24_17).f1, (rd_T72 x24_ml0 x24_17).f2⟩ : S72) (Option.some.inj A56) rfl rfl rfl rfl g41 g55 rfl rfl rfl rfl dq rfl (rlT 0 (v' := .slice Al0 s56.length cl0) rfl (slq _ _ q56) (rlT 113 (v' := .slice Al0 s56.length cl0) rfl (slq _ _ q56) (rlT 115 (v' := .slice Al0 s56.length cl0) rfl (slq _ _ q56) (rlT 118 (v' := .slice Al0 s56.length cl0) rfl (slq _ _ q56) (rlT 123 (v' := .slice Al0 s56.length cl0) rfl (slq _ _ q56) (nmE (en := [.sl 1 k72 Al0 cl0 s56 1 true]) (by kernel_rfl) (xn rfl (xd (pr [0, 14, 17] [] [0] rfl rfl rfl rfl (ge (rg (sv (EV.mv rfl) rfl (sv (EV.sub rfl rfl) rfl (sv (EV.as rfl) rfl (re (wk [0, 14, 17] [] [⟨0, 1, 1, false⟩] (ih3 _ (by omega) _ ⟨s56, x24_14, wrap64 (x24_17 - 1), by omega, H, (by first | rfl | assumption | omega | (simp only [List.length_set]; first | done | assumption | omega)), rfl⟩)))))))))))))))))
       ·
        refine ov (EV.le (v := .agg #[.int .i64 ((rd_T72 x24_ml0 x24_17).f0), .int .i64 ((rd_T72 x24_ml0 x24_17).f1), .int .i64 ((rd_T72 x24_ml0 x24_17).f2)]) x24_17 0 (some 3) 0 z72 rfl rfl rfl g43 g44 rfl rfl rfl) rfl (xs [] [] rfl rfl rfl (one1 9 rfl rfl (ov (EV.le (v := .agg #[.int .i64 ((rd_T72 x24_ml0 (wrap64 (x24_17 - 1))).f0), .int .i64 ((rd_T72 x24_ml0 (wrap64 (x24_17 - 1))).f1), .int .i64 ((rd_T72 x24_ml0 (wrap64 (x24_17 - 1))).f2)]) (wrap64 (x24_17 - 1)) 0 (some 3) 0 z72 rfl rfl rfl g41 g42 rfl rfl rfl) rfl (xs [] [] rfl rfl rfl (one1 14 rfl rfl (ov (EV.ix 0 rfl rfl rfl g43 g44 rfl) rfl (xs [] [] rfl rfl rfl (one1 15 rfl rfl ?_))))))))
        revert H; refine bdI ?_; intro s57 A57 H; have q57 := stl (Option.some.inj A57)
        refine op_stg x24_17 0 0 z72 (⟨(rd_T72 x24_ml0 (wrap64 (x24_17 - 1))).f0, (rd_T72 x24_ml0 (wrap64 (x24_17 - 1))).f1, (rd_T72 x24_ml0 (wrap64 (x24_17 - 1))).f2⟩ : S72) (Option.some.inj A57) rfl rfl rfl rfl g43 g44 rfl rfl rfl rfl dq rfl (rlT 0 (v' := .slice Al0 s57.length cl0) rfl (slq _ _ q57) (rlT 113 (v' := .slice Al0 s57.length cl0) rfl (slq _ _ q57) (rlT 115 (v' := .slice Al0 s57.length cl0) rfl (slq _ _ q57) (rlT 118 (v' := .slice Al0 s57.length cl0) rfl (slq _ _ q57) (rlT 123 (v' := .slice Al0 s57.length cl0) rfl (slq _ _ q57) (nmE (en := [.sl 1 k72 Al0 cl0 s57 1 true]) (by kernel_rfl) (xs [] [] rfl rfl rfl (one1 16 rfl rfl ?_))))))))
        revert H; refine ggI ?_; intro g58 H
        refine ov (EV.ix 0 rfl rfl rfl g41 g58 rfl) rfl (xn rfl (one1 17 rfl rfl ?_))
        revert H; refine bdI ?_; intro s59 A59 H; have q59 := stl (Option.some.inj A59)
        exact op_stg (wrap64 (x24_17 - 1)) 0 0 z72 (⟨(rd_T72 x24_ml0 x24_17).f0, (rd_T72 x24_ml0 x24_17).f1, (rd_T72 x24_ml0 x24_17).f2⟩ : S72) (Option.some.inj A59) rfl rfl rfl rfl g41 g58 rfl rfl rfl rfl dq rfl (rlT 0 (v' := .slice Al0 s59.length cl0) rfl (slq _ _ q59) (rlT 113 (v' := .slice Al0 s59.length cl0) rfl (slq _ _ q59) (rlT 115 (v' := .slice Al0 s59.length cl0) rfl (slq _ _ q59) (rlT 118 (v' := .slice Al0 s59.length cl0) rfl (slq _ _ q59) (rlT 123 (v' := .slice Al0 s59.length cl0) rfl (slq _ _ q59) (nmE (en := [.sl 1 k72 Al0 cl0 s59 1 true]) (by kernel_rfl) (xn rfl (xd (pr [0, 14, 17] [] [0] rfl rfl rfl rfl (ge (rg (sv (EV.mv rfl) rfl (sv (EV.sub rfl rfl) rfl (sv (EV.as rfl) rfl (re (wk [0, 14, 17] [] [⟨0, 1, 1, false⟩] (ih3 _ (by omega) _ ⟨s59, x24_14, wrap64 (x24_17 - 1), by omega, H, (by first | rfl | assumption | omega | (simp only [List.length_set]; first | done | assumption | omega)), rfl⟩)))))))))))))))))
      ·
       refine ov (EV.le (v := .agg #[.int .i64 ((rd_T72 x24_ml0 x24_17).f0), .int .i64 ((rd_T72 x24_ml0 x24_17).f1), .int .i64 ((rd_T72 x24_ml0 x24_17).f2)]) x24_17 0 (some 3) 0 z72 rfl rfl rfl g43 g44 rfl rfl rfl) rfl (xs [] [] rfl rfl rfl (one1 8 rfl rfl (ov (EV.ix 0 rfl rfl rfl g41 g42 rfl) rfl (xs [] [] rfl rfl rfl (one1 9 rfl rfl (ov (EV.le (v := .agg #[.int .i64 ((rd_T72 x24_ml0 (wrap64 (x24_17 - 1))).f0), .int .i64 ((rd_T72 x24_ml0 (wrap64 (x24_17 - 1))).f1), .int .i64 ((rd_T72 x24_ml0 (wrap64 (x24_17 - 1))).f2)]) (wrap64 (x24_17 - 1)) 0 (some 3) 0 z72 rfl rfl rfl g41 g42 rfl rfl rfl) rfl (xs [] [] rfl rfl rfl (one1 14 rfl rfl (ov (EV.ix 0 rfl rfl rfl g43 g44 rfl) rfl (xs [] [] rfl rfl rfl (one1 15 rfl rfl ?_)))))))))))
       revert H; refine bdI ?_; intro s60 A60 H; have q60 := stl (Option.some.inj A60)
       refine op_stg x24_17 0 0 z72 (⟨(rd_T72 x24_ml0 (wrap64 (x24_17 - 1))).f0, (rd_T72 x24_ml0 (wrap64 (x24_17 - 1))).f1, (rd_T72 x24_ml0 (wrap64 (x24_17 - 1))).f2⟩ : S72) (Option.some.inj A60) rfl rfl rfl rfl g43 g44 rfl rfl rfl rfl dq rfl (rlT 0 (v' := .slice Al0 s60.length cl0) rfl (slq _ _ q60) (rlT 113 (v' := .slice Al0 s60.length cl0) rfl (slq _ _ q60) (rlT 115 (v' := .slice Al0 s60.length cl0) rfl (slq _ _ q60) (rlT 118 (v' := .slice Al0 s60.length cl0) rfl (slq _ _ q60) (rlT 123 (v' := .slice Al0 s60.length cl0) rfl (slq _ _ q60) (nmE (en := [.sl 1 k72 Al0 cl0 s60 1 true]) (by kernel_rfl) (xs [] [] rfl rfl rfl (one1 16 rfl rfl ?_))))))))
       revert H; refine ggI ?_; intro g61 H
       refine ov (EV.ix 0 rfl rfl rfl g41 g61 rfl) rfl (xn rfl (one1 17 rfl rfl ?_))
       revert H; refine bdI ?_; intro s62 A62 H; have q62 := stl (Option.some.inj A62)
       exact op_stg (wrap64 (x24_17 - 1)) 0 0 z72 (⟨(rd_T72 x24_ml0 x24_17).f0, (rd_T72 x24_ml0 x24_17).f1, (rd_T72 x24_ml0 x24_17).f2⟩ : S72) (Option.some.inj A62) rfl rfl rfl rfl g41 g61 rfl rfl rfl rfl dq rfl (rlT 0 (v' := .slice Al0 s62.length cl0) rfl (slq _ _ q62) (rlT 113 (v' := .slice Al0 s62.length cl0) rfl (slq _ _ q62) (rlT 115 (v' := .slice Al0 s62.length cl0) rfl (slq _ _ q62) (rlT 118 (v' := .slice Al0 s62.length cl0) rfl (slq _ _ q62) (rlT 123 (v' := .slice Al0 s62.length cl0) rfl (slq _ _ q62) (nmE (en := [.sl 1 k72 Al0 cl0 s62 1 true]) (by kernel_rfl) (xn rfl (xd (pr [0, 14, 17] [] [0] rfl rfl rfl rfl (ge (rg (sv (EV.mv rfl) rfl (sv (EV.sub rfl rfl) rfl (sv (EV.as rfl) rfl (re (wk [0, 14, 17] [] [⟨0, 1, 1, false⟩] (ih3 _ (by omega) _ ⟨s62, x24_14, wrap64 (x24_17 - 1), by omega, H, (by first | rfl | assumption | omega | (simp only [List.length_set]; first | done | assumption | omega)), rfl⟩)))))))))))))))))
    ·
     refine gf rfl (dF c40) (gx rfl ?_)
     cases H
     exact rt Try.func91 rfl .nil rfl [] [⟨0, 1, 1, false⟩] rfl rfl rfl rfl rfl ⟨rfl, rfl, rfl, by first | rfl | assumption | omega | (simp only [List.length_set]; first | done | assumption | omega)⟩
  ·
   refine gf rfl (dF c32) (gk (gs (rg (sv (EV.mv rfl) rfl (sv (EV.mv rfl) rfl (sv (EV.add rfl rfl) rfl (sv (EV.cv (k' := .u64) rfl) rfl (sv (EV.shr64 rfl rfl dq) rfl (sv (EV.cv (k' := .i64) rfl) rfl (sv (EV.as rfl) rfl (re (pr [0, 1, 2, 3, 4, 18] [] [0] rfl rfl rfl rfl (gs (rg (sv (EV.mv rfl) rfl (sv (EV.mv rfl) rfl (sv (EV.add rfl rfl) rfl (sv (EV.as rfl) rfl (re (gs (rg (sv (EV.as rfl) rfl (sv (EV.as rfl) rfl (re ?_))))))))))))))))))))))))
   refine jo (fun S => ∃ (m : Nat) (x25_ml0 : List S72) (x25_1 : Int) (x25_2 : Int) (x25_3 : Int) (x25_18 : Int) (x25_19 : Int) (x25_20 : Int) (x25_21 : Int), m ≤ k ∧ slices_symMergeCmpFunc_impl_Row_at79.j0 m x25_ml0 x25_1 x25_2 x25_3 x25_18 x25_19 x25_20 x25_21 = some r0 ∧ x25_ml0.length = l0.length ∧ S = ⟨[(0, .slice Al0 x25_ml0.length cl0), (1, .int .i64 x25_1), (2, .int .i64 x25_2), (3, .int .i64 x25_3), (4, .func (.func 79) #[] #[]), (18, .int .i64 x25_18), (19, .int .i64 x25_19), (20, .int .i64 x25_20), (21, .int .i64 x25_21)], [], [.sl 1 k72 Al0 cl0 x25_ml0 1 false]⟩) (fun S hS => ?_) (fun jh0 => ?_)
   ·
    clear H
    obtain ⟨m63, x25_ml0, x25_1, x25_2, x25_3, x25_18, x25_19, x25_20, x25_21, lm63, H, ex25_ml0, rfl⟩ := hS
    rcases m63 with _ | m63
    · rw [slices_symMergeCmpFunc_impl_Row_at79.j0] at H; cases H
    rw [slices_symMergeCmpFunc_impl_Row_at79.j0] at H
    refine gs (rg (sv (EV.mv rfl) rfl (sv (EV.sub rfl rfl) rfl (sv (EV.as rfl) rfl (re (gs (gb ?_)))))))
    refine lo (fun kk S => ∃ (x27_ml0 : List S72) (x27_1 : Int) (x27_2 : Int) (x27_3 : Int) (x27_18 : Int) (x27_19 : Int) (x27_20 : Int) (x27_21 : Int) (x27_22 : Int), kk ≤ m63 ∧ slices_symMergeCmpFunc_impl_Row_at79.l4 kk x27_ml0 x27_1 x27_2 x27_3 x27_18 x27_19 x27_20 x27_21 x27_22 = some r0 ∧ x27_ml0.length = l0.length ∧ S = ⟨[(0, .slice Al0 x27_ml0.length cl0), (1, .int .i64 x27_1), (2, .int .i64 x27_2), (3, .int .i64 x27_3), (4, .func (.func 79) #[] #[]), (18, .int .i64 x27_18), (19, .int .i64 x27_19), (20, .int .i64 x27_20), (21, .int .i64 x27_21), (22, .int .i64 x27_22)], [], [.sl 1 k72 Al0 cl0 x27_ml0 1 false]⟩) (fun S hS => ?_) (fun n4 ih4 S hS => ?_) ⟨x25_ml0, x25_1, x25_2, x25_3, x25_18, x25_19, x25_20, x25_21, wrap64 (x25_19 - 1), by omega, H, (by first | rfl | assumption | omega | (simp only [List.length_set]; first | done | assumption | omega)), rfl⟩ (fun h => wk [0, 1, 2, 3, 4, 18, 19, 20, 21, 22] [] [⟨0, 1, 1, false⟩] h)
    · clear H; obtain ⟨_, _, _, _, _, _, _, _, _, _, H, _⟩ := hS; rw [slices_symMergeCmpFunc_impl_Row_at79.l4] at H; cases H
    clear H
    obtain ⟨x27_ml0, x27_1, x27_2, x27_3, x27_18, x27_19, x27_20, x27_21, x27_22, lk4, H, ex27_ml0, rfl⟩ := hS
    rw [slices_symMergeCmpFunc_impl_Row_at79.l4] at H
    refine gs (gs (rg (sv (EV.mv rfl) rfl (sv (EV.mv rfl) rfl (sv (EV.lss rfl rfl) rfl (re ?_))))))
    revert H; refine ifsI ?_ ?_ <;> intro c64 H
    ·
     refine gt rfl (dT c64) (gk (gb (gs (rg (sv (EV.mv rfl) rfl (sv (EV.mv rfl) rfl (sv (EV.add rfl rfl) rfl (sv (EV.cv (k' := .u64) rfl) rfl (sv (EV.shr64 rfl rfl dq) rfl (sv (EV.cv (k' := .i64) rfl) rfl (sv (EV.as rfl) rfl (re (pr [0, 1, 2, 3, 4, 18, 19, 20, 21, 22, 23] [] [0] rfl rfl rfl rfl (gs ?_))))))))))))))
     revert H; refine ggI ?_; intro g65 H
     revert H; refine ggI ?_; intro g66 H
     revert H; refine ggI ?_; intro g67 H
     revert H; refine ggI ?_; intro g68 H
     refine dr [] [0] [] 14 rfl rfl rfl rfl (xv 0 [] [0] rfl (EV.mv rfl) rfl rfl rfl rfl (xv 1 [] [0] rfl (EV.mv rfl) rfl rfl rfl rfl (xv 2 [] [0] rfl (EV.mv rfl) rfl rfl rfl rfl (xv 3 [] [0] rfl (EV.mv rfl) rfl rfl rfl rfl (xv 4 [] [0] rfl (EV.sub rfl rfl) rfl rfl rfl rfl (xv 5 [] [0] rfl (EV.ix 0 rfl rfl rfl g65 g66 rfl) rfl rfl rfl rfl (xv 6 [] [0] rfl (EV.le (v := .agg #[.int .i64 ((rd_T72 x27_ml0 (wrap64 (x27_22 - (IntKind.i64.wrap (shrI (IntKind.u64.wrap (wrap64 (x27_20 + x27_21))) 1))))).f0), .int .i64 ((rd_T72 x27_ml0 (wrap64 (x27_22 - (IntKind.i64.wrap (shrI (IntKind.u64.wrap (wrap64 (x27_20 + x27_21))) 1))))).f1), .int .i64 ((rd_T72 x27_ml0 (wrap64 (x27_22 - (IntKind.i64.wrap (shrI (IntKind.u64.wrap (wrap64 (x27_20 + x27_21))) 1))))).f2)]) (wrap64 (x27_22 - (IntKind.i64.wrap (shrI (IntKind.u64.wrap (wrap64 (x27_20 + x27_21))) 1)))) 0 (some 3) 0 z72 rfl rfl rfl g65 g66 rfl rfl rfl) rfl rfl rfl rfl (xv 7 [] [0] rfl (EV.mv rfl) rfl rfl rfl rfl (xv 8 [] [0] rfl (EV.mv rfl) rfl rfl rfl rfl (xv 9 [] [0] rfl (EV.ix 0 rfl rfl rfl g67 g68 rfl) rfl rfl rfl rfl (xv 10 [] [0] rfl (EV.le (v := .agg #[.int .i64 ((rd_T72 x27_ml0 (IntKind.i64.wrap (shrI (IntKind.u64.wrap (wrap64 (x27_20 + x27_21))) 1))).f0), .int .i64 ((rd_T72 x27_ml0 (IntKind.i64.wrap (shrI (IntKind.u64.wrap (wrap64 (x27_20 + x27_21))) 1))).f1), .int .i64 ((rd_T72 x27_ml0 (IntKind.i64.wrap (shrI (IntKind.u64.wrap (wrap64 (x27_20 + x27_21))) 1))).f2)]) (IntKind.i64.wrap (shrI (IntKind.u64.wrap (wrap64 (x27_20 + x27_21))) 1)) 0 (some 3) 0 z72 rfl rfl rfl g67 g68 rfl rfl rfl) rfl rfl rfl rfl (one1 11 rfl rfl ?_))))))))))))
     revert H; refine bdI ?_; rintro t69 A69 H
     refine cvf (f := 79) rfl (op_call (impl_CompareRows.ok ((rd_T72 x27_ml0 (wrap64 (x27_22 - (IntKind.i64.wrap (shrI (IntKind.u64.wrap (wrap64 (x27_20 + x27_21))) 1))))).f0) ((rd_T72 x27_ml0 (wrap64 (x27_22 - (IntKind.i64.wrap (shrI (IntKind.u64.wrap (wrap64 (x27_20 + x27_21))) 1))))).f1) ((rd_T72 x27_ml0 (wrap64 (x27_22 - (IntKind.i64.wrap (shrI (IntKind.u64.wrap (wrap64 (x27_20 + x27_21))) 1))))).f2) ((rd_T72 x27_ml0 (IntKind.i64.wrap (shrI (IntKind.u64.wrap (wrap64 (x27_20 + x27_21))) 1))).f0) ((rd_T72 x27_ml0 (IntKind.i64.wrap (shrI (IntKind.u64.wrap (wrap64 (x27_20 + x27_21))) 1))).f1) ((rd_T72 x27_ml0 (IntKind.i64.wrap (shrI (IntKind.u64.wrap (wrap64 (x27_20 + x27_21))) 1))).f2) _ A69) [] 2 rfl rfl rfl rfl rfl ?_)
     rintro _ _ _ ⟨rfl, rfl, rfl⟩
     refine xs [] [0] rfl rfl rfl (xv 12 [] [0] rfl (EV.lss rfl rfl) rfl rfl rfl rfl (xv 13 [] [0] rfl (EV.nt rfl) rfl rfl rfl rfl (xd (pr [0, 1, 2, 3, 4, 18, 19, 20, 21, 22, 23, 171] [] [0] rfl rfl rfl rfl ?_))))
     revert H; refine ifsI ?_ ?_ <;> intro c70 H
     ·
      exact gf rfl (nF c70) (rg (sv (EV.mv rfl) rfl (sv (EV.as rfl) rfl (re (ge (wk [0, 1, 2, 3, 4, 18, 19, 20, 21, 22] [] [⟨0, 1, 1, false⟩] (ih4 _ (by omega) _ ⟨x27_ml0, x27_1, x27_2, x27_3, x27_18, x27_19, x27_20, IntKind.i64.wrap (shrI (IntKind.u64.wrap (wrap64 (x27_20 + x27_21))) 1), x27_22, by omega, H, (by first | rfl | assumption | omega | (simp only [List.length_set]; first | done | assumption | omega)), rfl⟩)))))))
     ·
      exact gt rfl (nT c70) (rg (sv (EV.mv rfl) rfl (sv (EV.add rfl rfl) rfl (sv (EV.as rfl) rfl (re (ge (wk [0, 1, 2, 3, 4, 18, 19, 20, 21, 22] [] [⟨0, 1, 1, false⟩] (ih4 _ (by omega) _ ⟨x27_ml0, x27_1, x27_2, x27_3, x27_18, x27_19, wrap64 ((IntKind.i64.wrap (shrI (IntKind.u64.wrap (wrap64 (x27_20 + x27_21))) 1)) + 1), x27_21, x27_22, by omega, H, (by first | rfl | assumption | omega | (simp only [List.length_set]; first | done | assumption | omega)), rfl⟩))))))))
    ·
     refine gf rfl (dF c64) (gx rfl (gs (rg (sv (EV.mv rfl) rfl (sv (EV.mv rfl) rfl (sv (EV.sub rfl rfl) rfl (sv (EV.as rfl) rfl (re (pr [0, 1, 2, 3, 4, 18, 20, 24] [] [0] rfl rfl rfl rfl ?_)))))))))
     refine jo (fun S => ∃ (m : Nat) (x30_ml0 : List S72) (x30_1 : Int) (x30_3 : Int) (x30_18 : Int) (x30_20 : Int) (x30_24 : Int), m ≤ n4 ∧ slices_symMergeCmpFunc_impl_Row_at79.j1 m x30_ml0 x30_1 x30_3 x30_18 x30_20 x30_24 = some r0 ∧ x30_ml0.length = l0.length ∧ S = ⟨[(0, .slice Al0 x30_ml0.length cl0), (1, .int .i64 x30_1), (3, .int .i64 x30_3), (4, .func (.func 79) #[] #[]), (18, .int .i64 x30_18), (20, .int .i64 x30_20), (24, .int .i64 x30_24)], [], [.sl 1 k72 Al0 cl0 x30_ml0 1 false]⟩) (fun S hS => ?_) (fun jh1 => ?_)
     ·
      clear H
      obtain ⟨m71, x30_ml0, x30_1, x30_3, x30_18, x30_20, x30_24, lm71, H, ex30_ml0, rfl⟩ := hS
      rcases m71 with _ | m71
      · rw [slices_symMergeCmpFunc_impl_Row_at79.j1] at H; cases H
      rw [slices_symMergeCmpFunc_impl_Row_at79.j1] at H
      refine jo (fun S => ∃ (m : Nat) (x31_ml0 : List S72) (x31_3 : Int) (x31_18 : Int) (x31_24 : Int), m ≤ m71 ∧ slices_symMergeCmpFunc_impl_Row_at79.j2 m x31_ml0 x31_3 x31_18 x31_24 = some r0 ∧ x31_ml0.length = l0.length ∧ S = ⟨[(0, .slice Al0 x31_ml0.length cl0), (3, .int .i64 x31_3), (4, .func (.func 79) #[] #[]), (18, .int .i64 x31_18), (24, .int .i64 x31_24)], [], [.sl 1 k72 Al0 cl0 x31_ml0 1 false]⟩) (fun S hS => ?_) (fun jh2 => ?_)
      ·
       clear H
       obtain ⟨m72, x31_ml0, x31_3, x31_18, x31_24, lm72, H, ex31_ml0, rfl⟩ := hS
       rcases m72 with _ | m72
       · rw [slices_symMergeCmpFunc_impl_Row_at79.j2] at H; cases H
       rw [slices_symMergeCmpFunc_impl_Row_at79.j2] at H
       refine gs (rg (sv (EV.mv rfl) rfl (sv (EV.mv rfl) rfl (sv (EV.lss rfl rfl) rfl (sv (EV.mv rfl) rfl ?_)))))
       revert H; refine ifsI ?_ ?_ <;> intro c73 H
       ·
        refine ts 209 rfl (dT c73) (sv (EV.mv rfl) rfl (sv (EV.mv rfl) rfl (sv (EV.lss rfl rfl) rfl (sv (EV.pt rfl rfl rfl) rfl (re (pr [0, 3, 4, 18, 24, 213] [] [0] rfl rfl rfl rfl ?_))))))
        revert H; refine ifsI ?_ ?_ <;> intro c74 H
        ·
         refine gt rfl (dT c74) (rg (sv (EV.mv rfl) rfl (sv (EV.mv rfl) rfl (sv (EV.mv rfl) rfl (sv (EV.mv rfl) rfl (sv (EV.mv rfl) rfl ?_))))))
         revert H; refine bdI ?_; rintro t75 A75 H
         refine so rfl (op_callM ((ih m72 (by omega)) x31_ml0 Al0 cl0 x31_18 x31_24 x31_3 _ A75) [⟨0, 1, 1, false⟩] [] [] 2 rfl rfl rfl rfl rfl rfl rfl rfl ?_)
         rintro _ _ _ ⟨rfl, rfl, rfl, q75_0⟩
         refine rlT 0 (v' := .slice Al0 t75.length cl0) rfl (slq _ _ q75_0) (rlT 214 (v' := .slice Al0 t75.length cl0) rfl (slq _ _ q75_0) (nmE (en := [.sl 1 k72 Al0 cl0 t75 3 false]) (by kernel_rfl) (re (pr [] [] [0] rfl rfl rfl rfl ?_))))
         cases H
         exact rt0 Try.func91 rfl .nil rfl [] [⟨0, 1, 1, false⟩] rfl rfl rfl rfl rfl ⟨rfl, rfl, rfl, by first | rfl | assumption | omega | (simp only [List.length_set]; first | done | assumption | omega)⟩
        ·
         refine gf rfl (dF c74) (gk ?_)
         cases H
         exact rt0 Try.func91 rfl .nil rfl [] [⟨0, 1, 1, false⟩] rfl rfl rfl rfl rfl ⟨rfl, rfl, rfl, by first | rfl | assumption | omega | (simp only [List.length_set]; first | done | assumption | omega)⟩
       ·
        refine ts 209 rfl (dF c73) (sk rfl (sk rfl (sk rfl (sv (EV.pf rfl rfl rfl) rfl (re (pr [0, 3, 4, 18, 24, 213] [] [0] rfl rfl rfl rfl (gf rfl rfl (gk ?_))))))))
        cases H
        exact rt0 Try.func91 rfl .nil rfl [] [⟨0, 1, 1, false⟩] rfl rfl rfl rfl rfl ⟨rfl, rfl, rfl, by first | rfl | assumption | omega | (simp only [List.length_set]; first | done | assumption | omega)⟩
      ·
       refine gs (rg (sv (EV.mv rfl) rfl (sv (EV.mv rfl) rfl (sv (EV.lss rfl rfl) rfl (sv (EV.mv rfl) rfl ?_)))))
       revert H; refine ifsI ?_ ?_ <;> intro c76 H
       ·
        refine ts 195 rfl (dT c76) (sv (EV.mv rfl) rfl (sv (EV.mv rfl) rfl (sv (EV.lss rfl rfl) rfl (sv (EV.pt rfl rfl rfl) rfl (re (pr [0, 1, 3, 4, 18, 20, 24, 199] [] [0] rfl rfl rfl rfl ?_))))))
        revert H; refine ifsI ?_ ?_ <;> intro c77 H
        ·
         refine gt rfl (dT c77) (rg (sv (EV.mv rfl) rfl (sv (EV.mv rfl) rfl (sv (EV.mv rfl) rfl (sv (EV.mv rfl) rfl (sv (EV.mv rfl) rfl ?_))))))
         revert H; refine bdI ?_; rintro t78 A78 H
         refine so rfl (op_callM ((ih m71 (by omega)) x30_ml0 Al0 cl0 x30_1 x30_20 x30_18 _ A78) [⟨0, 1, 1, false⟩] [] [] 2 rfl rfl rfl rfl rfl rfl rfl rfl ?_)
         rintro _ _ _ ⟨rfl, rfl, rfl, q78_0⟩
         exact rlT 0 (v' := .slice Al0 t78.length cl0) rfl (slq _ _ q78_0) (rlT 200 (v' := .slice Al0 t78.length cl0) rfl (slq _ _ q78_0) (nmE (en := [.sl 1 k72 Al0 cl0 t78 3 false]) (by kernel_rfl) (re (pr [0, 3, 4, 18, 24] [] [0] rfl rfl rfl rfl (wk [0, 3, 4, 18, 24] [] [⟨0, 1, 1, false⟩] (jh2 _ ⟨_, t78, x30_3, x30_18, x30_24, by omega, H, (by first | rfl | assumption | omega | (simp only [List.length_set]; first | done | assumption | omega)), rfl⟩))))))
        ·
         exact gf rfl (dF c77) (gk (wk [0, 3, 4, 18, 24] [] [⟨0, 1, 1, false⟩] (jh2 _ ⟨_, x30_ml0, x30_3, x30_18, x30_24, by omega, H, (by first | rfl | assumption | omega | (simp only [List.length_set]; first | done | assumption | omega)), rfl⟩)))
       ·
        exact ts 195 rfl (dF c76) (sk rfl (sk rfl (sk rfl (sv (EV.pf rfl rfl rfl) rfl (re (pr [0, 1, 3, 4, 18, 20, 24, 199] [] [0] rfl rfl rfl rfl (gf rfl rfl (gk (wk [0, 3, 4, 18, 24] [] [⟨0, 1, 1, false⟩] (jh2 _ ⟨_, x30_ml0, x30_3, x30_18, x30_24, by omega, H, (by first | rfl | assumption | omega | (simp only [List.length_set]; first | done | assumption | omega)), rfl⟩))))))))))
     ·
      refine gs (rg (sv (EV.mv rfl) rfl (sv (EV.mv rfl) rfl (sv (EV.lss rfl rfl) rfl (sv (EV.mv rfl) rfl ?_)))))
      revert H; refine ifsI ?_ ?_ <;> intro c79 H
      ·
       refine ts 181 rfl (dT c79) (sv (EV.mv rfl) rfl (sv (EV.mv rfl) rfl (sv (EV.lss rfl rfl) rfl (sv (EV.pt rfl rfl rfl) rfl (re (pr [0, 1, 2, 3, 4, 18, 20, 24, 185] [] [0] rfl rfl rfl rfl ?_))))))
       revert H; refine ifsI ?_ ?_ <;> intro c80 H
       ·
        refine gt rfl (dT c80) (rg (sv (EV.mv rfl) rfl (sv (EV.mv rfl) rfl (sv (EV.mv rfl) rfl (sv (EV.mv rfl) rfl (sv (EV.mv rfl) rfl ?_))))))
        revert H; refine bdI ?_; rintro t81 A81 H
        refine so rfl (op_callM (slices_rotateCmpFunc_impl_Row_at79.ok n4 x27_ml0 Al0 cl0 x27_20 x27_2 (wrap64 (x27_19 - x27_20)) _ A81) [⟨0, 1, 1, false⟩] [] [] 2 rfl rfl rfl rfl rfl rfl rfl rfl ?_)
        rintro _ _ _ ⟨rfl, rfl, rfl, q81_0⟩
        exact rlT 0 (v' := .slice Al0 t81.length cl0) rfl (slq _ _ q81_0) (rlT 186 (v' := .slice Al0 t81.length cl0) rfl (slq _ _ q81_0) (nmE (en := [.sl 1 k72 Al0 cl0 t81 3 false]) (by kernel_rfl) (re (pr [0, 1, 3, 4, 18, 20, 24] [] [0] rfl rfl rfl rfl (wk [0, 1, 3, 4, 18, 20, 24] [] [⟨0, 1, 1, false⟩] (jh1 _ ⟨_, t81, x27_1, x27_3, x27_18, x27_20, wrap64 (x27_19 - x27_20), by omega, H, (by first | rfl | assumption | omega | (simp only [List.length_set]; first | done | assumption | omega)), rfl⟩))))))
       ·
        exact gf rfl (dF c80) (gk (wk [0, 1, 3, 4, 18, 20, 24] [] [⟨0, 1, 1, false⟩] (jh1 _ ⟨_, x27_ml0, x27_1, x27_3, x27_18, x27_20, wrap64 (x27_19 - x27_20), by omega, H, (by first | rfl | assumption | omega | (simp only [List.length_set]; first | done | assumption | omega)), rfl⟩)))
      ·
       exact ts 181 rfl (dF c79) (sk rfl (sk rfl (sk rfl (sv (EV.pf rfl rfl rfl) rfl (re (pr [0, 1, 2, 3, 4, 18, 20, 24, 185] [] [0] rfl rfl rfl rfl (gf rfl rfl (gk (wk [0, 1, 3, 4, 18, 20, 24] [] [⟨0, 1, 1, false⟩] (jh1 _ ⟨_, x27_ml0, x27_1, x27_3, x27_18, x27_20, wrap64 (x27_19 - x27_20), by omega, H, (by first | rfl | assumption | omega | (simp only [List.length_set]; first | done | assumption | omega)), rfl⟩))))))))))
   ·
    refine gs (rg (sv (EV.mv rfl) rfl (sv (EV.mv rfl) rfl (sv (EV.gtr rfl rfl) rfl (re (pr [0, 1, 2, 3, 4, 18, 19, 140] [] [0] rfl rfl rfl rfl ?_))))))
    revert H; refine ifsI ?_ ?_ <;> intro c82 H
    ·
     exact gt rfl (dT c82) (gs (rg (sv (EV.mv rfl) rfl (sv (EV.mv rfl) rfl (sv (EV.sub rfl rfl) rfl (sv (EV.as rfl) rfl (re (rg (sv (EV.mv rfl) rfl (sv (EV.as rfl) rfl (re (wk [0, 1, 2, 3, 4, 18, 19, 20, 21] [] [⟨0, 1, 1, false⟩] (jh0 _ ⟨_, l0, a1, a2, a3, IntKind.i64.wrap (shrI (IntKind.u64.wrap (wrap64 (a1 + a3))) 1), wrap64 ((IntKind.i64.wrap (shrI (IntKind.u64.wrap (wrap64 (a1 + a3))) 1)) + a2), wrap64 ((wrap64 ((IntKind.i64.wrap (shrI (IntKind.u64.wrap (wrap64 (a1 + a3))) 1)) + a2)) - a3), IntKind.i64.wrap (shrI (IntKind.u64.wrap (wrap64 (a1 + a3))) 1), by omega, H, (by first | rfl | assumption | omega | (simp only [List.length_set]; first | done | assumption | omega)), rfl⟩)))))))))))))
    ·
     exact gf rfl (dF c82) (gs (rg (sv (EV.mv rfl) rfl (sv (EV.as rfl) rfl (re (rg (sv (EV.mv rfl) rfl (sv (EV.as rfl) rfl (re (wk [0, 1, 2, 3, 4, 18, 19, 20, 21] [] [⟨0, 1, 1, false⟩] (jh0 _ ⟨_, l0, a1, a2, a3, IntKind.i64.wrap (shrI (IntKind.u64.wrap (wrap64 (a1 + a3))) 1), wrap64 ((IntKind.i64.wrap (shrI (IntKind.u64.wrap (wrap64 (a1 + a3))) 1)) + a2), a1, a2, by omega, H, (by first | rfl | assumption | omega | (simp only [List.length_set]; first | done | assumption | omega)), rfl⟩)))))))))))
theorem slices_symMergeCmpFunc_impl_Row_at79.ok (k : Nat) (l0 : List S72) (Al0 : Option Addr) (cl0 : Nat) (a1 : Int) (a2 : Int) (a3 : Int) (r0 : List S72) (h : slices_symMergeCmpFunc_impl_Row_at79.f k l0 a1 a2 a3 = some r0) : Fn Try.prog 91 [.slice Al0 l0.length cl0, .int .i64 a1, .int .i64 a2, .int .i64 a3, .func (.func 79) #[] #[]] [] [.sl 1 k72 Al0 cl0 l0 1 false] (fun v bx en => v = .tuple #[] ∧ bx = [] ∧ en = [.sl 1 k72 Al0 cl0 r0 1 false] ∧ r0.length = l0.length) := slices_symMergeCmpFunc_impl_Row_at79.ok_ k k (Nat.le_refl k) l0 Al0 cl0 a1 a2 a3 r0 h
mutual
def slices_stableCmpFunc_impl_Row_at79.l2 : Nat → (List S72) → Int → Int → Int → Int → Option ((List S72))
 | 0, _, _, _, _, _ => none
 | k + 1, x12_ml0, x12_1, x12_6, x12_7, x12_8 => if x12_8 ≤ x12_1 then ((slices_symMergeCmpFunc_impl_Row_at79.f k x12_ml0 x12_7 (wrap64 (x12_7 + x12_6)) x12_8).bind fun t6 => (slices_stableCmpFunc_impl_Row_at79.l2 k t6 x12_1 x12_6 x12_8 (wrap64 (x12_8 + (wrap64 (2 * x12_6)))))) else (if (wrap64 (x12_7 + x12_6)) < x12_1 then ((slices_symMergeCmpFunc_impl_Row_at79.f k x12_ml0 x12_7 (wrap64 (x12_7 + x12_6)) x12_1).bind fun t8 => (slices_stableCmpFunc_impl_Row_at79.l1 k t8 x12_1 (wrap64 (x12_6 * 2)))) else (slices_stableCmpFunc_impl_Row_at79.l1 k x12_ml0 x12_1 (wrap64 (x12_6 * 2))))
def slices_stableCmpFunc_impl_Row_at79.l1 : Nat → (List S72) → Int → Int → Option ((List S72))
 | 0, _, _, _ => none
 | k + 1, x8_ml0, x8_1, x8_6 => if x8_6 < x8_1 then (slices_stableCmpFunc_impl_Row_at79.l2 k x8_ml0 x8_1 x8_6 0 (wrap64 (2 * x8_6))) else (some x8_ml0)
def slices_stableCmpFunc_impl_Row_at79.l0 : Nat → (List S72) → Int → Int → Int → Int → Option ((List S72))
 | 0, _, _, _, _, _ => none
 | k + 1, x2_ml0, x2_1, x2_6, x2_7, x2_8 => if x2_8 ≤ x2_1 then ((slices_insertionSortCmpFunc_impl_Row_at79.f k x2_ml0 x2_7 x2_8).bind fun t2 => (slices_stableCmpFunc_impl_Row_at79.l0 k t2 x2_1 x2_6 x2_8 (wrap64 (x2_8 + x2_6)))) else ((slices_insertionSortCmpFunc_impl_Row_at79.f k x2_ml0 x2_7 x2_1).bind fun t3 => (slices_stableCmpFunc_impl_Row_at79.l1 k t3 x2_1 x2_6))
end
def slices_stableCmpFunc_impl_Row_at79.f (k : Nat) (l0 : List S72) (a1 : Int) : Option ((List S72)) := slices_stableCmpFunc_impl_Row_at79.l0 k l0 a1 20 0 20
set_option maxHeartbeats 4000000 in
set_option maxRecDepth 100000 in
theorem slices_stableCmpFunc_impl_Row_at79.ok (k : Nat) (l0 : List S72) (Al0 : Option Addr) (cl0 : Nat) (a1 : Int) (r0 : List S72) (H : slices_stableCmpFunc_impl_Row_at79.f k l0 a1 = some r0) : Fn Try.prog 89 [.slice Al0 l0.length cl0, .int .i64 a1, .func (.func 79) #[] #[]] [] [.sl 1 k72 Al0 cl0 l0 1 false] (fun v bx en => v = .tuple #[] ∧ bx = [] ∧ en = [.sl 1 k72 Al0 cl0 r0 1 false] ∧ r0.length = l0.length) := by
 refine fn_ 63 Try.func89 rfl rfl rfl (fun base T w0 => ?_)
 rw [slices_stableCmpFunc_impl_Row_at79.f] at H
 refine gs (rg (sv (EV.as rfl) rfl (re (gs (rg (sv (EV.mv rfl) rfl (sv (EV.as rfl) rfl (sv (EV.as rfl) rfl (re (gs (gb ?_)))))))))))
 refine lo (fun kk S => ∃ (x2_ml0 : List S72) (x2_1 : Int) (x2_6 : Int) (x2_7 : Int) (x2_8 : Int), slices_stableCmpFunc_impl_Row_at79.l0 kk x2_ml0 x2_1 x2_6 x2_7 x2_8 = some r0 ∧ x2_ml0.length = l0.length ∧ S = ⟨[(0, .slice Al0 x2_ml0.length cl0), (1, .int .i64 x2_1), (2, .func (.func 79) #[] #[]), (6, .int .i64 x2_6), (7, .int .i64 x2_7), (8, .int .i64 x2_8)], [], [.sl 1 k72 Al0 cl0 x2_ml0 1 false]⟩) (fun S hS => ?_) (fun n0 ih0 S hS => ?_) ⟨l0, a1, 20, 0, 20, H, (by first | rfl | assumption | omega | (simp only [List.length_set]; first | done | assumption | omega)), rfl⟩ (fun h => wk [0, 1, 2, 6, 7, 8] [] [⟨0, 1, 1, false⟩] h)
 · clear H; obtain ⟨_, _, _, _, _, H, _⟩ := hS; rw [slices_stableCmpFunc_impl_Row_at79.l0] at H; cases H
 clear H
 obtain ⟨x2_ml0, x2_1, x2_6, x2_7, x2_8, H, ex2_ml0, rfl⟩ := hS
 rw [slices_stableCmpFunc_impl_Row_at79.l0] at H
 refine gs (gs (rg (sv (EV.mv rfl) rfl (sv (EV.mv rfl) rfl (sv (EV.leq rfl rfl) rfl (re ?_))))))
 revert H; refine ifsI ?_ ?_ <;> intro c1 H
 ·
  refine gt rfl (dT c1) (gk (gb (gs (rg (sv (EV.mv rfl) rfl (sv (EV.mv rfl) rfl (sv (EV.mv rfl) rfl (sv (EV.mv rfl) rfl ?_))))))))
  revert H; refine bdI ?_; rintro t2 A2 H
  refine so rfl (op_callM (slices_insertionSortCmpFunc_impl_Row_at79.ok n0 x2_ml0 Al0 cl0 x2_7 x2_8 _ A2) [⟨0, 1, 1, false⟩] [] [] 2 rfl rfl rfl rfl rfl rfl rfl rfl ?_)
  rintro _ _ _ ⟨rfl, rfl, rfl, q2_0⟩
  exact rlT 0 (v' := .slice Al0 t2.length cl0) rfl (slq _ _ q2_0) (rlT 14 (v' := .slice Al0 t2.length cl0) rfl (slq _ _ q2_0) (nmE (en := [.sl 1 k72 Al0 cl0 t2 3 false]) (by kernel_rfl) (re (pr [0, 1, 2, 6, 8] [] [0] rfl rfl rfl rfl (gs (rg (sv (EV.mv rfl) rfl (sv (EV.as rfl) rfl (re (rg (sv (EV.mv rfl) rfl (sv (EV.mv rfl) rfl (sv (EV.add rfl rfl) rfl (sv (EV.as rfl) rfl (re (ge (wk [0, 1, 2, 6, 7, 8] [] [⟨0, 1, 1, false⟩] (ih0 _ (by omega) _ ⟨t2, x2_1, x2_6, x2_8, wrap64 (x2_8 + x2_6), H, (by first | rfl | assumption | omega | (simp only [List.length_set]; first | done | assumption | omega)), rfl⟩))))))))))))))))))
 ·
  refine gf rfl (dF c1) (gx rfl (gs (rg (sv (EV.mv rfl) rfl (sv (EV.mv rfl) rfl (sv (EV.mv rfl) rfl (sv (EV.mv rfl) rfl ?_)))))))
  revert H; refine bdI ?_; rintro t3 A3 H
  refine so rfl (op_callM (slices_insertionSortCmpFunc_impl_Row_at79.ok n0 x2_ml0 Al0 cl0 x2_7 x2_1 _ A3) [⟨0, 1, 1, false⟩] [] [] 2 rfl rfl rfl rfl rfl rfl rfl rfl ?_)
  rintro _ _ _ ⟨rfl, rfl, rfl, q3_0⟩
  refine rlT 0 (v' := .slice Al0 t3.length cl0) rfl (slq _ _ q3_0) (rlT 23 (v' := .slice Al0 t3.length cl0) rfl (slq _ _ q3_0) (nmE (en := [.sl 1 k72 Al0 cl0 t3 3 false]) (by kernel_rfl) (re (pr [0, 1, 2, 6] [] [0] rfl rfl rfl rfl (gb ?_)))))
  refine lo (fun kk S => ∃ (x8_ml0 : List S72) (x8_1 : Int) (x8_6 : Int), kk ≤ n0 ∧ slices_stableCmpFunc_impl_Row_at79.l1 kk x8_ml0 x8_1 x8_6 = some r0 ∧ x8_ml0.length = l0.length ∧ S = ⟨[(0, .slice Al0 x8_ml0.length cl0), (1, .int .i64 x8_1), (2, .func (.func 79) #[] #[]), (6, .int .i64 x8_6)], [], [.sl 1 k72 Al0 cl0 x8_ml0 1 false]⟩) (fun S hS => ?_) (fun n1 ih1 S hS => ?_) ⟨t3, x2_1, x2_6, by omega, H, (by first | rfl | assumption | omega | (simp only [List.length_set]; first | done | assumption | omega)), rfl⟩ (fun h => wk [0, 1, 2, 6] [] [⟨0, 1, 1, false⟩] h)
  · clear H; obtain ⟨_, _, _, _, H, _⟩ := hS; rw [slices_stableCmpFunc_impl_Row_at79.l1] at H; cases H
  clear H
  obtain ⟨x8_ml0, x8_1, x8_6, lk1, H, ex8_ml0, rfl⟩ := hS
  rw [slices_stableCmpFunc_impl_Row_at79.l1] at H
  refine gs (gs (rg (sv (EV.mv rfl) rfl (sv (EV.mv rfl) rfl (sv (EV.lss rfl rfl) rfl (re ?_))))))
  revert H; refine ifsI ?_ ?_ <;> intro c4 H
  ·
   refine gt rfl (dT c4) (gk (gb (gs (rg (sv (EV.mv rfl) rfl (sv (EV.mul rfl rfl) rfl (sv (EV.as rfl) rfl (sv (EV.as rfl) rfl (re (gs (gb ?_)))))))))))
   refine lo (fun kk S => ∃ (x12_ml0 : List S72) (x12_1 : Int) (x12_6 : Int) (x12_7 : Int) (x12_8 : Int), kk ≤ n1 ∧ slices_stableCmpFunc_impl_Row_at79.l2 kk x12_ml0 x12_1 x12_6 x12_7 x12_8 = some r0 ∧ x12_ml0.length = l0.length ∧ S = ⟨[(0, .slice Al0 x12_ml0.length cl0), (1, .int .i64 x12_1), (2, .func (.func 79) #[] #[]), (6, .int .i64 x12_6), (7, .int .i64 x12_7), (8, .int .i64 x12_8)], [], [.sl 1 k72 Al0 cl0 x12_ml0 1 false]⟩) (fun S hS => ?_) (fun n2 ih2 S hS => ?_) ⟨x8_ml0, x8_1, x8_6, 0, wrap64 (2 * x8_6), by omega, H, (by first | rfl | assumption | omega | (simp only [List.length_set]; first | done | assumption | omega)), rfl⟩ (fun h => wk [0, 1, 2, 6, 7, 8] [] [⟨0, 1, 1, false⟩] h)
   · clear H; obtain ⟨_, _, _, _, _, _, H, _⟩ := hS; rw [slices_stableCmpFunc_impl_Row_at79.l2] at H; cases H
   clear H
   obtain ⟨x12_ml0, x12_1, x12_6, x12_7, x12_8, lk2, H, ex12_ml0, rfl⟩ := hS
   rw [slices_stableCmpFunc_impl_Row_at79.l2] at H
   refine gs (gs (rg (sv (EV.mv rfl) rfl (sv (EV.mv rfl) rfl (sv (EV.leq rfl rfl) rfl (re ?_))))))
   revert H; refine ifsI ?_ ?_ <;> intro c5 H
   ·
    refine gt rfl (dT c5) (gk (gb (gs (rg (sv (EV.mv rfl) rfl (sv (EV.mv rfl) rfl (sv (EV.mv rfl) rfl (sv (EV.mv rfl) rfl (sv (EV.add rfl rfl) rfl (sv (EV.mv rfl) rfl (sv (EV.mv rfl) rfl ?_)))))))))))
    revert H; refine bdI ?_; rintro t6 A6 H
    refine so rfl (op_callM (slices_symMergeCmpFunc_impl_Row_at79.ok n2 x12_ml0 Al0 cl0 x12_7 (wrap64 (x12_7 + x12_6)) x12_8 _ A6) [⟨0, 1, 1, false⟩] [] [] 2 rfl rfl rfl rfl rfl rfl rfl rfl ?_)
    rintro _ _ _ ⟨rfl, rfl, rfl, q6_0⟩
    exact rlT 0 (v' := .slice Al0 t6.length cl0) rfl (slq _ _ q6_0) (rlT 36 (v' := .slice Al0 t6.length cl0) rfl (slq _ _ q6_0) (nmE (en := [.sl 1 k72 Al0 cl0 t6 3 false]) (by kernel_rfl) (re (pr [0, 1, 2, 6, 8] [] [0] rfl rfl rfl rfl (gs (rg (sv (EV.mv rfl) rfl (sv (EV.as rfl) rfl (re (rg (sv (EV.mv rfl) rfl (sv (EV.mv rfl) rfl (sv (EV.mul rfl rfl) rfl (sv (EV.add rfl rfl) rfl (sv (EV.as rfl) rfl (re (ge (wk [0, 1, 2, 6, 7, 8] [] [⟨0, 1, 1, false⟩] (ih2 _ (by omega) _ ⟨t6, x12_1, x12_6, x12_8, wrap64 (x12_8 + (wrap64 (2 * x12_6))), by omega, H, (by first | rfl | assumption | omega | (simp only [List.length_set]; first | done | assumption | omega)), rfl⟩)))))))))))))))))))
   ·
    refine gf rfl (dF c5) (gx rfl (gs (gs (rg (sv (EV.mv rfl) rfl (sv (EV.mv rfl) rfl (sv (EV.add rfl rfl) rfl (sv (EV.as rfl) rfl (re (pr [0, 1, 2, 6, 7, 9] [] [0] rfl rfl rfl rfl (gs (rg (sv (EV.mv rfl) rfl (sv (EV.mv rfl) rfl (sv (EV.lss rfl rfl) rfl (re ?_))))))))))))))))
    revert H; refine ifsI ?_ ?_ <;> intro c7 H
    ·
     refine gt rfl (dT c7) (rg (sv (EV.mv rfl) rfl (sv (EV.mv rfl) rfl (sv (EV.mv rfl) rfl (sv (EV.mv rfl) rfl (sv (EV.mv rfl) rfl ?_))))))
     revert H; refine bdI ?_; rintro t8 A8 H
     refine so rfl (op_callM (slices_symMergeCmpFunc_impl_Row_at79.ok n2 x12_ml0 Al0 cl0 x12_7 (wrap64 (x12_7 + x12_6)) x12_1 _ A8) [⟨0, 1, 1, false⟩] [] [] 2 rfl rfl rfl rfl rfl rfl rfl rfl ?_)
     rintro _ _ _ ⟨rfl, rfl, rfl, q8_0⟩
     exact rlT 0 (v' := .slice Al0 t8.length cl0) rfl (slq _ _ q8_0) (rlT 55 (v' := .slice Al0 t8.length cl0) rfl (slq _ _ q8_0) (nmE (en := [.sl 1 k72 Al0 cl0 t8 3 false]) (by kernel_rfl) (re (pr [0, 1, 2, 6] [] [0] rfl rfl rfl rfl (rg (sv (EV.mv rfl) rfl (sv (EV.mul rfl rfl) rfl (sv (EV.as rfl) rfl (re (ge (wk [0, 1, 2, 6] [] [⟨0, 1, 1, false⟩] (ih1 _ (by omega) _ ⟨t8, x12_1, wrap64 (x12_6 * 2), by omega, H, (by first | rfl | assumption | omega | (simp only [List.length_set]; first | done | assumption | omega)), rfl⟩))))))))))))
    ·
     exact gf rfl (dF c7) (gk (rg (sv (EV.mv rfl) rfl (sv (EV.mul rfl rfl) rfl (sv (EV.as rfl) rfl (re (pr [0, 1, 2, 6] [] [0] rfl rfl rfl rfl (ge (wk [0, 1, 2, 6] [] [⟨0, 1, 1, false⟩] (ih1 _ (by omega) _ ⟨x12_ml0, x12_1, wrap64 (x12_6 * 2), by omega, H, (by first | rfl | assumption | omega | (simp only [List.length_set]; first | done | assumption | omega)), rfl⟩))))))))))
  ·
   refine gf rfl (dF c4) (gx rfl ?_)
   cases H
   exact rt0 Try.func89 rfl .nil rfl [] [⟨0, 1, 1, false⟩] rfl rfl rfl rfl rfl ⟨rfl, rfl, rfl, by first | rfl | assumption | omega | (simp only [List.length_set]; first | done | assumption | omega)⟩
def slices_SortStableFunc_impl_Row_impl_Row_at79.f (k : Nat) (l0 : List S72) : Option ((List S72)) := (slices_stableCmpFunc_impl_Row_at79.f k l0 (l0.length : Int)).bind fun t1 => (some t1)
set_option maxHeartbeats 4000000 in
set_option maxRecDepth 100000 in
theorem slices_SortStableFunc_impl_Row_impl_Row_at79.ok (k : Nat) (l0 : List S72) (Al0 : Option Addr) (cl0 : Nat) (r0 : List S72) (H : slices_SortStableFunc_impl_Row_impl_Row_at79.f k l0 = some r0) : Fn Try.prog 88 [.slice Al0 l0.length cl0, .func (.func 79) #[] #[]] [] [.sl 1 k72 Al0 cl0 l0 1 false] (fun v bx en => v = .tuple #[] ∧ bx = [] ∧ en = [.sl 1 k72 Al0 cl0 r0 1 false] ∧ r0.length = l0.length) := by
 refine fn_ 9 Try.func88 rfl rfl rfl (fun base T w0 => ?_)
 rw [slices_SortStableFunc_impl_Row_impl_Row_at79.f] at H
 refine rg (sv (EV.mv rfl) rfl (sv (EV.mv rfl) rfl (sv (EV.ln rfl) rfl (sv (EV.mv rfl) rfl ?_))))
 revert H; refine bdI ?_; rintro t1 A1 H
 refine so rfl (op_callM (slices_stableCmpFunc_impl_Row_at79.ok k l0 Al0 cl0 (l0.length : Int) _ A1) [⟨0, 1, 1, false⟩] [] [] 2 rfl rfl rfl rfl rfl rfl rfl rfl ?_)
 rintro _ _ _ ⟨rfl, rfl, rfl, q1_0⟩
 refine rlT 0 (v' := .slice Al0 t1.length cl0) rfl (slq _ _ q1_0) (rlT 4 (v' := .slice Al0 t1.length cl0) rfl (slq _ _ q1_0) (rlT 5 (v' := .slice Al0 t1.length cl0) rfl (slq _ _ q1_0) (nmE (en := [.sl 1 k72 Al0 cl0 t1 3 false]) (by kernel_rfl) (re (pr [] [] [0] rfl rfl rfl rfl ?_)))))
 cases H
 exact rt0 Try.func88 rfl .nil rfl [] [⟨0, 1, 1, false⟩] rfl rfl rfl rfl rfl ⟨rfl, rfl, rfl, by first | rfl | assumption | omega | (simp only [List.length_set]; first | done | assumption | omega)⟩
end Go.Proofs.Ytnadolmpaeenpaa.K
