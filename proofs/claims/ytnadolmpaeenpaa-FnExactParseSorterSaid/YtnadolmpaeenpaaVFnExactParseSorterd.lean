/- Walks: what the functions compute. Printed by gen.py; no condition. -/
import Derived.Test.YtnadolmpaeenpaaVFnExactParseSorterc
namespace Go.Proofs.Ytnadolmpaeenpaa.K
open Go Go.RowKit
set_option linter.unusedVariables false
set_option linter.unusedSimpArgs false
def impl_ParseSorter.f (k : Nat) (a0 : ByteArray) : Option ((List S72) × Int × (List S72) × (List S72) × (List S72) × (List S57) × Int × Int × Int × Int × Bool) := (impl_cut.f k a0 47).bind fun t1 => (if (t1.length : Int) = 10 then (if 0 < (t1.length : Int) then (if 1 < (t1.length : Int) then (if 2 < (t1.length : Int) then (if 3 < (t1.length : Int) then (if 4 < (t1.length : Int) then ((impl_ParseSorter_1.f k (rdOf ByteArray.empty t1 0) true).bind fun bt8 => ((impl_ParseSorter_2.f k (rdOf ByteArray.empty t1 1) bt8.2).bind fun bt9 => ((impl_ParseSorter_1.f k (rdOf ByteArray.empty t1 2) bt9.2).bind fun bt10 => ((impl_ParseSorter_1.f k (rdOf ByteArray.empty t1 3) bt10.2).bind fun bt11 => ((impl_ParseSorter_1.f k (rdOf ByteArray.empty t1 4) bt11.2).bind fun bt12 => (if 5 < (t1.length : Int) then ((impl_parseRuns.f k (rdOf ByteArray.empty t1 5)).bind fun bt14 => (if 6 < (t1.length : Int) then (if 7 < (t1.length : Int) then (if 8 < (t1.length : Int) then (if 9 < (t1.length : Int) then ((impl_ParseSorter_2.f k (rdOf ByteArray.empty t1 6) bt12.2).bind fun bt19 => ((impl_ParseSorter_2.f k (rdOf ByteArray.empty t1 7) bt19.2).bind fun bt20 => ((impl_ParseSorter_2.f k (rdOf ByteArray.empty t1 8) bt20.2).bind fun bt21 => ((impl_ParseSorter_2.f k (rdOf ByteArray.empty t1 9) bt21.2).bind fun bt22 => (if bt22.2 = true then (if bt14.2 = true then ((impl_IsValidSorter.f k bt8.1 bt9.1 bt10.1 bt11.1 bt12.1 bt14.1 bt19.1 bt20.1 bt21.1 bt22.1).bind fun t25 => (if t25 = true then ((impl_FormatSorter.f k bt8.1 bt9.1 bt10.1 bt11.1 bt12.1 bt14.1 bt19.1 bt20.1 bt21.1 bt22.1).bind fun t27 => (if t27.toList = a0.toList then (some (bt8.1, bt9.1, bt10.1, bt11.1, bt12.1, bt14.1, bt19.1, bt20.1, bt21.1, bt22.1, true)) else (some ([], 0, [], [], [], [], 0, 0, 0, 0, false)))) else (some ([], 0, [], [], [], [], 0, 0, 0, 0, false)))) else (some ([], 0, [], [], [], [], 0, 0, 0, 0, false))) else (some ([], 0, [], [], [], [], 0, 0, 0, 0, false))))))) else none) else none) else none) else none)) else none)))))) else none) else none) else none) else none) else none) else (some ([], 0, [], [], [], [], 0, 0, 0, 0, false)))
set_option maxHeartbeats 4000000 in
set_option maxRecDepth 100000 in
theorem impl_ParseSorter.ok (k : Nat) (a0 : ByteArray) (r0 : List S72) (r1 : Int) (r2 : List S72) (r3 : List S72) (r4 : List S72) (r5 : List S57) (r6 : Int) (r7 : Int) (r8 : Int) (r9 : Int) (r10 : Bool) (H : impl_ParseSorter.f k a0 = some (r0, r1, r2, r3, r4, r5, r6, r7, r8, r9, r10)) : Fn Try.prog 11 [.string a0] [] [] (fun v bx en => ∃ A0 c0 A2 c2 A3 c3 A4 c4 A5 c5, v = .tuple #[.agg #[.slice A0 r0.length c0, .int .i64 r1, .slice A2 r2.length c2, .slice A3 r3.length c3, .slice A4 r4.length c4, .slice A5 r5.length c5, .int .i64 r6, .int .i64 r7, .int .i64 r8, .int .i64 r9], .bool r10] ∧ bx = [] ∧ en = [.sl 2 k72 A0 c0 r0 1 true, .sl 2 k72 A2 c2 r2 2 true, .sl 2 k72 A3 c3 r3 3 true, .sl 2 k72 A4 c4 r4 4 true, .sl 2 k57 A5 c5 r5 5 true]) := by
 refine fn_ 102 Try.func11 rfl rfl rfl (fun base T w0 => ?_)
 rw [impl_ParseSorter.f] at H
 refine gs (rg (so rfl (op_alloc (cs := [.slice none 0 0, .int .i64 0, .slice none 0 0, .slice none 0 0, .slice none 0 0, .slice none 0 0, .int .i64 0, .int .i64 0, .int .i64 0, .int .i64 0]) (by kernel_rfl) rfl fun b2 => (sv (EV.as rfl) rfl (re (gs (rg (sv (EV.mv rfl) rfl ?_))))))))
 revert H; refine bdI ?_; rintro t1 A1 H
 refine so rfl (op_call (impl_cut.ok k a0 47 _ A1) [] 1 rfl rfl rfl rfl rfl ?_)
 rintro _ _ _ ⟨At1, ct1, rfl, rfl, rfl⟩
 refine sv (EV.as rfl) rfl (re (gs (gs (rg (sv (EV.mv rfl) rfl (sv (EV.ln rfl) rfl (sv (EV.neq rfl rfl) rfl (re ?_))))))))
 revert H; refine ifsI ?_ ?_ <;> intro c2 H
 ·
  refine gf rfl (nF c2) (gk (gs (rg (sv (EV.bd (v := .agg #[.slice none 0 0, .int .i64 0, .slice none 0 0, .slice none 0 0, .slice none 0 0, .slice none 0 0, .int .i64 0, .int .i64 0, .int .i64 0, .int .i64 0]) rfl (by kernel_rfl)) rfl (so rfl (op_alloc (cs := [.slice none 0 0, .int .i64 0, .slice none 0 0, .slice none 0 0, .slice none 0 0, .slice none 0 0, .int .i64 0, .int .i64 0, .int .i64 0, .int .i64 0]) (by kernel_rfl) rfl fun b5 => (so rfl (op_alloc (cs := [.bool false]) (by kernel_rfl) rfl fun b6 => (so rfl (op_st (cs' := [.slice none 0 0, .int .i64 0, .slice none 0 0, .slice none 0 0, .slice none 0 0, .slice none 0 0, .int .i64 0, .int .i64 0, .int .i64 0, .int .i64 0]) 1 rfl rfl rfl rfl rfl rfl (so rfl (op_st (cs' := [.bool true]) 2 rfl rfl rfl rfl rfl rfl (re (pr [0, 2, 4, 5, 6] [0, 1, 2] [0] rfl rfl rfl rfl (gs (rg (sv (EV.mf rfl) rfl (sv (EV.as rfl) rfl (re (gs (rg (sv (EV.mf rfl) rfl (sv (EV.as rfl) rfl (re (gs ?_)))))))))))))))))))))))))
  revert H; refine ggI ?_; intro g3 H
  revert H; refine ggI ?_; intro g4 H
  revert H; refine ggI ?_; intro g5 H
  revert H; refine ggI ?_; intro g6 H
  revert H; refine ggI ?_; intro g7 H
  refine dr [0] [0] [33, 34] 35 rfl rfl rfl rfl (xv 0 [0] [0] rfl (EV.mv rfl) rfl rfl rfl rfl (xv 1 [0] [0] rfl (EV.mv rfl) rfl rfl rfl rfl (xv 2 [0] [0] rfl (EV.ix 0 rfl rfl rfl dq g3 rfl) rfl rfl rfl rfl (xv 3 [0] [0] rfl (EV.le (v := .string (rdOf ByteArray.empty t1 0)) 0 0 none 0 ByteArray.empty rfl rfl rfl dq g3 rfl rfl rfl) rfl rfl rfl rfl (xv 5 [0] [0] rfl (EV.mv rfl) rfl rfl rfl rfl (xv 6 [0] [0] rfl (EV.mv rfl) rfl rfl rfl rfl (xv 7 [0] [0] rfl (EV.ix 0 rfl rfl rfl dq g4 rfl) rfl rfl rfl rfl (xv 8 [0] [0] rfl (EV.le (v := .string (rdOf ByteArray.empty t1 1)) 1 0 none 0 ByteArray.empty rfl rfl rfl dq g4 rfl rfl rfl) rfl rfl rfl rfl (xv 10 [0] [0] rfl (EV.mv rfl) rfl rfl rfl rfl (xv 11 [0] [0] rfl (EV.mv rfl) rfl rfl rfl rfl (xv 12 [0] [0] rfl (EV.ix 0 rfl rfl rfl dq g5 rfl) rfl rfl rfl rfl (xv 13 [0] [0] rfl (EV.le (v := .string (rdOf ByteArray.empty t1 2)) 2 0 none 0 ByteArray.empty rfl rfl rfl dq g5 rfl rfl rfl) rfl rfl rfl rfl (xv 15 [0] [0] rfl (EV.mv rfl) rfl rfl rfl rfl (xv 16 [0] [0] rfl (EV.mv rfl) rfl rfl rfl rfl (xv 17 [0] [0] rfl (EV.ix 0 rfl rfl rfl dq g6 rfl) rfl rfl rfl rfl (xv 18 [0] [0] rfl (EV.le (v := .string (rdOf ByteArray.empty t1 3)) 3 0 none 0 ByteArray.empty rfl rfl rfl dq g6 rfl rfl rfl) rfl rfl rfl rfl (xv 20 [0] [0] rfl (EV.mv rfl) rfl rfl rfl rfl (xv 21 [0] [0] rfl (EV.mv rfl) rfl rfl rfl rfl (xv 22 [0] [0] rfl (EV.ix 0 rfl rfl rfl dq g7 rfl) rfl rfl rfl rfl (xv 23 [0] [0] rfl (EV.le (v := .string (rdOf ByteArray.empty t1 4)) 4 0 none 0 ByteArray.empty rfl rfl rfl dq g7 rfl rfl rfl) rfl rfl rfl rfl (one1 4 rfl rfl ?_)))))))))))))))))))))
  revert H; refine bdI ?_; rintro ⟨t8_0, t8_1⟩ A8 H
  refine cvc (f := 34) rfl (op_callM (impl_ParseSorter_1.ok k (rdOf ByteArray.empty t1 0) b6 true _ _ A8) [] [2] [0, 1] 3 rfl rfl rfl rfl rfl rfl rfl rfl ?_)
  rintro _ _ _ ⟨At8_0, ct8_0, rfl, rfl, rfl⟩
  refine nmE (en := [.sl 2 .str At1 ct1 t1 2 true, .sl 2 k72 At8_0 ct8_0 t8_0 4 true]) (by kernel_rfl) (xs [0] [0] rfl rfl rfl ?_)
  refine one2 9 25 rfl rfl rfl rfl ?_ ?_
  ·
   revert H; refine bdI ?_; rintro ⟨t9_0, t9_1⟩ A9 H
   refine cvc (f := 36) rfl (op_callM (impl_ParseSorter_2.ok k (rdOf ByteArray.empty t1 1) b6 t8_1 _ _ A9) [] [2] [0, 1] 5 rfl rfl rfl rfl rfl rfl rfl rfl ?_)
   rintro _ _ _ ⟨rfl, rfl, rfl⟩
   refine nmE (en := [.sl 2 .str At1 ct1 t1 2 true, .sl 2 k72 At8_0 ct8_0 t8_0 4 true]) (by kernel_rfl) (xs [0] [0] rfl rfl rfl ?_)
   refine one2 14 25 rfl rfl rfl rfl ?_ ?_
   ·
    revert H; refine bdI ?_; rintro ⟨t10_0, t10_1⟩ A10 H
    refine cvc (f := 34) rfl (op_callM (impl_ParseSorter_1.ok k (rdOf ByteArray.empty t1 2) b6 t9_1 _ _ A10) [] [2] [0, 1] 5 rfl rfl rfl rfl rfl rfl rfl rfl ?_)
    rintro _ _ _ ⟨At10_0, ct10_0, rfl, rfl, rfl⟩
    refine nmE (en := [.sl 2 .str At1 ct1 t1 2 true, .sl 2 k72 At8_0 ct8_0 t8_0 4 true, .sl 2 k72 At10_0 ct10_0 t10_0 6 true]) (by kernel_rfl) (xs [0] [0] rfl rfl rfl ?_)
    refine one2 19 25 rfl rfl rfl rfl ?_ ?_
    ·
     revert H; refine bdI ?_; rintro ⟨t11_0, t11_1⟩ A11 H
     refine cvc (f := 34) rfl (op_callM (impl_ParseSorter_1.ok k (rdOf ByteArray.empty t1 3) b6 t10_1 _ _ A11) [] [2] [0, 1] 7 rfl rfl rfl rfl rfl rfl rfl rfl ?_)
     rintro _ _ _ ⟨At11_0, ct11_0, rfl, rfl, rfl⟩
     refine nmE (en := [.sl 2 .str At1 ct1 t1 2 true, .sl 2 k72 At8_0 ct8_0 t8_0 4 true, .sl 2 k72 At10_0 ct10_0 t10_0 6 true, .sl 2 k72 At11_0 ct11_0 t11_0 8 true]) (by kernel_rfl) (xs [0] [0] rfl rfl rfl ?_)
     refine one2 24 25 rfl rfl rfl rfl ?_ ?_
     ·
      revert H; refine bdI ?_; rintro ⟨t12_0, t12_1⟩ A12 H
      refine cvc (f := 34) rfl (op_callM (impl_ParseSorter_1.ok k (rdOf ByteArray.empty t1 4) b6 t11_1 _ _ A12) [] [2] [0, 1] 9 rfl rfl rfl rfl rfl rfl rfl rfl ?_)
      rintro _ _ _ ⟨At12_0, ct12_0, rfl, rfl, rfl⟩
      refine nmE (en := [.sl 2 .str At1 ct1 t1 2 true, .sl 2 k72 At8_0 ct8_0 t8_0 4 true, .sl 2 k72 At10_0 ct10_0 t10_0 6 true, .sl 2 k72 At11_0 ct11_0 t11_0 8 true, .sl 2 k72 At12_0 ct12_0 t12_0 10 true]) (by kernel_rfl) (xs [0] [0] rfl rfl rfl (one1 25 rfl rfl (ov (EV.fa 0 rfl) rfl (xs [0] [0] rfl rfl rfl (one1 26 rfl rfl (op_st (cs' := [.slice At8_0 t8_0.length ct8_0, .int .i64 0, .slice none 0 0, .slice none 0 0, .slice none 0 0, .slice none 0 0, .int .i64 0, .int .i64 0, .int .i64 0, .int .i64 0]) 1 rfl rfl rfl rfl rfl rfl (xs [0] [0] rfl rfl rfl (one1 27 rfl rfl (ov (EV.fa 1 rfl) rfl (xs [0] [0] rfl rfl rfl (one1 28 rfl rfl (op_st (cs' := [.slice At8_0 t8_0.length ct8_0, .int .i64 t9_0, .slice none 0 0, .slice none 0 0, .slice none 0 0, .slice none 0 0, .int .i64 0, .int .i64 0, .int .i64 0, .int .i64 0]) 1 rfl rfl rfl rfl rfl rfl (xs [0] [0] rfl rfl rfl (one1 29 rfl rfl (ov (EV.fa 2 rfl) rfl (xs [0] [0] rfl rfl rfl (one1 30 rfl rfl (op_st (cs' := [.slice At8_0 t8_0.length ct8_0, .int .i64 t9_0, .slice At10_0 t10_0.length ct10_0, .slice none 0 0, .slice none 0 0, .slice none 0 0, .int .i64 0, .int .i64 0, .int .i64 0, .int .i64 0]) 1 rfl rfl rfl rfl rfl rfl (xs [0] [0] rfl rfl rfl (one1 31 rfl rfl (ov (EV.fa 3 rfl) rfl (xs [0] [0] rfl rfl rfl (one1 32 rfl rfl (op_st (cs' := [.slice At8_0 t8_0.length ct8_0, .int .i64 t9_0, .slice At10_0 t10_0.length ct10_0, .slice At11_0 t11_0.length ct11_0, .slice none 0 0, .slice none 0 0, .int .i64 0, .int .i64 0, .int .i64 0, .int .i64 0]) 1 rfl rfl rfl rfl rfl rfl (xs [0] [0] rfl rfl rfl (one1 33 rfl rfl (ov (EV.fa 4 rfl) rfl (xn rfl (one1 34 rfl rfl ?_)))))))))))))))))))))))))))))
      refine op_st (cs' := [.slice At8_0 t8_0.length ct8_0, .int .i64 t9_0, .slice At10_0 t10_0.length ct10_0, .slice At11_0 t11_0.length ct11_0, .slice At12_0 t12_0.length ct12_0, .slice none 0 0, .int .i64 0, .int .i64 0, .int .i64 0, .int .i64 0]) 1 rfl rfl rfl rfl rfl rfl (xn rfl (xd (pr [0, 2, 4, 5, 6, 8] [0, 1, 2] [0, 1, 2, 3, 4] rfl rfl rfl rfl (gs (rg (sv (EV.mv rfl) rfl ?_))))))
      revert H; refine ggI ?_; intro g13 H
      refine sv (EV.ix 0 rfl rfl rfl dq g13 rfl) rfl (sv (EV.le (v := .string (rdOf ByteArray.empty t1 5)) 5 0 none 0 ByteArray.empty rfl rfl rfl dq g13 rfl rfl rfl) rfl ?_)
      revert H; refine bdI ?_; rintro ⟨t14_0, t14_1⟩ A14 H
      refine so rfl (op_call (impl_parseRuns.ok k (rdOf ByteArray.empty t1 5) _ _ A14) [] 11 rfl rfl rfl rfl rfl ?_)
      rintro _ _ _ ⟨At14_0, ct14_0, rfl, rfl, rfl⟩
      refine sv (EV.mv rfl) rfl (sv (EV.ex rfl rfl) rfl (sv (EV.ex rfl rfl) rfl (sv (EV.as rfl) rfl (sv (EV.as rfl) rfl (re (pr [0, 2, 4, 5, 6, 8, 9, 10] [0, 1, 2] [0, 1, 2, 3, 4, 5] rfl rfl rfl rfl (gs ?_)))))))
      revert H; refine ggI ?_; intro g15 H
      revert H; refine ggI ?_; intro g16 H
      revert H; refine ggI ?_; intro g17 H
      revert H; refine ggI ?_; intro g18 H
      refine dr [0] [0, 1, 2, 3, 4, 5] [29, 30] 31 rfl rfl rfl rfl (xv 0 [0] [0, 1, 2, 3, 4, 5] rfl (EV.mv rfl) rfl rfl rfl rfl (xv 1 [0] [0, 1, 2, 3, 4, 5] rfl (EV.mv rfl) rfl rfl rfl rfl (xv 2 [0] [0, 1, 2, 3, 4, 5] rfl (EV.mv rfl) rfl rfl rfl rfl (xv 3 [0] [0, 1, 2, 3, 4, 5] rfl (EV.ix 0 rfl rfl rfl dq g15 rfl) rfl rfl rfl rfl (xv 4 [0] [0, 1, 2, 3, 4, 5] rfl (EV.le (v := .string (rdOf ByteArray.empty t1 6)) 6 0 none 0 ByteArray.empty rfl rfl rfl dq g15 rfl rfl rfl) rfl rfl rfl rfl (xv 6 [0] [0, 1, 2, 3, 4, 5] rfl (EV.mv rfl) rfl rfl rfl rfl (xv 7 [0] [0, 1, 2, 3, 4, 5] rfl (EV.mv rfl) rfl rfl rfl rfl (xv 8 [0] [0, 1, 2, 3, 4, 5] rfl (EV.ix 0 rfl rfl rfl dq g16 rfl) rfl rfl rfl rfl (xv 9 [0] [0, 1, 2, 3, 4, 5] rfl (EV.le (v := .string (rdOf ByteArray.empty t1 7)) 7 0 none 0 ByteArray.empty rfl rfl rfl dq g16 rfl rfl rfl) rfl rfl rfl rfl (xv 11 [0] [0, 1, 2, 3, 4, 5] rfl (EV.mv rfl) rfl rfl rfl rfl (xv 12 [0] [0, 1, 2, 3, 4, 5] rfl (EV.mv rfl) rfl rfl rfl rfl (xv 13 [0] [0, 1, 2, 3, 4, 5] rfl (EV.ix 0 rfl rfl rfl dq g17 rfl) rfl rfl rfl rfl (xv 14 [0] [0, 1, 2, 3, 4, 5] rfl (EV.le (v := .string (rdOf ByteArray.empty t1 8)) 8 0 none 0 ByteArray.empty rfl rfl rfl dq g17 rfl rfl rfl) rfl rfl rfl rfl (xv 16 [0] [0, 1, 2, 3, 4, 5] rfl (EV.mv rfl) rfl rfl rfl rfl (xv 17 [0] [0, 1, 2, 3, 4, 5] rfl (EV.mv rfl) rfl rfl rfl rfl (xv 18 [0] [0, 1, 2, 3, 4, 5] rfl (EV.ix 0 rfl rfl rfl dq g18 rfl) rfl rfl rfl rfl (xv 19 [0] [0, 1, 2, 3, 4, 5] rfl (EV.le (v := .string (rdOf ByteArray.empty t1 9)) 9 0 none 0 ByteArray.empty rfl rfl rfl dq g18 rfl rfl rfl) rfl rfl rfl rfl (xv 21 [0] [0, 1, 2, 3, 4, 5] rfl (EV.fa 5 rfl) rfl rfl rfl rfl (one1 5 rfl rfl ?_)))))))))))))))))))
      revert H; refine bdI ?_; rintro ⟨t19_0, t19_1⟩ A19 H
      refine cvc (f := 36) rfl (op_callM (impl_ParseSorter_2.ok k (rdOf ByteArray.empty t1 6) b6 t12_1 _ _ A19) [] [2] [0, 1] 13 rfl rfl rfl rfl rfl rfl rfl rfl ?_)
      rintro _ _ _ ⟨rfl, rfl, rfl⟩
      refine nmE (en := [.sl 2 .str At1 ct1 t1 2 true, .sl 2 k72 At8_0 ct8_0 t8_0 4 true, .sl 2 k72 At10_0 ct10_0 t10_0 6 true, .sl 2 k72 At11_0 ct11_0 t11_0 8 true, .sl 2 k72 At12_0 ct12_0 t12_0 10 true, .sl 2 k57 At14_0 ct14_0 t14_0 12 true]) (by kernel_rfl) (xs [0] [0, 1, 2, 3, 4, 5] rfl rfl rfl (one1 10 rfl rfl ?_))
      revert H; refine bdI ?_; rintro ⟨t20_0, t20_1⟩ A20 H
      refine cvc (f := 36) rfl (op_callM (impl_ParseSorter_2.ok k (rdOf ByteArray.empty t1 7) b6 t19_1 _ _ A20) [] [2] [0, 1] 13 rfl rfl rfl rfl rfl rfl rfl rfl ?_)
      rintro _ _ _ ⟨rfl, rfl, rfl⟩
      refine nmE (en := [.sl 2 .str At1 ct1 t1 2 true, .sl 2 k72 At8_0 ct8_0 t8_0 4 true, .sl 2 k72 At10_0 ct10_0 t10_0 6 true, .sl 2 k72 At11_0 ct11_0 t11_0 8 true, .sl 2 k72 At12_0 ct12_0 t12_0 10 true, .sl 2 k57 At14_0 ct14_0 t14_0 12 true]) (by kernel_rfl) (xs [0] [0, 1, 2, 3, 4, 5] rfl rfl rfl (one1 15 rfl rfl ?_))
      revert H; refine bdI ?_; rintro ⟨t21_0, t21_1⟩ A21 H
      refine cvc (f := 36) rfl (op_callM (impl_ParseSorter_2.ok k (rdOf ByteArray.empty t1 8) b6 t20_1 _ _ A21) [] [2] [0, 1] 13 rfl rfl rfl rfl rfl rfl rfl rfl ?_)
      rintro _ _ _ ⟨rfl, rfl, rfl⟩
      refine nmE (en := [.sl 2 .str At1 ct1 t1 2 true, .sl 2 k72 At8_0 ct8_0 t8_0 4 true, .sl 2 k72 At10_0 ct10_0 t10_0 6 true, .sl 2 k72 At11_0 ct11_0 t11_0 8 true, .sl 2 k72 At12_0 ct12_0 t12_0 10 true, .sl 2 k57 At14_0 ct14_0 t14_0 12 true]) (by kernel_rfl) (xs [0] [0, 1, 2, 3, 4, 5] rfl rfl rfl (one1 20 rfl rfl ?_))
      revert H; refine bdI ?_; rintro ⟨t22_0, t22_1⟩ A22 H
      refine cvc (f := 36) rfl (op_callM (impl_ParseSorter_2.ok k (rdOf ByteArray.empty t1 9) b6 t21_1 _ _ A22) [] [2] [0, 1] 13 rfl rfl rfl rfl rfl rfl rfl rfl ?_)
      rintro _ _ _ ⟨rfl, rfl, rfl⟩
      refine nmE (en := [.sl 2 .str At1 ct1 t1 2 true, .sl 2 k72 At8_0 ct8_0 t8_0 4 true, .sl 2 k72 At10_0 ct10_0 t10_0 6 true, .sl 2 k72 At11_0 ct11_0 t11_0 8 true, .sl 2 k72 At12_0 ct12_0 t12_0 10 true, .sl 2 k57 At14_0 ct14_0 t14_0 12 true]) (by kernel_rfl) (xs [0] [0, 1, 2, 3, 4, 5] rfl rfl rfl (one1 22 rfl rfl (op_st (cs' := [.slice At8_0 t8_0.length ct8_0, .int .i64 t9_0, .slice At10_0 t10_0.length ct10_0, .slice At11_0 t11_0.length ct11_0, .slice At12_0 t12_0.length ct12_0, .slice At14_0 t14_0.length ct14_0, .int .i64 0, .int .i64 0, .int .i64 0, .int .i64 0]) 1 rfl rfl rfl rfl rfl rfl (xs [0] [0, 1, 2, 3, 4, 5] rfl rfl rfl (one1 23 rfl rfl (ov (EV.fa 6 rfl) rfl (xs [0] [0, 1, 2, 3, 4, 5] rfl rfl rfl (one1 24 rfl rfl (op_st (cs' := [.slice At8_0 t8_0.length ct8_0, .int .i64 t9_0, .slice At10_0 t10_0.length ct10_0, .slice At11_0 t11_0.length ct11_0, .slice At12_0 t12_0.length ct12_0, .slice At14_0 t14_0.length ct14_0, .int .i64 t19_0, .int .i64 0, .int .i64 0, .int .i64 0]) 1 rfl rfl rfl rfl rfl rfl (xs [0] [0, 1, 2, 3, 4, 5] rfl rfl rfl (one1 25 rfl rfl (ov (EV.fa 7 rfl) rfl (xs [0] [0, 1, 2, 3, 4, 5] rfl rfl rfl (one1 26 rfl rfl (op_st (cs' := [.slice At8_0 t8_0.length ct8_0, .int .i64 t9_0, .slice At10_0 t10_0.length ct10_0, .slice At11_0 t11_0.length ct11_0, .slice At12_0 t12_0.length ct12_0, .slice At14_0 t14_0.length ct14_0, .int .i64 t19_0, .int .i64 t20_0, .int .i64 0, .int .i64 0]) 1 rfl rfl rfl rfl rfl rfl (xs [0] [0, 1, 2, 3, 4, 5] rfl rfl rfl (one1 27 rfl rfl (ov (EV.fa 8 rfl) rfl (xs [0] [0, 1, 2, 3, 4, 5] rfl rfl rfl (one1 28 rfl rfl (op_st (cs' := [.slice At8_0 t8_0.length ct8_0, .int .i64 t9_0, .slice At10_0 t10_0.length ct10_0, .slice At11_0 t11_0.length ct11_0, .slice At12_0 t12_0.length ct12_0, .slice At14_0 t14_0.length ct14_0, .int .i64 t19_0, .int .i64 t20_0, .int .i64 t21_0, .int .i64 0]) 1 rfl rfl rfl rfl rfl rfl (xs [0] [0, 1, 2, 3, 4, 5] rfl rfl rfl (one1 29 rfl rfl (ov (EV.fa 9 rfl) rfl (xn rfl (one1 30 rfl rfl (op_st (cs' := [.slice At8_0 t8_0.length ct8_0, .int .i64 t9_0, .slice At10_0 t10_0.length ct10_0, .slice At11_0 t11_0.length ct11_0, .slice At12_0 t12_0.length ct12_0, .slice At14_0 t14_0.length ct14_0, .int .i64 t19_0, .int .i64 t20_0, .int .i64 t21_0, .int .i64 t22_0]) 1 rfl rfl rfl rfl rfl rfl (xn rfl (xd ?_)))))))))))))))))))))))))))))
      refine pr [0, 2, 5, 6, 10] [0, 1, 2] [1, 2, 3, 4, 5] rfl rfl rfl rfl (gs (gs (rg (sv (EV.ld 2 none rfl rfl rfl) rfl (sv (EV.nt rfl) rfl (sv (EV.mv rfl) rfl ?_))))))
      revert H; refine ifsI ?_ ?_ <;> intro c23 H
      ·
       subst c23
       refine ts 85 rfl rfl (sv (EV.mv rfl) rfl (sv (EV.nt rfl) rfl (sv (EV.pf rfl rfl rfl) rfl (sv (EV.mv rfl) rfl ?_))))
       revert H; refine ifsI ?_ ?_ <;> intro c24 H
       ·
        subst c24
        refine ts 89 rfl rfl (sv (EV.ld (v := .agg #[.slice At8_0 t8_0.length ct8_0, .int .i64 t9_0, .slice At10_0 t10_0.length ct10_0, .slice At11_0 t11_0.length ct11_0, .slice At12_0 t12_0.length ct12_0, .slice At14_0 t14_0.length ct14_0, .int .i64 t19_0, .int .i64 t20_0, .int .i64 t21_0, .int .i64 t22_0]) 1 (some 10) rfl rfl rfl) rfl ?_)
        revert H; refine bdI ?_; rintro t25 A25 H
        refine so rfl (op_call (impl_IsValidSorter.ok k t8_0 At8_0 ct8_0 t9_0 t10_0 At10_0 ct10_0 t11_0 At11_0 ct11_0 t12_0 At12_0 ct12_0 t14_0 At14_0 ct14_0 t19_0 t20_0 t21_0 t22_0 _ A25) [⟨0, 0, 0, false⟩, ⟨1, 0, 0, false⟩, ⟨2, 0, 0, false⟩, ⟨3, 0, 0, false⟩, ⟨4, 0, 0, false⟩] 13 rfl rfl rfl rfl rfl ?_)
        rintro _ _ _ ⟨rfl, rfl, rfl⟩
        refine sv (EV.nt rfl) rfl (sv (EV.pf rfl rfl rfl) rfl (sv (EV.mv rfl) rfl ?_))
        revert H; refine ifsI ?_ ?_ <;> intro c26 H
        ·
         subst c26
         refine ts 94 rfl rfl (sv (EV.ld (v := .agg #[.slice At8_0 t8_0.length ct8_0, .int .i64 t9_0, .slice At10_0 t10_0.length ct10_0, .slice At11_0 t11_0.length ct11_0, .slice At12_0 t12_0.length ct12_0, .slice At14_0 t14_0.length ct14_0, .int .i64 t19_0, .int .i64 t20_0, .int .i64 t21_0, .int .i64 t22_0]) 1 (some 10) rfl rfl rfl) rfl ?_)
         revert H; refine bdI ?_; rintro t27 A27 H
         refine so rfl (op_call (impl_FormatSorter.ok k t8_0 At8_0 ct8_0 t9_0 t10_0 At10_0 ct10_0 t11_0 At11_0 ct11_0 t12_0 At12_0 ct12_0 t14_0 At14_0 ct14_0 t19_0 t20_0 t21_0 t22_0 _ A27) [⟨0, 0, 0, false⟩, ⟨1, 0, 0, false⟩, ⟨2, 0, 0, false⟩, ⟨3, 0, 0, false⟩, ⟨4, 0, 0, false⟩] 13 rfl rfl rfl rfl rfl ?_)
         rintro _ _ _ ⟨rfl, rfl, rfl⟩
         refine sv (EV.mv rfl) rfl (sv (EV.nes rfl rfl) rfl (sv (EV.pf rfl rfl rfl) rfl (re (pr [2, 5, 99] [0, 1] [0, 1, 2, 3, 4] rfl rfl rfl rfl ?_))))
         revert H; refine ifsI ?_ ?_ <;> intro c28 H
         ·
          refine gf rfl (nF c28) (gk (gs (rg (sv (EV.ld (v := .agg #[.slice At8_0 t8_0.length ct8_0, .int .i64 t9_0, .slice At10_0 t10_0.length ct10_0, .slice At11_0 t11_0.length ct11_0, .slice At12_0 t12_0.length ct12_0, .slice At14_0 t14_0.length ct14_0, .int .i64 t19_0, .int .i64 t20_0, .int .i64 t21_0, .int .i64 t22_0]) 1 (some 10) rfl rfl rfl) rfl (so rfl (op_st (cs' := [.slice At8_0 t8_0.length ct8_0, .int .i64 t9_0, .slice At10_0 t10_0.length ct10_0, .slice At11_0 t11_0.length ct11_0, .slice At12_0 t12_0.length ct12_0, .slice At14_0 t14_0.length ct14_0, .int .i64 t19_0, .int .i64 t20_0, .int .i64 t21_0, .int .i64 t22_0]) 0 rfl rfl rfl rfl rfl rfl (sv (EV.as rfl) rfl (re ?_))))))))
          cases H
          exact rt Try.func11 rfl (.cell 0 (some 10) rfl rfl rfl (.tmp rfl .nil)) rfl [] [⟨0, 2, 1, true⟩, ⟨1, 2, 2, true⟩, ⟨2, 2, 3, true⟩, ⟨3, 2, 4, true⟩, ⟨4, 2, 5, true⟩] rfl rfl rfl rfl rfl ⟨_, _, _, _, _, _, _, _, _, _, rfl, rfl, rfl⟩
         ·
          refine gt rfl (nT c28) (gs (rg (sv (EV.bd (v := .agg #[.slice none 0 0, .int .i64 0, .slice none 0 0, .slice none 0 0, .slice none 0 0, .slice none 0 0, .int .i64 0, .int .i64 0, .int .i64 0, .int .i64 0]) rfl (by kernel_rfl)) rfl (so rfl (op_st (cs' := [.slice none 0 0, .int .i64 0, .slice none 0 0, .slice none 0 0, .slice none 0 0, .slice none 0 0, .int .i64 0, .int .i64 0, .int .i64 0, .int .i64 0]) 0 rfl rfl rfl rfl rfl rfl (sv (EV.as rfl) rfl (re (nil_ k72 13 dq (nil_ k72 14 dq (nil_ k72 15 dq (nil_ k72 16 dq (nil_ k57 17 dq ?_))))))))))))
          cases H
          exact rt Try.func11 rfl (.cell 0 (some 10) rfl rfl rfl (.tmp rfl .nil)) rfl [] [⟨5, 2, 1, true⟩, ⟨6, 2, 2, true⟩, ⟨7, 2, 3, true⟩, ⟨8, 2, 4, true⟩, ⟨9, 2, 5, true⟩] rfl rfl rfl rfl rfl ⟨_, _, _, _, _, _, _, _, _, _, rfl, rfl, rfl⟩
        ·
         have xc26 := bF c26; subst xc26
         refine ts 94 rfl rfl (sk rfl (sk rfl (sk rfl (sk rfl (sv (EV.pt rfl rfl rfl) rfl (re (pr [2, 5, 99] [0, 1] [0, 1, 2, 3, 4] rfl rfl rfl rfl (gt rfl rfl (gs (rg (sv (EV.bd (v := .agg #[.slice none 0 0, .int .i64 0, .slice none 0 0, .slice none 0 0, .slice none 0 0, .slice none 0 0, .int .i64 0, .int .i64 0, .int .i64 0, .int .i64 0]) rfl (by kernel_rfl)) rfl (so rfl (op_st (cs' := [.slice none 0 0, .int .i64 0, .slice none 0 0, .slice none 0 0, .slice none 0 0, .slice none 0 0, .int .i64 0, .int .i64 0, .int .i64 0, .int .i64 0]) 0 rfl rfl rfl rfl rfl rfl (sv (EV.as rfl) rfl (re (nil_ k72 13 dq (nil_ k72 14 dq (nil_ k72 15 dq (nil_ k72 16 dq (nil_ k57 17 dq ?_))))))))))))))))))))
         cases H
         exact rt Try.func11 rfl (.cell 0 (some 10) rfl rfl rfl (.tmp rfl .nil)) rfl [] [⟨5, 2, 1, true⟩, ⟨6, 2, 2, true⟩, ⟨7, 2, 3, true⟩, ⟨8, 2, 4, true⟩, ⟨9, 2, 5, true⟩] rfl rfl rfl rfl rfl ⟨_, _, _, _, _, _, _, _, _, _, rfl, rfl, rfl⟩
       ·
        have xc24 := bF c24; subst xc24
        refine ts 89 rfl rfl (sk rfl (sk rfl (sk rfl (sv (EV.pt rfl rfl rfl) rfl (sv (EV.mv rfl) rfl (sk rfl (sk rfl (sk rfl (sk rfl (sv (EV.pt rfl rfl rfl) rfl (re (pr [2, 5, 99] [0, 1] [0, 1, 2, 3, 4] rfl rfl rfl rfl (gt rfl rfl (gs (rg (sv (EV.bd (v := .agg #[.slice none 0 0, .int .i64 0, .slice none 0 0, .slice none 0 0, .slice none 0 0, .slice none 0 0, .int .i64 0, .int .i64 0, .int .i64 0, .int .i64 0]) rfl (by kernel_rfl)) rfl (so rfl (op_st (cs' := [.slice none 0 0, .int .i64 0, .slice none 0 0, .slice none 0 0, .slice none 0 0, .slice none 0 0, .int .i64 0, .int .i64 0, .int .i64 0, .int .i64 0]) 0 rfl rfl rfl rfl rfl rfl (sv (EV.as rfl) rfl (re (nil_ k72 13 dq (nil_ k72 14 dq (nil_ k72 15 dq (nil_ k72 16 dq (nil_ k57 17 dq ?_)))))))))))))))))))))))))
        cases H
        exact rt Try.func11 rfl (.cell 0 (some 10) rfl rfl rfl (.tmp rfl .nil)) rfl [] [⟨5, 2, 1, true⟩, ⟨6, 2, 2, true⟩, ⟨7, 2, 3, true⟩, ⟨8, 2, 4, true⟩, ⟨9, 2, 5, true⟩] rfl rfl rfl rfl rfl ⟨_, _, _, _, _, _, _, _, _, _, rfl, rfl, rfl⟩
      ·
       have xc23 := bF c23; subst xc23
       refine ts 85 rfl rfl (sk rfl (sk rfl (sv (EV.pt rfl rfl rfl) rfl (sv (EV.mv rfl) rfl (sk rfl (sk rfl (sk rfl (sv (EV.pt rfl rfl rfl) rfl (sv (EV.mv rfl) rfl (sk rfl (sk rfl (sk rfl (sk rfl (sv (EV.pt rfl rfl rfl) rfl (re (pr [2, 5, 99] [0, 1] [0, 1, 2, 3, 4] rfl rfl rfl rfl (gt rfl rfl (gs (rg (sv (EV.bd (v := .agg #[.slice none 0 0, .int .i64 0, .slice none 0 0, .slice none 0 0, .slice none 0 0, .slice none 0 0, .int .i64 0, .int .i64 0, .int .i64 0, .int .i64 0]) rfl (by kernel_rfl)) rfl (so rfl (op_st (cs' := [.slice none 0 0, .int .i64 0, .slice none 0 0, .slice none 0 0, .slice none 0 0, .slice none 0 0, .int .i64 0, .int .i64 0, .int .i64 0, .int .i64 0]) 0 rfl rfl rfl rfl rfl rfl (sv (EV.as rfl) rfl (re (nil_ k72 13 dq (nil_ k72 14 dq (nil_ k72 15 dq (nil_ k72 16 dq (nil_ k57 17 dq ?_)))))))))))))))))))))))))))))
       cases H
       exact rt Try.func11 rfl (.cell 0 (some 10) rfl rfl rfl (.tmp rfl .nil)) rfl [] [⟨5, 2, 1, true⟩, ⟨6, 2, 2, true⟩, ⟨7, 2, 3, true⟩, ⟨8, 2, 4, true⟩, ⟨9, 2, 5, true⟩] rfl rfl rfl rfl rfl ⟨_, _, _, _, _, _, _, _, _, _, rfl, rfl, rfl⟩
     ·
      refine ov (EV.fa 0 rfl) rfl (xs [0] [0] rfl rfl rfl (one1 24 rfl rfl ?_))
      revert H; refine bdI ?_; rintro ⟨t29_0, t29_1⟩ A29 H
      refine cvc (f := 34) rfl (op_callM (impl_ParseSorter_1.ok k (rdOf ByteArray.empty t1 4) b6 t11_1 _ _ A29) [] [2] [0, 1] 9 rfl rfl rfl rfl rfl rfl rfl rfl ?_)
      rintro _ _ _ ⟨At29_0, ct29_0, rfl, rfl, rfl⟩
      refine nmE (en := [.sl 2 .str At1 ct1 t1 2 true, .sl 2 k72 At8_0 ct8_0 t8_0 4 true, .sl 2 k72 At10_0 ct10_0 t10_0 6 true, .sl 2 k72 At11_0 ct11_0 t11_0 8 true, .sl 2 k72 At29_0 ct29_0 t29_0 10 true]) (by kernel_rfl) (xs [0] [0] rfl rfl rfl (one1 26 rfl rfl (op_st (cs' := [.slice At8_0 t8_0.length ct8_0, .int .i64 0, .slice none 0 0, .slice none 0 0, .slice none 0 0, .slice none 0 0, .int .i64 0, .int .i64 0, .int .i64 0, .int .i64 0]) 1 rfl rfl rfl rfl rfl rfl (xs [0] [0] rfl rfl rfl (one1 27 rfl rfl (ov (EV.fa 1 rfl) rfl (xs [0] [0] rfl rfl rfl (one1 28 rfl rfl (op_st (cs' := [.slice At8_0 t8_0.length ct8_0, .int .i64 t9_0, .slice none 0 0, .slice none 0 0, .slice none 0 0, .slice none 0 0, .int .i64 0, .int .i64 0, .int .i64 0, .int .i64 0]) 1 rfl rfl rfl rfl rfl rfl (xs [0] [0] rfl rfl rfl (one1 29 rfl rfl (ov (EV.fa 2 rfl) rfl (xs [0] [0] rfl rfl rfl (one1 30 rfl rfl (op_st (cs' := [.slice At8_0 t8_0.length ct8_0, .int .i64 t9_0, .slice At10_0 t10_0.length ct10_0, .slice none 0 0, .slice none 0 0, .slice none 0 0, .int .i64 0, .int .i64 0, .int .i64 0, .int .i64 0]) 1 rfl rfl rfl rfl rfl rfl (xs [0] [0] rfl rfl rfl (one1 31 rfl rfl (ov (EV.fa 3 rfl) rfl (xs [0] [0] rfl rfl rfl (one1 32 rfl rfl (op_st (cs' := [.slice At8_0 t8_0.length ct8_0, .int .i64 t9_0, .slice At10_0 t10_0.length ct10_0, .slice At11_0 t11_0.length ct11_0, .slice none 0 0, .slice none 0 0, .int .i64 0, .int .i64 0, .int .i64 0, .int .i64 0]) 1 rfl rfl rfl rfl rfl rfl (xs [0] [0] rfl rfl rfl (one1 33 rfl rfl (ov (EV.fa 4 rfl) rfl (xn rfl (one1 34 rfl rfl (op_st (cs' := [.slice At8_0 t8_0.length ct8_0, .int .i64 t9_0, .slice At10_0 t10_0.length ct10_0, .slice At11_0 t11_0.length ct11_0, .slice At29_0 t29_0.length ct29_0, .slice none 0 0, .int .i64 0, .int .i64 0, .int .i64 0, .int .i64 0]) 1 rfl rfl rfl rfl rfl rfl (xn rfl (xd ?_)))))))))))))))))))))))))))))
      refine pr [0, 2, 4, 5, 6, 8] [0, 1, 2] [0, 1, 2, 3, 4] rfl rfl rfl rfl (gs (rg (sv (EV.mv rfl) rfl ?_)))
      revert H; refine ggI ?_; intro g30 H
      refine sv (EV.ix 0 rfl rfl rfl dq g30 rfl) rfl (sv (EV.le (v := .string (rdOf ByteArray.empty t1 5)) 5 0 none 0 ByteArray.empty rfl rfl rfl dq g30 rfl rfl rfl) rfl ?_)
      revert H; refine bdI ?_; rintro ⟨t31_0, t31_1⟩ A31 H
      refine so rfl (op_call (impl_parseRuns.ok k (rdOf ByteArray.empty t1 5) _ _ A31) [] 11 rfl rfl rfl rfl rfl ?_)
      rintro _ _ _ ⟨At31_0, ct31_0, rfl, rfl, rfl⟩
      refine sv (EV.mv rfl) rfl (sv (EV.ex rfl rfl) rfl (sv (EV.ex rfl rfl) rfl (sv (EV.as rfl) rfl (sv (EV.as rfl) rfl (re (pr [0, 2, 4, 5, 6, 8, 9, 10] [0, 1, 2] [0, 1, 2, 3, 4, 5] rfl rfl rfl rfl (gs ?_)))))))
      revert H; refine ggI ?_; intro g32 H
      revert H; refine ggI ?_; intro g33 H
      revert H; refine ggI ?_; intro g34 H
      revert H; refine ggI ?_; intro g35 H
      refine dr [0] [0, 1, 2, 3, 4, 5] [29, 30] 31 rfl rfl rfl rfl (xv 0 [0] [0, 1, 2, 3, 4, 5] rfl (EV.mv rfl) rfl rfl rfl rfl (xv 1 [0] [0, 1, 2, 3, 4, 5] rfl (EV.mv rfl) rfl rfl rfl rfl (xv 2 [0] [0, 1, 2, 3, 4, 5] rfl (EV.mv rfl) rfl rfl rfl rfl (xv 3 [0] [0, 1, 2, 3, 4, 5] rfl (EV.ix 0 rfl rfl rfl dq g32 rfl) rfl rfl rfl rfl (xv 4 [0] [0, 1, 2, 3, 4, 5] rfl (EV.le (v := .string (rdOf ByteArray.empty t1 6)) 6 0 none 0 ByteArray.empty rfl rfl rfl dq g32 rfl rfl rfl) rfl rfl rfl rfl (xv 6 [0] [0, 1, 2, 3, 4, 5] rfl (EV.mv rfl) rfl rfl rfl rfl (xv 7 [0] [0, 1, 2, 3, 4, 5] rfl (EV.mv rfl) rfl rfl rfl rfl (xv 8 [0] [0, 1, 2, 3, 4, 5] rfl (EV.ix 0 rfl rfl rfl dq g33 rfl) rfl rfl rfl rfl (xv 9 [0] [0, 1, 2, 3, 4, 5] rfl (EV.le (v := .string (rdOf ByteArray.empty t1 7)) 7 0 none 0 ByteArray.empty rfl rfl rfl dq g33 rfl rfl rfl) rfl rfl rfl rfl (xv 11 [0] [0, 1, 2, 3, 4, 5] rfl (EV.mv rfl) rfl rfl rfl rfl (xv 12 [0] [0, 1, 2, 3, 4, 5] rfl (EV.mv rfl) rfl rfl rfl rfl (xv 13 [0] [0, 1, 2, 3, 4, 5] rfl (EV.ix 0 rfl rfl rfl dq g34 rfl) rfl rfl rfl rfl (xv 14 [0] [0, 1, 2, 3, 4, 5] rfl (EV.le (v := .string (rdOf ByteArray.empty t1 8)) 8 0 none 0 ByteArray.empty rfl rfl rfl dq g34 rfl rfl rfl) rfl rfl rfl rfl (xv 16 [0] [0, 1, 2, 3, 4, 5] rfl (EV.mv rfl) rfl rfl rfl rfl (xv 17 [0] [0, 1, 2, 3, 4, 5] rfl (EV.mv rfl) rfl rfl rfl rfl (xv 18 [0] [0, 1, 2, 3, 4, 5] rfl (EV.ix 0 rfl rfl rfl dq g35 rfl) rfl rfl rfl rfl (xv 19 [0] [0, 1, 2, 3, 4, 5] rfl (EV.le (v := .string (rdOf ByteArray.empty t1 9)) 9 0 none 0 ByteArray.empty rfl rfl rfl dq g35 rfl rfl rfl) rfl rfl rfl rfl (xv 21 [0] [0, 1, 2, 3, 4, 5] rfl (EV.fa 5 rfl) rfl rfl rfl rfl (one1 5 rfl rfl ?_)))))))))))))))))))
      revert H; refine bdI ?_; rintro ⟨t36_0, t36_1⟩ A36 H
      refine cvc (f := 36) rfl (op_callM (impl_ParseSorter_2.ok k (rdOf ByteArray.empty t1 6) b6 t29_1 _ _ A36) [] [2] [0, 1] 13 rfl rfl rfl rfl rfl rfl rfl rfl ?_)
      rintro _ _ _ ⟨rfl, rfl, rfl⟩
      refine nmE (en := [.sl 2 .str At1 ct1 t1 2 true, .sl 2 k72 At8_0 ct8_0 t8_0 4 true, .sl 2 k72 At10_0 ct10_0 t10_0 6 true, .sl 2 k72 At11_0 ct11_0 t11_0 8 true, .sl 2 k72 At29_0 ct29_0 t29_0 10 true, .sl 2 k57 At31_0 ct31_0 t31_0 12 true]) (by kernel_rfl) (xs [0] [0, 1, 2, 3, 4, 5] rfl rfl rfl (one1 10 rfl rfl ?_))
      revert H; refine bdI ?_; rintro ⟨t37_0, t37_1⟩ A37 H
      refine cvc (f := 36) rfl (op_callM (impl_ParseSorter_2.ok k (rdOf ByteArray.empty t1 7) b6 t36_1 _ _ A37) [] [2] [0, 1] 13 rfl rfl rfl rfl rfl rfl rfl rfl ?_)
      rintro _ _ _ ⟨rfl, rfl, rfl⟩
      refine nmE (en := [.sl 2 .str At1 ct1 t1 2 true, .sl 2 k72 At8_0 ct8_0 t8_0 4 true, .sl 2 k72 At10_0 ct10_0 t10_0 6 true, .sl 2 k72 At11_0 ct11_0 t11_0 8 true, .sl 2 k72 At29_0 ct29_0 t29_0 10 true, .sl 2 k57 At31_0 ct31_0 t31_0 12 true]) (by kernel_rfl) (xs [0] [0, 1, 2, 3, 4, 5] rfl rfl rfl (one1 15 rfl rfl ?_))
      revert H; refine bdI ?_; rintro ⟨t38_0, t38_1⟩ A38 H
      refine cvc (f := 36) rfl (op_callM (impl_ParseSorter_2.ok k (rdOf ByteArray.empty t1 8) b6 t37_1 _ _ A38) [] [2] [0, 1] 13 rfl rfl rfl rfl rfl rfl rfl rfl ?_)
      rintro _ _ _ ⟨rfl, rfl, rfl⟩
      refine nmE (en := [.sl 2 .str At1 ct1 t1 2 true, .sl 2 k72 At8_0 ct8_0 t8_0 4 true, .sl 2 k72 At10_0 ct10_0 t10_0 6 true, .sl 2 k72 At11_0 ct11_0 t11_0 8 true, .sl 2 k72 At29_0 ct29_0 t29_0 10 true, .sl 2 k57 At31_0 ct31_0 t31_0 12 true]) (by kernel_rfl) (xs [0] [0, 1, 2, 3, 4, 5] rfl rfl rfl (one1 20 rfl rfl ?_))
      revert H; refine bdI ?_; rintro ⟨t39_0, t39_1⟩ A39 H
      refine cvc (f := 36) rfl (op_callM (impl_ParseSorter_2.ok k (rdOf ByteArray.empty t1 9) b6 t38_1 _ _ A39) [] [2] [0, 1] 13 rfl rfl rfl rfl rfl rfl rfl rfl ?_)
      rintro _ _ _ ⟨rfl, rfl, rfl⟩
      refine nmE (en := [.sl 2 .str At1 ct1 t1 2 true, .sl 2 k72 At8_0 ct8_0 t8_0 4 true, .sl 2 k72 At10_0 ct10_0 t10_0 6 true, .sl 2 k72 At11_0 ct11_0 t11_0 8 true, .sl 2 k72 At29_0 ct29_0 t29_0 10 true, .sl 2 k57 At31_0 ct31_0 t31_0 12 true]) (by kernel_rfl) (xs [0] [0, 1, 2, 3, 4, 5] rfl rfl rfl (one1 22 rfl rfl (op_st (cs' := [.slice At8_0 t8_0.length ct8_0, .int .i64 t9_0, .slice At10_0 t10_0.length ct10_0, .slice At11_0 t11_0.length ct11_0, .slice At29_0 t29_0.length ct29_0, .slice At31_0 t31_0.length ct31_0, .int .i64 0, .int .i64 0, .int .i64 0, .int .i64 0]) 1 rfl rfl rfl rfl rfl rfl (xs [0] [0, 1, 2, 3, 4, 5] rfl rfl rfl (one1 23 rfl rfl (ov (EV.fa 6 rfl) rfl (xs [0] [0, 1, 2, 3, 4, 5] rfl rfl rfl (one1 24 rfl rfl (op_st (cs' := [.slice At8_0 t8_0.length ct8_0, .int .i64 t9_0, .slice At10_0 t10_0.length ct10_0, .slice At11_0 t11_0.length ct11_0, .slice At29_0 t29_0.length ct29_0, .slice At31_0 t31_0.length ct31_0, .int .i64 t36_0, .int .i64 0, .int .i64 0, .int .i64 0]) 1 rfl rfl rfl rfl rfl rfl (xs [0] [0, 1, 2, 3, 4, 5] rfl rfl rfl (one1 25 rfl rfl (ov (EV.fa 7 rfl) rfl (xs [0] [0, 1, 2, 3, 4, 5] rfl rfl rfl (one1 26 rfl rfl (op_st (cs' := [.slice At8_0 t8_0.length ct8_0, .int .i64 t9_0, .slice At10_0 t10_0.length ct10_0, .slice At11_0 t11_0.length ct11_0, .slice At29_0 t29_0.length ct29_0, .slice At31_0 t31_0.length ct31_0, .int .i64 t36_0, .int .i64 t37_0, .int .i64 0, .int .i64 0]) 1 rfl rfl rfl rfl rfl rfl (xs [0] [0, 1, 2, 3, 4, 5] rfl rfl rfl (one1 27 rfl rfl (ov (EV.fa 8 rfl) rfl (xs [0] [0, 1, 2, 3, 4, 5] rfl rfl rfl (one1 28 rfl rfl (op_st (cs' := [.slice At8_0 t8_0.length ct8_0, .int .i64 t9_0, .slice At10_0 t10_0.length ct10_0, .slice At11_0 t11_0.length ct11_0, .slice At29_0 t29_0.length ct29_0, .slice At31_0 t31_0.length ct31_0, .int .i64 t36_0, .int .i64 t37_0, .int .i64 t38_0, .int .i64 0]) 1 rfl rfl rfl rfl rfl rfl (xs [0] [0, 1, 2, 3, 4, 5] rfl rfl rfl (one1 29 rfl rfl (ov (EV.fa 9 rfl) rfl (xn rfl (one1 30 rfl rfl (op_st (cs' := [.slice At8_0 t8_0.length ct8_0, .int .i64 t9_0, .slice At10_0 t10_0.length ct10_0, .slice At11_0 t11_0.length ct11_0, .slice At29_0 t29_0.length ct29_0, .slice At31_0 t31_0.length ct31_0, .int .i64 t36_0, .int .i64 t37_0, .int .i64 t38_0, .int .i64 t39_0]) 1 rfl rfl rfl rfl rfl rfl (xn rfl (xd ?_)))))))))))))))))))))))))))))
      refine pr [0, 2, 5, 6, 10] [0, 1, 2] [1, 2, 3, 4, 5] rfl rfl rfl rfl (gs (gs (rg (sv (EV.ld 2 none rfl rfl rfl) rfl (sv (EV.nt rfl) rfl (sv (EV.mv rfl) rfl ?_))))))
      revert H; refine ifsI ?_ ?_ <;> intro c40 H
      ·
       subst c40
       refine ts 85 rfl rfl (sv (EV.mv rfl) rfl (sv (EV.nt rfl) rfl (sv (EV.pf rfl rfl rfl) rfl (sv (EV.mv rfl) rfl ?_))))
       revert H; refine ifsI ?_ ?_ <;> intro c41 H
       ·
        subst c41
        refine ts 89 rfl rfl (sv (EV.ld (v := .agg #[.slice At8_0 t8_0.length ct8_0, .int .i64 t9_0, .slice At10_0 t10_0.length ct10_0, .slice At11_0 t11_0.length ct11_0, .slice At29_0 t29_0.length ct29_0, .slice At31_0 t31_0.length ct31_0, .int .i64 t36_0, .int .i64 t37_0, .int .i64 t38_0, .int .i64 t39_0]) 1 (some 10) rfl rfl rfl) rfl ?_)
        revert H; refine bdI ?_; rintro t42 A42 H
        refine so rfl (op_call (impl_IsValidSorter.ok k t8_0 At8_0 ct8_0 t9_0 t10_0 At10_0 ct10_0 t11_0 At11_0 ct11_0 t29_0 At29_0 ct29_0 t31_0 At31_0 ct31_0 t36_0 t37_0 t38_0 t39_0 _ A42) [⟨0, 0, 0, false⟩, ⟨1, 0, 0, false⟩, ⟨2, 0, 0, false⟩, ⟨3, 0, 0, false⟩, ⟨4, 0, 0, false⟩] 13 rfl rfl rfl rfl rfl ?_)
        rintro _ _ _ ⟨rfl, rfl, rfl⟩
        refine sv (EV.nt rfl) rfl (sv (EV.pf rfl rfl rfl) rfl (sv (EV.mv rfl) rfl ?_))
        revert H; refine ifsI ?_ ?_ <;> intro c43 H
        ·
         subst c43
         refine ts 94 rfl rfl (sv (EV.ld (v := .agg #[.slice At8_0 t8_0.length ct8_0, .int .i64 t9_0, .slice At10_0 t10_0.length ct10_0, .slice At11_0 t11_0.length ct11_0, .slice At29_0 t29_0.length ct29_0, .slice At31_0 t31_0.length ct31_0, .int .i64 t36_0, .int .i64 t37_0, .int .i64 t38_0, .int .i64 t39_0]) 1 (some 10) rfl rfl rfl) rfl ?_)
         revert H; refine bdI ?_; rintro t44 A44 H
         refine so rfl (op_call (impl_FormatSorter.ok k t8_0 At8_0 ct8_0 t9_0 t10_0 At10_0 ct10_0 t11_0 At11_0 ct11_0 t29_0 At29_0 ct29_0 t31_0 At31_0 ct31_0 t36_0 t37_0 t38_0 t39_0 _ A44) [⟨0, 0, 0, false⟩, ⟨1, 0, 0, false⟩, ⟨2, 0, 0, false⟩, ⟨3, 0, 0, false⟩, ⟨4, 0, 0, false⟩] 13 rfl rfl rfl rfl rfl ?_)
         rintro _ _ _ ⟨rfl, rfl, rfl⟩
         refine sv (EV.mv rfl) rfl (sv (EV.nes rfl rfl) rfl (sv (EV.pf rfl rfl rfl) rfl (re (pr [2, 5, 99] [0, 1] [0, 1, 2, 3, 4] rfl rfl rfl rfl ?_))))
         revert H; refine ifsI ?_ ?_ <;> intro c45 H
         ·
          refine gf rfl (nF c45) (gk (gs (rg (sv (EV.ld (v := .agg #[.slice At8_0 t8_0.length ct8_0, .int .i64 t9_0, .slice At10_0 t10_0.length ct10_0, .slice At11_0 t11_0.length ct11_0, .slice At29_0 t29_0.length ct29_0, .slice At31_0 t31_0.length ct31_0, .int .i64 t36_0, .int .i64 t37_0, .int .i64 t38_0, .int .i64 t39_0]) 1 (some 10) rfl rfl rfl) rfl (so rfl (op_st (cs' := [.slice At8_0 t8_0.length ct8_0, .int .i64 t9_0, .slice At10_0 t10_0.length ct10_0, .slice At11_0 t11_0.length ct11_0, .slice At29_0 t29_0.length ct29_0, .slice At31_0 t31_0.length ct31_0, .int .i64 t36_0, .int .i64 t37_0, .int .i64 t38_0, .int .i64 t39_0]) 0 rfl rfl rfl rfl rfl rfl (sv (EV.as rfl) rfl (re ?_))))))))
          cases H
          exact rt Try.func11 rfl (.cell 0 (some 10) rfl rfl rfl (.tmp rfl .nil)) rfl [] [⟨0, 2, 1, true⟩, ⟨1, 2, 2, true⟩, ⟨2, 2, 3, true⟩, ⟨3, 2, 4, true⟩, ⟨4, 2, 5, true⟩] rfl rfl rfl rfl rfl ⟨_, _, _, _, _, _, _, _, _, _, rfl, rfl, rfl⟩
         ·
          refine gt rfl (nT c45) (gs (rg (sv (EV.bd (v := .agg #[.slice none 0 0, .int .i64 0, .slice none 0 0, .slice none 0 0, .slice none 0 0, .slice none 0 0, .int .i64 0, .int .i64 0, .int .i64 0, .int .i64 0]) rfl (by kernel_rfl)) rfl (so rfl (op_st (cs' := [.slice none 0 0, .int .i64 0, .slice none 0 0, .slice none 0 0, .slice none 0 0, .slice none 0 0, .int .i64 0, .int .i64 0, .int .i64 0, .int .i64 0]) 0 rfl rfl rfl rfl rfl rfl (sv (EV.as rfl) rfl (re (nil_ k72 13 dq (nil_ k72 14 dq (nil_ k72 15 dq (nil_ k72 16 dq (nil_ k57 17 dq ?_))))))))))))
          cases H
          exact rt Try.func11 rfl (.cell 0 (some 10) rfl rfl rfl (.tmp rfl .nil)) rfl [] [⟨5, 2, 1, true⟩, ⟨6, 2, 2, true⟩, ⟨7, 2, 3, true⟩, ⟨8, 2, 4, true⟩, ⟨9, 2, 5, true⟩] rfl rfl rfl rfl rfl ⟨_, _, _, _, _, _, _, _, _, _, rfl, rfl, rfl⟩
        ·
         have xc43 := bF c43; subst xc43
         refine ts 94 rfl rfl (sk rfl (sk rfl (sk rfl (sk rfl (sv (EV.pt rfl rfl rfl) rfl (re (pr [2, 5, 99] [0, 1] [0, 1, 2, 3, 4] rfl rfl rfl rfl (gt rfl rfl (gs (rg (sv (EV.bd (v := .agg #[.slice none 0 0, .int .i64 0, .slice none 0 0, .slice none 0 0, .slice none 0 0, .slice none 0 0, .int .i64 0, .int .i64 0, .int .i64 0, .int .i64 0]) rfl (by kernel_rfl)) rfl (so rfl (op_st (cs' := [.slice none 0 0, .int .i64 0, .slice none 0 0, .slice none 0 0, .slice none 0 0, .slice none 0 0, .int .i64 0, .int .i64 0, .int .i64 0, .int .i64 0]) 0 rfl rfl rfl rfl rfl rfl (sv (EV.as rfl) rfl (re (nil_ k72 13 dq (nil_ k72 14 dq (nil_ k72 15 dq (nil_ k72 16 dq (nil_ k57 17 dq ?_))))))))))))))))))))
         cases H
         exact rt Try.func11 rfl (.cell 0 (some 10) rfl rfl rfl (.tmp rfl .nil)) rfl [] [⟨5, 2, 1, true⟩, ⟨6, 2, 2, true⟩, ⟨7, 2, 3, true⟩, ⟨8, 2, 4, true⟩, ⟨9, 2, 5, true⟩] rfl rfl rfl rfl rfl ⟨_, _, _, _, _, _, _, _, _, _, rfl, rfl, rfl⟩
       ·
        have xc41 := bF c41; subst xc41
        refine ts 89 rfl rfl (sk rfl (sk rfl (sk rfl (sv (EV.pt rfl rfl rfl) rfl (sv (EV.mv rfl) rfl (sk rfl (sk rfl (sk rfl (sk rfl (sv (EV.pt rfl rfl rfl) rfl (re (pr [2, 5, 99] [0, 1] [0, 1, 2, 3, 4] rfl rfl rfl rfl (gt rfl rfl (gs (rg (sv (EV.bd (v := .agg #[.slice none 0 0, .int .i64 0, .slice none 0 0, .slice none 0 0, .slice none 0 0, .slice none 0 0, .int .i64 0, .int .i64 0, .int .i64 0, .int .i64 0]) rfl (by kernel_rfl)) rfl (so rfl (op_st (cs' := [.slice none 0 0, .int .i64 0, .slice none 0 0, .slice none 0 0, .slice none 0 0, .slice none 0 0, .int .i64 0, .int .i64 0, .int .i64 0, .int .i64 0]) 0 rfl rfl rfl rfl rfl rfl (sv (EV.as rfl) rfl (re (nil_ k72 13 dq (nil_ k72 14 dq (nil_ k72 15 dq (nil_ k72 16 dq (nil_ k57 17 dq ?_)))))))))))))))))))))))))
        cases H
        exact rt Try.func11 rfl (.cell 0 (some 10) rfl rfl rfl (.tmp rfl .nil)) rfl [] [⟨5, 2, 1, true⟩, ⟨6, 2, 2, true⟩, ⟨7, 2, 3, true⟩, ⟨8, 2, 4, true⟩, ⟨9, 2, 5, true⟩] rfl rfl rfl rfl rfl ⟨_, _, _, _, _, _, _, _, _, _, rfl, rfl, rfl⟩
      ·
       have xc40 := bF c40; subst xc40
       refine ts 85 rfl rfl (sk rfl (sk rfl (sv (EV.pt rfl rfl rfl) rfl (sv (EV.mv rfl) rfl (sk rfl (sk rfl (sk rfl (sv (EV.pt rfl rfl rfl) rfl (sv (EV.mv rfl) rfl (sk rfl (sk rfl (sk rfl (sk rfl (sv (EV.pt rfl rfl rfl) rfl (re (pr [2, 5, 99] [0, 1] [0, 1, 2, 3, 4] rfl rfl rfl rfl (gt rfl rfl (gs (rg (sv (EV.bd (v := .agg #[.slice none 0 0, .int .i64 0, .slice none 0 0, .slice none 0 0, .slice none 0 0, .slice none 0 0, .int .i64 0, .int .i64 0, .int .i64 0, .int .i64 0]) rfl (by kernel_rfl)) rfl (so rfl (op_st (cs' := [.slice none 0 0, .int .i64 0, .slice none 0 0, .slice none 0 0, .slice none 0 0, .slice none 0 0, .int .i64 0, .int .i64 0, .int .i64 0, .int .i64 0]) 0 rfl rfl rfl rfl rfl rfl (sv (EV.as rfl) rfl (re (nil_ k72 13 dq (nil_ k72 14 dq (nil_ k72 15 dq (nil_ k72 16 dq (nil_ k57 17 dq ?_)))))))))))))))))))))))))))))
       cases H
       exact rt Try.func11 rfl (.cell 0 (some 10) rfl rfl rfl (.tmp rfl .nil)) rfl [] [⟨5, 2, 1, true⟩, ⟨6, 2, 2, true⟩, ⟨7, 2, 3, true⟩, ⟨8, 2, 4, true⟩, ⟨9, 2, 5, true⟩] rfl rfl rfl rfl rfl ⟨_, _, _, _, _, _, _, _, _, _, rfl, rfl, rfl⟩
    ·
     refine ov (EV.fa 0 rfl) rfl (xs [0] [0] rfl rfl rfl (one1 19 rfl rfl ?_))
     revert H; refine bdI ?_; rintro ⟨t46_0, t46_1⟩ A46 H
     refine cvc (f := 34) rfl (op_callM (impl_ParseSorter_1.ok k (rdOf ByteArray.empty t1 3) b6 t10_1 _ _ A46) [] [2] [0, 1] 7 rfl rfl rfl rfl rfl rfl rfl rfl ?_)
     rintro _ _ _ ⟨At46_0, ct46_0, rfl, rfl, rfl⟩
     refine nmE (en := [.sl 2 .str At1 ct1 t1 2 true, .sl 2 k72 At8_0 ct8_0 t8_0 4 true, .sl 2 k72 At10_0 ct10_0 t10_0 6 true, .sl 2 k72 At46_0 ct46_0 t46_0 8 true]) (by kernel_rfl) (xs [0] [0] rfl rfl rfl (one1 24 rfl rfl ?_))
     revert H; refine bdI ?_; rintro ⟨t47_0, t47_1⟩ A47 H
     refine cvc (f := 34) rfl (op_callM (impl_ParseSorter_1.ok k (rdOf ByteArray.empty t1 4) b6 t46_1 _ _ A47) [] [2] [0, 1] 9 rfl rfl rfl rfl rfl rfl rfl rfl ?_)
     rintro _ _ _ ⟨At47_0, ct47_0, rfl, rfl, rfl⟩
     refine nmE (en := [.sl 2 .str At1 ct1 t1 2 true, .sl 2 k72 At8_0 ct8_0 t8_0 4 true, .sl 2 k72 At10_0 ct10_0 t10_0 6 true, .sl 2 k72 At46_0 ct46_0 t46_0 8 true, .sl 2 k72 At47_0 ct47_0 t47_0 10 true]) (by kernel_rfl) (xs [0] [0] rfl rfl rfl (one1 26 rfl rfl (op_st (cs' := [.slice At8_0 t8_0.length ct8_0, .int .i64 0, .slice none 0 0, .slice none 0 0, .slice none 0 0, .slice none 0 0, .int .i64 0, .int .i64 0, .int .i64 0, .int .i64 0]) 1 rfl rfl rfl rfl rfl rfl (xs [0] [0] rfl rfl rfl (one1 27 rfl rfl (ov (EV.fa 1 rfl) rfl (xs [0] [0] rfl rfl rfl (one1 28 rfl rfl (op_st (cs' := [.slice At8_0 t8_0.length ct8_0, .int .i64 t9_0, .slice none 0 0, .slice none 0 0, .slice none 0 0, .slice none 0 0, .int .i64 0, .int .i64 0, .int .i64 0, .int .i64 0]) 1 rfl rfl rfl rfl rfl rfl (xs [0] [0] rfl rfl rfl (one1 29 rfl rfl (ov (EV.fa 2 rfl) rfl (xs [0] [0] rfl rfl rfl (one1 30 rfl rfl (op_st (cs' := [.slice At8_0 t8_0.length ct8_0, .int .i64 t9_0, .slice At10_0 t10_0.length ct10_0, .slice none 0 0, .slice none 0 0, .slice none 0 0, .int .i64 0, .int .i64 0, .int .i64 0, .int .i64 0]) 1 rfl rfl rfl rfl rfl rfl (xs [0] [0] rfl rfl rfl (one1 31 rfl rfl (ov (EV.fa 3 rfl) rfl (xs [0] [0] rfl rfl rfl (one1 32 rfl rfl (op_st (cs' := [.slice At8_0 t8_0.length ct8_0, .int .i64 t9_0, .slice At10_0 t10_0.length ct10_0, .slice At46_0 t46_0.length ct46_0, .slice none 0 0, .slice none 0 0, .int .i64 0, .int .i64 0, .int .i64 0, .int .i64 0]) 1 rfl rfl rfl rfl rfl rfl (xs [0] [0] rfl rfl rfl (one1 33 rfl rfl (ov (EV.fa 4 rfl) rfl (xn rfl (one1 34 rfl rfl (op_st (cs' := [.slice At8_0 t8_0.length ct8_0, .int .i64 t9_0, .slice At10_0 t10_0.length ct10_0, .slice At46_0 t46_0.length ct46_0, .slice At47_0 t47_0.length ct47_0, .slice none 0 0, .int .i64 0, .int .i64 0, .int .i64 0, .int .i64 0]) 1 rfl rfl rfl rfl rfl rfl (xn rfl (xd ?_)))))))))))))))))))))))))))))
     refine pr [0, 2, 4, 5, 6, 8] [0, 1, 2] [0, 1, 2, 3, 4] rfl rfl rfl rfl (gs (rg (sv (EV.mv rfl) rfl ?_)))
     revert H; refine ggI ?_; intro g48 H
     refine sv (EV.ix 0 rfl rfl rfl dq g48 rfl) rfl (sv (EV.le (v := .string (rdOf ByteArray.empty t1 5)) 5 0 none 0 ByteArray.empty rfl rfl rfl dq g48 rfl rfl rfl) rfl ?_)
     revert H; refine bdI ?_; rintro ⟨t49_0, t49_1⟩ A49 H
     refine so rfl (op_call (impl_parseRuns.ok k (rdOf ByteArray.empty t1 5) _ _ A49) [] 11 rfl rfl rfl rfl rfl ?_)
     rintro _ _ _ ⟨At49_0, ct49_0, rfl, rfl, rfl⟩
     refine sv (EV.mv rfl) rfl (sv (EV.ex rfl rfl) rfl (sv (EV.ex rfl rfl) rfl (sv (EV.as rfl) rfl (sv (EV.as rfl) rfl (re (pr [0, 2, 4, 5, 6, 8, 9, 10] [0, 1, 2] [0, 1, 2, 3, 4, 5] rfl rfl rfl rfl (gs ?_)))))))
     revert H; refine ggI ?_; intro g50 H
     revert H; refine ggI ?_; intro g51 H
     revert H; refine ggI ?_; intro g52 H
     revert H; refine ggI ?_; intro g53 H
     refine dr [0] [0, 1, 2, 3, 4, 5] [29, 30] 31 rfl rfl rfl rfl (xv 0 [0] [0, 1, 2, 3, 4, 5] rfl (EV.mv rfl) rfl rfl rfl rfl (xv 1 [0] [0, 1, 2, 3, 4, 5] rfl (EV.mv rfl) rfl rfl rfl rfl (xv 2 [0] [0, 1, 2, 3, 4, 5] rfl (EV.mv rfl) rfl rfl rfl rfl (xv 3 [0] [0, 1, 2, 3, 4, 5] rfl (EV.ix 0 rfl rfl rfl dq g50 rfl) rfl rfl rfl rfl (xv 4 [0] [0, 1, 2, 3, 4, 5] rfl (EV.le (v := .string (rdOf ByteArray.empty t1 6)) 6 0 none 0 ByteArray.empty rfl rfl rfl dq g50 rfl rfl rfl) rfl rfl rfl rfl (xv 6 [0] [0, 1, 2, 3, 4, 5] rfl (EV.mv rfl) rfl rfl rfl rfl (xv 7 [0] [0, 1, 2, 3, 4, 5] rfl (EV.mv rfl) rfl rfl rfl rfl (xv 8 [0] [0, 1, 2, 3, 4, 5] rfl (EV.ix 0 rfl rfl rfl dq g51 rfl) rfl rfl rfl rfl (xv 9 [0] [0, 1, 2, 3, 4, 5] rfl (EV.le (v := .string (rdOf ByteArray.empty t1 7)) 7 0 none 0 ByteArray.empty rfl rfl rfl dq g51 rfl rfl rfl) rfl rfl rfl rfl (xv 11 [0] [0, 1, 2, 3, 4, 5] rfl (EV.mv rfl) rfl rfl rfl rfl (xv 12 [0] [0, 1, 2, 3, 4, 5] rfl (EV.mv rfl) rfl rfl rfl rfl (xv 13 [0] [0, 1, 2, 3, 4, 5] rfl (EV.ix 0 rfl rfl rfl dq g52 rfl) rfl rfl rfl rfl (xv 14 [0] [0, 1, 2, 3, 4, 5] rfl (EV.le (v := .string (rdOf ByteArray.empty t1 8)) 8 0 none 0 ByteArray.empty rfl rfl rfl dq g52 rfl rfl rfl) rfl rfl rfl rfl (xv 16 [0] [0, 1, 2, 3, 4, 5] rfl (EV.mv rfl) rfl rfl rfl rfl (xv 17 [0] [0, 1, 2, 3, 4, 5] rfl (EV.mv rfl) rfl rfl rfl rfl (xv 18 [0] [0, 1, 2, 3, 4, 5] rfl (EV.ix 0 rfl rfl rfl dq g53 rfl) rfl rfl rfl rfl (xv 19 [0] [0, 1, 2, 3, 4, 5] rfl (EV.le (v := .string (rdOf ByteArray.empty t1 9)) 9 0 none 0 ByteArray.empty rfl rfl rfl dq g53 rfl rfl rfl) rfl rfl rfl rfl (xv 21 [0] [0, 1, 2, 3, 4, 5] rfl (EV.fa 5 rfl) rfl rfl rfl rfl (one1 5 rfl rfl ?_)))))))))))))))))))
     revert H; refine bdI ?_; rintro ⟨t54_0, t54_1⟩ A54 H
     refine cvc (f := 36) rfl (op_callM (impl_ParseSorter_2.ok k (rdOf ByteArray.empty t1 6) b6 t47_1 _ _ A54) [] [2] [0, 1] 13 rfl rfl rfl rfl rfl rfl rfl rfl ?_)
     rintro _ _ _ ⟨rfl, rfl, rfl⟩
     refine nmE (en := [.sl 2 .str At1 ct1 t1 2 true, .sl 2 k72 At8_0 ct8_0 t8_0 4 true, .sl 2 k72 At10_0 ct10_0 t10_0 6 true, .sl 2 k72 At46_0 ct46_0 t46_0 8 true, .sl 2 k72 At47_0 ct47_0 t47_0 10 true, .sl 2 k57 At49_0 ct49_0 t49_0 12 true]) (by kernel_rfl) (xs [0] [0, 1, 2, 3, 4, 5] rfl rfl rfl (one1 10 rfl rfl ?_))
     revert H; refine bdI ?_; rintro ⟨t55_0, t55_1⟩ A55 H
     refine cvc (f := 36) rfl (op_callM (impl_ParseSorter_2.ok k (rdOf ByteArray.empty t1 7) b6 t54_1 _ _ A55) [] [2] [0, 1] 13 rfl rfl rfl rfl rfl rfl rfl rfl ?_)
     rintro _ _ _ ⟨rfl, rfl, rfl⟩
     refine nmE (en := [.sl 2 .str At1 ct1 t1 2 true, .sl 2 k72 At8_0 ct8_0 t8_0 4 true, .sl 2 k72 At10_0 ct10_0 t10_0 6 true, .sl 2 k72 At46_0 ct46_0 t46_0 8 true, .sl 2 k72 At47_0 ct47_0 t47_0 10 true, .sl 2 k57 At49_0 ct49_0 t49_0 12 true]) (by kernel_rfl) (xs [0] [0, 1, 2, 3, 4, 5] rfl rfl rfl (one1 15 rfl rfl ?_))
     revert H; refine bdI ?_; rintro ⟨t56_0, t56_1⟩ A56 H
     refine cvc (f := 36) rfl (op_callM (impl_ParseSorter_2.ok k (rdOf ByteArray.empty t1 8) b6 t55_1 _ _ A56) [] [2] [0, 1] 13 rfl rfl rfl rfl rfl rfl rfl rfl ?_)
     rintro _ _ _ ⟨rfl, rfl, rfl⟩
     refine nmE (en := [.sl 2 .str At1 ct1 t1 2 true, .sl 2 k72 At8_0 ct8_0 t8_0 4 true, .sl 2 k72 At10_0 ct10_0 t10_0 6 true, .sl 2 k72 At46_0 ct46_0 t46_0 8 true, .sl 2 k72 At47_0 ct47_0 t47_0 10 true, .sl 2 k57 At49_0 ct49_0 t49_0 12 true]) (by kernel_rfl) (xs [0] [0, 1, 2, 3, 4, 5] rfl rfl rfl (one1 20 rfl rfl ?_))
     revert H; refine bdI ?_; rintro ⟨t57_0, t57_1⟩ A57 H
     refine cvc (f := 36) rfl (op_callM (impl_ParseSorter_2.ok k (rdOf ByteArray.empty t1 9) b6 t56_1 _ _ A57) [] [2] [0, 1] 13 rfl rfl rfl rfl rfl rfl rfl rfl ?_)
     rintro _ _ _ ⟨rfl, rfl, rfl⟩
     refine nmE (en := [.sl 2 .str At1 ct1 t1 2 true, .sl 2 k72 At8_0 ct8_0 t8_0 4 true, .sl 2 k72 At10_0 ct10_0 t10_0 6 true, .sl 2 k72 At46_0 ct46_0 t46_0 8 true, .sl 2 k72 At47_0 ct47_0 t47_0 10 true, .sl 2 k57 At49_0 ct49_0 t49_0 12 true]) (by kernel_rfl) (xs [0] [0, 1, 2, 3, 4, 5] rfl rfl rfl (one1 22 rfl rfl (op_st (cs' := [.slice At8_0 t8_0.length ct8_0, .int .i64 t9_0, .slice At10_0 t10_0.length ct10_0, .slice At46_0 t46_0.length ct46_0, .slice At47_0 t47_0.length ct47_0, .slice At49_0 t49_0.length ct49_0, .int .i64 0, .int .i64 0, .int .i64 0, .int .i64 0]) 1 rfl rfl rfl rfl rfl rfl (xs [0] [0, 1, 2, 3, 4, 5] rfl rfl rfl (one1 23 rfl rfl (ov (EV.fa 6 rfl) rfl (xs [0] [0, 1, 2, 3, 4, 5] rfl rfl rfl (one1 24 rfl rfl (op_st (cs' := [.slice At8_0 t8_0.length ct8_0, .int .i64 t9_0, .slice At10_0 t10_0.length ct10_0, .slice At46_0 t46_0.length ct46_0, .slice At47_0 t47_0.length ct47_0, .slice At49_0 t49_0.length ct49_0, .int .i64 t54_0, .int .i64 0, .int .i64 0, .int .i64 0]) 1 rfl rfl rfl rfl rfl rfl (xs [0] [0, 1, 2, 3, 4, 5] rfl rfl rfl (one1 25 rfl rfl (ov (EV.fa 7 rfl) rfl (xs [0] [0, 1, 2, 3, 4, 5] rfl rfl rfl (one1 26 rfl rfl (op_st (cs' := [.slice At8_0 t8_0.length ct8_0, .int .i64 t9_0, .slice At10_0 t10_0.length ct10_0, .slice At46_0 t46_0.length ct46_0, .slice At47_0 t47_0.length ct47_0, .slice At49_0 t49_0.length ct49_0, .int .i64 t54_0, .int .i64 t55_0, .int .i64 0, .int .i64 0]) 1 rfl rfl rfl rfl rfl rfl (xs [0] [0, 1, 2, 3, 4, 5] rfl rfl rfl (one1 27 rfl rfl (ov (EV.fa 8 rfl) rfl (xs [0] [0, 1, 2, 3, 4, 5] rfl rfl rfl (one1 28 rfl rfl (op_st (cs' := [.slice At8_0 t8_0.length ct8_0, .int .i64 t9_0, .slice At10_0 t10_0.length ct10_0, .slice At46_0 t46_0.length ct46_0, .slice At47_0 t47_0.length ct47_0, .slice At49_0 t49_0.length ct49_0, .int .i64 t54_0, .int .i64 t55_0, .int .i64 t56_0, .int .i64 0]) 1 rfl rfl rfl rfl rfl rfl (xs [0] [0, 1, 2, 3, 4, 5] rfl rfl rfl (one1 29 rfl rfl (ov (EV.fa 9 rfl) rfl (xn rfl (one1 30 rfl rfl (op_st (cs' := [.slice At8_0 t8_0.length ct8_0, .int .i64 t9_0, .slice At10_0 t10_0.length ct10_0, .slice At46_0 t46_0.length ct46_0, .slice At47_0 t47_0.length ct47_0, .slice At49_0 t49_0.length ct49_0, .int .i64 t54_0, .int .i64 t55_0, .int .i64 t56_0, .int .i64 t57_0]) 1 rfl rfl rfl rfl rfl rfl (xn rfl (xd ?_)))))))))))))))))))))))))))))
     refine pr [0, 2, 5, 6, 10] [0, 1, 2] [1, 2, 3, 4, 5] rfl rfl rfl rfl (gs (gs (rg (sv (EV.ld 2 none rfl rfl rfl) rfl (sv (EV.nt rfl) rfl (sv (EV.mv rfl) rfl ?_))))))
     revert H; refine ifsI ?_ ?_ <;> intro c58 H
     ·
      subst c58
      refine ts 85 rfl rfl (sv (EV.mv rfl) rfl (sv (EV.nt rfl) rfl (sv (EV.pf rfl rfl rfl) rfl (sv (EV.mv rfl) rfl ?_))))
      revert H; refine ifsI ?_ ?_ <;> intro c59 H
      ·
       subst c59
       refine ts 89 rfl rfl (sv (EV.ld (v := .agg #[.slice At8_0 t8_0.length ct8_0, .int .i64 t9_0, .slice At10_0 t10_0.length ct10_0, .slice At46_0 t46_0.length ct46_0, .slice At47_0 t47_0.length ct47_0, .slice At49_0 t49_0.length ct49_0, .int .i64 t54_0, .int .i64 t55_0, .int .i64 t56_0, .int .i64 t57_0]) 1 (some 10) rfl rfl rfl) rfl ?_)
       revert H; refine bdI ?_; rintro t60 A60 H
       refine so rfl (op_call (impl_IsValidSorter.ok k t8_0 At8_0 ct8_0 t9_0 t10_0 At10_0 ct10_0 t46_0 At46_0 ct46_0 t47_0 At47_0 ct47_0 t49_0 At49_0 ct49_0 t54_0 t55_0 t56_0 t57_0 _ A60) [⟨0, 0, 0, false⟩, ⟨1, 0, 0, false⟩, ⟨2, 0, 0, false⟩, ⟨3, 0, 0, false⟩, ⟨4, 0, 0, false⟩] 13 rfl rfl rfl rfl rfl ?_)
       rintro _ _ _ ⟨rfl, rfl, rfl⟩
       refine sv (EV.nt rfl) rfl (sv (EV.pf rfl rfl rfl) rfl (sv (EV.mv rfl) rfl ?_))
       revert H; refine ifsI ?_ ?_ <;> intro c61 H
       ·
        subst c61
        refine ts 94 rfl rfl (sv (EV.ld (v := .agg #[.slice At8_0 t8_0.length ct8_0, .int .i64 t9_0, .slice At10_0 t10_0.length ct10_0, .slice At46_0 t46_0.length ct46_0, .slice At47_0 t47_0.length ct47_0, .slice At49_0 t49_0.length ct49_0, .int .i64 t54_0, .int .i64 t55_0, .int .i64 t56_0, .int .i64 t57_0]) 1 (some 10) rfl rfl rfl) rfl ?_)
        revert H; refine bdI ?_; rintro t62 A62 H
        refine so rfl (op_call (impl_FormatSorter.ok k t8_0 At8_0 ct8_0 t9_0 t10_0 At10_0 ct10_0 t46_0 At46_0 ct46_0 t47_0 At47_0 ct47_0 t49_0 At49_0 ct49_0 t54_0 t55_0 t56_0 t57_0 _ A62) [⟨0, 0, 0, false⟩, ⟨1, 0, 0, false⟩, ⟨2, 0, 0, false⟩, ⟨3, 0, 0, false⟩, ⟨4, 0, 0, false⟩] 13 rfl rfl rfl rfl rfl ?_)
        rintro _ _ _ ⟨rfl, rfl, rfl⟩
        refine sv (EV.mv rfl) rfl (sv (EV.nes rfl rfl) rfl (sv (EV.pf rfl rfl rfl) rfl (re (pr [2, 5, 99] [0, 1] [0, 1, 2, 3, 4] rfl rfl rfl rfl ?_))))
        revert H; refine ifsI ?_ ?_ <;> intro c63 H
        ·
         refine gf rfl (nF c63) (gk (gs (rg (sv (EV.ld (v := .agg #[.slice At8_0 t8_0.length ct8_0, .int .i64 t9_0, .slice At10_0 t10_0.length ct10_0, .slice At46_0 t46_0.length ct46_0, .slice At47_0 t47_0.length ct47_0, .slice At49_0 t49_0.length ct49_0, .int .i64 t54_0, .int .i64 t55_0, .int .i64 t56_0, .int .i64 t57_0]) 1 (some 10) rfl rfl rfl) rfl (so rfl (op_st (cs' := [.slice At8_0 t8_0.length ct8_0, .int .i64 t9_0, .slice At10_0 t10_0.length ct10_0, .slice At46_0 t46_0.length ct46_0, .slice At47_0 t47_0.length ct47_0, .slice At49_0 t49_0.length ct49_0, .int .i64 t54_0, .int .i64 t55_0, .int .i64 t56_0, .int .i64 t57_0]) 0 rfl rfl rfl rfl rfl rfl (sv (EV.as rfl) rfl (re ?_))))))))
         cases H
         exact rt Try.func11 rfl (.cell 0 (some 10) rfl rfl rfl (.tmp rfl .nil)) rfl [] [⟨0, 2, 1, true⟩, ⟨1, 2, 2, true⟩, ⟨2, 2, 3, true⟩, ⟨3, 2, 4, true⟩, ⟨4, 2, 5, true⟩] rfl rfl rfl rfl rfl ⟨_, _, _, _, _, _, _, _, _, _, rfl, rfl, rfl⟩
        ·
         refine gt rfl (nT c63) (gs (rg (sv (EV.bd (v := .agg #[.slice none 0 0, .int .i64 0, .slice none 0 0, .slice none 0 0, .slice none 0 0, .slice none 0 0, .int .i64 0, .int .i64 0, .int .i64 0, .int .i64 0]) rfl (by kernel_rfl)) rfl (so rfl (op_st (cs' := [.slice none 0 0, .int .i64 0, .slice none 0 0, .slice none 0 0, .slice none 0 0, .slice none 0 0, .int .i64 0, .int .i64 0, .int .i64 0, .int .i64 0]) 0 rfl rfl rfl rfl rfl rfl (sv (EV.as rfl) rfl (re (nil_ k72 13 dq (nil_ k72 14 dq (nil_ k72 15 dq (nil_ k72 16 dq (nil_ k57 17 dq ?_))))))))))))
         cases H
         exact rt Try.func11 rfl (.cell 0 (some 10) rfl rfl rfl (.tmp rfl .nil)) rfl [] [⟨5, 2, 1, true⟩, ⟨6, 2, 2, true⟩, ⟨7, 2, 3, true⟩, ⟨8, 2, 4, true⟩, ⟨9, 2, 5, true⟩] rfl rfl rfl rfl rfl ⟨_, _, _, _, _, _, _, _, _, _, rfl, rfl, rfl⟩
       ·
        have xc61 := bF c61; subst xc61
        refine ts 94 rfl rfl (sk rfl (sk rfl (sk rfl (sk rfl (sv (EV.pt rfl rfl rfl) rfl (re (pr [2, 5, 99] [0, 1] [0, 1, 2, 3, 4] rfl rfl rfl rfl (gt rfl rfl (gs (rg (sv (EV.bd (v := .agg #[.slice none 0 0, .int .i64 0, .slice none 0 0, .slice none 0 0, .slice none 0 0, .slice none 0 0, .int .i64 0, .int .i64 0, .int .i64 0, .int .i64 0]) rfl (by kernel_rfl)) rfl (so rfl (op_st (cs' := [.slice none 0 0, .int .i64 0, .slice none 0 0, .slice none 0 0, .slice none 0 0, .slice none 0 0, .int .i64 0, .int .i64 0, .int .i64 0, .int .i64 0]) 0 rfl rfl rfl rfl rfl rfl (sv (EV.as rfl) rfl (re (nil_ k72 13 dq (nil_ k72 14 dq (nil_ k72 15 dq (nil_ k72 16 dq (nil_ k57 17 dq ?_))))))))))))))))))))
        cases H
        exact rt Try.func11 rfl (.cell 0 (some 10) rfl rfl rfl (.tmp rfl .nil)) rfl [] [⟨5, 2, 1, true⟩, ⟨6, 2, 2, true⟩, ⟨7, 2, 3, true⟩, ⟨8, 2, 4, true⟩, ⟨9, 2, 5, true⟩] rfl rfl rfl rfl rfl ⟨_, _, _, _, _, _, _, _, _, _, rfl, rfl, rfl⟩
      ·
       have xc59 := bF c59; subst xc59
       refine ts 89 rfl rfl (sk rfl (sk rfl (sk rfl (sv (EV.pt rfl rfl rfl) rfl (sv (EV.mv rfl) rfl (sk rfl (sk rfl (sk rfl (sk rfl (sv (EV.pt rfl rfl rfl) rfl (re (pr [2, 5, 99] [0, 1] [0, 1, 2, 3, 4] rfl rfl rfl rfl (gt rfl rfl (gs (rg (sv (EV.bd (v := .agg #[.slice none 0 0, .int .i64 0, .slice none 0 0, .slice none 0 0, .slice none 0 0, .slice none 0 0, .int .i64 0, .int .i64 0, .int .i64 0, .int .i64 0]) rfl (by kernel_rfl)) rfl (so rfl (op_st (cs' := [.slice none 0 0, .int .i64 0, .slice none 0 0, .slice none 0 0, .slice none 0 0, .slice none 0 0, .int .i64 0, .int .i64 0, .int .i64 0, .int .i64 0]) 0 rfl rfl rfl rfl rfl rfl (sv (EV.as rfl) rfl (re (nil_ k72 13 dq (nil_ k72 14 dq (nil_ k72 15 dq (nil_ k72 16 dq (nil_ k57 17 dq ?_)))))))))))))))))))))))))
       cases H
       exact rt Try.func11 rfl (.cell 0 (some 10) rfl rfl rfl (.tmp rfl .nil)) rfl [] [⟨5, 2, 1, true⟩, ⟨6, 2, 2, true⟩, ⟨7, 2, 3, true⟩, ⟨8, 2, 4, true⟩, ⟨9, 2, 5, true⟩] rfl rfl rfl rfl rfl ⟨_, _, _, _, _, _, _, _, _, _, rfl, rfl, rfl⟩
     ·
      have xc58 := bF c58; subst xc58
      refine ts 85 rfl rfl (sk rfl (sk rfl (sv (EV.pt rfl rfl rfl) rfl (sv (EV.mv rfl) rfl (sk rfl (sk rfl (sk rfl (sv (EV.pt rfl rfl rfl) rfl (sv (EV.mv rfl) rfl (sk rfl (sk rfl (sk rfl (sk rfl (sv (EV.pt rfl rfl rfl) rfl (re (pr [2, 5, 99] [0, 1] [0, 1, 2, 3, 4] rfl rfl rfl rfl (gt rfl rfl (gs (rg (sv (EV.bd (v := .agg #[.slice none 0 0, .int .i64 0, .slice none 0 0, .slice none 0 0, .slice none 0 0, .slice none 0 0, .int .i64 0, .int .i64 0, .int .i64 0, .int .i64 0]) rfl (by kernel_rfl)) rfl (so rfl (op_st (cs' := [.slice none 0 0, .int .i64 0, .slice none 0 0, .slice none 0 0, .slice none 0 0, .slice none 0 0, .int .i64 0, .int .i64 0, .int .i64 0, .int .i64 0]) 0 rfl rfl rfl rfl rfl rfl (sv (EV.as rfl) rfl (re (nil_ k72 13 dq (nil_ k72 14 dq (nil_ k72 15 dq (nil_ k72 16 dq (nil_ k57 17 dq ?_)))))))))))))))))))))))))))))
      cases H
      exact rt Try.func11 rfl (.cell 0 (some 10) rfl rfl rfl (.tmp rfl .nil)) rfl [] [⟨5, 2, 1, true⟩, ⟨6, 2, 2, true⟩, ⟨7, 2, 3, true⟩, ⟨8, 2, 4, true⟩, ⟨9, 2, 5, true⟩] rfl rfl rfl rfl rfl ⟨_, _, _, _, _, _, _, _, _, _, rfl, rfl, rfl⟩
   ·
    refine ov (EV.fa 0 rfl) rfl (xs [0] [0] rfl rfl rfl (one1 14 rfl rfl ?_))
    revert H; refine bdI ?_; rintro ⟨t64_0, t64_1⟩ A64 H
    refine cvc (f := 34) rfl (op_callM (impl_ParseSorter_1.ok k (rdOf ByteArray.empty t1 2) b6 t9_1 _ _ A64) [] [2] [0, 1] 5 rfl rfl rfl rfl rfl rfl rfl rfl ?_)
    rintro _ _ _ ⟨At64_0, ct64_0, rfl, rfl, rfl⟩
    refine nmE (en := [.sl 2 .str At1 ct1 t1 2 true, .sl 2 k72 At8_0 ct8_0 t8_0 4 true, .sl 2 k72 At64_0 ct64_0 t64_0 6 true]) (by kernel_rfl) (xs [0] [0] rfl rfl rfl (one1 19 rfl rfl ?_))
    revert H; refine bdI ?_; rintro ⟨t65_0, t65_1⟩ A65 H
    refine cvc (f := 34) rfl (op_callM (impl_ParseSorter_1.ok k (rdOf ByteArray.empty t1 3) b6 t64_1 _ _ A65) [] [2] [0, 1] 7 rfl rfl rfl rfl rfl rfl rfl rfl ?_)
    rintro _ _ _ ⟨At65_0, ct65_0, rfl, rfl, rfl⟩
    refine nmE (en := [.sl 2 .str At1 ct1 t1 2 true, .sl 2 k72 At8_0 ct8_0 t8_0 4 true, .sl 2 k72 At64_0 ct64_0 t64_0 6 true, .sl 2 k72 At65_0 ct65_0 t65_0 8 true]) (by kernel_rfl) (xs [0] [0] rfl rfl rfl (one1 24 rfl rfl ?_))
    revert H; refine bdI ?_; rintro ⟨t66_0, t66_1⟩ A66 H
    refine cvc (f := 34) rfl (op_callM (impl_ParseSorter_1.ok k (rdOf ByteArray.empty t1 4) b6 t65_1 _ _ A66) [] [2] [0, 1] 9 rfl rfl rfl rfl rfl rfl rfl rfl ?_)
    rintro _ _ _ ⟨At66_0, ct66_0, rfl, rfl, rfl⟩
    refine nmE (en := [.sl 2 .str At1 ct1 t1 2 true, .sl 2 k72 At8_0 ct8_0 t8_0 4 true, .sl 2 k72 At64_0 ct64_0 t64_0 6 true, .sl 2 k72 At65_0 ct65_0 t65_0 8 true, .sl 2 k72 At66_0 ct66_0 t66_0 10 true]) (by kernel_rfl) (xs [0] [0] rfl rfl rfl (one1 26 rfl rfl (op_st (cs' := [.slice At8_0 t8_0.length ct8_0, .int .i64 0, .slice none 0 0, .slice none 0 0, .slice none 0 0, .slice none 0 0, .int .i64 0, .int .i64 0, .int .i64 0, .int .i64 0]) 1 rfl rfl rfl rfl rfl rfl (xs [0] [0] rfl rfl rfl (one1 27 rfl rfl (ov (EV.fa 1 rfl) rfl (xs [0] [0] rfl rfl rfl (one1 28 rfl rfl (op_st (cs' := [.slice At8_0 t8_0.length ct8_0, .int .i64 t9_0, .slice none 0 0, .slice none 0 0, .slice none 0 0, .slice none 0 0, .int .i64 0, .int .i64 0, .int .i64 0, .int .i64 0]) 1 rfl rfl rfl rfl rfl rfl (xs [0] [0] rfl rfl rfl (one1 29 rfl rfl (ov (EV.fa 2 rfl) rfl (xs [0] [0] rfl rfl rfl (one1 30 rfl rfl (op_st (cs' := [.slice At8_0 t8_0.length ct8_0, .int .i64 t9_0, .slice At64_0 t64_0.length ct64_0, .slice none 0 0, .slice none 0 0, .slice none 0 0, .int .i64 0, .int .i64 0, .int .i64 0, .int .i64 0]) 1 rfl rfl rfl rfl rfl rfl (xs [0] [0] rfl rfl rfl (one1 31 rfl rfl (ov (EV.fa 3 rfl) rfl (xs [0] [0] rfl rfl rfl (one1 32 rfl rfl (op_st (cs' := [.slice At8_0 t8_0.length ct8_0, .int .i64 t9_0, .slice At64_0 t64_0.length ct64_0, .slice At65_0 t65_0.length ct65_0, .slice none 0 0, .slice none 0 0, .int .i64 0, .int .i64 0, .int .i64 0, .int .i64 0]) 1 rfl rfl rfl rfl rfl rfl (xs [0] [0] rfl rfl rfl (one1 33 rfl rfl (ov (EV.fa 4 rfl) rfl (xn rfl (one1 34 rfl rfl (op_st (cs' := [.slice At8_0 t8_0.length ct8_0, .int .i64 t9_0, .slice At64_0 t64_0.length ct64_0, .slice At65_0 t65_0.length ct65_0, .slice At66_0 t66_0.length ct66_0, .slice none 0 0, .int .i64 0, .int .i64 0, .int .i64 0, .int .i64 0]) 1 rfl rfl rfl rfl rfl rfl (xn rfl (xd ?_)))))))))))))))))))))))))))))
    refine pr [0, 2, 4, 5, 6, 8] [0, 1, 2] [0, 1, 2, 3, 4] rfl rfl rfl rfl (gs (rg (sv (EV.mv rfl) rfl ?_)))
    revert H; refine ggI ?_; intro g67 H
    refine sv (EV.ix 0 rfl rfl rfl dq g67 rfl) rfl (sv (EV.le (v := .string (rdOf ByteArray.empty t1 5)) 5 0 none 0 ByteArray.empty rfl rfl rfl dq g67 rfl rfl rfl) rfl ?_)
    revert H; refine bdI ?_; rintro ⟨t68_0, t68_1⟩ A68 H
    refine so rfl (op_call (impl_parseRuns.ok k (rdOf ByteArray.empty t1 5) _ _ A68) [] 11 rfl rfl rfl rfl rfl ?_)
    rintro _ _ _ ⟨At68_0, ct68_0, rfl, rfl, rfl⟩
    refine sv (EV.mv rfl) rfl (sv (EV.ex rfl rfl) rfl (sv (EV.ex rfl rfl) rfl (sv (EV.as rfl) rfl (sv (EV.as rfl) rfl (re (pr [0, 2, 4, 5, 6, 8, 9, 10] [0, 1, 2] [0, 1, 2, 3, 4, 5] rfl rfl rfl rfl (gs ?_)))))))
    revert H; refine ggI ?_; intro g69 H
    revert H; refine ggI ?_; intro g70 H
    revert H; refine ggI ?_; intro g71 H
    revert H; refine ggI ?_; intro g72 H
    refine dr [0] [0, 1, 2, 3, 4, 5] [29, 30] 31 rfl rfl rfl rfl (xv 0 [0] [0, 1, 2, 3, 4, 5] rfl (EV.mv rfl) rfl rfl rfl rfl (xv 1 [0] [0, 1, 2, 3, 4, 5] rfl (EV.mv rfl) rfl rfl rfl rfl (xv 2 [0] [0, 1, 2, 3, 4, 5] rfl (EV.mv rfl) rfl rfl rfl rfl (xv 3 [0] [0, 1, 2, 3, 4, 5] rfl (EV.ix 0 rfl rfl rfl dq g69 rfl) rfl rfl rfl rfl (xv 4 [0] [0, 1, 2, 3, 4, 5] rfl (EV.le (v := .string (rdOf ByteArray.empty t1 6)) 6 0 none 0 ByteArray.empty rfl rfl rfl dq g69 rfl rfl rfl) rfl rfl rfl rfl (xv 6 [0] [0, 1, 2, 3, 4, 5] rfl (EV.mv rfl) rfl rfl rfl rfl (xv 7 [0] [0, 1, 2, 3, 4, 5] rfl (EV.mv rfl) rfl rfl rfl rfl (xv 8 [0] [0, 1, 2, 3, 4, 5] rfl (EV.ix 0 rfl rfl rfl dq g70 rfl) rfl rfl rfl rfl (xv 9 [0] [0, 1, 2, 3, 4, 5] rfl (EV.le (v := .string (rdOf ByteArray.empty t1 7)) 7 0 none 0 ByteArray.empty rfl rfl rfl dq g70 rfl rfl rfl) rfl rfl rfl rfl (xv 11 [0] [0, 1, 2, 3, 4, 5] rfl (EV.mv rfl) rfl rfl rfl rfl (xv 12 [0] [0, 1, 2, 3, 4, 5] rfl (EV.mv rfl) rfl rfl rfl rfl (xv 13 [0] [0, 1, 2, 3, 4, 5] rfl (EV.ix 0 rfl rfl rfl dq g71 rfl) rfl rfl rfl rfl (xv 14 [0] [0, 1, 2, 3, 4, 5] rfl (EV.le (v := .string (rdOf ByteArray.empty t1 8)) 8 0 none 0 ByteArray.empty rfl rfl rfl dq g71 rfl rfl rfl) rfl rfl rfl rfl (xv 16 [0] [0, 1, 2, 3, 4, 5] rfl (EV.mv rfl) rfl rfl rfl rfl (xv 17 [0] [0, 1, 2, 3, 4, 5] rfl (EV.mv rfl) rfl rfl rfl rfl (xv 18 [0] [0, 1, 2, 3, 4, 5] rfl (EV.ix 0 rfl rfl rfl dq g72 rfl) rfl rfl rfl rfl (xv 19 [0] [0, 1, 2, 3, 4, 5] rfl (EV.le (v := .string (rdOf ByteArray.empty t1 9)) 9 0 none 0 ByteArray.empty rfl rfl rfl dq g72 rfl rfl rfl) rfl rfl rfl rfl (xv 21 [0] [0, 1, 2, 3, 4, 5] rfl (EV.fa 5 rfl) rfl rfl rfl rfl (one1 5 rfl rfl ?_)))))))))))))))))))
    revert H; refine bdI ?_; rintro ⟨t73_0, t73_1⟩ A73 H
    refine cvc (f := 36) rfl (op_callM (impl_ParseSorter_2.ok k (rdOf ByteArray.empty t1 6) b6 t66_1 _ _ A73) [] [2] [0, 1] 13 rfl rfl rfl rfl rfl rfl rfl rfl ?_)
    rintro _ _ _ ⟨rfl, rfl, rfl⟩
    refine nmE (en := [.sl 2 .str At1 ct1 t1 2 true, .sl 2 k72 At8_0 ct8_0 t8_0 4 true, .sl 2 k72 At64_0 ct64_0 t64_0 6 true, .sl 2 k72 At65_0 ct65_0 t65_0 8 true, .sl 2 k72 At66_0 ct66_0 t66_0 10 true, .sl 2 k57 At68_0 ct68_0 t68_0 12 true]) (by kernel_rfl) (xs [0] [0, 1, 2, 3, 4, 5] rfl rfl rfl (one1 10 rfl rfl ?_))
    revert H; refine bdI ?_; rintro ⟨t74_0, t74_1⟩ A74 H
    refine cvc (f := 36) rfl (op_callM (impl_ParseSorter_2.ok k (rdOf ByteArray.empty t1 7) b6 t73_1 _ _ A74) [] [2] [0, 1] 13 rfl rfl rfl rfl rfl rfl rfl rfl ?_)
    rintro _ _ _ ⟨rfl, rfl, rfl⟩
    refine nmE (en := [.sl 2 .str At1 ct1 t1 2 true, .sl 2 k72 At8_0 ct8_0 t8_0 4 true, .sl 2 k72 At64_0 ct64_0 t64_0 6 true, .sl 2 k72 At65_0 ct65_0 t65_0 8 true, .sl 2 k72 At66_0 ct66_0 t66_0 10 true, .sl 2 k57 At68_0 ct68_0 t68_0 12 true]) (by kernel_rfl) (xs [0] [0, 1, 2, 3, 4, 5] rfl rfl rfl (one1 15 rfl rfl ?_))
    revert H; refine bdI ?_; rintro ⟨t75_0, t75_1⟩ A75 H
    refine cvc (f := 36) rfl (op_callM (impl_ParseSorter_2.ok k (rdOf ByteArray.empty t1 8) b6 t74_1 _ _ A75) [] [2] [0, 1] 13 rfl rfl rfl rfl rfl rfl rfl rfl ?_)
    rintro _ _ _ ⟨rfl, rfl, rfl⟩
    refine nmE (en := [.sl 2 .str At1 ct1 t1 2 true, .sl 2 k72 At8_0 ct8_0 t8_0 4 true, .sl 2 k72 At64_0 ct64_0 t64_0 6 true, .sl 2 k72 At65_0 ct65_0 t65_0 8 true, .sl 2 k72 At66_0 ct66_0 t66_0 10 true, .sl 2 k57 At68_0 ct68_0 t68_0 12 true]) (by kernel_rfl) (xs [0] [0, 1, 2, 3, 4, 5] rfl rfl rfl (one1 20 rfl rfl ?_))
    revert H; refine bdI ?_; rintro ⟨t76_0, t76_1⟩ A76 H
    refine cvc (f := 36) rfl (op_callM (impl_ParseSorter_2.ok k (rdOf ByteArray.empty t1 9) b6 t75_1 _ _ A76) [] [2] [0, 1] 13 rfl rfl rfl rfl rfl rfl rfl rfl ?_)
    rintro _ _ _ ⟨rfl, rfl, rfl⟩
    refine nmE (en := [.sl 2 .str At1 ct1 t1 2 true, .sl 2 k72 At8_0 ct8_0 t8_0 4 true, .sl 2 k72 At64_0 ct64_0 t64_0 6 true, .sl 2 k72 At65_0 ct65_0 t65_0 8 true, .sl 2 k72 At66_0 ct66_0 t66_0 10 true, .sl 2 k57 At68_0 ct68_0 t68_0 12 true]) (by kernel_rfl) (xs [0] [0, 1, 2, 3, 4, 5] rfl rfl rfl (one1 22 rfl rfl (op_st (cs' := [.slice At8_0 t8_0.length ct8_0, .int .i64 t9_0, .slice At64_0 t64_0.length ct64_0, .slice At65_0 t65_0.length ct65_0, .slice At66_0 t66_0.length ct66_0, .slice At68_0 t68_0.length ct68_0, .int .i64 0, .int .i64 0, .int .i64 0, .int .i64 0]) 1 rfl rfl rfl rfl rfl rfl (xs [0] [0, 1, 2, 3, 4, 5] rfl rfl rfl (one1 23 rfl rfl (ov (EV.fa 6 rfl) rfl (xs [0] [0, 1, 2, 3, 4, 5] rfl rfl rfl (one1 24 rfl rfl (op_st (cs' := [.slice At8_0 t8_0.length ct8_0, .int .i64 t9_0, .slice At64_0 t64_0.length ct64_0, .slice At65_0 t65_0.length ct65_0, .slice At66_0 t66_0.length ct66_0, .slice At68_0 t68_0.length ct68_0, .int .i64 t73_0, .int .i64 0, .int .i64 0, .int .i64 0]) 1 rfl rfl rfl rfl rfl rfl (xs [0] [0, 1, 2, 3, 4, 5] rfl rfl rfl (one1 25 rfl rfl (ov (EV.fa 7 rfl) rfl (xs [0] [0, 1, 2, 3, 4, 5] rfl rfl rfl (one1 26 rfl rfl (op_st (cs' := [.slice At8_0 t8_0.length ct8_0, .int .i64 t9_0, .slice At64_0 t64_0.length ct64_0, .slice At65_0 t65_0.length ct65_0, .slice At66_0 t66_0.length ct66_0, .slice At68_0 t68_0.length ct68_0, .int .i64 t73_0, .int .i64 t74_0, .int .i64 0, .int .i64 0]) 1 rfl rfl rfl rfl rfl rfl (xs [0] [0, 1, 2, 3, 4, 5] rfl rfl rfl (one1 27 rfl rfl (ov (EV.fa 8 rfl) rfl (xs [0] [0, 1, 2, 3, 4, 5] rfl rfl rfl (one1 28 rfl rfl (op_st (cs' := [.slice At8_0 t8_0.length ct8_0, .int .i64 t9_0, .slice At64_0 t64_0.length ct64_0, .slice At65_0 t65_0.length ct65_0, .slice At66_0 t66_0.length ct66_0, .slice At68_0 t68_0.length ct68_0, .int .i64 t73_0, .int .i64 t74_0, .int .i64 t75_0, .int .i64 0]) 1 rfl rfl rfl rfl rfl rfl (xs [0] [0, 1, 2, 3, 4, 5] rfl rfl rfl (one1 29 rfl rfl (ov (EV.fa 9 rfl) rfl (xn rfl (one1 30 rfl rfl (op_st (cs' := [.slice At8_0 t8_0.length ct8_0, .int .i64 t9_0, .slice At64_0 t64_0.length ct64_0, .slice At65_0 t65_0.length ct65_0, .slice At66_0 t66_0.length ct66_0, .slice At68_0 t68_0.length ct68_0, .int .i64 t73_0, .int .i64 t74_0, .int .i64 t75_0, .int .i64 t76_0]) 1 rfl rfl rfl rfl rfl rfl (xn rfl (xd ?_)))))))))))))))))))))))))))))
    refine pr [0, 2, 5, 6, 10] [0, 1, 2] [1, 2, 3, 4, 5] rfl rfl rfl rfl (gs (gs (rg (sv (EV.ld 2 none rfl rfl rfl) rfl (sv (EV.nt rfl) rfl (sv (EV.mv rfl) rfl ?_))))))
    revert H; refine ifsI ?_ ?_ <;> intro c77 H
    ·
     subst c77
     refine ts 85 rfl rfl (sv (EV.mv rfl) rfl (sv (EV.nt rfl) rfl (sv (EV.pf rfl rfl rfl) rfl (sv (EV.mv rfl) rfl ?_))))
     revert H; refine ifsI ?_ ?_ <;> intro c78 H
     ·
      subst c78
      refine ts 89 rfl rfl (sv (EV.ld (v := .agg #[.slice At8_0 t8_0.length ct8_0, .int .i64 t9_0, .slice At64_0 t64_0.length ct64_0, .slice At65_0 t65_0.length ct65_0, .slice At66_0 t66_0.length ct66_0, .slice At68_0 t68_0.length ct68_0, .int .i64 t73_0, .int .i64 t74_0, .int .i64 t75_0, .int .i64 t76_0]) 1 (some 10) rfl rfl rfl) rfl ?_)
      revert H; refine bdI ?_; rintro t79 A79 H
      refine so rfl (op_call (impl_IsValidSorter.ok k t8_0 At8_0 ct8_0 t9_0 t64_0 At64_0 ct64_0 t65_0 At65_0 ct65_0 t66_0 At66_0 ct66_0 t68_0 At68_0 ct68_0 t73_0 t74_0 t75_0 t76_0 _ A79) [⟨0, 0, 0, false⟩, ⟨1, 0, 0, false⟩, ⟨2, 0, 0, false⟩, ⟨3, 0, 0, false⟩, ⟨4, 0, 0, false⟩] 13 rfl rfl rfl rfl rfl ?_)
      rintro _ _ _ ⟨rfl, rfl, rfl⟩
      refine sv (EV.nt rfl) rfl (sv (EV.pf rfl rfl rfl) rfl (sv (EV.mv rfl) rfl ?_))
      revert H; refine ifsI ?_ ?_ <;> intro c80 H
      ·
       subst c80
       refine ts 94 rfl rfl (sv (EV.ld (v := .agg #[.slice At8_0 t8_0.length ct8_0, .int .i64 t9_0, .slice At64_0 t64_0.length ct64_0, .slice At65_0 t65_0.length ct65_0, .slice At66_0 t66_0.length ct66_0, .slice At68_0 t68_0.length ct68_0, .int .i64 t73_0, .int .i64 t74_0, .int .i64 t75_0, .int .i64 t76_0]) 1 (some 10) rfl rfl rfl) rfl ?_)
       revert H; refine bdI ?_; rintro t81 A81 H
       refine so rfl (op_call (impl_FormatSorter.ok k t8_0 At8_0 ct8_0 t9_0 t64_0 At64_0 ct64_0 t65_0 At65_0 ct65_0 t66_0 At66_0 ct66_0 t68_0 At68_0 ct68_0 t73_0 t74_0 t75_0 t76_0 _ A81) [⟨0, 0, 0, false⟩, ⟨1, 0, 0, false⟩, ⟨2, 0, 0, false⟩, ⟨3, 0, 0, false⟩, ⟨4, 0, 0, false⟩] 13 rfl rfl rfl rfl rfl ?_)
       rintro _ _ _ ⟨rfl, rfl, rfl⟩
       refine sv (EV.mv rfl) rfl (sv (EV.nes rfl rfl) rfl (sv (EV.pf rfl rfl rfl) rfl (re (pr [2, 5, 99] [0, 1] [0, 1, 2, 3, 4] rfl rfl rfl rfl ?_))))
       revert H; refine ifsI ?_ ?_ <;> intro c82 H
       ·
        refine gf rfl (nF c82) (gk (gs (rg (sv (EV.ld (v := .agg #[.slice At8_0 t8_0.length ct8_0, .int .i64 t9_0, .slice At64_0 t64_0.length ct64_0, .slice At65_0 t65_0.length ct65_0, .slice At66_0 t66_0.length ct66_0, .slice At68_0 t68_0.length ct68_0, .int .i64 t73_0, .int .i64 t74_0, .int .i64 t75_0, .int .i64 t76_0]) 1 (some 10) rfl rfl rfl) rfl (so rfl (op_st (cs' := [.slice At8_0 t8_0.length ct8_0, .int .i64 t9_0, .slice At64_0 t64_0.length ct64_0, .slice At65_0 t65_0.length ct65_0, .slice At66_0 t66_0.length ct66_0, .slice At68_0 t68_0.length ct68_0, .int .i64 t73_0, .int .i64 t74_0, .int .i64 t75_0, .int .i64 t76_0]) 0 rfl rfl rfl rfl rfl rfl (sv (EV.as rfl) rfl (re ?_))))))))
        cases H
        exact rt Try.func11 rfl (.cell 0 (some 10) rfl rfl rfl (.tmp rfl .nil)) rfl [] [⟨0, 2, 1, true⟩, ⟨1, 2, 2, true⟩, ⟨2, 2, 3, true⟩, ⟨3, 2, 4, true⟩, ⟨4, 2, 5, true⟩] rfl rfl rfl rfl rfl ⟨_, _, _, _, _, _, _, _, _, _, rfl, rfl, rfl⟩
       ·
        refine gt rfl (nT c82) (gs (rg (sv (EV.bd (v := .agg #[.slice none 0 0, .int .i64 0, .slice none 0 0, .slice none 0 0, .slice none 0 0, .slice none 0 0, .int .i64 0, .int .i64 0, .int .i64 0, .int .i64 0]) rfl (by kernel_rfl)) rfl (so rfl (op_st (cs' := [.slice none 0 0, .int .i64 0, .slice none 0 0, .slice none 0 0, .slice none 0 0, .slice none 0 0, .int .i64 0, .int .i64 0, .int .i64 0, .int .i64 0]) 0 rfl rfl rfl rfl rfl rfl (sv (EV.as rfl) rfl (re (nil_ k72 13 dq (nil_ k72 14 dq (nil_ k72 15 dq (nil_ k72 16 dq (nil_ k57 17 dq ?_))))))))))))
        cases H
        exact rt Try.func11 rfl (.cell 0 (some 10) rfl rfl rfl (.tmp rfl .nil)) rfl [] [⟨5, 2, 1, true⟩, ⟨6, 2, 2, true⟩, ⟨7, 2, 3, true⟩, ⟨8, 2, 4, true⟩, ⟨9, 2, 5, true⟩] rfl rfl rfl rfl rfl ⟨_, _, _, _, _, _, _, _, _, _, rfl, rfl, rfl⟩
      ·
       have xc80 := bF c80; subst xc80
       refine ts 94 rfl rfl (sk rfl (sk rfl (sk rfl (sk rfl (sv (EV.pt rfl rfl rfl) rfl (re (pr [2, 5, 99] [0, 1] [0, 1, 2, 3, 4] rfl rfl rfl rfl (gt rfl rfl (gs (rg (sv (EV.bd (v := .agg #[.slice none 0 0, .int .i64 0, .slice none 0 0, .slice none 0 0, .slice none 0 0, .slice none 0 0, .int .i64 0, .int .i64 0, .int .i64 0, .int .i64 0]) rfl (by kernel_rfl)) rfl (so rfl (op_st (cs' := [.slice none 0 0, .int .i64 0, .slice none 0 0, .slice none 0 0, .slice none 0 0, .slice none 0 0, .int .i64 0, .int .i64 0, .int .i64 0, .int .i64 0]) 0 rfl rfl rfl rfl rfl rfl (sv (EV.as rfl) rfl (re (nil_ k72 13 dq (nil_ k72 14 dq (nil_ k72 15 dq (nil_ k72 16 dq (nil_ k57 17 dq ?_))))))))))))))))))))
       cases H
       exact rt Try.func11 rfl (.cell 0 (some 10) rfl rfl rfl (.tmp rfl .nil)) rfl [] [⟨5, 2, 1, true⟩, ⟨6, 2, 2, true⟩, ⟨7, 2, 3, true⟩, ⟨8, 2, 4, true⟩, ⟨9, 2, 5, true⟩] rfl rfl rfl rfl rfl ⟨_, _, _, _, _, _, _, _, _, _, rfl, rfl, rfl⟩
     ·
      have xc78 := bF c78; subst xc78
      refine ts 89 rfl rfl (sk rfl (sk rfl (sk rfl (sv (EV.pt rfl rfl rfl) rfl (sv (EV.mv rfl) rfl (sk rfl (sk rfl (sk rfl (sk rfl (sv (EV.pt rfl rfl rfl) rfl (re (pr [2, 5, 99] [0, 1] [0, 1, 2, 3, 4] rfl rfl rfl rfl (gt rfl rfl (gs (rg (sv (EV.bd (v := .agg #[.slice none 0 0, .int .i64 0, .slice none 0 0, .slice none 0 0, .slice none 0 0, .slice none 0 0, .int .i64 0, .int .i64 0, .int .i64 0, .int .i64 0]) rfl (by kernel_rfl)) rfl (so rfl (op_st (cs' := [.slice none 0 0, .int .i64 0, .slice none 0 0, .slice none 0 0, .slice none 0 0, .slice none 0 0, .int .i64 0, .int .i64 0, .int .i64 0, .int .i64 0]) 0 rfl rfl rfl rfl rfl rfl (sv (EV.as rfl) rfl (re (nil_ k72 13 dq (nil_ k72 14 dq (nil_ k72 15 dq (nil_ k72 16 dq (nil_ k57 17 dq ?_)))))))))))))))))))))))))
      cases H
      exact rt Try.func11 rfl (.cell 0 (some 10) rfl rfl rfl (.tmp rfl .nil)) rfl [] [⟨5, 2, 1, true⟩, ⟨6, 2, 2, true⟩, ⟨7, 2, 3, true⟩, ⟨8, 2, 4, true⟩, ⟨9, 2, 5, true⟩] rfl rfl rfl rfl rfl ⟨_, _, _, _, _, _, _, _, _, _, rfl, rfl, rfl⟩
    ·
     have xc77 := bF c77; subst xc77
     refine ts 85 rfl rfl (sk rfl (sk rfl (sv (EV.pt rfl rfl rfl) rfl (sv (EV.mv rfl) rfl (sk rfl (sk rfl (sk rfl (sv (EV.pt rfl rfl rfl) rfl (sv (EV.mv rfl) rfl (sk rfl (sk rfl (sk rfl (sk rfl (sv (EV.pt rfl rfl rfl) rfl (re (pr [2, 5, 99] [0, 1] [0, 1, 2, 3, 4] rfl rfl rfl rfl (gt rfl rfl (gs (rg (sv (EV.bd (v := .agg #[.slice none 0 0, .int .i64 0, .slice none 0 0, .slice none 0 0, .slice none 0 0, .slice none 0 0, .int .i64 0, .int .i64 0, .int .i64 0, .int .i64 0]) rfl (by kernel_rfl)) rfl (so rfl (op_st (cs' := [.slice none 0 0, .int .i64 0, .slice none 0 0, .slice none 0 0, .slice none 0 0, .slice none 0 0, .int .i64 0, .int .i64 0, .int .i64 0, .int .i64 0]) 0 rfl rfl rfl rfl rfl rfl (sv (EV.as rfl) rfl (re (nil_ k72 13 dq (nil_ k72 14 dq (nil_ k72 15 dq (nil_ k72 16 dq (nil_ k57 17 dq ?_)))))))))))))))))))))))))))))
     cases H
     exact rt Try.func11 rfl (.cell 0 (some 10) rfl rfl rfl (.tmp rfl .nil)) rfl [] [⟨5, 2, 1, true⟩, ⟨6, 2, 2, true⟩, ⟨7, 2, 3, true⟩, ⟨8, 2, 4, true⟩, ⟨9, 2, 5, true⟩] rfl rfl rfl rfl rfl ⟨_, _, _, _, _, _, _, _, _, _, rfl, rfl, rfl⟩
  ·
   refine ov (EV.fa 0 rfl) rfl (xs [0] [0] rfl rfl rfl (one1 9 rfl rfl ?_))
   revert H; refine bdI ?_; rintro ⟨t83_0, t83_1⟩ A83 H
   refine cvc (f := 36) rfl (op_callM (impl_ParseSorter_2.ok k (rdOf ByteArray.empty t1 1) b6 t8_1 _ _ A83) [] [2] [0, 1] 5 rfl rfl rfl rfl rfl rfl rfl rfl ?_)
   rintro _ _ _ ⟨rfl, rfl, rfl⟩
   refine nmE (en := [.sl 2 .str At1 ct1 t1 2 true, .sl 2 k72 At8_0 ct8_0 t8_0 4 true]) (by kernel_rfl) (xs [0] [0] rfl rfl rfl (one1 14 rfl rfl ?_))
   revert H; refine bdI ?_; rintro ⟨t84_0, t84_1⟩ A84 H
   refine cvc (f := 34) rfl (op_callM (impl_ParseSorter_1.ok k (rdOf ByteArray.empty t1 2) b6 t83_1 _ _ A84) [] [2] [0, 1] 5 rfl rfl rfl rfl rfl rfl rfl rfl ?_)
   rintro _ _ _ ⟨At84_0, ct84_0, rfl, rfl, rfl⟩
   refine nmE (en := [.sl 2 .str At1 ct1 t1 2 true, .sl 2 k72 At8_0 ct8_0 t8_0 4 true, .sl 2 k72 At84_0 ct84_0 t84_0 6 true]) (by kernel_rfl) (xs [0] [0] rfl rfl rfl (one1 19 rfl rfl ?_))
   revert H; refine bdI ?_; rintro ⟨t85_0, t85_1⟩ A85 H
   refine cvc (f := 34) rfl (op_callM (impl_ParseSorter_1.ok k (rdOf ByteArray.empty t1 3) b6 t84_1 _ _ A85) [] [2] [0, 1] 7 rfl rfl rfl rfl rfl rfl rfl rfl ?_)
   rintro _ _ _ ⟨At85_0, ct85_0, rfl, rfl, rfl⟩
   refine nmE (en := [.sl 2 .str At1 ct1 t1 2 true, .sl 2 k72 At8_0 ct8_0 t8_0 4 true, .sl 2 k72 At84_0 ct84_0 t84_0 6 true, .sl 2 k72 At85_0 ct85_0 t85_0 8 true]) (by kernel_rfl) (xs [0] [0] rfl rfl rfl (one1 24 rfl rfl ?_))
   revert H; refine bdI ?_; rintro ⟨t86_0, t86_1⟩ A86 H
   refine cvc (f := 34) rfl (op_callM (impl_ParseSorter_1.ok k (rdOf ByteArray.empty t1 4) b6 t85_1 _ _ A86) [] [2] [0, 1] 9 rfl rfl rfl rfl rfl rfl rfl rfl ?_)
   rintro _ _ _ ⟨At86_0, ct86_0, rfl, rfl, rfl⟩
   refine nmE (en := [.sl 2 .str At1 ct1 t1 2 true, .sl 2 k72 At8_0 ct8_0 t8_0 4 true, .sl 2 k72 At84_0 ct84_0 t84_0 6 true, .sl 2 k72 At85_0 ct85_0 t85_0 8 true, .sl 2 k72 At86_0 ct86_0 t86_0 10 true]) (by kernel_rfl) (xs [0] [0] rfl rfl rfl (one1 26 rfl rfl (op_st (cs' := [.slice At8_0 t8_0.length ct8_0, .int .i64 0, .slice none 0 0, .slice none 0 0, .slice none 0 0, .slice none 0 0, .int .i64 0, .int .i64 0, .int .i64 0, .int .i64 0]) 1 rfl rfl rfl rfl rfl rfl (xs [0] [0] rfl rfl rfl (one1 27 rfl rfl (ov (EV.fa 1 rfl) rfl (xs [0] [0] rfl rfl rfl (one1 28 rfl rfl (op_st (cs' := [.slice At8_0 t8_0.length ct8_0, .int .i64 t83_0, .slice none 0 0, .slice none 0 0, .slice none 0 0, .slice none 0 0, .int .i64 0, .int .i64 0, .int .i64 0, .int .i64 0]) 1 rfl rfl rfl rfl rfl rfl (xs [0] [0] rfl rfl rfl (one1 29 rfl rfl (ov (EV.fa 2 rfl) rfl (xs [0] [0] rfl rfl rfl (one1 30 rfl rfl (op_st (cs' := [.slice At8_0 t8_0.length ct8_0, .int .i64 t83_0, .slice At84_0 t84_0.length ct84_0, .slice none 0 0, .slice none 0 0, .slice none 0 0, .int .i64 0, .int .i64 0, .int .i64 0, .int .i64 0]) 1 rfl rfl rfl rfl rfl rfl (xs [0] [0] rfl rfl rfl (one1 31 rfl rfl (ov (EV.fa 3 rfl) rfl (xs [0] [0] rfl rfl rfl (one1 32 rfl rfl (op_st (cs' := [.slice At8_0 t8_0.length ct8_0, .int .i64 t83_0, .slice At84_0 t84_0.length ct84_0, .slice At85_0 t85_0.length ct85_0, .slice none 0 0, .slice none 0 0, .int .i64 0, .int .i64 0, .int .i64 0, .int .i64 0]) 1 rfl rfl rfl rfl rfl rfl (xs [0] [0] rfl rfl rfl (one1 33 rfl rfl (ov (EV.fa 4 rfl) rfl (xn rfl (one1 34 rfl rfl (op_st (cs' := [.slice At8_0 t8_0.length ct8_0, .int .i64 t83_0, .slice At84_0 t84_0.length ct84_0, .slice At85_0 t85_0.length ct85_0, .slice At86_0 t86_0.length ct86_0, .slice none 0 0, .int .i64 0, .int .i64 0, .int .i64 0, .int .i64 0]) 1 rfl rfl rfl rfl rfl rfl (xn rfl (xd ?_)))))))))))))))))))))))))))))
   refine pr [0, 2, 4, 5, 6, 8] [0, 1, 2] [0, 1, 2, 3, 4] rfl rfl rfl rfl (gs (rg (sv (EV.mv rfl) rfl ?_)))
   revert H; refine ggI ?_; intro g87 H
   refine sv (EV.ix 0 rfl rfl rfl dq g87 rfl) rfl (sv (EV.le (v := .string (rdOf ByteArray.empty t1 5)) 5 0 none 0 ByteArray.empty rfl rfl rfl dq g87 rfl rfl rfl) rfl ?_)
   revert H; refine bdI ?_; rintro ⟨t88_0, t88_1⟩ A88 H
   refine so rfl (op_call (impl_parseRuns.ok k (rdOf ByteArray.empty t1 5) _ _ A88) [] 11 rfl rfl rfl rfl rfl ?_)
   rintro _ _ _ ⟨At88_0, ct88_0, rfl, rfl, rfl⟩
   refine sv (EV.mv rfl) rfl (sv (EV.ex rfl rfl) rfl (sv (EV.ex rfl rfl) rfl (sv (EV.as rfl) rfl (sv (EV.as rfl) rfl (re (pr [0, 2, 4, 5, 6, 8, 9, 10] [0, 1, 2] [0, 1, 2, 3, 4, 5] rfl rfl rfl rfl (gs ?_)))))))
   revert H; refine ggI ?_; intro g89 H
   revert H; refine ggI ?_; intro g90 H
   revert H; refine ggI ?_; intro g91 H
   revert H; refine ggI ?_; intro g92 H
   refine dr [0] [0, 1, 2, 3, 4, 5] [29, 30] 31 rfl rfl rfl rfl (xv 0 [0] [0, 1, 2, 3, 4, 5] rfl (EV.mv rfl) rfl rfl rfl rfl (xv 1 [0] [0, 1, 2, 3, 4, 5] rfl (EV.mv rfl) rfl rfl rfl rfl (xv 2 [0] [0, 1, 2, 3, 4, 5] rfl (EV.mv rfl) rfl rfl rfl rfl (xv 3 [0] [0, 1, 2, 3, 4, 5] rfl (EV.ix 0 rfl rfl rfl dq g89 rfl) rfl rfl rfl rfl (xv 4 [0] [0, 1, 2, 3, 4, 5] rfl (EV.le (v := .string (rdOf ByteArray.empty t1 6)) 6 0 none 0 ByteArray.empty rfl rfl rfl dq g89 rfl rfl rfl) rfl rfl rfl rfl (xv 6 [0] [0, 1, 2, 3, 4, 5] rfl (EV.mv rfl) rfl rfl rfl rfl (xv 7 [0] [0, 1, 2, 3, 4, 5] rfl (EV.mv rfl) rfl rfl rfl rfl (xv 8 [0] [0, 1, 2, 3, 4, 5] rfl (EV.ix 0 rfl rfl rfl dq g90 rfl) rfl rfl rfl rfl (xv 9 [0] [0, 1, 2, 3, 4, 5] rfl (EV.le (v := .string (rdOf ByteArray.empty t1 7)) 7 0 none 0 ByteArray.empty rfl rfl rfl dq g90 rfl rfl rfl) rfl rfl rfl rfl (xv 11 [0] [0, 1, 2, 3, 4, 5] rfl (EV.mv rfl) rfl rfl rfl rfl (xv 12 [0] [0, 1, 2, 3, 4, 5] rfl (EV.mv rfl) rfl rfl rfl rfl (xv 13 [0] [0, 1, 2, 3, 4, 5] rfl (EV.ix 0 rfl rfl rfl dq g91 rfl) rfl rfl rfl rfl (xv 14 [0] [0, 1, 2, 3, 4, 5] rfl (EV.le (v := .string (rdOf ByteArray.empty t1 8)) 8 0 none 0 ByteArray.empty rfl rfl rfl dq g91 rfl rfl rfl) rfl rfl rfl rfl (xv 16 [0] [0, 1, 2, 3, 4, 5] rfl (EV.mv rfl) rfl rfl rfl rfl (xv 17 [0] [0, 1, 2, 3, 4, 5] rfl (EV.mv rfl) rfl rfl rfl rfl (xv 18 [0] [0, 1, 2, 3, 4, 5] rfl (EV.ix 0 rfl rfl rfl dq g92 rfl) rfl rfl rfl rfl (xv 19 [0] [0, 1, 2, 3, 4, 5] rfl (EV.le (v := .string (rdOf ByteArray.empty t1 9)) 9 0 none 0 ByteArray.empty rfl rfl rfl dq g92 rfl rfl rfl) rfl rfl rfl rfl (xv 21 [0] [0, 1, 2, 3, 4, 5] rfl (EV.fa 5 rfl) rfl rfl rfl rfl (one1 5 rfl rfl ?_)))))))))))))))))))
   revert H; refine bdI ?_; rintro ⟨t93_0, t93_1⟩ A93 H
   refine cvc (f := 36) rfl (op_callM (impl_ParseSorter_2.ok k (rdOf ByteArray.empty t1 6) b6 t86_1 _ _ A93) [] [2] [0, 1] 13 rfl rfl rfl rfl rfl rfl rfl rfl ?_)
   rintro _ _ _ ⟨rfl, rfl, rfl⟩
   refine nmE (en := [.sl 2 .str At1 ct1 t1 2 true, .sl 2 k72 At8_0 ct8_0 t8_0 4 true, .sl 2 k72 At84_0 ct84_0 t84_0 6 true, .sl 2 k72 At85_0 ct85_0 t85_0 8 true, .sl 2 k72 At86_0 ct86_0 t86_0 10 true, .sl 2 k57 At88_0 ct88_0 t88_0 12 true]) (by kernel_rfl) (xs [0] [0, 1, 2, 3, 4, 5] rfl rfl rfl (one1 10 rfl rfl ?_))
   revert H; refine bdI ?_; rintro ⟨t94_0, t94_1⟩ A94 H
   refine cvc (f := 36) rfl (op_callM (impl_ParseSorter_2.ok k (rdOf ByteArray.empty t1 7) b6 t93_1 _ _ A94) [] [2] [0, 1] 13 rfl rfl rfl rfl rfl rfl rfl rfl ?_)
   rintro _ _ _ ⟨rfl, rfl, rfl⟩
   refine nmE (en := [.sl 2 .str At1 ct1 t1 2 true, .sl 2 k72 At8_0 ct8_0 t8_0 4 true, .sl 2 k72 At84_0 ct84_0 t84_0 6 true, .sl 2 k72 At85_0 ct85_0 t85_0 8 true, .sl 2 k72 At86_0 ct86_0 t86_0 10 true, .sl 2 k57 At88_0 ct88_0 t88_0 12 true]) (by kernel_rfl) (xs [0] [0, 1, 2, 3, 4, 5] rfl rfl rfl (one1 15 rfl rfl ?_))
   revert H; refine bdI ?_; rintro ⟨t95_0, t95_1⟩ A95 H
   refine cvc (f := 36) rfl (op_callM (impl_ParseSorter_2.ok k (rdOf ByteArray.empty t1 8) b6 t94_1 _ _ A95) [] [2] [0, 1] 13 rfl rfl rfl rfl rfl rfl rfl rfl ?_)
   rintro _ _ _ ⟨rfl, rfl, rfl⟩
   refine nmE (en := [.sl 2 .str At1 ct1 t1 2 true, .sl 2 k72 At8_0 ct8_0 t8_0 4 true, .sl 2 k72 At84_0 ct84_0 t84_0 6 true, .sl 2 k72 At85_0 ct85_0 t85_0 8 true, .sl 2 k72 At86_0 ct86_0 t86_0 10 true, .sl 2 k57 At88_0 ct88_0 t88_0 12 true]) (by kernel_rfl) (xs [0] [0, 1, 2, 3, 4, 5] rfl rfl rfl (one1 20 rfl rfl ?_))
   revert H; refine bdI ?_; rintro ⟨t96_0, t96_1⟩ A96 H
   refine cvc (f := 36) rfl (op_callM (impl_ParseSorter_2.ok k (rdOf ByteArray.empty t1 9) b6 t95_1 _ _ A96) [] [2] [0, 1] 13 rfl rfl rfl rfl rfl rfl rfl rfl ?_)
   rintro _ _ _ ⟨rfl, rfl, rfl⟩
   refine nmE (en := [.sl 2 .str At1 ct1 t1 2 true, .sl 2 k72 At8_0 ct8_0 t8_0 4 true, .sl 2 k72 At84_0 ct84_0 t84_0 6 true, .sl 2 k72 At85_0 ct85_0 t85_0 8 true, .sl 2 k72 At86_0 ct86_0 t86_0 10 true, .sl 2 k57 At88_0 ct88_0 t88_0 12 true]) (by kernel_rfl) (xs [0] [0, 1, 2, 3, 4, 5] rfl rfl rfl (one1 22 rfl rfl (op_st (cs' := [.slice At8_0 t8_0.length ct8_0, .int .i64 t83_0, .slice At84_0 t84_0.length ct84_0, .slice At85_0 t85_0.length ct85_0, .slice At86_0 t86_0.length ct86_0, .slice At88_0 t88_0.length ct88_0, .int .i64 0, .int .i64 0, .int .i64 0, .int .i64 0]) 1 rfl rfl rfl rfl rfl rfl (xs [0] [0, 1, 2, 3, 4, 5] rfl rfl rfl (one1 23 rfl rfl (ov (EV.fa 6 rfl) rfl (xs [0] [0, 1, 2, 3, 4, 5] rfl rfl rfl (one1 24 rfl rfl (op_st (cs' := [.slice At8_0 t8_0.length ct8_0, .int .i64 t83_0, .slice At84_0 t84_0.length ct84_0, .slice At85_0 t85_0.length ct85_0, .slice At86_0 t86_0.length ct86_0, .slice At88_0 t88_0.length ct88_0, .int .i64 t93_0, .int .i64 0, .int .i64 0, .int .i64 0]) 1 rfl rfl rfl rfl rfl rfl (xs [0] [0, 1, 2, 3, 4, 5] rfl rfl rfl (one1 25 rfl rfl (ov (EV.fa 7 rfl) rfl (xs [0] [0, 1, 2, 3, 4, 5] rfl rfl rfl (one1 26 rfl rfl (op_st (cs' := [.slice At8_0 t8_0.length ct8_0, .int .i64 t83_0, .slice At84_0 t84_0.length ct84_0, .slice At85_0 t85_0.length ct85_0, .slice At86_0 t86_0.length ct86_0, .slice At88_0 t88_0.length ct88_0, .int .i64 t93_0, .int .i64 t94_0, .int .i64 0, .int .i64 0]) 1 rfl rfl rfl rfl rfl rfl (xs [0] [0, 1, 2, 3, 4, 5] rfl rfl rfl (one1 27 rfl rfl (ov (EV.fa 8 rfl) rfl (xs [0] [0, 1, 2, 3, 4, 5] rfl rfl rfl (one1 28 rfl rfl (op_st (cs' := [.slice At8_0 t8_0.length ct8_0, .int .i64 t83_0, .slice At84_0 t84_0.length ct84_0, .slice At85_0 t85_0.length ct85_0, .slice At86_0 t86_0.length ct86_0, .slice At88_0 t88_0.length ct88_0, .int .i64 t93_0, .int .i64 t94_0, .int .i64 t95_0, .int .i64 0]) 1 rfl rfl rfl rfl rfl rfl (xs [0] [0, 1, 2, 3, 4, 5] rfl rfl rfl (one1 29 rfl rfl (ov (EV.fa 9 rfl) rfl (xn rfl (one1 30 rfl rfl (op_st (cs' := [.slice At8_0 t8_0.length ct8_0, .int .i64 t83_0, .slice At84_0 t84_0.length ct84_0, .slice At85_0 t85_0.length ct85_0, .slice At86_0 t86_0.length ct86_0, .slice At88_0 t88_0.length ct88_0, .int .i64 t93_0, .int .i64 t94_0, .int .i64 t95_0, .int .i64 t96_0]) 1 rfl rfl rfl rfl rfl rfl (xn rfl (xd ?_)))))))))))))))))))))))))))))
   refine pr [0, 2, 5, 6, 10] [0, 1, 2] [1, 2, 3, 4, 5] rfl rfl rfl rfl (gs (gs (rg (sv (EV.ld 2 none rfl rfl rfl) rfl (sv (EV.nt rfl) rfl (sv (EV.mv rfl) rfl ?_))))))
   revert H; refine ifsI ?_ ?_ <;> intro c97 H
   ·
    subst c97
    refine ts 85 rfl rfl (sv (EV.mv rfl) rfl (sv (EV.nt rfl) rfl (sv (EV.pf rfl rfl rfl) rfl (sv (EV.mv rfl) rfl ?_))))
    revert H; refine ifsI ?_ ?_ <;> intro c98 H
    ·
     subst c98
     refine ts 89 rfl rfl (sv (EV.ld (v := .agg #[.slice At8_0 t8_0.length ct8_0, .int .i64 t83_0, .slice At84_0 t84_0.length ct84_0, .slice At85_0 t85_0.length ct85_0, .slice At86_0 t86_0.length ct86_0, .slice At88_0 t88_0.length ct88_0, .int .i64 t93_0, .int .i64 t94_0, .int .i64 t95_0, .int .i64 t96_0]) 1 (some 10) rfl rfl rfl) rfl ?_)
     revert H; refine bdI ?_; rintro t99 A99 H
     refine so rfl (op_call (impl_IsValidSorter.ok k t8_0 At8_0 ct8_0 t83_0 t84_0 At84_0 ct84_0 t85_0 At85_0 ct85_0 t86_0 At86_0 ct86_0 t88_0 At88_0 ct88_0 t93_0 t94_0 t95_0 t96_0 _ A99) [⟨0, 0, 0, false⟩, ⟨1, 0, 0, false⟩, ⟨2, 0, 0, false⟩, ⟨3, 0, 0, false⟩, ⟨4, 0, 0, false⟩] 13 rfl rfl rfl rfl rfl ?_)
     rintro _ _ _ ⟨rfl, rfl, rfl⟩
     refine sv (EV.nt rfl) rfl (sv (EV.pf rfl rfl rfl) rfl (sv (EV.mv rfl) rfl ?_))
     revert H; refine ifsI ?_ ?_ <;> intro c100 H
     ·
      subst c100
      refine ts 94 rfl rfl (sv (EV.ld (v := .agg #[.slice At8_0 t8_0.length ct8_0, .int .i64 t83_0, .slice At84_0 t84_0.length ct84_0, .slice At85_0 t85_0.length ct85_0, .slice At86_0 t86_0.length ct86_0, .slice At88_0 t88_0.length ct88_0, .int .i64 t93_0, .int .i64 t94_0, .int .i64 t95_0, .int .i64 t96_0]) 1 (some 10) rfl rfl rfl) rfl ?_)
      revert H; refine bdI ?_; rintro t101 A101 H
      refine so rfl (op_call (impl_FormatSorter.ok k t8_0 At8_0 ct8_0 t83_0 t84_0 At84_0 ct84_0 t85_0 At85_0 ct85_0 t86_0 At86_0 ct86_0 t88_0 At88_0 ct88_0 t93_0 t94_0 t95_0 t96_0 _ A101) [⟨0, 0, 0, false⟩, ⟨1, 0, 0, false⟩, ⟨2, 0, 0, false⟩, ⟨3, 0, 0, false⟩, ⟨4, 0, 0, false⟩] 13 rfl rfl rfl rfl rfl ?_)
      rintro _ _ _ ⟨rfl, rfl, rfl⟩
      refine sv (EV.mv rfl) rfl (sv (EV.nes rfl rfl) rfl (sv (EV.pf rfl rfl rfl) rfl (re (pr [2, 5, 99] [0, 1] [0, 1, 2, 3, 4] rfl rfl rfl rfl ?_))))
      revert H; refine ifsI ?_ ?_ <;> intro c102 H
      ·
       refine gf rfl (nF c102) (gk (gs (rg (sv (EV.ld (v := .agg #[.slice At8_0 t8_0.length ct8_0, .int .i64 t83_0, .slice At84_0 t84_0.length ct84_0, .slice At85_0 t85_0.length ct85_0, .slice At86_0 t86_0.length ct86_0, .slice At88_0 t88_0.length ct88_0, .int .i64 t93_0, .int .i64 t94_0, .int .i64 t95_0, .int .i64 t96_0]) 1 (some 10) rfl rfl rfl) rfl (so rfl (op_st (cs' := [.slice At8_0 t8_0.length ct8_0, .int .i64 t83_0, .slice At84_0 t84_0.length ct84_0, .slice At85_0 t85_0.length ct85_0, .slice At86_0 t86_0.length ct86_0, .slice At88_0 t88_0.length ct88_0, .int .i64 t93_0, .int .i64 t94_0, .int .i64 t95_0, .int .i64 t96_0]) 0 rfl rfl rfl rfl rfl rfl (sv (EV.as rfl) rfl (re ?_))))))))
       cases H
       exact rt Try.func11 rfl (.cell 0 (some 10) rfl rfl rfl (.tmp rfl .nil)) rfl [] [⟨0, 2, 1, true⟩, ⟨1, 2, 2, true⟩, ⟨2, 2, 3, true⟩, ⟨3, 2, 4, true⟩, ⟨4, 2, 5, true⟩] rfl rfl rfl rfl rfl ⟨_, _, _, _, _, _, _, _, _, _, rfl, rfl, rfl⟩
      ·
       refine gt rfl (nT c102) (gs (rg (sv (EV.bd (v := .agg #[.slice none 0 0, .int .i64 0, .slice none 0 0, .slice none 0 0, .slice none 0 0, .slice none 0 0, .int .i64 0, .int .i64 0, .int .i64 0, .int .i64 0]) rfl (by kernel_rfl)) rfl (so rfl (op_st (cs' := [.slice none 0 0, .int .i64 0, .slice none 0 0, .slice none 0 0, .slice none 0 0, .slice none 0 0, .int .i64 0, .int .i64 0, .int .i64 0, .int .i64 0]) 0 rfl rfl rfl rfl rfl rfl (sv (EV.as rfl) rfl (re (nil_ k72 13 dq (nil_ k72 14 dq (nil_ k72 15 dq (nil_ k72 16 dq (nil_ k57 17 dq ?_))))))))))))
       cases H
       exact rt Try.func11 rfl (.cell 0 (some 10) rfl rfl rfl (.tmp rfl .nil)) rfl [] [⟨5, 2, 1, true⟩, ⟨6, 2, 2, true⟩, ⟨7, 2, 3, true⟩, ⟨8, 2, 4, true⟩, ⟨9, 2, 5, true⟩] rfl rfl rfl rfl rfl ⟨_, _, _, _, _, _, _, _, _, _, rfl, rfl, rfl⟩
     ·
      have xc100 := bF c100; subst xc100
      refine ts 94 rfl rfl (sk rfl (sk rfl (sk rfl (sk rfl (sv (EV.pt rfl rfl rfl) rfl (re (pr [2, 5, 99] [0, 1] [0, 1, 2, 3, 4] rfl rfl rfl rfl (gt rfl rfl (gs (rg (sv (EV.bd (v := .agg #[.slice none 0 0, .int .i64 0, .slice none 0 0, .slice none 0 0, .slice none 0 0, .slice none 0 0, .int .i64 0, .int .i64 0, .int .i64 0, .int .i64 0]) rfl (by kernel_rfl)) rfl (so rfl (op_st (cs' := [.slice none 0 0, .int .i64 0, .slice none 0 0, .slice none 0 0, .slice none 0 0, .slice none 0 0, .int .i64 0, .int .i64 0, .int .i64 0, .int .i64 0]) 0 rfl rfl rfl rfl rfl rfl (sv (EV.as rfl) rfl (re (nil_ k72 13 dq (nil_ k72 14 dq (nil_ k72 15 dq (nil_ k72 16 dq (nil_ k57 17 dq ?_))))))))))))))))))))
      cases H
      exact rt Try.func11 rfl (.cell 0 (some 10) rfl rfl rfl (.tmp rfl .nil)) rfl [] [⟨5, 2, 1, true⟩, ⟨6, 2, 2, true⟩, ⟨7, 2, 3, true⟩, ⟨8, 2, 4, true⟩, ⟨9, 2, 5, true⟩] rfl rfl rfl rfl rfl ⟨_, _, _, _, _, _, _, _, _, _, rfl, rfl, rfl⟩
    ·
     have xc98 := bF c98; subst xc98
     refine ts 89 rfl rfl (sk rfl (sk rfl (sk rfl (sv (EV.pt rfl rfl rfl) rfl (sv (EV.mv rfl) rfl (sk rfl (sk rfl (sk rfl (sk rfl (sv (EV.pt rfl rfl rfl) rfl (re (pr [2, 5, 99] [0, 1] [0, 1, 2, 3, 4] rfl rfl rfl rfl (gt rfl rfl (gs (rg (sv (EV.bd (v := .agg #[.slice none 0 0, .int .i64 0, .slice none 0 0, .slice none 0 0, .slice none 0 0, .slice none 0 0, .int .i64 0, .int .i64 0, .int .i64 0, .int .i64 0]) rfl (by kernel_rfl)) rfl (so rfl (op_st (cs' := [.slice none 0 0, .int .i64 0, .slice none 0 0, .slice none 0 0, .slice none 0 0, .slice none 0 0, .int .i64 0, .int .i64 0, .int .i64 0, .int .i64 0]) 0 rfl rfl rfl rfl rfl rfl (sv (EV.as rfl) rfl (re (nil_ k72 13 dq (nil_ k72 14 dq (nil_ k72 15 dq (nil_ k72 16 dq (nil_ k57 17 dq ?_)))))))))))))))))))))))))
     cases H
     exact rt Try.func11 rfl (.cell 0 (some 10) rfl rfl rfl (.tmp rfl .nil)) rfl [] [⟨5, 2, 1, true⟩, ⟨6, 2, 2, true⟩, ⟨7, 2, 3, true⟩, ⟨8, 2, 4, true⟩, ⟨9, 2, 5, true⟩] rfl rfl rfl rfl rfl ⟨_, _, _, _, _, _, _, _, _, _, rfl, rfl, rfl⟩
   ·
    have xc97 := bF c97; subst xc97
    refine ts 85 rfl rfl (sk rfl (sk rfl (sv (EV.pt rfl rfl rfl) rfl (sv (EV.mv rfl) rfl (sk rfl (sk rfl (sk rfl (sv (EV.pt rfl rfl rfl) rfl (sv (EV.mv rfl) rfl (sk rfl (sk rfl (sk rfl (sk rfl (sv (EV.pt rfl rfl rfl) rfl (re (pr [2, 5, 99] [0, 1] [0, 1, 2, 3, 4] rfl rfl rfl rfl (gt rfl rfl (gs (rg (sv (EV.bd (v := .agg #[.slice none 0 0, .int .i64 0, .slice none 0 0, .slice none 0 0, .slice none 0 0, .slice none 0 0, .int .i64 0, .int .i64 0, .int .i64 0, .int .i64 0]) rfl (by kernel_rfl)) rfl (so rfl (op_st (cs' := [.slice none 0 0, .int .i64 0, .slice none 0 0, .slice none 0 0, .slice none 0 0, .slice none 0 0, .int .i64 0, .int .i64 0, .int .i64 0, .int .i64 0]) 0 rfl rfl rfl rfl rfl rfl (sv (EV.as rfl) rfl (re (nil_ k72 13 dq (nil_ k72 14 dq (nil_ k72 15 dq (nil_ k72 16 dq (nil_ k57 17 dq ?_)))))))))))))))))))))))))))))
    cases H
    exact rt Try.func11 rfl (.cell 0 (some 10) rfl rfl rfl (.tmp rfl .nil)) rfl [] [⟨5, 2, 1, true⟩, ⟨6, 2, 2, true⟩, ⟨7, 2, 3, true⟩, ⟨8, 2, 4, true⟩, ⟨9, 2, 5, true⟩] rfl rfl rfl rfl rfl ⟨_, _, _, _, _, _, _, _, _, _, rfl, rfl, rfl⟩
 ·
  refine gt rfl (nT c2) (gs (rg (sv (EV.bd (v := .agg #[.slice none 0 0, .int .i64 0, .slice none 0 0, .slice none 0 0, .slice none 0 0, .slice none 0 0, .int .i64 0, .int .i64 0, .int .i64 0, .int .i64 0]) rfl (by kernel_rfl)) rfl (so rfl (op_st (cs' := [.slice none 0 0, .int .i64 0, .slice none 0 0, .slice none 0 0, .slice none 0 0, .slice none 0 0, .int .i64 0, .int .i64 0, .int .i64 0, .int .i64 0]) 0 rfl rfl rfl rfl rfl rfl (sv (EV.as rfl) rfl (re (pr [2, 3] [0] [] rfl rfl rfl rfl (nil_ k72 1 dq (nil_ k72 2 dq (nil_ k72 3 dq (nil_ k72 4 dq (nil_ k57 5 dq ?_)))))))))))))
  cases H
  exact rt Try.func11 rfl (.cell 0 (some 10) rfl rfl rfl (.tmp rfl .nil)) rfl [] [⟨0, 2, 1, true⟩, ⟨1, 2, 2, true⟩, ⟨2, 2, 3, true⟩, ⟨3, 2, 4, true⟩, ⟨4, 2, 5, true⟩] rfl rfl rfl rfl rfl ⟨_, _, _, _, _, _, _, _, _, _, rfl, rfl, rfl⟩
def laws_markRowS.l0 : Nat → (List S72) → Int → Int → Option (Int × (List S72))
 | 0, _, _, _ => none
 | k + 1, x2_ml0, x2_1, x2_5 => if x2_5 < (x2_ml0.length : Int) then (if 0 ≤ x2_5 then ((some (x2_ml0.set x2_5.toNat (⟨x2_1, (rd_T72 x2_ml0 x2_5).f1, (rd_T72 x2_ml0 x2_5).f2⟩ : S72))).bind fun s3 => (if x2_5 < (s3.length : Int) then ((some (s3.set x2_5.toNat (⟨(rd_T72 s3 x2_5).f0, wrap64 (x2_1 + 1), (rd_T72 s3 x2_5).f2⟩ : S72))).bind fun s5 => (if x2_5 < (s5.length : Int) then ((some (s5.set x2_5.toNat (⟨(rd_T72 s5 x2_5).f0, (rd_T72 s5 x2_5).f1, wrap64 ((wrap64 (x2_1 + 1)) + 1)⟩ : S72))).bind fun s7 => (laws_markRowS.l0 k s7 (wrap64 ((wrap64 ((wrap64 (x2_1 + 1)) + 1)) + 1)) (wrap64 (x2_5 + 1)))) else none)) else none)) else none) else (some (x2_1, x2_ml0))
def laws_markRowS.f (k : Nat) (l0 : List S72) (a1 : Int) : Option (Int × (List S72)) := laws_markRowS.l0 k l0 a1 0
set_option maxHeartbeats 4000000 in
set_option maxRecDepth 100000 in
theorem laws_markRowS.ok (k : Nat) (l0 : List S72) (Al0 : Option Addr) (cl0 : Nat) (a1 : Int) (r0 : Int) (r1 : List S72) (H : laws_markRowS.f k l0 a1 = some (r0, r1)) : Fn Try.prog 39 [.slice Al0 l0.length cl0, .int .i64 a1] [] [.sl 1 k72 Al0 cl0 l0 1 false] (fun v bx en => v = .int .i64 r0 ∧ bx = [] ∧ en = [.sl 1 k72 Al0 cl0 r1 1 false] ∧ r1.length = l0.length) := by
 refine fn_ 34 Try.func39 rfl rfl rfl (fun base T w0 => ?_)
 rw [laws_markRowS.f] at H
 refine gs (rg (sv (EV.as rfl) rfl (re (gs (gs (rg (sv (EV.as rfl) rfl (re (gb ?_)))))))))
 refine lo (fun kk S => ∃ (x2_ml0 : List S72) (x2_1 : Int) (x2_5 : Int), laws_markRowS.l0 kk x2_ml0 x2_1 x2_5 = some (r0, r1) ∧ x2_ml0.length = l0.length ∧ S = ⟨[(0, .slice Al0 x2_ml0.length cl0), (1, .int .i64 x2_1), (5, .int .i64 x2_5)], [], [.sl 1 k72 Al0 cl0 x2_ml0 1 false]⟩) (fun S hS => ?_) (fun n0 ih0 S hS => ?_) ⟨l0, a1, 0, H, (by first | rfl | assumption | omega | (simp only [List.length_set]; first | done | assumption | omega)), rfl⟩ (fun h => wk [0, 1, 5] [] [⟨0, 1, 1, false⟩] h)
 · clear H; obtain ⟨_, _, _, H, _⟩ := hS; rw [laws_markRowS.l0] at H; cases H
 clear H
 obtain ⟨x2_ml0, x2_1, x2_5, H, ex2_ml0, rfl⟩ := hS
 rw [laws_markRowS.l0] at H
 refine gs (gs (rg (sv (EV.mv rfl) rfl (sv (EV.mv rfl) rfl (sv (EV.ln rfl) rfl (sv (EV.lss rfl rfl) rfl (re ?_)))))))
 revert H; refine ifsI ?_ ?_ <;> intro c1 H
 ·
  refine gt rfl (dT c1) (gk (gs (gb (gs (rg (sv (EV.mv rfl) rfl (sv (EV.mv rfl) rfl (sv (EV.mv rfl) rfl ?_))))))))
  revert H; refine ggI ?_; intro g2 H
  refine sv (EV.ix 0 rfl rfl rfl g2 c1 rfl) rfl (sv (EV.fa 0 rfl) rfl ?_)
  revert H; refine bdI ?_; intro s3 A3 H; have q3 := stl (Option.some.inj A3)
  refine so rfl (op_stg x2_5 0 0 z72 (⟨x2_1, (rd_T72 x2_ml0 x2_5).f1, (rd_T72 x2_ml0 x2_5).f2⟩ : S72) (Option.some.inj A3) rfl rfl rfl rfl g2 c1 rfl rfl rfl rfl dq rfl (rlT 0 (v' := .slice Al0 s3.length cl0) rfl (slq _ _ q3) (rlT 7 (v' := .slice Al0 s3.length cl0) rfl (slq _ _ q3) (rlT 12 (v' := .slice Al0 s3.length cl0) rfl (slq _ _ q3) (nmE (en := [.sl 1 k72 Al0 cl0 s3 1 true]) (by kernel_rfl) (re (pr [0, 1, 5] [] [0] rfl rfl rfl rfl (gs (rg (sv (EV.mv rfl) rfl (sv (EV.add rfl rfl) rfl (sv (EV.as rfl) rfl (re (gs (rg (sv (EV.mv rfl) rfl (sv (EV.mv rfl) rfl (sv (EV.mv rfl) rfl ?_))))))))))))))))))
  revert H; refine ggI ?_; intro g4 H
  refine sv (EV.ix 0 rfl rfl rfl g2 g4 rfl) rfl (sv (EV.fa 1 rfl) rfl ?_)
  revert H; refine bdI ?_; intro s5 A5 H; have q5 := stl (Option.some.inj A5)
  refine so rfl (op_stg x2_5 1 0 z72 (⟨(rd_T72 s3 x2_5).f0, wrap64 (x2_1 + 1), (rd_T72 s3 x2_5).f2⟩ : S72) (Option.some.inj A5) rfl rfl rfl rfl g2 g4 rfl rfl rfl rfl dq rfl (rlT 0 (v' := .slice Al0 s5.length cl0) rfl (slq _ _ q5) (rlT 19 (v' := .slice Al0 s5.length cl0) rfl (slq _ _ q5) (nmE (en := [.sl 1 k72 Al0 cl0 s5 1 true]) (by kernel_rfl) (re (gs (rg (sv (EV.mv rfl) rfl (sv (EV.add rfl rfl) rfl (sv (EV.as rfl) rfl (re (pr [0, 1, 5] [] [0] rfl rfl rfl rfl (gs (rg (sv (EV.mv rfl) rfl (sv (EV.mv rfl) rfl (sv (EV.mv rfl) rfl ?_)))))))))))))))))
  revert H; refine ggI ?_; intro g6 H
  refine sv (EV.ix 0 rfl rfl rfl g2 g6 rfl) rfl (sv (EV.fa 2 rfl) rfl ?_)
  revert H; refine bdI ?_; intro s7 A7 H; have q7 := stl (Option.some.inj A7)
  exact so rfl (op_stg x2_5 2 0 z72 (⟨(rd_T72 s5 x2_5).f0, (rd_T72 s5 x2_5).f1, wrap64 ((wrap64 (x2_1 + 1)) + 1)⟩ : S72) (Option.some.inj A7) rfl rfl rfl rfl g2 g6 rfl rfl rfl rfl dq rfl (rlT 0 (v' := .slice Al0 s7.length cl0) rfl (slq _ _ q7) (rlT 26 (v' := .slice Al0 s7.length cl0) rfl (slq _ _ q7) (nmE (en := [.sl 1 k72 Al0 cl0 s7 1 true]) (by kernel_rfl) (re (rg (sv (EV.mv rfl) rfl (sv (EV.add rfl rfl) rfl (sv (EV.as rfl) rfl (re (ge (rg (sv (EV.mv rfl) rfl (sv (EV.add rfl rfl) rfl (sv (EV.as rfl) rfl (re (pr [0, 1, 5] [] [0] rfl rfl rfl rfl (wk [0, 1, 5] [] [⟨0, 1, 1, false⟩] (ih0 _ (by omega) _ ⟨s7, wrap64 ((wrap64 ((wrap64 (x2_1 + 1)) + 1)) + 1), wrap64 (x2_5 + 1), H, (by first | rfl | assumption | omega | (simp only [List.length_set]; first | done | assumption | omega)), rfl⟩)))))))))))))))))))
 ·
  refine gf rfl (dF c1) (gx rfl (gs (rg (sv (EV.mv rfl) rfl (sv (EV.as rfl) rfl (re (pr [4] [] [0] rfl rfl rfl rfl ?_)))))))
  cases H
  exact rt Try.func39 rfl (.tmp rfl .nil) rfl [] [⟨0, 1, 1, false⟩] rfl rfl rfl rfl rfl ⟨rfl, rfl, rfl, by first | rfl | assumption | omega | (simp only [List.length_set]; first | done | assumption | omega)⟩
def laws_markRunS.l0 : Nat → (List S57) → Int → Int → Option (Int × (List S57))
 | 0, _, _, _ => none
 | k + 1, x2_ml0, x2_1, x2_5 => if x2_5 < (x2_ml0.length : Int) then (if 0 ≤ x2_5 then ((laws_markRowS.f k ((rd_T57 x2_ml0 x2_5).f0) x2_1).bind fun bt4 => ((some (x2_ml0.set x2_5.toNat (⟨bt4.2⟩ : S57))).bind fun s5 => (laws_markRunS.l0 k s5 bt4.1 (wrap64 (x2_5 + 1))))) else none) else (some (x2_1, x2_ml0))
def laws_markRunS.f (k : Nat) (l0 : List S57) (a1 : Int) : Option (Int × (List S57)) := laws_markRunS.l0 k l0 a1 0
set_option maxHeartbeats 4000000 in
set_option maxRecDepth 100000 in
theorem laws_markRunS.ok (k : Nat) (l0 : List S57) (Al0 : Option Addr) (cl0 : Nat) (a1 : Int) (r0 : Int) (r1 : List S57) (H : laws_markRunS.f k l0 a1 = some (r0, r1)) : Fn Try.prog 40 [.slice Al0 l0.length cl0, .int .i64 a1] [] [.sl 1 k57 Al0 cl0 l0 1 true] (fun v bx en => v = .int .i64 r0 ∧ bx = [] ∧ en = [.sl 1 k57 Al0 cl0 r1 1 true] ∧ r1.length = l0.length) := by
 refine fn_ 20 Try.func40 rfl rfl rfl (fun base T w0 => ?_)
 rw [laws_markRunS.f] at H
 refine gs (rg (sv (EV.as rfl) rfl (re (gs (gs (rg (sv (EV.as rfl) rfl (re (gb ?_)))))))))
 refine lo (fun kk S => ∃ (x2_ml0 : List S57) (x2_1 : Int) (x2_5 : Int), laws_markRunS.l0 kk x2_ml0 x2_1 x2_5 = some (r0, r1) ∧ x2_ml0.length = l0.length ∧ S = ⟨[(0, .slice Al0 x2_ml0.length cl0), (1, .int .i64 x2_1), (5, .int .i64 x2_5)], [], [.sl 1 k57 Al0 cl0 x2_ml0 1 true]⟩) (fun S hS => ?_) (fun n0 ih0 S hS => ?_) ⟨l0, a1, 0, H, (by first | rfl | assumption | omega | (simp only [List.length_set]; first | done | assumption | omega)), rfl⟩ (fun h => wk [0, 1, 5] [] [⟨0, 1, 1, true⟩] h)
 · clear H; obtain ⟨_, _, _, H, _⟩ := hS; rw [laws_markRunS.l0] at H; cases H
 clear H
 obtain ⟨x2_ml0, x2_1, x2_5, H, ex2_ml0, rfl⟩ := hS
 rw [laws_markRunS.l0] at H
 refine gs (gs (rg (sv (EV.mv rfl) rfl (sv (EV.mv rfl) rfl (sv (EV.ln rfl) rfl (sv (EV.lss rfl rfl) rfl (re ?_)))))))
 revert H; refine ifsI ?_ ?_ <;> intro c1 H
 ·
  refine gt rfl (dT c1) (gk (gs (gb (rg (sv (EV.mv rfl) rfl (sv (EV.mv rfl) rfl ?_))))))
  revert H; refine ggI ?_; intro g2 H
  refine sv (EV.ix 0 rfl rfl rfl g2 c1 rfl) rfl (sv (EV.fa 0 rfl) rfl (opn (i := x2_5) 0 z57 rfl g2 c1 fun A_3 c_3 => (sv (EV.lc (v := .slice A_3 ((rd_T57 x2_ml0 x2_5).f0).length c_3) 0 none 1 rfl rfl rfl rfl) rfl (sv (EV.mv rfl) rfl (opnH (i := x2_5) (s := 1) (cls' := 1) [(A_3, c_3)] 0 1 2 z57 rfl rfl (by kernel_rfl) g2 c1 dq rfl rfl (nmE (en := [holE k57 1 Al0 cl0 x2_ml0 x2_5.toNat [.slice A_3 ((rd_T57 x2_ml0 x2_5).f0).length c_3] 2, .sl 1 k72 A_3 c_3 ((rd_T57 x2_ml0 x2_5).f0) 3 true]) (by kernel_rfl) ?_))))))
  revert H; refine bdI ?_; rintro ⟨t4_0, t4_1⟩ A4 H
  refine so rfl (op_callM (laws_markRowS.ok n0 ((rd_T57 x2_ml0 x2_5).f0) A_3 c_3 x2_1 _ _ A4) [⟨1, 1, 1, false⟩] [] [] 4 rfl rfl rfl rfl rfl rfl rfl rfl ?_)
  rintro _ _ _ ⟨rfl, rfl, rfl, q4_0⟩
  refine linF 1 rfl rfl ?_
  revert H; refine bdI ?_; intro s5 A5 H; have q5 := stl (Option.some.inj A5)
  exact hcl 0 (⟨t4_1⟩ : S57) [(A_3, c_3)] [2] (Option.some.inj A5) rfl (by rw [← q4_0]; rfl) rfl (by kernel_rfl) (by kernel_rfl) (by kernel_rfl) (nmE (en := [.sl 1 k72 A_3 c_3 t4_1 2 false, .sl 1 k72 A_3 c_3 t4_1 2 true, .sl 1 k57 Al0 cl0 s5 2 true]) (by kernel_rfl) (rlT 0 (v' := .slice Al0 s5.length cl0) rfl (slq _ _ q5) (rlT 7 (v' := .slice Al0 s5.length cl0) rfl (slq _ _ q5) (rlT 12 (v' := .slice Al0 s5.length cl0) rfl (slq _ _ q5) (nmE (en := [.sl 1 k72 A_3 c_3 t4_1 2 false, .sl 1 k72 A_3 c_3 t4_1 2 true, .sl 1 k57 Al0 cl0 s5 2 true]) (by kernel_rfl) (sv (EV.as rfl) rfl (re (pr [0, 1, 5] [] [2] rfl rfl rfl rfl (ge (rg (sv (EV.mv rfl) rfl (sv (EV.add rfl rfl) rfl (sv (EV.as rfl) rfl (re (wk [0, 1, 5] [] [⟨0, 1, 1, true⟩] (ih0 _ (by omega) _ ⟨s5, t4_0, wrap64 (x2_5 + 1), H, (by first | rfl | assumption | omega | (simp only [List.length_set]; first | done | assumption | omega)), rfl⟩))))))))))))))))
 ·
  refine gf rfl (dF c1) (gx rfl (gs (rg (sv (EV.mv rfl) rfl (sv (EV.as rfl) rfl (re (pr [4] [] [0] rfl rfl rfl rfl ?_)))))))
  cases H
  exact rt Try.func40 rfl (.tmp rfl .nil) rfl [] [⟨0, 1, 1, true⟩] rfl rfl rfl rfl rfl ⟨rfl, rfl, rfl, by first | rfl | assumption | omega | (simp only [List.length_set]; first | done | assumption | omega)⟩
def laws_markSorter.f (k : Nat) (l0_0 : List S72) (a0_1 : Int) (l0_2 : List S72) (l0_3 : List S72) (l0_4 : List S72) (l0_5 : List S57) (a0_6 : Int) (a0_7 : Int) (a0_8 : Int) (a0_9 : Int) (a1 : Int) : Option (Int × (List S72) × (List S72) × (List S72) × (List S72) × (List S57)) := (laws_markRowS.f k l0_0 a1).bind fun bt1 => ((laws_markRowS.f k l0_2 bt1.1).bind fun bt2 => ((laws_markRowS.f k l0_3 bt2.1).bind fun bt3 => ((laws_markRowS.f k l0_4 bt3.1).bind fun bt4 => ((laws_markRunS.f k l0_5 bt4.1).bind fun bt5 => (some (bt5.1, bt1.2, bt2.2, bt3.2, bt4.2, bt5.2))))))
set_option maxHeartbeats 4000000 in
set_option maxRecDepth 100000 in
theorem laws_markSorter.ok (k : Nat) (l0_0 : List S72) (Al0_0 : Option Addr) (cl0_0 : Nat) (a0_1 : Int) (l0_2 : List S72) (Al0_2 : Option Addr) (cl0_2 : Nat) (l0_3 : List S72) (Al0_3 : Option Addr) (cl0_3 : Nat) (l0_4 : List S72) (Al0_4 : Option Addr) (cl0_4 : Nat) (l0_5 : List S57) (Al0_5 : Option Addr) (cl0_5 : Nat) (a0_6 : Int) (a0_7 : Int) (a0_8 : Int) (a0_9 : Int) (a1 : Int) (r0 : Int) (r1 : List S72) (r2 : List S72) (r3 : List S72) (r4 : List S72) (r5 : List S57) (H : laws_markSorter.f k l0_0 a0_1 l0_2 l0_3 l0_4 l0_5 a0_6 a0_7 a0_8 a0_9 a1 = some (r0, r1, r2, r3, r4, r5)) : Fn Try.prog 12 [.agg #[.slice Al0_0 l0_0.length cl0_0, .int .i64 a0_1, .slice Al0_2 l0_2.length cl0_2, .slice Al0_3 l0_3.length cl0_3, .slice Al0_4 l0_4.length cl0_4, .slice Al0_5 l0_5.length cl0_5, .int .i64 a0_6, .int .i64 a0_7, .int .i64 a0_8, .int .i64 a0_9], .int .i64 a1] [] [.sl 1 k72 Al0_0 cl0_0 l0_0 1 false, .sl 1 k72 Al0_2 cl0_2 l0_2 2 false, .sl 1 k72 Al0_3 cl0_3 l0_3 3 false, .sl 1 k72 Al0_4 cl0_4 l0_4 4 false, .sl 1 k57 Al0_5 cl0_5 l0_5 5 true] (fun v bx en => v = .int .i64 r0 ∧ bx = [] ∧ en = [.sl 1 k72 Al0_0 cl0_0 r1 1 false, .sl 1 k72 Al0_2 cl0_2 r2 2 false, .sl 1 k72 Al0_3 cl0_3 r3 3 false, .sl 1 k72 Al0_4 cl0_4 r4 4 false, .sl 1 k57 Al0_5 cl0_5 r5 5 true] ∧ r1.length = l0_0.length ∧ r2.length = l0_2.length ∧ r3.length = l0_3.length ∧ r4.length = l0_4.length ∧ r5.length = l0_5.length) := by
 refine fn_ 26 Try.func12 rfl rfl rfl (fun base T w0 => ?_)
 rw [laws_markSorter.f] at H
 refine gs (rg (so rfl (op_box (cs := [.slice Al0_0 l0_0.length cl0_0, .int .i64 a0_1, .slice Al0_2 l0_2.length cl0_2, .slice Al0_3 l0_3.length cl0_3, .slice Al0_4 l0_4.length cl0_4, .slice Al0_5 l0_5.length cl0_5, .int .i64 a0_6, .int .i64 a0_7, .int .i64 a0_8, .int .i64 a0_9]) rfl rfl rfl fun b2 => (sv (EV.as rfl) rfl (re (gs (rg (sv (EV.fa 0 rfl) rfl (sv (EV.ld 0 none rfl rfl rfl) rfl (sv (EV.mv rfl) rfl ?_))))))))))
 revert H; refine bdI ?_; rintro ⟨t1_0, t1_1⟩ A1 H
 refine so rfl (op_callM (laws_markRowS.ok k l0_0 Al0_0 cl0_0 a1 _ _ A1) [⟨0, 1, 1, false⟩] [] [0] 6 rfl rfl rfl rfl rfl rfl rfl rfl ?_)
 rintro _ _ _ ⟨rfl, rfl, rfl, q1_0⟩
 refine rlT 0 (v' := .agg #[.slice Al0_0 t1_1.length cl0_0, .int .i64 a0_1, .slice Al0_2 l0_2.length cl0_2, .slice Al0_3 l0_3.length cl0_3, .slice Al0_4 l0_4.length cl0_4, .slice Al0_5 l0_5.length cl0_5, .int .i64 a0_6, .int .i64 a0_7, .int .i64 a0_8, .int .i64 a0_9]) rfl (by simp only [q1_0]) (rlT 6 (v' := .slice Al0_0 t1_1.length cl0_0) rfl (slq _ _ q1_0) (rlB 0 (cs' := [.slice Al0_0 t1_1.length cl0_0, .int .i64 a0_1, .slice Al0_2 l0_2.length cl0_2, .slice Al0_3 l0_3.length cl0_3, .slice Al0_4 l0_4.length cl0_4, .slice Al0_5 l0_5.length cl0_5, .int .i64 a0_6, .int .i64 a0_7, .int .i64 a0_8, .int .i64 a0_9]) rfl (by simp only [q1_0]) (nmE (en := [.sl 1 k72 Al0_2 cl0_2 l0_2 2 false, .sl 1 k72 Al0_3 cl0_3 l0_3 3 false, .sl 1 k72 Al0_4 cl0_4 l0_4 4 false, .sl 1 k57 Al0_5 cl0_5 l0_5 5 true, .sl 1 k72 Al0_0 cl0_0 t1_1 7 false]) (by kernel_rfl) (sv (EV.as rfl) rfl (re (pr [1, 2] [0] [0, 1, 2, 3, 4] rfl rfl rfl rfl (gs (rg (sv (EV.fa 2 rfl) rfl (sv (EV.ld 0 none rfl rfl rfl) rfl (sv (EV.mv rfl) rfl ?_)))))))))))
 revert H; refine bdI ?_; rintro ⟨t2_0, t2_1⟩ A2 H
 refine so rfl (op_callM (laws_markRowS.ok k l0_2 Al0_2 cl0_2 t1_0 _ _ A2) [⟨0, 1, 1, false⟩] [] [0] 8 rfl rfl rfl rfl rfl rfl rfl rfl ?_)
 rintro _ _ _ ⟨rfl, rfl, rfl, q2_0⟩
 refine rlT 10 (v' := .slice Al0_2 t2_1.length cl0_2) rfl (slq _ _ q2_0) (rlB 0 (cs' := [.slice Al0_0 t1_1.length cl0_0, .int .i64 a0_1, .slice Al0_2 t2_1.length cl0_2, .slice Al0_3 l0_3.length cl0_3, .slice Al0_4 l0_4.length cl0_4, .slice Al0_5 l0_5.length cl0_5, .int .i64 a0_6, .int .i64 a0_7, .int .i64 a0_8, .int .i64 a0_9]) rfl (by simp only [q2_0]) (nmE (en := [.sl 1 k72 Al0_3 cl0_3 l0_3 3 false, .sl 1 k72 Al0_4 cl0_4 l0_4 4 false, .sl 1 k57 Al0_5 cl0_5 l0_5 5 true, .sl 1 k72 Al0_0 cl0_0 t1_1 7 false, .sl 1 k72 Al0_2 cl0_2 t2_1 9 false]) (by kernel_rfl) (sv (EV.as rfl) rfl (re (gs (rg (sv (EV.fa 3 rfl) rfl (sv (EV.ld 0 none rfl rfl rfl) rfl (sv (EV.mv rfl) rfl ?_)))))))))
 revert H; refine bdI ?_; rintro ⟨t3_0, t3_1⟩ A3 H
 refine so rfl (op_callM (laws_markRowS.ok k l0_3 Al0_3 cl0_3 t2_0 _ _ A3) [⟨0, 1, 1, false⟩] [] [0] 10 rfl rfl rfl rfl rfl rfl rfl rfl ?_)
 rintro _ _ _ ⟨rfl, rfl, rfl, q3_0⟩
 refine rlT 14 (v' := .slice Al0_3 t3_1.length cl0_3) rfl (slq _ _ q3_0) (rlB 0 (cs' := [.slice Al0_0 t1_1.length cl0_0, .int .i64 a0_1, .slice Al0_2 t2_1.length cl0_2, .slice Al0_3 t3_1.length cl0_3, .slice Al0_4 l0_4.length cl0_4, .slice Al0_5 l0_5.length cl0_5, .int .i64 a0_6, .int .i64 a0_7, .int .i64 a0_8, .int .i64 a0_9]) rfl (by simp only [q3_0]) (nmE (en := [.sl 1 k72 Al0_4 cl0_4 l0_4 4 false, .sl 1 k57 Al0_5 cl0_5 l0_5 5 true, .sl 1 k72 Al0_0 cl0_0 t1_1 7 false, .sl 1 k72 Al0_2 cl0_2 t2_1 9 false, .sl 1 k72 Al0_3 cl0_3 t3_1 11 false]) (by kernel_rfl) (sv (EV.as rfl) rfl (re (pr [1, 2] [0] [0, 1, 2, 3, 4] rfl rfl rfl rfl (gs (rg (sv (EV.fa 4 rfl) rfl (sv (EV.ld 0 none rfl rfl rfl) rfl (sv (EV.mv rfl) rfl ?_))))))))))
 revert H; refine bdI ?_; rintro ⟨t4_0, t4_1⟩ A4 H
 refine so rfl (op_callM (laws_markRowS.ok k l0_4 Al0_4 cl0_4 t3_0 _ _ A4) [⟨0, 1, 1, false⟩] [] [0] 12 rfl rfl rfl rfl rfl rfl rfl rfl ?_)
 rintro _ _ _ ⟨rfl, rfl, rfl, q4_0⟩
 refine rlT 18 (v' := .slice Al0_4 t4_1.length cl0_4) rfl (slq _ _ q4_0) (rlB 0 (cs' := [.slice Al0_0 t1_1.length cl0_0, .int .i64 a0_1, .slice Al0_2 t2_1.length cl0_2, .slice Al0_3 t3_1.length cl0_3, .slice Al0_4 t4_1.length cl0_4, .slice Al0_5 l0_5.length cl0_5, .int .i64 a0_6, .int .i64 a0_7, .int .i64 a0_8, .int .i64 a0_9]) rfl (by simp only [q4_0]) (nmE (en := [.sl 1 k57 Al0_5 cl0_5 l0_5 5 true, .sl 1 k72 Al0_0 cl0_0 t1_1 7 false, .sl 1 k72 Al0_2 cl0_2 t2_1 9 false, .sl 1 k72 Al0_3 cl0_3 t3_1 11 false, .sl 1 k72 Al0_4 cl0_4 t4_1 13 false]) (by kernel_rfl) (sv (EV.as rfl) rfl (re (gs (rg (sv (EV.fa 5 rfl) rfl (sv (EV.ld 0 none rfl rfl rfl) rfl (sv (EV.mv rfl) rfl ?_)))))))))
 revert H; refine bdI ?_; rintro ⟨t5_0, t5_1⟩ A5 H
 refine so rfl (op_callM (laws_markRunS.ok k l0_5 Al0_5 cl0_5 t4_0 _ _ A5) [⟨0, 1, 1, true⟩] [] [0] 14 rfl rfl rfl rfl rfl rfl rfl rfl ?_)
 rintro _ _ _ ⟨rfl, rfl, rfl, q5_0⟩
 refine rlT 22 (v' := .slice Al0_5 t5_1.length cl0_5) rfl (slq _ _ q5_0) (rlB 0 (cs' := [.slice Al0_0 t1_1.length cl0_0, .int .i64 a0_1, .slice Al0_2 t2_1.length cl0_2, .slice Al0_3 t3_1.length cl0_3, .slice Al0_4 t4_1.length cl0_4, .slice Al0_5 t5_1.length cl0_5, .int .i64 a0_6, .int .i64 a0_7, .int .i64 a0_8, .int .i64 a0_9]) rfl (by simp only [q5_0]) (nmE (en := [.sl 1 k72 Al0_0 cl0_0 t1_1 7 false, .sl 1 k72 Al0_2 cl0_2 t2_1 9 false, .sl 1 k72 Al0_3 cl0_3 t3_1 11 false, .sl 1 k72 Al0_4 cl0_4 t4_1 13 false, .sl 1 k57 Al0_5 cl0_5 t5_1 15 true]) (by kernel_rfl) (sv (EV.as rfl) rfl (re (pr [1] [] [0, 1, 2, 3, 4] rfl rfl rfl rfl (gs (rg (sv (EV.mv rfl) rfl (sv (EV.as rfl) rfl (re ?_))))))))))
 cases H
 exact rt Try.func12 rfl (.tmp rfl .nil) rfl [] [⟨0, 1, 1, false⟩, ⟨1, 1, 2, false⟩, ⟨2, 1, 3, false⟩, ⟨3, 1, 4, false⟩, ⟨4, 1, 5, true⟩] rfl rfl rfl rfl rfl ⟨rfl, rfl, rfl, by first | rfl | assumption | omega | (simp only [List.length_set]; first | done | assumption | omega), by first | rfl | assumption | omega | (simp only [List.length_set]; first | done | assumption | omega), by first | rfl | assumption | omega | (simp only [List.length_set]; first | done | assumption | omega), by first | rfl | assumption | omega | (simp only [List.length_set]; first | done | assumption | omega), by first | rfl | assumption | omega | (simp only [List.length_set]; first | done | assumption | omega)⟩
def laws_heldRowS.l0 : Nat → Int → Int → (List S72) → Option (Int)
 | 0, _, _, _ => none
 | k + 1, x2_1, x2_5, l0 => if x2_5 < (l0.length : Int) then (if 0 ≤ x2_5 then (if ((rd_T72 l0 x2_5).f0) = x2_1 then (if ((rd_T72 l0 x2_5).f1) = (wrap64 (x2_1 + 1)) then (if ((rd_T72 l0 x2_5).f2) = (wrap64 ((wrap64 (x2_1 + 1)) + 1)) then (laws_heldRowS.l0 k (wrap64 ((wrap64 ((wrap64 (x2_1 + 1)) + 1)) + 1)) (wrap64 (x2_5 + 1)) l0) else (some (-1))) else (some (-1))) else (some (-1))) else none) else (some x2_1)
def laws_heldRowS.f (k : Nat) (l0 : List S72) (a1 : Int) : Option (Int) := laws_heldRowS.l0 k a1 0 l0
set_option maxHeartbeats 4000000 in
set_option maxRecDepth 100000 in
theorem laws_heldRowS.ok (k : Nat) (l0 : List S72) (Al0 : Option Addr) (cl0 : Nat) (a1 : Int) (r0 : Int) (H : laws_heldRowS.f k l0 a1 = some r0) : Fn Try.prog 41 [.slice Al0 l0.length cl0, .int .i64 a1] [] [.sl 0 k72 Al0 cl0 l0 0 false] (fun v bx en => v = .int .i64 r0 ∧ bx = [] ∧ en = []) := by
 refine fn_ 40 Try.func41 rfl rfl rfl (fun base T w0 => ?_)
 rw [laws_heldRowS.f] at H
 refine gs (rg (sv (EV.as rfl) rfl (re (gs (gs (rg (sv (EV.as rfl) rfl (re (gb ?_)))))))))
 refine lo (fun kk S => ∃ (x2_1 : Int) (x2_5 : Int), laws_heldRowS.l0 kk x2_1 x2_5 l0 = some r0 ∧ S = ⟨[(0, .slice Al0 l0.length cl0), (1, .int .i64 x2_1), (5, .int .i64 x2_5)], [], [.sl 0 k72 Al0 cl0 l0 0 false]⟩) (fun S hS => ?_) (fun n0 ih0 S hS => ?_) ⟨a1, 0, H, rfl⟩ (fun h => wk [0, 1, 5] [] [⟨0, 0, 0, false⟩] h)
 · clear H; obtain ⟨_, _, H, _⟩ := hS; rw [laws_heldRowS.l0] at H; cases H
 clear H
 obtain ⟨x2_1, x2_5, H, rfl⟩ := hS
 rw [laws_heldRowS.l0] at H
 refine gs (gs (rg (sv (EV.mv rfl) rfl (sv (EV.mv rfl) rfl (sv (EV.ln rfl) rfl (sv (EV.lss rfl rfl) rfl (re ?_)))))))
 revert H; refine ifsI ?_ ?_ <;> intro c1 H
 ·
  refine gt rfl (dT c1) (gk (gs (gb (gs (gs (rg (sv (EV.mv rfl) rfl (sv (EV.mv rfl) rfl ?_))))))))
  revert H; refine ggI ?_; intro g2 H
  refine sv (EV.ix 0 rfl rfl rfl g2 c1 rfl) rfl (sv (EV.fa 0 rfl) rfl (sv (EV.le (v := .int .i64 ((rd_T72 l0 x2_5).f0)) x2_5 0 none 0 z72 rfl rfl rfl g2 c1 rfl rfl rfl) rfl (sv (EV.mv rfl) rfl (sv (EV.neq rfl rfl) rfl (re (pr [0, 1, 5, 18] [] [0] rfl rfl rfl rfl ?_))))))
  revert H; refine ifsI ?_ ?_ <;> intro c3 H
  ·
   refine gf rfl (nF c3) (gk (gs (rg (sv (EV.mv rfl) rfl (sv (EV.add rfl rfl) rfl (sv (EV.as rfl) rfl (re (gs (gs (rg (sv (EV.mv rfl) rfl (sv (EV.mv rfl) rfl (sv (EV.ix 0 rfl rfl rfl g2 c1 rfl) rfl (sv (EV.fa 1 rfl) rfl (sv (EV.le (v := .int .i64 ((rd_T72 l0 x2_5).f1)) x2_5 1 none 0 z72 rfl rfl rfl g2 c1 rfl rfl rfl) rfl (sv (EV.mv rfl) rfl (sv (EV.neq rfl rfl) rfl (re (pr [0, 1, 5, 27] [] [0] rfl rfl rfl rfl ?_)))))))))))))))))))
   revert H; refine ifsI ?_ ?_ <;> intro c4 H
   ·
    refine gf rfl (nF c4) (gk (gs (rg (sv (EV.mv rfl) rfl (sv (EV.add rfl rfl) rfl (sv (EV.as rfl) rfl (re (gs (gs (rg (sv (EV.mv rfl) rfl (sv (EV.mv rfl) rfl (sv (EV.ix 0 rfl rfl rfl g2 c1 rfl) rfl (sv (EV.fa 2 rfl) rfl (sv (EV.le (v := .int .i64 ((rd_T72 l0 x2_5).f2)) x2_5 2 none 0 z72 rfl rfl rfl g2 c1 rfl rfl rfl) rfl (sv (EV.mv rfl) rfl (sv (EV.neq rfl rfl) rfl (re (pr [0, 1, 5, 36] [] [0] rfl rfl rfl rfl ?_)))))))))))))))))))
    revert H; refine ifsI ?_ ?_ <;> intro c5 H
    ·
     exact gf rfl (nF c5) (gk (rg (sv (EV.mv rfl) rfl (sv (EV.add rfl rfl) rfl (sv (EV.as rfl) rfl (re (ge (rg (sv (EV.mv rfl) rfl (sv (EV.add rfl rfl) rfl (sv (EV.as rfl) rfl (re (wk [0, 1, 5] [] [⟨0, 0, 0, false⟩] (ih0 _ (by omega) _ ⟨wrap64 ((wrap64 ((wrap64 (x2_1 + 1)) + 1)) + 1), wrap64 (x2_5 + 1), H, rfl⟩))))))))))))))
    ·
     refine gt rfl (nT c5) (gs (rg (sv (EV.as rfl) rfl (re ?_))))
     cases H
     exact rt Try.func41 rfl (.tmp rfl .nil) rfl [] [] rfl rfl rfl rfl rfl ⟨rfl, rfl, rfl⟩
   ·
    refine gt rfl (nT c4) (gs (rg (sv (EV.as rfl) rfl (re ?_))))
    cases H
    exact rt Try.func41 rfl (.tmp rfl .nil) rfl [] [] rfl rfl rfl rfl rfl ⟨rfl, rfl, rfl⟩
  ·
   refine gt rfl (nT c3) (gs (rg (sv (EV.as rfl) rfl (re ?_))))
   cases H
   exact rt Try.func41 rfl (.tmp rfl .nil) rfl [] [] rfl rfl rfl rfl rfl ⟨rfl, rfl, rfl⟩
 ·
  refine gf rfl (dF c1) (gx rfl (gs (rg (sv (EV.mv rfl) rfl (sv (EV.as rfl) rfl (re (pr [4] [] [] rfl rfl rfl rfl ?_)))))))
  cases H
  exact rt Try.func41 rfl (.tmp rfl .nil) rfl [] [] rfl rfl rfl rfl rfl ⟨rfl, rfl, rfl⟩
def laws_heldRunS.l0 : Nat → Int → Int → (List S57) → Option (Int)
 | 0, _, _, _ => none
 | k + 1, x2_1, x2_5, l0 => if x2_5 < (l0.length : Int) then (if 0 ≤ x2_5 then ((laws_heldRowS.f k ((rd_T57 l0 x2_5).f0) x2_1).bind fun t4 => (if t4 < 0 then (some (-1)) else (laws_heldRunS.l0 k t4 (wrap64 (x2_5 + 1)) l0))) else none) else (some x2_1)
def laws_heldRunS.f (k : Nat) (l0 : List S57) (a1 : Int) : Option (Int) := laws_heldRunS.l0 k a1 0 l0
set_option maxHeartbeats 4000000 in
set_option maxRecDepth 100000 in
theorem laws_heldRunS.ok (k : Nat) (l0 : List S57) (Al0 : Option Addr) (cl0 : Nat) (a1 : Int) (r0 : Int) (H : laws_heldRunS.f k l0 a1 = some r0) : Fn Try.prog 42 [.slice Al0 l0.length cl0, .int .i64 a1] [] [.sl 0 k57 Al0 cl0 l0 0 false] (fun v bx en => v = .int .i64 r0 ∧ bx = [] ∧ en = []) := by
 refine fn_ 22 Try.func42 rfl rfl rfl (fun base T w0 => ?_)
 rw [laws_heldRunS.f] at H
 refine gs (rg (sv (EV.as rfl) rfl (re (gs (gs (rg (sv (EV.as rfl) rfl (re (gb ?_)))))))))
 refine lo (fun kk S => ∃ (x2_1 : Int) (x2_5 : Int), laws_heldRunS.l0 kk x2_1 x2_5 l0 = some r0 ∧ S = ⟨[(0, .slice Al0 l0.length cl0), (1, .int .i64 x2_1), (5, .int .i64 x2_5)], [], [.sl 0 k57 Al0 cl0 l0 0 false]⟩) (fun S hS => ?_) (fun n0 ih0 S hS => ?_) ⟨a1, 0, H, rfl⟩ (fun h => wk [0, 1, 5] [] [⟨0, 0, 0, false⟩] h)
 · clear H; obtain ⟨_, _, H, _⟩ := hS; rw [laws_heldRunS.l0] at H; cases H
 clear H
 obtain ⟨x2_1, x2_5, H, rfl⟩ := hS
 rw [laws_heldRunS.l0] at H
 refine gs (gs (rg (sv (EV.mv rfl) rfl (sv (EV.mv rfl) rfl (sv (EV.ln rfl) rfl (sv (EV.lss rfl rfl) rfl (re ?_)))))))
 revert H; refine ifsI ?_ ?_ <;> intro c1 H
 ·
  refine gt rfl (dT c1) (gk (gs (gb (gs (rg (sv (EV.mv rfl) rfl (sv (EV.mv rfl) rfl ?_)))))))
  revert H; refine ggI ?_; intro g2 H
  refine sv (EV.ix 0 rfl rfl rfl g2 c1 rfl) rfl (sv (EV.fa 0 rfl) rfl (opn (i := x2_5) 0 z57 rfl g2 c1 fun A_3 c_3 => (sv (EV.lc (v := .slice A_3 ((rd_T57 l0 x2_5).f0).length c_3) 0 none 1 rfl rfl rfl rfl) rfl (sv (EV.mv rfl) rfl ?_))))
  revert H; refine bdI ?_; rintro t4 A4 H
  refine so rfl (op_call (laws_heldRowS.ok n0 ((rd_T57 l0 x2_5).f0) A_3 c_3 x2_1 _ A4) [⟨2, 0, 0, false⟩] 1 rfl rfl rfl rfl rfl ?_)
  rintro _ _ _ ⟨rfl, rfl, rfl⟩
  refine sv (EV.as rfl) rfl (re (pr [0, 1, 5] [] [0] rfl rfl rfl rfl (gs (rg (sv (EV.mv rfl) rfl (sv (EV.lss rfl rfl) rfl (re ?_)))))))
  revert H; refine ifsI ?_ ?_ <;> intro c5 H
  ·
   refine gt rfl (dT c5) (gs (rg (sv (EV.as rfl) rfl (re ?_))))
   cases H
   exact rt Try.func42 rfl (.tmp rfl .nil) rfl [] [] rfl rfl rfl rfl rfl ⟨rfl, rfl, rfl⟩
  ·
   exact gf rfl (dF c5) (gk (ge (rg (sv (EV.mv rfl) rfl (sv (EV.add rfl rfl) rfl (sv (EV.as rfl) rfl (re (wk [0, 1, 5] [] [⟨0, 0, 0, false⟩] (ih0 _ (by omega) _ ⟨t4, wrap64 (x2_5 + 1), H, rfl⟩)))))))))
 ·
  refine gf rfl (dF c1) (gx rfl (gs (rg (sv (EV.mv rfl) rfl (sv (EV.as rfl) rfl (re (pr [4] [] [] rfl rfl rfl rfl ?_)))))))
  cases H
  exact rt Try.func42 rfl (.tmp rfl .nil) rfl [] [] rfl rfl rfl rfl rfl ⟨rfl, rfl, rfl⟩
def laws_heldSorter.f (k : Nat) (l0_0 : List S72) (a0_1 : Int) (l0_2 : List S72) (l0_3 : List S72) (l0_4 : List S72) (l0_5 : List S57) (a0_6 : Int) (a0_7 : Int) (a0_8 : Int) (a0_9 : Int) (a1 : Int) : Option (Int) := (laws_heldRowS.f k l0_0 a1).bind fun t1 => (if t1 < 0 then (some (-1)) else ((laws_heldRowS.f k l0_2 t1).bind fun t3 => (if t3 < 0 then (some (-1)) else ((laws_heldRowS.f k l0_3 t3).bind fun t5 => (if t5 < 0 then (some (-1)) else ((laws_heldRowS.f k l0_4 t5).bind fun t7 => (if t7 < 0 then (some (-1)) else ((laws_heldRunS.f k l0_5 t7).bind fun t9 => (if t9 < 0 then (some (-1)) else (some t9))))))))))
set_option maxHeartbeats 4000000 in
set_option maxRecDepth 100000 in
theorem laws_heldSorter.ok (k : Nat) (l0_0 : List S72) (Al0_0 : Option Addr) (cl0_0 : Nat) (a0_1 : Int) (l0_2 : List S72) (Al0_2 : Option Addr) (cl0_2 : Nat) (l0_3 : List S72) (Al0_3 : Option Addr) (cl0_3 : Nat) (l0_4 : List S72) (Al0_4 : Option Addr) (cl0_4 : Nat) (l0_5 : List S57) (Al0_5 : Option Addr) (cl0_5 : Nat) (a0_6 : Int) (a0_7 : Int) (a0_8 : Int) (a0_9 : Int) (a1 : Int) (r0 : Int) (H : laws_heldSorter.f k l0_0 a0_1 l0_2 l0_3 l0_4 l0_5 a0_6 a0_7 a0_8 a0_9 a1 = some r0) : Fn Try.prog 13 [.agg #[.slice Al0_0 l0_0.length cl0_0, .int .i64 a0_1, .slice Al0_2 l0_2.length cl0_2, .slice Al0_3 l0_3.length cl0_3, .slice Al0_4 l0_4.length cl0_4, .slice Al0_5 l0_5.length cl0_5, .int .i64 a0_6, .int .i64 a0_7, .int .i64 a0_8, .int .i64 a0_9], .int .i64 a1] [] [.sl 0 k72 Al0_0 cl0_0 l0_0 0 false, .sl 0 k72 Al0_2 cl0_2 l0_2 0 false, .sl 0 k72 Al0_3 cl0_3 l0_3 0 false, .sl 0 k72 Al0_4 cl0_4 l0_4 0 false, .sl 0 k57 Al0_5 cl0_5 l0_5 0 false] (fun v bx en => v = .int .i64 r0 ∧ bx = [] ∧ en = []) := by
 refine fn_ 36 Try.func13 rfl rfl rfl (fun base T w0 => ?_)
 rw [laws_heldSorter.f] at H
 refine gs (rg (so rfl (op_box (cs := [.slice Al0_0 l0_0.length cl0_0, .int .i64 a0_1, .slice Al0_2 l0_2.length cl0_2, .slice Al0_3 l0_3.length cl0_3, .slice Al0_4 l0_4.length cl0_4, .slice Al0_5 l0_5.length cl0_5, .int .i64 a0_6, .int .i64 a0_7, .int .i64 a0_8, .int .i64 a0_9]) rfl rfl rfl fun b2 => (sv (EV.as rfl) rfl (re (gs (rg (sv (EV.fa 0 rfl) rfl (sv (EV.ld 0 none rfl rfl rfl) rfl (sv (EV.mv rfl) rfl ?_))))))))))
 revert H; refine bdI ?_; rintro t1 A1 H
 refine so rfl (op_call (laws_heldRowS.ok k l0_0 Al0_0 cl0_0 a1 _ A1) [⟨0, 0, 0, false⟩] 1 rfl rfl rfl rfl rfl ?_)
 rintro _ _ _ ⟨rfl, rfl, rfl⟩
 refine sv (EV.as rfl) rfl (re (pr [1, 2] [0] [0, 1, 2, 3, 4] rfl rfl rfl rfl (gs (gs (rg (sv (EV.mv rfl) rfl (sv (EV.lss rfl rfl) rfl (re ?_))))))))
 revert H; refine ifsI ?_ ?_ <;> intro c2 H
 ·
  refine gt rfl (dT c2) (gs (rg (sv (EV.as rfl) rfl (re ?_))))
  cases H
  exact rt Try.func13 rfl (.tmp rfl .nil) rfl [] [] rfl rfl rfl rfl rfl ⟨rfl, rfl, rfl⟩
 ·
  refine gf rfl (dF c2) (gk (gs (rg (sv (EV.fa 2 rfl) rfl (sv (EV.ld 0 none rfl rfl rfl) rfl (sv (EV.mv rfl) rfl ?_))))))
  revert H; refine bdI ?_; rintro t3 A3 H
  refine so rfl (op_call (laws_heldRowS.ok k l0_2 Al0_2 cl0_2 t1 _ A3) [⟨1, 0, 0, false⟩] 1 rfl rfl rfl rfl rfl ?_)
  rintro _ _ _ ⟨rfl, rfl, rfl⟩
  refine sv (EV.as rfl) rfl (re (pr [1, 2] [0] [0, 1, 2, 3, 4] rfl rfl rfl rfl (gs (gs (rg (sv (EV.mv rfl) rfl (sv (EV.lss rfl rfl) rfl (re ?_))))))))
  revert H; refine ifsI ?_ ?_ <;> intro c4 H
  ·
   refine gt rfl (dT c4) (gs (rg (sv (EV.as rfl) rfl (re ?_))))
   cases H
   exact rt Try.func13 rfl (.tmp rfl .nil) rfl [] [] rfl rfl rfl rfl rfl ⟨rfl, rfl, rfl⟩
  ·
   refine gf rfl (dF c4) (gk (gs (rg (sv (EV.fa 3 rfl) rfl (sv (EV.ld 0 none rfl rfl rfl) rfl (sv (EV.mv rfl) rfl ?_))))))
   revert H; refine bdI ?_; rintro t5 A5 H
   refine so rfl (op_call (laws_heldRowS.ok k l0_3 Al0_3 cl0_3 t3 _ A5) [⟨2, 0, 0, false⟩] 1 rfl rfl rfl rfl rfl ?_)
   rintro _ _ _ ⟨rfl, rfl, rfl⟩
   refine sv (EV.as rfl) rfl (re (pr [1, 2] [0] [0, 1, 2, 3, 4] rfl rfl rfl rfl (gs (gs (rg (sv (EV.mv rfl) rfl (sv (EV.lss rfl rfl) rfl (re ?_))))))))
   revert H; refine ifsI ?_ ?_ <;> intro c6 H
   ·
    refine gt rfl (dT c6) (gs (rg (sv (EV.as rfl) rfl (re ?_))))
    cases H
    exact rt Try.func13 rfl (.tmp rfl .nil) rfl [] [] rfl rfl rfl rfl rfl ⟨rfl, rfl, rfl⟩
   ·
    refine gf rfl (dF c6) (gk (gs (rg (sv (EV.fa 4 rfl) rfl (sv (EV.ld 0 none rfl rfl rfl) rfl (sv (EV.mv rfl) rfl ?_))))))
    revert H; refine bdI ?_; rintro t7 A7 H
    refine so rfl (op_call (laws_heldRowS.ok k l0_4 Al0_4 cl0_4 t5 _ A7) [⟨3, 0, 0, false⟩] 1 rfl rfl rfl rfl rfl ?_)
    rintro _ _ _ ⟨rfl, rfl, rfl⟩
    refine sv (EV.as rfl) rfl (re (pr [1, 2] [0] [0, 1, 2, 3, 4] rfl rfl rfl rfl (gs (gs (rg (sv (EV.mv rfl) rfl (sv (EV.lss rfl rfl) rfl (re ?_))))))))
    revert H; refine ifsI ?_ ?_ <;> intro c8 H
    ·
     refine gt rfl (dT c8) (gs (rg (sv (EV.as rfl) rfl (re ?_))))
     cases H
     exact rt Try.func13 rfl (.tmp rfl .nil) rfl [] [] rfl rfl rfl rfl rfl ⟨rfl, rfl, rfl⟩
    ·
     refine gf rfl (dF c8) (gk (gs (rg (sv (EV.fa 5 rfl) rfl (sv (EV.ld 0 none rfl rfl rfl) rfl (sv (EV.mv rfl) rfl ?_))))))
     revert H; refine bdI ?_; rintro t9 A9 H
     refine so rfl (op_call (laws_heldRunS.ok k l0_5 Al0_5 cl0_5 t7 _ A9) [⟨4, 0, 0, false⟩] 1 rfl rfl rfl rfl rfl ?_)
     rintro _ _ _ ⟨rfl, rfl, rfl⟩
     refine sv (EV.as rfl) rfl (re (pr [1] [] [] rfl rfl rfl rfl (gs (gs (rg (sv (EV.mv rfl) rfl (sv (EV.lss rfl rfl) rfl (re ?_))))))))
     revert H; refine ifsI ?_ ?_ <;> intro c10 H
     ·
      refine gt rfl (dT c10) (gs (rg (sv (EV.as rfl) rfl (re ?_))))
      cases H
      exact rt Try.func13 rfl (.tmp rfl .nil) rfl [] [] rfl rfl rfl rfl rfl ⟨rfl, rfl, rfl⟩
     ·
      refine gf rfl (dF c10) (gk (gs (rg (sv (EV.mv rfl) rfl (sv (EV.as rfl) rfl (re ?_))))))
      cases H
      exact rt Try.func13 rfl (.tmp rfl .nil) rfl [] [] rfl rfl rfl rfl rfl ⟨rfl, rfl, rfl⟩
def laws_eqRow.f (a0_0 : Int) (a0_1 : Int) (a0_2 : Int) (a1_0 : Int) (a1_1 : Int) (a1_2 : Int) : Option (Bool) := if a0_0 = a1_0 then (if a0_1 = a1_1 then (if a0_2 = a1_2 then (some true) else (some false)) else (some false)) else (some false)
set_option maxHeartbeats 4000000 in
set_option maxRecDepth 100000 in
theorem laws_eqRow.ok (a0_0 : Int) (a0_1 : Int) (a0_2 : Int) (a1_0 : Int) (a1_1 : Int) (a1_2 : Int) (r0 : Bool) (H : laws_eqRow.f a0_0 a0_1 a0_2 a1_0 a1_1 a1_2 = some r0) : Fn Try.prog 70 [.agg #[.int .i64 a0_0, .int .i64 a0_1, .int .i64 a0_2], .agg #[.int .i64 a1_0, .int .i64 a1_1, .int .i64 a1_2]] [] [] (fun v bx en => v = .bool r0 ∧ bx = [] ∧ en = []) := by
 refine fn_ 20 Try.func70 rfl rfl rfl (fun base T w0 => ?_)
 rw [laws_eqRow.f] at H
 refine gs (rg (so rfl (op_box (cs := [.int .i64 a0_0, .int .i64 a0_1, .int .i64 a0_2]) rfl rfl rfl fun b2 => (so rfl (op_box (cs := [.int .i64 a1_0, .int .i64 a1_1, .int .i64 a1_2]) rfl rfl rfl fun b3 => (sv (EV.as rfl) rfl (re (gs (gs (rg (sv (EV.fa 0 rfl) rfl (sv (EV.ld 0 none rfl rfl rfl) rfl (sv (EV.fa 0 rfl) rfl (sv (EV.ld 1 none rfl rfl rfl) rfl (sv (EV.neq rfl rfl) rfl (re (pr [2, 3, 9] [0, 1] [] rfl rfl rfl rfl ?_)))))))))))))))))
 revert H; refine ifsI ?_ ?_ <;> intro c1 H
 ·
  refine gf rfl (nF c1) (gk (gs (gs (rg (sv (EV.fa 1 rfl) rfl (sv (EV.ld 0 none rfl rfl rfl) rfl (sv (EV.fa 1 rfl) rfl (sv (EV.ld 1 none rfl rfl rfl) rfl (sv (EV.neq rfl rfl) rfl (re ?_))))))))))
  revert H; refine ifsI ?_ ?_ <;> intro c2 H
  ·
   refine gf rfl (nF c2) (gk (gs (gs (rg (sv (EV.fa 2 rfl) rfl (sv (EV.ld 0 none rfl rfl rfl) rfl (sv (EV.fa 2 rfl) rfl (sv (EV.ld 1 none rfl rfl rfl) rfl (sv (EV.neq rfl rfl) rfl (re (pr [19] [] [] rfl rfl rfl rfl ?_)))))))))))
   revert H; refine ifsI ?_ ?_ <;> intro c3 H
   ·
    refine gf rfl (nF c3) (gk (gs (rg (sv (EV.as rfl) rfl (re ?_)))))
    cases H
    exact rt Try.func70 rfl (.tmp rfl .nil) rfl [] [] rfl rfl rfl rfl rfl ⟨rfl, rfl, rfl⟩
   ·
    refine gt rfl (nT c3) (gs (rg (sv (EV.as rfl) rfl (re ?_))))
    cases H
    exact rt Try.func70 rfl (.tmp rfl .nil) rfl [] [] rfl rfl rfl rfl rfl ⟨rfl, rfl, rfl⟩
  ·
   refine gt rfl (nT c2) (gs (rg (sv (EV.as rfl) rfl (re (pr [4] [] [] rfl rfl rfl rfl ?_)))))
   cases H
   exact rt Try.func70 rfl (.tmp rfl .nil) rfl [] [] rfl rfl rfl rfl rfl ⟨rfl, rfl, rfl⟩
 ·
  refine gt rfl (nT c1) (gs (rg (sv (EV.as rfl) rfl (re ?_))))
  cases H
  exact rt Try.func70 rfl (.tmp rfl .nil) rfl [] [] rfl rfl rfl rfl rfl ⟨rfl, rfl, rfl⟩
def laws_eqRowS.l0 : Nat → Int → (List S72) → (List S72) → Option (Bool)
 | 0, _, _, _ => none
 | k + 1, x2_5, l0, l1 => if x2_5 < (l0.length : Int) then (if 0 ≤ x2_5 then (if x2_5 < (l1.length : Int) then ((laws_eqRow.f ((rd_T72 l0 x2_5).f0) ((rd_T72 l0 x2_5).f1) ((rd_T72 l0 x2_5).f2) ((rd_T72 l1 x2_5).f0) ((rd_T72 l1 x2_5).f1) ((rd_T72 l1 x2_5).f2)).bind fun t5 => (if t5 = true then (laws_eqRowS.l0 k (wrap64 (x2_5 + 1)) l0 l1) else (some false))) else none) else none) else (some true)
def laws_eqRowS.f (k : Nat) (l0 : List S72) (l1 : List S72) : Option (Bool) := if (l0.length : Int) = (l1.length : Int) then (laws_eqRowS.l0 k 0 l0 l1) else (some false)
set_option maxHeartbeats 4000000 in
set_option maxRecDepth 100000 in
theorem laws_eqRowS.ok (k : Nat) (l0 : List S72) (Al0 : Option Addr) (cl0 : Nat) (l1 : List S72) (Al1 : Option Addr) (cl1 : Nat) (r0 : Bool) (H : laws_eqRowS.f k l0 l1 = some r0) : Fn Try.prog 28 [.slice Al0 l0.length cl0, .slice Al1 l1.length cl1] [] [.sl 0 k72 Al0 cl0 l0 0 false, .sl 0 k72 Al1 cl1 l1 0 false] (fun v bx en => v = .bool r0 ∧ bx = [] ∧ en = []) := by
 refine fn_ 27 Try.func28 rfl rfl rfl (fun base T w0 => ?_)
 rw [laws_eqRowS.f] at H
 refine gs (rg (sv (EV.as rfl) rfl (re (gs (gs (rg (sv (EV.mv rfl) rfl (sv (EV.ln rfl) rfl (sv (EV.mv rfl) rfl (sv (EV.ln rfl) rfl (sv (EV.neq rfl rfl) rfl (re ?_))))))))))))
 revert H; refine ifsI ?_ ?_ <;> intro c1 H
 ·
  refine gf rfl (nF c1) (gk (gs (gs (rg (sv (EV.as rfl) rfl (re (pr [0, 1, 5] [] [0, 1] rfl rfl rfl rfl (gb ?_))))))))
  refine lo (fun kk S => ∃ (x2_5 : Int), laws_eqRowS.l0 kk x2_5 l0 l1 = some r0 ∧ S = ⟨[(0, .slice Al0 l0.length cl0), (1, .slice Al1 l1.length cl1), (5, .int .i64 x2_5)], [], [.sl 0 k72 Al0 cl0 l0 0 false, .sl 0 k72 Al1 cl1 l1 0 false]⟩) (fun S hS => ?_) (fun n0 ih0 S hS => ?_) ⟨0, H, rfl⟩ (fun h => wk [0, 1, 5] [] [⟨0, 0, 0, false⟩, ⟨1, 0, 0, false⟩] h)
  · clear H; obtain ⟨_, H, _⟩ := hS; rw [laws_eqRowS.l0] at H; cases H
  clear H
  obtain ⟨x2_5, H, rfl⟩ := hS
  rw [laws_eqRowS.l0] at H
  refine gs (gs (rg (sv (EV.mv rfl) rfl (sv (EV.mv rfl) rfl (sv (EV.ln rfl) rfl (sv (EV.lss rfl rfl) rfl (re ?_)))))))
  revert H; refine ifsI ?_ ?_ <;> intro c2 H
  ·
   refine gt rfl (dT c2) (gk (gs (gb (gs ?_))))
   revert H; refine ggI ?_; intro g3 H
   revert H; refine ggI ?_; intro g4 H
   refine dr [] [0, 1] [] 10 rfl rfl rfl rfl (xv 0 [] [0, 1] rfl (EV.mv rfl) rfl rfl rfl rfl (xv 1 [] [0, 1] rfl (EV.mv rfl) rfl rfl rfl rfl (xv 2 [] [0, 1] rfl (EV.ix 0 rfl rfl rfl g3 c2 rfl) rfl rfl rfl rfl (xv 3 [] [0, 1] rfl (EV.le (v := .agg #[.int .i64 ((rd_T72 l0 x2_5).f0), .int .i64 ((rd_T72 l0 x2_5).f1), .int .i64 ((rd_T72 l0 x2_5).f2)]) x2_5 0 (some 3) 0 z72 rfl rfl rfl g3 c2 rfl rfl rfl) rfl rfl rfl rfl (xv 4 [] [0, 1] rfl (EV.mv rfl) rfl rfl rfl rfl (xv 5 [] [0, 1] rfl (EV.mv rfl) rfl rfl rfl rfl (xv 6 [] [0, 1] rfl (EV.ix 1 rfl rfl rfl g3 g4 rfl) rfl rfl rfl rfl (xv 7 [] [0, 1] rfl (EV.le (v := .agg #[.int .i64 ((rd_T72 l1 x2_5).f0), .int .i64 ((rd_T72 l1 x2_5).f1), .int .i64 ((rd_T72 l1 x2_5).f2)]) x2_5 0 (some 3) 1 z72 rfl rfl rfl g3 g4 rfl rfl rfl) rfl rfl rfl rfl (one1 8 rfl rfl ?_)))))))))
   revert H; refine bdI ?_; rintro t5 A5 H
   refine op_call (laws_eqRow.ok ((rd_T72 l0 x2_5).f0) ((rd_T72 l0 x2_5).f1) ((rd_T72 l0 x2_5).f2) ((rd_T72 l1 x2_5).f0) ((rd_T72 l1 x2_5).f1) ((rd_T72 l1 x2_5).f2) _ A5) [] 1 rfl rfl rfl rfl rfl ?_
   rintro _ _ _ ⟨rfl, rfl, rfl⟩
   refine xs [] [0, 1] rfl rfl rfl (xv 9 [] [0, 1] rfl (EV.nt rfl) rfl rfl rfl rfl (xd (pr [0, 1, 5, 26] [] [0, 1] rfl rfl rfl rfl ?_)))
   revert H; refine ifsI ?_ ?_ <;> intro c6 H
   ·
    subst c6
    exact gf rfl rfl (gk (ge (rg (sv (EV.mv rfl) rfl (sv (EV.add rfl rfl) rfl (sv (EV.as rfl) rfl (re (wk [0, 1, 5] [] [⟨0, 0, 0, false⟩, ⟨1, 0, 0, false⟩] (ih0 _ (by omega) _ ⟨wrap64 (x2_5 + 1), H, rfl⟩)))))))))
   ·
    have xc6 := bF c6; subst xc6
    refine gt rfl rfl (gs (rg (sv (EV.as rfl) rfl (re ?_))))
    cases H
    exact rt Try.func28 rfl (.tmp rfl .nil) rfl [] [] rfl rfl rfl rfl rfl ⟨rfl, rfl, rfl⟩
  ·
   refine gf rfl (dF c2) (gx rfl (gs (rg (sv (EV.as rfl) rfl (re (pr [4] [] [] rfl rfl rfl rfl ?_))))))
   cases H
   exact rt Try.func28 rfl (.tmp rfl .nil) rfl [] [] rfl rfl rfl rfl rfl ⟨rfl, rfl, rfl⟩
 ·
  refine gt rfl (nT c1) (gs (rg (sv (EV.as rfl) rfl (re (pr [4] [] [] rfl rfl rfl rfl ?_)))))
  cases H
  exact rt Try.func28 rfl (.tmp rfl .nil) rfl [] [] rfl rfl rfl rfl rfl ⟨rfl, rfl, rfl⟩
def laws_eqRun.f (k : Nat) (l0_0 : List S72) (l1_0 : List S72) : Option (Bool) := (laws_eqRowS.f k l0_0 l1_0).bind fun t1 => (if t1 = true then (some true) else (some false))
set_option maxHeartbeats 4000000 in
set_option maxRecDepth 100000 in
theorem laws_eqRun.ok (k : Nat) (l0_0 : List S72) (Al0_0 : Option Addr) (cl0_0 : Nat) (l1_0 : List S72) (Al1_0 : Option Addr) (cl1_0 : Nat) (r0 : Bool) (H : laws_eqRun.f k l0_0 l1_0 = some r0) : Fn Try.prog 71 [.agg #[.slice Al0_0 l0_0.length cl0_0], .agg #[.slice Al1_0 l1_0.length cl1_0]] [] [.sl 0 k72 Al0_0 cl0_0 l0_0 0 false, .sl 0 k72 Al1_0 cl1_0 l1_0 0 false] (fun v bx en => v = .bool r0 ∧ bx = [] ∧ en = []) := by
 refine fn_ 11 Try.func71 rfl rfl rfl (fun base T w0 => ?_)
 rw [laws_eqRun.f] at H
 refine gs (rg (so rfl (op_box (cs := [.slice Al0_0 l0_0.length cl0_0]) rfl rfl rfl fun b2 => (so rfl (op_box (cs := [.slice Al1_0 l1_0.length cl1_0]) rfl rfl rfl fun b3 => (sv (EV.as rfl) rfl (re (gs (gs (rg (sv (EV.fa 0 rfl) rfl (sv (EV.ld 0 none rfl rfl rfl) rfl (sv (EV.fa 0 rfl) rfl (sv (EV.ld 1 none rfl rfl rfl) rfl ?_))))))))))))))
 revert H; refine bdI ?_; rintro t1 A1 H
 refine so rfl (op_call (laws_eqRowS.ok k l0_0 Al0_0 cl0_0 l1_0 Al1_0 cl1_0 _ A1) [⟨0, 0, 0, false⟩, ⟨1, 0, 0, false⟩] 1 rfl rfl rfl rfl rfl ?_)
 rintro _ _ _ ⟨rfl, rfl, rfl⟩
 refine sv (EV.nt rfl) rfl (re (pr [10] [] [] rfl rfl rfl rfl ?_))
 revert H; refine ifsI ?_ ?_ <;> intro c2 H
 ·
  subst c2
  refine gf rfl rfl (gk (gs (rg (sv (EV.as rfl) rfl (re ?_)))))
  cases H
  exact rt Try.func71 rfl (.tmp rfl .nil) rfl [] [] rfl rfl rfl rfl rfl ⟨rfl, rfl, rfl⟩
 ·
  have xc2 := bF c2; subst xc2
  refine gt rfl rfl (gs (rg (sv (EV.as rfl) rfl (re ?_))))
  cases H
  exact rt Try.func71 rfl (.tmp rfl .nil) rfl [] [] rfl rfl rfl rfl rfl ⟨rfl, rfl, rfl⟩
def laws_eqRunS.l0 : Nat → Int → (List S57) → (List S57) → Option (Bool)
 | 0, _, _, _ => none
 | k + 1, x2_5, l0, l1 => if x2_5 < (l0.length : Int) then (if 0 ≤ x2_5 then (if x2_5 < (l1.length : Int) then ((laws_eqRun.f k ((rd_T57 l0 x2_5).f0) ((rd_T57 l1 x2_5).f0)).bind fun t7 => (if t7 = true then (laws_eqRunS.l0 k (wrap64 (x2_5 + 1)) l0 l1) else (some false))) else none) else none) else (some true)
def laws_eqRunS.f (k : Nat) (l0 : List S57) (l1 : List S57) : Option (Bool) := if (l0.length : Int) = (l1.length : Int) then (laws_eqRunS.l0 k 0 l0 l1) else (some false)
set_option maxHeartbeats 4000000 in
set_option maxRecDepth 100000 in
theorem laws_eqRunS.ok (k : Nat) (l0 : List S57) (Al0 : Option Addr) (cl0 : Nat) (l1 : List S57) (Al1 : Option Addr) (cl1 : Nat) (r0 : Bool) (H : laws_eqRunS.f k l0 l1 = some r0) : Fn Try.prog 29 [.slice Al0 l0.length cl0, .slice Al1 l1.length cl1] [] [.sl 0 k57 Al0 cl0 l0 0 false, .sl 0 k57 Al1 cl1 l1 0 false] (fun v bx en => v = .bool r0 ∧ bx = [] ∧ en = []) := by
 refine fn_ 27 Try.func29 rfl rfl rfl (fun base T w0 => ?_)
 rw [laws_eqRunS.f] at H
 refine gs (rg (sv (EV.as rfl) rfl (re (gs (gs (rg (sv (EV.mv rfl) rfl (sv (EV.ln rfl) rfl (sv (EV.mv rfl) rfl (sv (EV.ln rfl) rfl (sv (EV.neq rfl rfl) rfl (re ?_))))))))))))
 revert H; refine ifsI ?_ ?_ <;> intro c1 H
 ·
  refine gf rfl (nF c1) (gk (gs (gs (rg (sv (EV.as rfl) rfl (re (pr [0, 1, 5] [] [0, 1] rfl rfl rfl rfl (gb ?_))))))))
  refine lo (fun kk S => ∃ (x2_5 : Int), laws_eqRunS.l0 kk x2_5 l0 l1 = some r0 ∧ S = ⟨[(0, .slice Al0 l0.length cl0), (1, .slice Al1 l1.length cl1), (5, .int .i64 x2_5)], [], [.sl 0 k57 Al0 cl0 l0 0 false, .sl 0 k57 Al1 cl1 l1 0 false]⟩) (fun S hS => ?_) (fun n0 ih0 S hS => ?_) ⟨0, H, rfl⟩ (fun h => wk [0, 1, 5] [] [⟨0, 0, 0, false⟩, ⟨1, 0, 0, false⟩] h)
  · clear H; obtain ⟨_, H, _⟩ := hS; rw [laws_eqRunS.l0] at H; cases H
  clear H
  obtain ⟨x2_5, H, rfl⟩ := hS
  rw [laws_eqRunS.l0] at H
  refine gs (gs (rg (sv (EV.mv rfl) rfl (sv (EV.mv rfl) rfl (sv (EV.ln rfl) rfl (sv (EV.lss rfl rfl) rfl (re ?_)))))))
  revert H; refine ifsI ?_ ?_ <;> intro c2 H
  ·
   refine gt rfl (dT c2) (gk (gs (gb (gs ?_))))
   revert H; refine ggI ?_; intro g3 H
   refine opn (i := x2_5) 0 z57 rfl g3 c2 fun A_4 c_4 => ?_
   revert H; refine ggI ?_; intro g5 H
   refine opn (i := x2_5) 1 z57 rfl g3 g5 fun A_6 c_6 => (dr [] [0, 1, 2, 3, 4, 5] [] 10 rfl rfl rfl rfl (xv 0 [] [0, 1, 2, 3, 4, 5] rfl (EV.mv rfl) rfl rfl rfl rfl (xv 1 [] [0, 1, 2, 3, 4, 5] rfl (EV.mv rfl) rfl rfl rfl rfl (xv 2 [] [0, 1, 2, 3, 4, 5] rfl (EV.ix 0 rfl rfl rfl g3 c2 rfl) rfl rfl rfl rfl (xv 3 [] [0, 1, 2, 3, 4, 5] rfl (EV.lc (v := .agg #[.slice A_4 ((rd_T57 l0 x2_5).f0).length c_4]) 0 (some 1) 2 rfl rfl rfl rfl) rfl rfl rfl rfl (xv 4 [] [0, 1, 2, 3, 4, 5] rfl (EV.mv rfl) rfl rfl rfl rfl (xv 5 [] [0, 1, 2, 3, 4, 5] rfl (EV.mv rfl) rfl rfl rfl rfl (xv 6 [] [0, 1, 2, 3, 4, 5] rfl (EV.ix 1 rfl rfl rfl g3 g5 rfl) rfl rfl rfl rfl (xv 7 [] [0, 1, 2, 3, 4, 5] rfl (EV.lc (v := .agg #[.slice A_6 ((rd_T57 l1 x2_5).f0).length c_6]) 0 (some 1) 4 rfl rfl rfl rfl) rfl rfl rfl rfl (one1 8 rfl rfl ?_))))))))))
   revert H; refine bdI ?_; rintro t7 A7 H
   refine op_call (laws_eqRun.ok n0 ((rd_T57 l0 x2_5).f0) A_4 c_4 ((rd_T57 l1 x2_5).f0) A_6 c_6 _ A7) [⟨3, 0, 0, false⟩, ⟨5, 0, 0, false⟩] 1 rfl rfl rfl rfl rfl ?_
   rintro _ _ _ ⟨rfl, rfl, rfl⟩
   refine xs [] [0, 1, 2, 3, 4, 5] rfl rfl rfl (xv 9 [] [0, 1, 2, 3, 4, 5] rfl (EV.nt rfl) rfl rfl rfl rfl (xd (pr [0, 1, 5, 26] [] [0, 1] rfl rfl rfl rfl ?_)))
   revert H; refine ifsI ?_ ?_ <;> intro c8 H
   ·
    subst c8
    exact gf rfl rfl (gk (ge (rg (sv (EV.mv rfl) rfl (sv (EV.add rfl rfl) rfl (sv (EV.as rfl) rfl (re (wk [0, 1, 5] [] [⟨0, 0, 0, false⟩, ⟨1, 0, 0, false⟩] (ih0 _ (by omega) _ ⟨wrap64 (x2_5 + 1), H, rfl⟩)))))))))
   ·
    have xc8 := bF c8; subst xc8
    refine gt rfl rfl (gs (rg (sv (EV.as rfl) rfl (re ?_))))
    cases H
    exact rt Try.func29 rfl (.tmp rfl .nil) rfl [] [] rfl rfl rfl rfl rfl ⟨rfl, rfl, rfl⟩
  ·
   refine gf rfl (dF c2) (gx rfl (gs (rg (sv (EV.as rfl) rfl (re (pr [4] [] [] rfl rfl rfl rfl ?_))))))
   cases H
   exact rt Try.func29 rfl (.tmp rfl .nil) rfl [] [] rfl rfl rfl rfl rfl ⟨rfl, rfl, rfl⟩
 ·
  refine gt rfl (nT c1) (gs (rg (sv (EV.as rfl) rfl (re (pr [4] [] [] rfl rfl rfl rfl ?_)))))
  cases H
  exact rt Try.func29 rfl (.tmp rfl .nil) rfl [] [] rfl rfl rfl rfl rfl ⟨rfl, rfl, rfl⟩
def laws_eqSorter.f (k : Nat) (l0_0 : List S72) (a0_1 : Int) (l0_2 : List S72) (l0_3 : List S72) (l0_4 : List S72) (l0_5 : List S57) (a0_6 : Int) (a0_7 : Int) (a0_8 : Int) (a0_9 : Int) (l1_0 : List S72) (a1_1 : Int) (l1_2 : List S72) (l1_3 : List S72) (l1_4 : List S72) (l1_5 : List S57) (a1_6 : Int) (a1_7 : Int) (a1_8 : Int) (a1_9 : Int) : Option (Bool) := (laws_eqRowS.f k l0_0 l1_0).bind fun t1 => (if t1 = true then (if a0_1 = a1_1 then ((laws_eqRowS.f k l0_2 l1_2).bind fun t4 => (if t4 = true then ((laws_eqRowS.f k l0_3 l1_3).bind fun t6 => (if t6 = true then ((laws_eqRowS.f k l0_4 l1_4).bind fun t8 => (if t8 = true then ((laws_eqRunS.f k l0_5 l1_5).bind fun t10 => (if t10 = true then (if a0_6 = a1_6 then (if a0_7 = a1_7 then (if a0_8 = a1_8 then (if a0_9 = a1_9 then (some true) else (some false)) else (some false)) else (some false)) else (some false)) else (some false))) else (some false))) else (some false))) else (some false))) else (some false)) else (some false))
set_option maxHeartbeats 4000000 in
set_option maxRecDepth 100000 in
theorem laws_eqSorter.ok (k : Nat) (l0_0 : List S72) (Al0_0 : Option Addr) (cl0_0 : Nat) (a0_1 : Int) (l0_2 : List S72) (Al0_2 : Option Addr) (cl0_2 : Nat) (l0_3 : List S72) (Al0_3 : Option Addr) (cl0_3 : Nat) (l0_4 : List S72) (Al0_4 : Option Addr) (cl0_4 : Nat) (l0_5 : List S57) (Al0_5 : Option Addr) (cl0_5 : Nat) (a0_6 : Int) (a0_7 : Int) (a0_8 : Int) (a0_9 : Int) (l1_0 : List S72) (Al1_0 : Option Addr) (cl1_0 : Nat) (a1_1 : Int) (l1_2 : List S72) (Al1_2 : Option Addr) (cl1_2 : Nat) (l1_3 : List S72) (Al1_3 : Option Addr) (cl1_3 : Nat) (l1_4 : List S72) (Al1_4 : Option Addr) (cl1_4 : Nat) (l1_5 : List S57) (Al1_5 : Option Addr) (cl1_5 : Nat) (a1_6 : Int) (a1_7 : Int) (a1_8 : Int) (a1_9 : Int) (r0 : Bool) (H : laws_eqSorter.f k l0_0 a0_1 l0_2 l0_3 l0_4 l0_5 a0_6 a0_7 a0_8 a0_9 l1_0 a1_1 l1_2 l1_3 l1_4 l1_5 a1_6 a1_7 a1_8 a1_9 = some r0) : Fn Try.prog 9 [.agg #[.slice Al0_0 l0_0.length cl0_0, .int .i64 a0_1, .slice Al0_2 l0_2.length cl0_2, .slice Al0_3 l0_3.length cl0_3, .slice Al0_4 l0_4.length cl0_4, .slice Al0_5 l0_5.length cl0_5, .int .i64 a0_6, .int .i64 a0_7, .int .i64 a0_8, .int .i64 a0_9], .agg #[.slice Al1_0 l1_0.length cl1_0, .int .i64 a1_1, .slice Al1_2 l1_2.length cl1_2, .slice Al1_3 l1_3.length cl1_3, .slice Al1_4 l1_4.length cl1_4, .slice Al1_5 l1_5.length cl1_5, .int .i64 a1_6, .int .i64 a1_7, .int .i64 a1_8, .int .i64 a1_9]] [] [.sl 0 k72 Al0_0 cl0_0 l0_0 0 false, .sl 0 k72 Al0_2 cl0_2 l0_2 0 false, .sl 0 k72 Al0_3 cl0_3 l0_3 0 false, .sl 0 k72 Al0_4 cl0_4 l0_4 0 false, .sl 0 k57 Al0_5 cl0_5 l0_5 0 false, .sl 0 k72 Al1_0 cl1_0 l1_0 0 false, .sl 0 k72 Al1_2 cl1_2 l1_2 0 false, .sl 0 k72 Al1_3 cl1_3 l1_3 0 false, .sl 0 k72 Al1_4 cl1_4 l1_4 0 false, .sl 0 k57 Al1_5 cl1_5 l1_5 0 false] (fun v bx en => v = .bool r0 ∧ bx = [] ∧ en = []) := by
 refine fn_ 60 Try.func9 rfl rfl rfl (fun base T w0 => ?_)
 rw [laws_eqSorter.f] at H
 refine gs (rg (so rfl (op_box (cs := [.slice Al0_0 l0_0.length cl0_0, .int .i64 a0_1, .slice Al0_2 l0_2.length cl0_2, .slice Al0_3 l0_3.length cl0_3, .slice Al0_4 l0_4.length cl0_4, .slice Al0_5 l0_5.length cl0_5, .int .i64 a0_6, .int .i64 a0_7, .int .i64 a0_8, .int .i64 a0_9]) rfl rfl rfl fun b2 => (so rfl (op_box (cs := [.slice Al1_0 l1_0.length cl1_0, .int .i64 a1_1, .slice Al1_2 l1_2.length cl1_2, .slice Al1_3 l1_3.length cl1_3, .slice Al1_4 l1_4.length cl1_4, .slice Al1_5 l1_5.length cl1_5, .int .i64 a1_6, .int .i64 a1_7, .int .i64 a1_8, .int .i64 a1_9]) rfl rfl rfl fun b3 => (sv (EV.as rfl) rfl (re (gs (gs (rg (sv (EV.fa 0 rfl) rfl (sv (EV.ld 0 none rfl rfl rfl) rfl (sv (EV.fa 0 rfl) rfl (sv (EV.ld 1 none rfl rfl rfl) rfl ?_))))))))))))))
 revert H; refine bdI ?_; rintro t1 A1 H
 refine so rfl (op_call (laws_eqRowS.ok k l0_0 Al0_0 cl0_0 l1_0 Al1_0 cl1_0 _ A1) [⟨0, 0, 0, false⟩, ⟨5, 0, 0, false⟩] 1 rfl rfl rfl rfl rfl ?_)
 rintro _ _ _ ⟨rfl, rfl, rfl⟩
 refine sv (EV.nt rfl) rfl (re (pr [2, 3, 10] [0, 1] [0, 1, 2, 3, 4, 5, 6, 7, 8, 9] rfl rfl rfl rfl ?_))
 revert H; refine ifsI ?_ ?_ <;> intro c2 H
 ·
  subst c2
  refine gf rfl rfl (gk (gs (gs (rg (sv (EV.fa 1 rfl) rfl (sv (EV.ld 0 none rfl rfl rfl) rfl (sv (EV.fa 1 rfl) rfl (sv (EV.ld 1 none rfl rfl rfl) rfl (sv (EV.neq rfl rfl) rfl (re ?_))))))))))
  revert H; refine ifsI ?_ ?_ <;> intro c3 H
  ·
   refine gf rfl (nF c3) (gk (gs (gs (rg (sv (EV.fa 2 rfl) rfl (sv (EV.ld 0 none rfl rfl rfl) rfl (sv (EV.fa 2 rfl) rfl (sv (EV.ld 1 none rfl rfl rfl) rfl ?_))))))))
   revert H; refine bdI ?_; rintro t4 A4 H
   refine so rfl (op_call (laws_eqRowS.ok k l0_2 Al0_2 cl0_2 l1_2 Al1_2 cl1_2 _ A4) [⟨1, 0, 0, false⟩, ⟨6, 0, 0, false⟩] 1 rfl rfl rfl rfl rfl ?_)
   rintro _ _ _ ⟨rfl, rfl, rfl⟩
   refine sv (EV.nt rfl) rfl (re (pr [2, 3, 21] [0, 1] [0, 1, 2, 3, 4, 5, 6, 7, 8, 9] rfl rfl rfl rfl ?_))
   revert H; refine ifsI ?_ ?_ <;> intro c5 H
   ·
    subst c5
    refine gf rfl rfl (gk (gs (gs (rg (sv (EV.fa 3 rfl) rfl (sv (EV.ld 0 none rfl rfl rfl) rfl (sv (EV.fa 3 rfl) rfl (sv (EV.ld 1 none rfl rfl rfl) rfl ?_))))))))
    revert H; refine bdI ?_; rintro t6 A6 H
    refine so rfl (op_call (laws_eqRowS.ok k l0_3 Al0_3 cl0_3 l1_3 Al1_3 cl1_3 _ A6) [⟨2, 0, 0, false⟩, ⟨7, 0, 0, false⟩] 1 rfl rfl rfl rfl rfl ?_)
    rintro _ _ _ ⟨rfl, rfl, rfl⟩
    refine sv (EV.nt rfl) rfl (re (pr [2, 3, 27] [0, 1] [0, 1, 2, 3, 4, 5, 6, 7, 8, 9] rfl rfl rfl rfl ?_))
    revert H; refine ifsI ?_ ?_ <;> intro c7 H
    ·
     subst c7
     refine gf rfl rfl (gk (gs (gs (rg (sv (EV.fa 4 rfl) rfl (sv (EV.ld 0 none rfl rfl rfl) rfl (sv (EV.fa 4 rfl) rfl (sv (EV.ld 1 none rfl rfl rfl) rfl ?_))))))))
     revert H; refine bdI ?_; rintro t8 A8 H
     refine so rfl (op_call (laws_eqRowS.ok k l0_4 Al0_4 cl0_4 l1_4 Al1_4 cl1_4 _ A8) [⟨3, 0, 0, false⟩, ⟨8, 0, 0, false⟩] 1 rfl rfl rfl rfl rfl ?_)
     rintro _ _ _ ⟨rfl, rfl, rfl⟩
     refine sv (EV.nt rfl) rfl (re (pr [2, 3, 33] [0, 1] [0, 1, 2, 3, 4, 5, 6, 7, 8, 9] rfl rfl rfl rfl ?_))
     revert H; refine ifsI ?_ ?_ <;> intro c9 H
     ·
      subst c9
      refine gf rfl rfl (gk (gs (gs (rg (sv (EV.fa 5 rfl) rfl (sv (EV.ld 0 none rfl rfl rfl) rfl (sv (EV.fa 5 rfl) rfl (sv (EV.ld 1 none rfl rfl rfl) rfl ?_))))))))
      revert H; refine bdI ?_; rintro t10 A10 H
      refine so rfl (op_call (laws_eqRunS.ok k l0_5 Al0_5 cl0_5 l1_5 Al1_5 cl1_5 _ A10) [⟨4, 0, 0, false⟩, ⟨9, 0, 0, false⟩] 1 rfl rfl rfl rfl rfl ?_)
      rintro _ _ _ ⟨rfl, rfl, rfl⟩
      refine sv (EV.nt rfl) rfl (re (pr [2, 3, 39] [0, 1] [0, 1, 2, 3, 4, 5, 6, 7, 8, 9] rfl rfl rfl rfl ?_))
      revert H; refine ifsI ?_ ?_ <;> intro c11 H
      ·
       subst c11
       refine gf rfl rfl (gk (gs (gs (rg (sv (EV.fa 6 rfl) rfl (sv (EV.ld 0 none rfl rfl rfl) rfl (sv (EV.fa 6 rfl) rfl (sv (EV.ld 1 none rfl rfl rfl) rfl (sv (EV.neq rfl rfl) rfl (re ?_))))))))))
       revert H; refine ifsI ?_ ?_ <;> intro c12 H
       ·
        refine gf rfl (nF c12) (gk (gs (gs (rg (sv (EV.fa 7 rfl) rfl (sv (EV.ld 0 none rfl rfl rfl) rfl (sv (EV.fa 7 rfl) rfl (sv (EV.ld 1 none rfl rfl rfl) rfl (sv (EV.neq rfl rfl) rfl (re (pr [2, 3, 49] [0, 1] [0, 1, 2, 3, 4, 5, 6, 7, 8, 9] rfl rfl rfl rfl ?_)))))))))))
        revert H; refine ifsI ?_ ?_ <;> intro c13 H
        ·
         refine gf rfl (nF c13) (gk (gs (gs (rg (sv (EV.fa 8 rfl) rfl (sv (EV.ld 0 none rfl rfl rfl) rfl (sv (EV.fa 8 rfl) rfl (sv (EV.ld 1 none rfl rfl rfl) rfl (sv (EV.neq rfl rfl) rfl (re ?_))))))))))
         revert H; refine ifsI ?_ ?_ <;> intro c14 H
         ·
          refine gf rfl (nF c14) (gk (gs (gs (rg (sv (EV.fa 9 rfl) rfl (sv (EV.ld 0 none rfl rfl rfl) rfl (sv (EV.fa 9 rfl) rfl (sv (EV.ld 1 none rfl rfl rfl) rfl (sv (EV.neq rfl rfl) rfl (re (pr [59] [] [] rfl rfl rfl rfl ?_)))))))))))
          revert H; refine ifsI ?_ ?_ <;> intro c15 H
          ·
           refine gf rfl (nF c15) (gk (gs (rg (sv (EV.as rfl) rfl (re ?_)))))
           cases H
           exact rt Try.func9 rfl (.tmp rfl .nil) rfl [] [] rfl rfl rfl rfl rfl ⟨rfl, rfl, rfl⟩
          ·
           refine gt rfl (nT c15) (gs (rg (sv (EV.as rfl) rfl (re ?_))))
           cases H
           exact rt Try.func9 rfl (.tmp rfl .nil) rfl [] [] rfl rfl rfl rfl rfl ⟨rfl, rfl, rfl⟩
         ·
          refine gt rfl (nT c14) (gs (rg (sv (EV.as rfl) rfl (re (pr [4] [] [] rfl rfl rfl rfl ?_)))))
          cases H
          exact rt Try.func9 rfl (.tmp rfl .nil) rfl [] [] rfl rfl rfl rfl rfl ⟨rfl, rfl, rfl⟩
        ·
         refine gt rfl (nT c13) (gs (rg (sv (EV.as rfl) rfl (re ?_))))
         cases H
         exact rt Try.func9 rfl (.tmp rfl .nil) rfl [] [] rfl rfl rfl rfl rfl ⟨rfl, rfl, rfl⟩
       ·
        refine gt rfl (nT c12) (gs (rg (sv (EV.as rfl) rfl (re (pr [4] [] [] rfl rfl rfl rfl ?_)))))
        cases H
        exact rt Try.func9 rfl (.tmp rfl .nil) rfl [] [] rfl rfl rfl rfl rfl ⟨rfl, rfl, rfl⟩
      ·
       have xc11 := bF c11; subst xc11
       refine gt rfl rfl (gs (rg (sv (EV.as rfl) rfl (re ?_))))
       cases H
       exact rt Try.func9 rfl (.tmp rfl .nil) rfl [] [] rfl rfl rfl rfl rfl ⟨rfl, rfl, rfl⟩
     ·
      have xc9 := bF c9; subst xc9
      refine gt rfl rfl (gs (rg (sv (EV.as rfl) rfl (re ?_))))
      cases H
      exact rt Try.func9 rfl (.tmp rfl .nil) rfl [] [] rfl rfl rfl rfl rfl ⟨rfl, rfl, rfl⟩
    ·
     have xc7 := bF c7; subst xc7
     refine gt rfl rfl (gs (rg (sv (EV.as rfl) rfl (re ?_))))
     cases H
     exact rt Try.func9 rfl (.tmp rfl .nil) rfl [] [] rfl rfl rfl rfl rfl ⟨rfl, rfl, rfl⟩
   ·
    have xc5 := bF c5; subst xc5
    refine gt rfl rfl (gs (rg (sv (EV.as rfl) rfl (re ?_))))
    cases H
    exact rt Try.func9 rfl (.tmp rfl .nil) rfl [] [] rfl rfl rfl rfl rfl ⟨rfl, rfl, rfl⟩
  ·
   refine gt rfl (nT c3) (gs (rg (sv (EV.as rfl) rfl (re (pr [4] [] [] rfl rfl rfl rfl ?_)))))
   cases H
   exact rt Try.func9 rfl (.tmp rfl .nil) rfl [] [] rfl rfl rfl rfl rfl ⟨rfl, rfl, rfl⟩
 ·
  have xc2 := bF c2; subst xc2
  refine gt rfl rfl (gs (rg (sv (EV.as rfl) rfl (re ?_))))
  cases H
  exact rt Try.func9 rfl (.tmp rfl .nil) rfl [] [] rfl rfl rfl rfl rfl ⟨rfl, rfl, rfl⟩
def laws_FnExactParseSorter.f (k : Nat) (a0 : ByteArray) : Option (Bool) := if (a0.size : Int) > 1048576 then (some true) else ((spec_ParseSorter.f k a0).bind fun bt2 => ((impl_ParseSorter.f k a0).bind fun bt3 => ((laws_eqSorter.f k bt3.1 bt3.2.1 bt3.2.2.1 bt3.2.2.2.1 bt3.2.2.2.2.1 bt3.2.2.2.2.2.1 bt3.2.2.2.2.2.2.1 bt3.2.2.2.2.2.2.2.1 bt3.2.2.2.2.2.2.2.2.1 bt3.2.2.2.2.2.2.2.2.2.1 bt2.1 bt2.2.1 bt2.2.2.1 bt2.2.2.2.1 bt2.2.2.2.2.1 bt2.2.2.2.2.2.1 bt2.2.2.2.2.2.2.1 bt2.2.2.2.2.2.2.2.1 bt2.2.2.2.2.2.2.2.2.1 bt2.2.2.2.2.2.2.2.2.2.1).bind fun t4 => (if t4 = true then (if (bt3.2.2.2.2.2.2.2.2.2.2 == bt2.2.2.2.2.2.2.2.2.2.2) = true then ((laws_markSorter.f k bt3.1 bt3.2.1 bt3.2.2.1 bt3.2.2.2.1 bt3.2.2.2.2.1 bt3.2.2.2.2.2.1 bt3.2.2.2.2.2.2.1 bt3.2.2.2.2.2.2.2.1 bt3.2.2.2.2.2.2.2.2.1 bt3.2.2.2.2.2.2.2.2.2.1 1).bind fun bt7 => ((laws_heldSorter.f k bt7.2.1 bt3.2.1 bt7.2.2.1 bt7.2.2.2.1 bt7.2.2.2.2.1 bt7.2.2.2.2.2 bt3.2.2.2.2.2.2.1 bt3.2.2.2.2.2.2.2.1 bt3.2.2.2.2.2.2.2.2.1 bt3.2.2.2.2.2.2.2.2.2.1 1).bind fun t8 => (if t8 < 0 then (some false) else (if t8 = bt7.1 then ((impl_ParseSorter.f k a0).bind fun bt11 => ((laws_eqSorter.f k bt11.1 bt11.2.1 bt11.2.2.1 bt11.2.2.2.1 bt11.2.2.2.2.1 bt11.2.2.2.2.2.1 bt11.2.2.2.2.2.2.1 bt11.2.2.2.2.2.2.2.1 bt11.2.2.2.2.2.2.2.2.1 bt11.2.2.2.2.2.2.2.2.2.1 bt2.1 bt2.2.1 bt2.2.2.1 bt2.2.2.2.1 bt2.2.2.2.2.1 bt2.2.2.2.2.2.1 bt2.2.2.2.2.2.2.1 bt2.2.2.2.2.2.2.2.1 bt2.2.2.2.2.2.2.2.2.1 bt2.2.2.2.2.2.2.2.2.2.1).bind fun t12 => (if t12 = true then (if (bt11.2.2.2.2.2.2.2.2.2.2 == bt2.2.2.2.2.2.2.2.2.2.2) = true then ((laws_heldSorter.f k bt7.2.1 bt3.2.1 bt7.2.2.1 bt7.2.2.2.1 bt7.2.2.2.2.1 bt7.2.2.2.2.2 bt3.2.2.2.2.2.2.1 bt3.2.2.2.2.2.2.2.1 bt3.2.2.2.2.2.2.2.2.1 bt3.2.2.2.2.2.2.2.2.2.1 1).bind fun t15 => (if t15 < 0 then (some false) else (if t15 = bt7.1 then (some true) else (some false)))) else (some false)) else (some false)))) else (some false))))) else (some false)) else (some false)))))
set_option maxHeartbeats 4000000 in
set_option maxRecDepth 100000 in
theorem laws_FnExactParseSorter.ok (k : Nat) (a0 : ByteArray) (r0 : Bool) (H : laws_FnExactParseSorter.f k a0 = some r0) : Fn Try.prog 4 [.string a0] [] [] (fun v bx en => v = .bool r0 ∧ bx = [] ∧ en = []) := by
 refine fn_ 66 Try.func4 rfl rfl rfl (fun base T w0 => ?_)
 rw [laws_FnExactParseSorter.f] at H
 refine gs (rg (sv (EV.as rfl) rfl (re (gs (gs (rg (sv (EV.mv rfl) rfl (sv (EV.lns rfl) rfl (sv (EV.gtr rfl rfl) rfl (re ?_))))))))))
 revert H; refine ifsI ?_ ?_ <;> intro c1 H
 ·
  refine gt rfl (dT c1) (gs (rg (sv (EV.as rfl) rfl (re ?_))))
  cases H
  exact rt Try.func4 rfl (.tmp rfl .nil) rfl [] [] rfl rfl rfl rfl rfl ⟨rfl, rfl, rfl⟩
 ·
  refine gf rfl (dF c1) (gk (gs (rg (sv (EV.mv rfl) rfl ?_))))
  revert H; refine bdI ?_; rintro ⟨t2_0, t2_1, t2_2, t2_3, t2_4, t2_5, t2_6, t2_7, t2_8, t2_9, t2_10⟩ A2 H
  refine so rfl (op_call (spec_ParseSorter.ok k a0 _ _ _ _ _ _ _ _ _ _ _ A2) [] 1 rfl rfl rfl rfl rfl ?_)
  rintro _ _ _ ⟨At2_0, ct2_0, At2_2, ct2_2, At2_3, ct2_3, At2_4, ct2_4, At2_5, ct2_5, rfl, rfl, rfl⟩
  refine sv (EV.mv rfl) rfl (sv (EV.ex rfl rfl) rfl (sv (EV.ex rfl rfl) rfl (so rfl (op_alloc (cs := [.slice none 0 0, .int .i64 0, .slice none 0 0, .slice none 0 0, .slice none 0 0, .slice none 0 0, .int .i64 0, .int .i64 0, .int .i64 0, .int .i64 0]) (by kernel_rfl) rfl fun b3 => (so rfl (op_st (cs' := [.slice At2_0 t2_0.length ct2_0, .int .i64 t2_1, .slice At2_2 t2_2.length ct2_2, .slice At2_3 t2_3.length ct2_3, .slice At2_4 t2_4.length ct2_4, .slice At2_5 t2_5.length ct2_5, .int .i64 t2_6, .int .i64 t2_7, .int .i64 t2_8, .int .i64 t2_9]) 0 rfl rfl rfl rfl rfl rfl (sv (EV.as rfl) rfl (re (pr [0, 3, 4] [0] [0, 1, 2, 3, 4] rfl rfl rfl rfl (gs (rg (sv (EV.mv rfl) rfl ?_))))))))))))
  revert H; refine bdI ?_; rintro ⟨t3_0, t3_1, t3_2, t3_3, t3_4, t3_5, t3_6, t3_7, t3_8, t3_9, t3_10⟩ A3 H
  refine so rfl (op_call (impl_ParseSorter.ok k a0 _ _ _ _ _ _ _ _ _ _ _ A3) [] 7 rfl rfl rfl rfl rfl ?_)
  rintro _ _ _ ⟨At3_0, ct3_0, At3_2, ct3_2, At3_3, ct3_3, At3_4, ct3_4, At3_5, ct3_5, rfl, rfl, rfl⟩
  refine sv (EV.mv rfl) rfl (sv (EV.ex rfl rfl) rfl (sv (EV.ex rfl rfl) rfl (so rfl (op_alloc (cs := [.slice none 0 0, .int .i64 0, .slice none 0 0, .slice none 0 0, .slice none 0 0, .slice none 0 0, .int .i64 0, .int .i64 0, .int .i64 0, .int .i64 0]) (by kernel_rfl) rfl fun b5 => (so rfl (op_st (cs' := [.slice At3_0 t3_0.length ct3_0, .int .i64 t3_1, .slice At3_2 t3_2.length ct3_2, .slice At3_3 t3_3.length ct3_3, .slice At3_4 t3_4.length ct3_4, .slice At3_5 t3_5.length ct3_5, .int .i64 t3_6, .int .i64 t3_7, .int .i64 t3_8, .int .i64 t3_9]) 1 rfl rfl rfl rfl rfl rfl (sv (EV.as rfl) rfl (re (gs (gs (rg (sv (EV.ld (v := .agg #[.slice At3_0 t3_0.length ct3_0, .int .i64 t3_1, .slice At3_2 t3_2.length ct3_2, .slice At3_3 t3_3.length ct3_3, .slice At3_4 t3_4.length ct3_4, .slice At3_5 t3_5.length ct3_5, .int .i64 t3_6, .int .i64 t3_7, .int .i64 t3_8, .int .i64 t3_9]) 1 (some 10) rfl rfl rfl) rfl (sv (EV.ld (v := .agg #[.slice At2_0 t2_0.length ct2_0, .int .i64 t2_1, .slice At2_2 t2_2.length ct2_2, .slice At2_3 t2_3.length ct2_3, .slice At2_4 t2_4.length ct2_4, .slice At2_5 t2_5.length ct2_5, .int .i64 t2_6, .int .i64 t2_7, .int .i64 t2_8, .int .i64 t2_9]) 0 (some 10) rfl rfl rfl) rfl ?_)))))))))))))
  revert H; refine bdI ?_; rintro t4 A4 H
  refine so rfl (op_call (laws_eqSorter.ok k t3_0 At3_0 ct3_0 t3_1 t3_2 At3_2 ct3_2 t3_3 At3_3 ct3_3 t3_4 At3_4 ct3_4 t3_5 At3_5 ct3_5 t3_6 t3_7 t3_8 t3_9 t2_0 At2_0 ct2_0 t2_1 t2_2 At2_2 ct2_2 t2_3 At2_3 ct2_3 t2_4 At2_4 ct2_4 t2_5 At2_5 ct2_5 t2_6 t2_7 t2_8 t2_9 _ A4) [⟨5, 0, 0, false⟩, ⟨6, 0, 0, false⟩, ⟨7, 0, 0, false⟩, ⟨8, 0, 0, false⟩, ⟨9, 0, 0, false⟩, ⟨0, 0, 0, false⟩, ⟨1, 0, 0, false⟩, ⟨2, 0, 0, false⟩, ⟨3, 0, 0, false⟩, ⟨4, 0, 0, false⟩] 13 rfl rfl rfl rfl rfl ?_)
  rintro _ _ _ ⟨rfl, rfl, rfl⟩
  refine sv (EV.nt rfl) rfl (sv (EV.mv rfl) rfl ?_)
  revert H; refine ifsI ?_ ?_ <;> intro c5 H
  ·
   subst c5
   refine ts 28 rfl rfl (sv (EV.mv rfl) rfl (sv (EV.mv rfl) rfl (sv (EV.neb rfl rfl) rfl (sv (EV.pf rfl rfl rfl) rfl (re (pr [0, 3, 4, 5, 32] [0, 1] [0, 1, 2, 3, 4, 5, 6, 7, 8, 9] rfl rfl rfl rfl ?_))))))
   revert H; refine ifsI ?_ ?_ <;> intro c6 H
   ·
    refine gf rfl (bN c6) (gk (gs (rg (sv (EV.as rfl) rfl (re (gs (rg (sv (EV.ld (v := .agg #[.slice At3_0 t3_0.length ct3_0, .int .i64 t3_1, .slice At3_2 t3_2.length ct3_2, .slice At3_3 t3_3.length ct3_3, .slice At3_4 t3_4.length ct3_4, .slice At3_5 t3_5.length ct3_5, .int .i64 t3_6, .int .i64 t3_7, .int .i64 t3_8, .int .i64 t3_9]) 1 (some 10) rfl rfl rfl) rfl (sv (EV.mv rfl) rfl ?_)))))))))
    revert H; refine bdI ?_; rintro ⟨t7_0, t7_1, t7_2, t7_3, t7_4, t7_5⟩ A7 H
    refine so rfl (op_callM (laws_markSorter.ok k t3_0 At3_0 ct3_0 t3_1 t3_2 At3_2 ct3_2 t3_3 At3_3 ct3_3 t3_4 At3_4 ct3_4 t3_5 At3_5 ct3_5 t3_6 t3_7 t3_8 t3_9 1 _ _ _ _ _ _ A7) [⟨5, 1, 1, false⟩, ⟨6, 1, 2, false⟩, ⟨7, 1, 3, false⟩, ⟨8, 1, 4, false⟩, ⟨9, 1, 5, true⟩] [] [0, 1] 13 rfl rfl rfl rfl rfl rfl rfl rfl ?_)
    rintro _ _ _ ⟨rfl, rfl, rfl, q7_0, q7_1, q7_2, q7_3, q7_4⟩
    refine rlT 33 (v' := .agg #[.slice At3_0 t7_1.length ct3_0, .int .i64 t3_1, .slice At3_2 t3_2.length ct3_2, .slice At3_3 t3_3.length ct3_3, .slice At3_4 t3_4.length ct3_4, .slice At3_5 t3_5.length ct3_5, .int .i64 t3_6, .int .i64 t3_7, .int .i64 t3_8, .int .i64 t3_9]) rfl (by simp only [q7_0]) (rlB 1 (cs' := [.slice At3_0 t7_1.length ct3_0, .int .i64 t3_1, .slice At3_2 t3_2.length ct3_2, .slice At3_3 t3_3.length ct3_3, .slice At3_4 t3_4.length ct3_4, .slice At3_5 t3_5.length ct3_5, .int .i64 t3_6, .int .i64 t3_7, .int .i64 t3_8, .int .i64 t3_9]) rfl (by simp only [q7_0]) (rlT 33 (v' := .agg #[.slice At3_0 t7_1.length ct3_0, .int .i64 t3_1, .slice At3_2 t7_2.length ct3_2, .slice At3_3 t3_3.length ct3_3, .slice At3_4 t3_4.length ct3_4, .slice At3_5 t3_5.length ct3_5, .int .i64 t3_6, .int .i64 t3_7, .int .i64 t3_8, .int .i64 t3_9]) rfl (by simp only [q7_1]) (rlB 1 (cs' := [.slice At3_0 t7_1.length ct3_0, .int .i64 t3_1, .slice At3_2 t7_2.length ct3_2, .slice At3_3 t3_3.length ct3_3, .slice At3_4 t3_4.length ct3_4, .slice At3_5 t3_5.length ct3_5, .int .i64 t3_6, .int .i64 t3_7, .int .i64 t3_8, .int .i64 t3_9]) rfl (by simp only [q7_1]) (rlT 33 (v' := .agg #[.slice At3_0 t7_1.length ct3_0, .int .i64 t3_1, .slice At3_2 t7_2.length ct3_2, .slice At3_3 t7_3.length ct3_3, .slice At3_4 t3_4.length ct3_4, .slice At3_5 t3_5.length ct3_5, .int .i64 t3_6, .int .i64 t3_7, .int .i64 t3_8, .int .i64 t3_9]) rfl (by simp only [q7_2]) (rlB 1 (cs' := [.slice At3_0 t7_1.length ct3_0, .int .i64 t3_1, .slice At3_2 t7_2.length ct3_2, .slice At3_3 t7_3.length ct3_3, .slice At3_4 t3_4.length ct3_4, .slice At3_5 t3_5.length ct3_5, .int .i64 t3_6, .int .i64 t3_7, .int .i64 t3_8, .int .i64 t3_9]) rfl (by simp only [q7_2]) (rlT 33 (v' := .agg #[.slice At3_0 t7_1.length ct3_0, .int .i64 t3_1, .slice At3_2 t7_2.length ct3_2, .slice At3_3 t7_3.length ct3_3, .slice At3_4 t7_4.length ct3_4, .slice At3_5 t3_5.length ct3_5, .int .i64 t3_6, .int .i64 t3_7, .int .i64 t3_8, .int .i64 t3_9]) rfl (by simp only [q7_3]) (rlB 1 (cs' := [.slice At3_0 t7_1.length ct3_0, .int .i64 t3_1, .slice At3_2 t7_2.length ct3_2, .slice At3_3 t7_3.length ct3_3, .slice At3_4 t7_4.length ct3_4, .slice At3_5 t3_5.length ct3_5, .int .i64 t3_6, .int .i64 t3_7, .int .i64 t3_8, .int .i64 t3_9]) rfl (by simp only [q7_3]) (rlT 33 (v' := .agg #[.slice At3_0 t7_1.length ct3_0, .int .i64 t3_1, .slice At3_2 t7_2.length ct3_2, .slice At3_3 t7_3.length ct3_3, .slice At3_4 t7_4.length ct3_4, .slice At3_5 t7_5.length ct3_5, .int .i64 t3_6, .int .i64 t3_7, .int .i64 t3_8, .int .i64 t3_9]) rfl (by simp only [q7_4]) (rlB 1 (cs' := [.slice At3_0 t7_1.length ct3_0, .int .i64 t3_1, .slice At3_2 t7_2.length ct3_2, .slice At3_3 t7_3.length ct3_3, .slice At3_4 t7_4.length ct3_4, .slice At3_5 t7_5.length ct3_5, .int .i64 t3_6, .int .i64 t3_7, .int .i64 t3_8, .int .i64 t3_9]) rfl (by simp only [q7_4]) (nmE (en := [.sl 2 k72 At2_0 ct2_0 t2_0 2 true, .sl 2 k72 At2_2 ct2_2 t2_2 3 true, .sl 2 k72 At2_3 ct2_3 t2_3 4 true, .sl 2 k72 At2_4 ct2_4 t2_4 5 true, .sl 2 k57 At2_5 ct2_5 t2_5 6 true, .sl 1 k72 At3_0 ct3_0 t7_1 14 false, .sl 1 k72 At3_2 ct3_2 t7_2 15 false, .sl 1 k72 At3_3 ct3_3 t7_3 16 false, .sl 1 k72 At3_4 ct3_4 t7_4 17 false, .sl 1 k57 At3_5 ct3_5 t7_5 18 true]) (by kernel_rfl) (sv (EV.as rfl) rfl (re (gs (rg (sv (EV.as rfl) rfl (re (gs (rg (sv (EV.ld (v := .agg #[.slice At3_0 t7_1.length ct3_0, .int .i64 t3_1, .slice At3_2 t7_2.length ct3_2, .slice At3_3 t7_3.length ct3_3, .slice At3_4 t7_4.length ct3_4, .slice At3_5 t7_5.length ct3_5, .int .i64 t3_6, .int .i64 t3_7, .int .i64 t3_8, .int .i64 t3_9]) 1 (some 10) rfl rfl rfl) rfl (sv (EV.mv rfl) rfl ?_))))))))))))))))))))
    revert H; refine bdI ?_; rintro t8 A8 H
    refine so rfl (op_call (laws_heldSorter.ok k t7_1 At3_0 ct3_0 t3_1 t7_2 At3_2 ct3_2 t7_3 At3_3 ct3_3 t7_4 At3_4 ct3_4 t7_5 At3_5 ct3_5 t3_6 t3_7 t3_8 t3_9 1 _ A8) [⟨5, 0, 0, false⟩, ⟨6, 0, 0, false⟩, ⟨7, 0, 0, false⟩, ⟨8, 0, 0, false⟩, ⟨9, 0, 0, false⟩] 19 rfl rfl rfl rfl rfl ?_)
    rintro _ _ _ ⟨rfl, rfl, rfl⟩
    refine sv (EV.as rfl) rfl (re (pr [0, 3, 4, 5, 7, 8] [0, 1] [0, 1, 2, 3, 4, 5, 6, 7, 8, 9] rfl rfl rfl rfl (gs (gs (rg (sv (EV.mv rfl) rfl (sv (EV.lss rfl rfl) rfl (re ?_))))))))
    revert H; refine ifsI ?_ ?_ <;> intro c9 H
    ·
     refine gt rfl (dT c9) (gs (rg (sv (EV.as rfl) rfl (re (pr [2] [] [] rfl rfl rfl rfl ?_)))))
     cases H
     exact rt Try.func4 rfl (.tmp rfl .nil) rfl [] [] rfl rfl rfl rfl rfl ⟨rfl, rfl, rfl⟩
    ·
     refine gf rfl (dF c9) (gk (gs (gs (rg (sv (EV.mv rfl) rfl (sv (EV.mv rfl) rfl (sv (EV.neq rfl rfl) rfl (re ?_))))))))
     revert H; refine ifsI ?_ ?_ <;> intro c10 H
     ·
      refine gf rfl (nF c10) (gk (gs (rg (sv (EV.mv rfl) rfl ?_))))
      revert H; refine bdI ?_; rintro ⟨t11_0, t11_1, t11_2, t11_3, t11_4, t11_5, t11_6, t11_7, t11_8, t11_9, t11_10⟩ A11 H
      refine so rfl (op_call (impl_ParseSorter.ok k a0 _ _ _ _ _ _ _ _ _ _ _ A11) [] 19 rfl rfl rfl rfl rfl ?_)
      rintro _ _ _ ⟨At11_0, ct11_0, At11_2, ct11_2, At11_3, ct11_3, At11_4, ct11_4, At11_5, ct11_5, rfl, rfl, rfl⟩
      refine sv (EV.mv rfl) rfl (sv (EV.ex rfl rfl) rfl (sv (EV.ex rfl rfl) rfl (so rfl (op_alloc (cs := [.slice none 0 0, .int .i64 0, .slice none 0 0, .slice none 0 0, .slice none 0 0, .slice none 0 0, .int .i64 0, .int .i64 0, .int .i64 0, .int .i64 0]) (by kernel_rfl) rfl fun b9 => (so rfl (op_st (cs' := [.slice At11_0 t11_0.length ct11_0, .int .i64 t11_1, .slice At11_2 t11_2.length ct11_2, .slice At11_3 t11_3.length ct11_3, .slice At11_4 t11_4.length ct11_4, .slice At11_5 t11_5.length ct11_5, .int .i64 t11_6, .int .i64 t11_7, .int .i64 t11_8, .int .i64 t11_9]) 2 rfl rfl rfl rfl rfl rfl (sv (EV.as rfl) rfl (re (pr [3, 4, 5, 7, 9, 10] [0, 1, 2] [0, 1, 2, 3, 4, 5, 6, 7, 8, 9, 10, 11, 12, 13, 14] rfl rfl rfl rfl (gs (gs (rg (sv (EV.ld (v := .agg #[.slice At11_0 t11_0.length ct11_0, .int .i64 t11_1, .slice At11_2 t11_2.length ct11_2, .slice At11_3 t11_3.length ct11_3, .slice At11_4 t11_4.length ct11_4, .slice At11_5 t11_5.length ct11_5, .int .i64 t11_6, .int .i64 t11_7, .int .i64 t11_8, .int .i64 t11_9]) 2 (some 10) rfl rfl rfl) rfl (sv (EV.ld (v := .agg #[.slice At2_0 t2_0.length ct2_0, .int .i64 t2_1, .slice At2_2 t2_2.length ct2_2, .slice At2_3 t2_3.length ct2_3, .slice At2_4 t2_4.length ct2_4, .slice At2_5 t2_5.length ct2_5, .int .i64 t2_6, .int .i64 t2_7, .int .i64 t2_8, .int .i64 t2_9]) 0 (some 10) rfl rfl rfl) rfl ?_))))))))))))))
      revert H; refine bdI ?_; rintro t12 A12 H
      refine so rfl (op_call (laws_eqSorter.ok k t11_0 At11_0 ct11_0 t11_1 t11_2 At11_2 ct11_2 t11_3 At11_3 ct11_3 t11_4 At11_4 ct11_4 t11_5 At11_5 ct11_5 t11_6 t11_7 t11_8 t11_9 t2_0 At2_0 ct2_0 t2_1 t2_2 At2_2 ct2_2 t2_3 At2_3 ct2_3 t2_4 At2_4 ct2_4 t2_5 At2_5 ct2_5 t2_6 t2_7 t2_8 t2_9 _ A12) [⟨10, 0, 0, false⟩, ⟨11, 0, 0, false⟩, ⟨12, 0, 0, false⟩, ⟨13, 0, 0, false⟩, ⟨14, 0, 0, false⟩, ⟨0, 0, 0, false⟩, ⟨1, 0, 0, false⟩, ⟨2, 0, 0, false⟩, ⟨3, 0, 0, false⟩, ⟨4, 0, 0, false⟩] 25 rfl rfl rfl rfl rfl ?_)
      rintro _ _ _ ⟨rfl, rfl, rfl⟩
      refine sv (EV.nt rfl) rfl (sv (EV.mv rfl) rfl ?_)
      revert H; refine ifsI ?_ ?_ <;> intro c13 H
      ·
       subst c13
       refine ts 53 rfl rfl (sv (EV.mv rfl) rfl (sv (EV.mv rfl) rfl (sv (EV.neb rfl rfl) rfl (sv (EV.pf rfl rfl rfl) rfl (re (pr [5, 7, 57] [1] [5, 6, 7, 8, 9] rfl rfl rfl rfl ?_))))))
       revert H; refine ifsI ?_ ?_ <;> intro c14 H
       ·
        refine gf rfl (bN c14) (gk (gs (rg (sv (EV.as rfl) rfl (re (gs (rg (sv (EV.ld (v := .agg #[.slice At3_0 t7_1.length ct3_0, .int .i64 t3_1, .slice At3_2 t7_2.length ct3_2, .slice At3_3 t7_3.length ct3_3, .slice At3_4 t7_4.length ct3_4, .slice At3_5 t7_5.length ct3_5, .int .i64 t3_6, .int .i64 t3_7, .int .i64 t3_8, .int .i64 t3_9]) 0 (some 10) rfl rfl rfl) rfl (sv (EV.mv rfl) rfl ?_)))))))))
        revert H; refine bdI ?_; rintro t15 A15 H
        refine so rfl (op_call (laws_heldSorter.ok k t7_1 At3_0 ct3_0 t3_1 t7_2 At3_2 ct3_2 t7_3 At3_3 ct3_3 t7_4 At3_4 ct3_4 t7_5 At3_5 ct3_5 t3_6 t3_7 t3_8 t3_9 1 _ A15) [⟨0, 0, 0, false⟩, ⟨1, 0, 0, false⟩, ⟨2, 0, 0, false⟩, ⟨3, 0, 0, false⟩, ⟨4, 0, 0, false⟩] 19 rfl rfl rfl rfl rfl ?_)
        rintro _ _ _ ⟨rfl, rfl, rfl⟩
        refine sv (EV.as rfl) rfl (re (gs (gs (rg (sv (EV.mv rfl) rfl (sv (EV.lss rfl rfl) rfl (re (pr [7, 8, 62] [] [] rfl rfl rfl rfl ?_))))))))
        revert H; refine ifsI ?_ ?_ <;> intro c16 H
        ·
         refine gt rfl (dT c16) (gs (rg (sv (EV.as rfl) rfl (re ?_))))
         cases H
         exact rt Try.func4 rfl (.tmp rfl .nil) rfl [] [] rfl rfl rfl rfl rfl ⟨rfl, rfl, rfl⟩
        ·
         refine gf rfl (dF c16) (gk (gs (gs (rg (sv (EV.mv rfl) rfl (sv (EV.mv rfl) rfl (sv (EV.neq rfl rfl) rfl (re ?_))))))))
         revert H; refine ifsI ?_ ?_ <;> intro c17 H
         ·
          refine gf rfl (nF c17) (gk (gs (rg (sv (EV.as rfl) rfl (re (pr [2] [] [] rfl rfl rfl rfl ?_))))))
          cases H
          exact rt Try.func4 rfl (.tmp rfl .nil) rfl [] [] rfl rfl rfl rfl rfl ⟨rfl, rfl, rfl⟩
         ·
          refine gt rfl (nT c17) (gs (rg (sv (EV.as rfl) rfl (re (pr [2] [] [] rfl rfl rfl rfl ?_)))))
          cases H
          exact rt Try.func4 rfl (.tmp rfl .nil) rfl [] [] rfl rfl rfl rfl rfl ⟨rfl, rfl, rfl⟩
       ·
        refine gt rfl (bM c14) (gs (rg (sv (EV.as rfl) rfl (re ?_))))
        cases H
        exact rt Try.func4 rfl (.tmp rfl .nil) rfl [] [] rfl rfl rfl rfl rfl ⟨rfl, rfl, rfl⟩
      ·
       have xc13 := bF c13; subst xc13
       refine ts 53 rfl rfl (sk rfl (sk rfl (sk rfl (sv (EV.pt rfl rfl rfl) rfl (re (pr [5, 7, 57] [1] [5, 6, 7, 8, 9] rfl rfl rfl rfl (gt rfl rfl (gs (rg (sv (EV.as rfl) rfl (re ?_)))))))))))
       cases H
       exact rt Try.func4 rfl (.tmp rfl .nil) rfl [] [] rfl rfl rfl rfl rfl ⟨rfl, rfl, rfl⟩
     ·
      refine gt rfl (nT c10) (gs (rg (sv (EV.as rfl) rfl (re (pr [2] [] [] rfl rfl rfl rfl ?_)))))
      cases H
      exact rt Try.func4 rfl (.tmp rfl .nil) rfl [] [] rfl rfl rfl rfl rfl ⟨rfl, rfl, rfl⟩
   ·
    refine gt rfl (bM c6) (gs (rg (sv (EV.as rfl) rfl (re ?_))))
    cases H
    exact rt Try.func4 rfl (.tmp rfl .nil) rfl [] [] rfl rfl rfl rfl rfl ⟨rfl, rfl, rfl⟩
  ·
   have xc5 := bF c5; subst xc5
   refine ts 28 rfl rfl (sk rfl (sk rfl (sk rfl (sv (EV.pt rfl rfl rfl) rfl (re (pr [0, 3, 4, 5, 32] [0, 1] [0, 1, 2, 3, 4, 5, 6, 7, 8, 9] rfl rfl rfl rfl (gt rfl rfl (gs (rg (sv (EV.as rfl) rfl (re ?_)))))))))))
   cases H
   exact rt Try.func4 rfl (.tmp rfl .nil) rfl [] [] rfl rfl rfl rfl rfl ⟨rfl, rfl, rfl⟩
end Go.Proofs.Ytnadolmpaeenpaa.K
