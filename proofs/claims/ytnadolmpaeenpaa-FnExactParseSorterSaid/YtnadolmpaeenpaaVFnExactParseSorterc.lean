/- Walks: what the functions compute. Printed by gen.py; no condition. -/
import Derived.Test.YtnadolmpaeenpaaVFnExactParseSorterb
namespace Go.Proofs.Ytnadolmpaeenpaa.K
open Go Go.RowKit
set_option linter.unusedVariables false
set_option linter.unusedSimpArgs false
def impl_clone.f (l0 : List S72) : Option ((List S72)) := if l0.length ≤ 5864062014805 then (some l0) else none
set_option maxHeartbeats 4000000 in
set_option maxRecDepth 100000 in
theorem impl_clone.ok (l0 : List S72) (Al0 : Option Addr) (cl0 : Nat) (r0 : List S72) (H : impl_clone.f l0 = some r0) : Fn Try.prog 87 [.slice Al0 l0.length cl0] [] [.sl 0 k72 Al0 cl0 l0 0 false] (fun v bx en => ∃ A0 c0, v = .slice A0 r0.length c0 ∧ bx = [] ∧ en = [.sl 2 k72 A0 c0 r0 1 true]) := by
 refine fn_ 5 Try.func87 rfl rfl rfl (fun base T w0 => ?_)
 rw [impl_clone.f] at H
 refine gs (rg (sv (EV.as rfl) rfl (re (gs (rg (sv (EV.mv rfl) rfl (nil_ k72 1 dq ?_)))))))
 revert H; refine ggI ?_; intro g1 H
 refine so rfl (op_app (k := k72) (s := 3) (by_ := 24) 1 0 rfl rfl rfl rfl (ap0 g1 dq) (ap0n g1 dq) (.inl rfl) true (fun _ => .inl rfl) rfl rfl fun A4_2 c4_2 => (nmE (en := [.sl 0 k72 Al0 cl0 l0 0 false, .sl 2 k72 A4_2 c4_2 l0 1 true]) (by kernel_rfl) (sv (EV.as rfl) rfl (re ?_))))
 cases H
 exact rt Try.func87 rfl (.tmp rfl .nil) rfl [] [⟨1, 2, 1, true⟩] rfl rfl rfl rfl rfl ⟨_, _, rfl, rfl, rfl⟩
def impl_SortRows.f (k : Nat) (l0 : List S72) : Option ((List S72)) := (impl_clone.f l0).bind fun t1 => ((slices_SortStableFunc_impl_Row_impl_Row_at79.f k t1).bind fun t2 => (some t2))
set_option maxHeartbeats 4000000 in
set_option maxRecDepth 100000 in
theorem impl_SortRows.ok (k : Nat) (l0 : List S72) (Al0 : Option Addr) (cl0 : Nat) (r0 : List S72) (H : impl_SortRows.f k l0 = some r0) : Fn Try.prog 82 [.slice Al0 l0.length cl0] [] [.sl 0 k72 Al0 cl0 l0 0 false] (fun v bx en => ∃ A0 c0, v = .slice A0 r0.length c0 ∧ bx = [] ∧ en = [.sl 1 k72 A0 c0 r0 1 false]) := by
 refine fn_ 9 Try.func82 rfl rfl rfl (fun base T w0 => ?_)
 rw [impl_SortRows.f] at H
 refine gs (rg (sv (EV.as rfl) rfl (re (gs (rg (sv (EV.mv rfl) rfl ?_))))))
 revert H; refine bdI ?_; rintro t1 A1 H
 refine so rfl (op_call (impl_clone.ok l0 Al0 cl0 _ A1) [⟨0, 0, 0, false⟩] 1 rfl rfl rfl rfl rfl ?_)
 rintro _ _ _ ⟨At1, ct1, rfl, rfl, rfl⟩
 refine sv (EV.as rfl) rfl (re (gs (rg (sv (EV.mv rfl) rfl ?_))))
 revert H; refine bdI ?_; rintro t2 A2 H
 refine so rfl (op_callM (slices_SortStableFunc_impl_Row_impl_Row_at79.ok k t1 At1 ct1 _ A2) [⟨1, 1, 1, false⟩] [] [] 3 rfl rfl rfl rfl rfl rfl rfl rfl ?_)
 rintro _ _ _ ⟨rfl, rfl, rfl, q2_0⟩
 refine rlT 5 (v' := .slice At1 t2.length ct1) rfl (slq _ _ q2_0) (rlT 3 (v' := .slice At1 t2.length ct1) rfl (slq _ _ q2_0) (rlT 6 (v' := .slice At1 t2.length ct1) rfl (slq _ _ q2_0) (nmE (en := [.sl 0 k72 Al0 cl0 l0 0 false, .sl 1 k72 At1 ct1 t2 4 false]) (by kernel_rfl) (re (pr [3] [] [1] rfl rfl rfl rfl (gs (rg (sv (EV.mv rfl) rfl (sv (EV.as rfl) rfl (re ?_))))))))))
 cases H
 exact rt Try.func82 rfl (.tmp rfl .nil) rfl [] [⟨0, 1, 1, false⟩] rfl rfl rfl rfl rfl ⟨_, _, rfl, rfl, rfl⟩
def impl_EqualBags.f (k : Nat) (l0 : List S72) (l1 : List S72) : Option (Bool) := if (l0.length : Int) = (l1.length : Int) then ((impl_SortRows.f k l0).bind fun t2 => ((impl_SortRows.f k l1).bind fun t3 => ((impl_equal.f k t2 t3).bind fun t4 => (some t4)))) else (some false)
set_option maxHeartbeats 4000000 in
set_option maxRecDepth 100000 in
theorem impl_EqualBags.ok (k : Nat) (l0 : List S72) (Al0 : Option Addr) (cl0 : Nat) (l1 : List S72) (Al1 : Option Addr) (cl1 : Nat) (r0 : Bool) (H : impl_EqualBags.f k l0 l1 = some r0) : Fn Try.prog 64 [.slice Al0 l0.length cl0, .slice Al1 l1.length cl1] [] [.sl 0 k72 Al0 cl0 l0 0 false, .sl 0 k72 Al1 cl1 l1 0 false] (fun v bx en => v = .bool r0 ∧ bx = [] ∧ en = []) := by
 refine fn_ 17 Try.func64 rfl rfl rfl (fun base T w0 => ?_)
 rw [impl_EqualBags.f] at H
 refine gs (rg (sv (EV.as rfl) rfl (re (gs (rg (sv (EV.mv rfl) rfl (sv (EV.ln rfl) rfl (sv (EV.mv rfl) rfl (sv (EV.ln rfl) rfl (sv (EV.eql rfl rfl) rfl (sv (EV.mv rfl) rfl ?_)))))))))))
 revert H; refine ifsI ?_ ?_ <;> intro c1 H
 ·
  refine ts 10 rfl (dT c1) (sv (EV.mv rfl) rfl ?_)
  revert H; refine bdI ?_; rintro t2 A2 H
  refine so rfl (op_call (impl_SortRows.ok k l0 Al0 cl0 _ A2) [⟨0, 0, 0, false⟩] 1 rfl rfl rfl rfl rfl ?_)
  rintro _ _ _ ⟨At2, ct2, rfl, rfl, rfl⟩
  refine sv (EV.mv rfl) rfl ?_
  revert H; refine bdI ?_; rintro t3 A3 H
  refine so rfl (op_call (impl_SortRows.ok k l1 Al1 cl1 _ A3) [⟨1, 0, 0, false⟩] 3 rfl rfl rfl rfl rfl ?_)
  rintro _ _ _ ⟨At3, ct3, rfl, rfl, rfl⟩
  revert H; refine bdI ?_; rintro t4 A4 H
  refine so rfl (op_call (impl_equal.ok k t2 At2 ct2 t3 At3 ct3 _ A4) [⟨2, 0, 0, false⟩, ⟨3, 0, 0, false⟩] 5 rfl rfl rfl rfl rfl ?_)
  rintro _ _ _ ⟨rfl, rfl, rfl⟩
  refine sv (EV.pt rfl rfl rfl) rfl (sv (EV.as rfl) rfl (re (pr [4] [] [] rfl rfl rfl rfl ?_)))
  cases H
  exact rt Try.func64 rfl (.tmp rfl .nil) rfl [] [] rfl rfl rfl rfl rfl ⟨rfl, rfl, rfl⟩
 ·
  refine ts 10 rfl (dF c1) (sk rfl (sk rfl (sk rfl (sk rfl (sk rfl (sv (EV.pf rfl rfl rfl) rfl (sv (EV.as rfl) rfl (re (pr [4] [] [] rfl rfl rfl rfl ?_)))))))))
  cases H
  exact rt Try.func64 rfl (.tmp rfl .nil) rfl [] [] rfl rfl rfl rfl rfl ⟨rfl, rfl, rfl⟩
def impl_together.l0 : Nat → (List S72) → Int → Int → (List (List S72)) → Option ((List S72))
 | 0, _, _, _, _ => none
 | k + 1, x2_3, x2_8, x2_9, l0 => if x2_9 < x2_8 then (if 0 ≤ x2_9 then (if x2_9 < (l0.length : Int) then (if x2_3.length + (rdOf [] l0 x2_9).length ≤ 5864062014805 then (impl_together.l0 k (x2_3 ++ (rdOf [] l0 x2_9)) x2_8 (wrap64 (x2_9 + 1)) l0) else none) else none) else none) else (some x2_3)
def impl_together.f (k : Nat) (l0 : List (List S72)) : Option ((List S72)) := impl_together.l0 k [] (l0.length : Int) 0 l0
set_option maxHeartbeats 4000000 in
set_option maxRecDepth 100000 in
theorem impl_together.ok (k : Nat) (l0 : List (List S72)) (Al0 : Option Addr) (cl0 : Nat) (r0 : List S72) (H : impl_together.f k l0 = some r0) : Fn Try.prog 65 [.slice Al0 l0.length cl0] [] [.sl 0 (.slice k72) Al0 cl0 l0 0 false] (fun v bx en => ∃ A0 c0, v = .slice A0 r0.length c0 ∧ bx = [] ∧ en = [.sl 2 k72 A0 c0 r0 1 true]) := by
 refine fn_ 18 Try.func65 rfl rfl rfl (fun base T w0 => ?_)
 rw [impl_together.f] at H
 refine gs (rg (sv (EV.as rfl) rfl (re (gs (rg (so rfl (op_lit (s := 3) (by_ := 24) k72 ([] : List S72) [] [] 1 [] rfl rfl rfl rfl rfl rfl rfl rfl rfl rfl rfl rfl rfl dq rfl fun A6_1 c6_1 => (sv (EV.as rfl) rfl (re (gs (gs (rg (sv (EV.mv rfl) rfl (sv (EV.ln rfl) rfl (sv (EV.mv rfl) rfl (re (gb ?_)))))))))))))))))
 refine lo (fun kk S => ∃ (x2_3 : List S72) (Ax2_3 : Option Addr) (cx2_3 : Nat) (x2_8 : Int) (x2_9 : Int), impl_together.l0 kk x2_3 x2_8 x2_9 l0 = some r0 ∧ S = ⟨[(3, .slice Ax2_3 x2_3.length cx2_3), (7, .slice Al0 l0.length cl0), (8, .int .i64 x2_8), (9, .int .i64 x2_9)], [], [.sl 2 k72 Ax2_3 cx2_3 x2_3 1 true, .sl 0 (.slice k72) Al0 cl0 l0 0 false]⟩) (fun S hS => ?_) (fun n0 ih0 S hS => ?_) ⟨[], A6_1, c6_1, (l0.length : Int), 0, H, rfl⟩ (fun h => wk [3, 7, 8, 9] [] [⟨1, 2, 1, true⟩, ⟨0, 0, 0, false⟩] h)
 · clear H; obtain ⟨_, _, _, _, _, H, _⟩ := hS; rw [impl_together.l0] at H; cases H
 clear H
 obtain ⟨x2_3, Ax2_3, cx2_3, x2_8, x2_9, H, rfl⟩ := hS
 rw [impl_together.l0] at H
 refine gs (rg (sv (EV.lss rfl rfl) rfl (re (gs ?_))))
 revert H; refine ifsI ?_ ?_ <;> intro c2 H
 ·
  refine gt rfl (dT c2) (gk (gs (gb (gs (rg ?_)))))
  revert H; refine ggI ?_; intro g3 H
  revert H; refine ggI ?_; intro g4 H
  refine sv (EV.ix 1 rfl rfl rfl g3 g4 rfl) rfl (opn (i := x2_9) 1 [] rfl g3 g4 fun A_5 c_5 => (sv (EV.lc (v := .slice A_5 (rdOf [] l0 x2_9).length c_5) 0 none 2 rfl rfl rfl rfl) rfl (sv (EV.as rfl) rfl (re (rg (sv (EV.mv rfl) rfl (sv (EV.mv rfl) rfl ?_)))))))
  revert H; refine ggI ?_; intro g6 H
  exact so rfl (op_app (k := k72) (s := 3) (by_ := 24) 0 3 rfl rfl rfl rfl (ap2 g6 dq) (ap2n g6 dq) (.inl rfl) true (fun _ => .inl rfl) rfl rfl fun A15_7 c15_7 => (nmE (en := [.sl 0 (.slice k72) Al0 cl0 l0 0 false, celE Al0 (x2_9.toNat * 1) [.slice A_5 (rdOf [] l0 x2_9).length c_5] 0, .sl 0 k72 A_5 c_5 (rdOf [] l0 x2_9) 0 false, .sl 2 k72 A15_7 c15_7 (x2_3 ++ (rdOf [] l0 x2_9)) 1 true]) (by kernel_rfl) (sv (EV.as rfl) rfl (re (pr [3, 7, 8, 9] [] [0, 3] rfl rfl rfl rfl (ge (rg (sv (EV.add rfl rfl) rfl (sv (EV.mv rfl) rfl (re (wk [3, 7, 8, 9] [] [⟨1, 2, 1, true⟩, ⟨0, 0, 0, false⟩] (ih0 _ (by omega) _ ⟨x2_3 ++ (rdOf [] l0 x2_9), A15_7, c15_7, x2_8, wrap64 (x2_9 + 1), H, rfl⟩))))))))))))
 ·
  refine gf rfl (dF c2) (gx rfl (gs (rg (sv (EV.mv rfl) rfl (sv (EV.as rfl) rfl (re (pr [2] [] [0] rfl rfl rfl rfl ?_)))))))
  cases H
  exact rt Try.func65 rfl (.tmp rfl .nil) rfl [] [⟨0, 2, 1, true⟩] rfl rfl rfl rfl rfl ⟨_, _, rfl, rfl, rfl⟩
mutual
def impl_MergeSorted.j0 : Nat → (List S72) → (List S72) → (List S72) → Option ((List S72))
 | 0, _, _, _ => none
 | k + 1, x14_0, x14_1, x14_5 => if (x14_1.length : Int) = 0 then (if 0 < (x14_0.length : Int) then (if x14_5.length < 5864062014805 then (if 1 ≤ (x14_0.length : Int) then (impl_MergeSorted.l0 k (x14_0.drop (1 : Int).toNat) x14_1 (x14_5 ++ ([(⟨(rd_T72 x14_0 0).f0, (rd_T72 x14_0 0).f1, (rd_T72 x14_0 0).f2⟩ : S72)] : List S72))) else none) else none) else none) else (if (x14_0.length : Int) > 0 then (if 0 < (x14_0.length : Int) then (if 0 < (x14_1.length : Int) then ((impl_CompareRows.f ((rd_T72 x14_0 0).f0) ((rd_T72 x14_0 0).f1) ((rd_T72 x14_0 0).f2) ((rd_T72 x14_1 0).f0) ((rd_T72 x14_1 0).f1) ((rd_T72 x14_1 0).f2)).bind fun t12 => (if t12 ≤ 0 then (if x14_5.length < 5864062014805 then (if 1 ≤ (x14_0.length : Int) then (impl_MergeSorted.l0 k (x14_0.drop (1 : Int).toNat) x14_1 (x14_5 ++ ([(⟨(rd_T72 x14_0 0).f0, (rd_T72 x14_0 0).f1, (rd_T72 x14_0 0).f2⟩ : S72)] : List S72))) else none) else none) else (if x14_5.length < 5864062014805 then (if 1 ≤ (x14_1.length : Int) then (impl_MergeSorted.l0 k x14_0 (x14_1.drop (1 : Int).toNat) (x14_5 ++ ([(⟨(rd_T72 x14_1 0).f0, (rd_T72 x14_1 0).f1, (rd_T72 x14_1 0).f2⟩ : S72)] : List S72))) else none) else none))) else none) else none) else (if 0 < (x14_1.length : Int) then (if x14_5.length < 5864062014805 then (if 1 ≤ (x14_1.length : Int) then (impl_MergeSorted.l0 k x14_0 (x14_1.drop (1 : Int).toNat) (x14_5 ++ ([(⟨(rd_T72 x14_1 0).f0, (rd_T72 x14_1 0).f1, (rd_T72 x14_1 0).f2⟩ : S72)] : List S72))) else none) else none) else none))
def impl_MergeSorted.l0 : Nat → (List S72) → (List S72) → (List S72) → Option ((List S72))
 | 0, _, _, _ => none
 | k + 1, x12_0, x12_1, x12_5 => if (x12_0.length : Int) > 0 then (impl_MergeSorted.j0 k x12_0 x12_1 x12_5) else (if (x12_1.length : Int) > 0 then (impl_MergeSorted.j0 k x12_0 x12_1 x12_5) else (some x12_5))
end
def impl_MergeSorted.f (k : Nat) (l0 : List S72) (l1 : List S72) : Option ((List S72)) := impl_MergeSorted.l0 k l0 l1 []
set_option maxHeartbeats 4000000 in
set_option maxRecDepth 100000 in
theorem impl_MergeSorted.ok (k : Nat) (l0 : List S72) (Al0 : Option Addr) (cl0 : Nat) (l1 : List S72) (Al1 : Option Addr) (cl1 : Nat) (r0 : List S72) (H : impl_MergeSorted.f k l0 l1 = some r0) : Fn Try.prog 67 [.slice Al0 l0.length cl0, .slice Al1 l1.length cl1] [] [.sl 0 k72 Al0 cl0 l0 0 false, .sl 0 k72 Al1 cl1 l1 0 false] (fun v bx en => ∃ A0 c0, v = .slice A0 r0.length c0 ∧ bx = [] ∧ en = [.sl 2 k72 A0 c0 r0 1 true]) := by
 refine fn_ 50 Try.func67 rfl rfl rfl (fun base T w0 => ?_)
 rw [impl_MergeSorted.f] at H
 refine gs (rg (sv (EV.as rfl) rfl (re (gs (rg (so rfl (op_lit (s := 3) (by_ := 24) k72 ([] : List S72) [] [] 1 [] rfl rfl rfl rfl rfl rfl rfl rfl rfl rfl rfl rfl rfl dq rfl fun A6_1 c6_1 => (sv (EV.as rfl) rfl (re (gs (gb ?_)))))))))))
 refine lo (fun kk S => ∃ (x12_0 : List S72) (Ax12_0 : Option Addr) (cx12_0 : Nat) (x12_1 : List S72) (Ax12_1 : Option Addr) (cx12_1 : Nat) (x12_5 : List S72) (Ax12_5 : Option Addr) (cx12_5 : Nat), impl_MergeSorted.l0 kk x12_0 x12_1 x12_5 = some r0 ∧ S = ⟨[(0, .slice Ax12_0 x12_0.length cx12_0), (1, .slice Ax12_1 x12_1.length cx12_1), (5, .slice Ax12_5 x12_5.length cx12_5)], [], [.sl 0 k72 Ax12_0 cx12_0 x12_0 0 false, .sl 0 k72 Ax12_1 cx12_1 x12_1 0 false, .sl 2 k72 Ax12_5 cx12_5 x12_5 1 true]⟩) (fun S hS => ?_) (fun n0 ih0 S hS => ?_) ⟨l0, Al0, cl0, l1, Al1, cl1, [], A6_1, c6_1, H, rfl⟩ (fun h => wk [0, 1, 5] [] [⟨0, 0, 0, false⟩, ⟨1, 0, 0, false⟩, ⟨2, 2, 1, true⟩] h)
 · clear H; obtain ⟨_, _, _, _, _, _, _, _, _, H, _⟩ := hS; rw [impl_MergeSorted.l0] at H; cases H
 clear H
 obtain ⟨x12_0, Ax12_0, cx12_0, x12_1, Ax12_1, cx12_1, x12_5, Ax12_5, cx12_5, H, rfl⟩ := hS
 rw [impl_MergeSorted.l0] at H
 refine jo (fun S => ∃ (m : Nat) (x14_0 : List S72) (Ax14_0 : Option Addr) (cx14_0 : Nat) (x14_1 : List S72) (Ax14_1 : Option Addr) (cx14_1 : Nat) (x14_5 : List S72) (Ax14_5 : Option Addr) (cx14_5 : Nat), m ≤ n0 ∧ impl_MergeSorted.j0 m x14_0 x14_1 x14_5 = some r0 ∧ S = ⟨[(0, .slice Ax14_0 x14_0.length cx14_0), (1, .slice Ax14_1 x14_1.length cx14_1), (5, .slice Ax14_5 x14_5.length cx14_5)], [], [.sl 0 k72 Ax14_0 cx14_0 x14_0 0 false, .sl 0 k72 Ax14_1 cx14_1 x14_1 0 false, .sl 2 k72 Ax14_5 cx14_5 x14_5 1 true]⟩) (fun S hS => ?_) (fun jh0 => ?_)
 ·
  clear H
  obtain ⟨m2, x14_0, Ax14_0, cx14_0, x14_1, Ax14_1, cx14_1, x14_5, Ax14_5, cx14_5, lm2, H, rfl⟩ := hS
  rcases m2 with _ | m2
  · rw [impl_MergeSorted.j0] at H; cases H
  rw [impl_MergeSorted.j0] at H
  refine gb (gs (dr [] [0, 1, 2] [] 18 rfl rfl rfl rfl (xv 0 [] [0, 1, 2] rfl (EV.mv rfl) rfl rfl rfl rfl (xv 1 [] [0, 1, 2] rfl (EV.ln rfl) rfl rfl rfl rfl (xv 2 [] [0, 1, 2] rfl (EV.eql rfl rfl) rfl rfl rfl rfl (xv 3 [] [0, 1, 2] rfl (EV.mv rfl) rfl rfl rfl rfl ?_))))))
  revert H; refine ifsI ?_ ?_ <;> intro c3 H
  ·
   refine ts 18 rfl (dT c3) (xk 4 [] [0, 1, 2] rfl rfl rfl rfl rfl (xk 5 [] [0, 1, 2] rfl rfl rfl rfl rfl (xk 6 [] [0, 1, 2] rfl rfl rfl rfl rfl (xk 7 [] [0, 1, 2] rfl rfl rfl rfl rfl (xk 8 [] [0, 1, 2] rfl rfl rfl rfl rfl (xk 9 [] [0, 1, 2] rfl rfl rfl rfl rfl (xk 10 [] [0, 1, 2] rfl rfl rfl rfl rfl (xk 11 [] [0, 1, 2] rfl rfl rfl rfl rfl (xk 12 [] [0, 1, 2] rfl rfl rfl rfl rfl (xk 13 [] [0, 1, 2] rfl rfl rfl rfl rfl (xk 14 [] [0, 1, 2] rfl rfl rfl rfl rfl (xk 15 [] [0, 1, 2] rfl rfl rfl rfl rfl (xk 16 [] [0, 1, 2] rfl rfl rfl rfl rfl (xv 17 [] [0, 1, 2] rfl (EV.pt rfl rfl rfl) rfl rfl rfl rfl (xd (pr [0, 1, 5, 32] [] [0, 1, 2] rfl rfl rfl rfl (gt rfl rfl (gs (rg (sv (EV.mv rfl) rfl (sv (EV.mv rfl) rfl ?_)))))))))))))))))))))
   revert H; refine ggI ?_; intro g4 H
   refine sv (EV.ix 0 rfl rfl rfl dq g4 rfl) rfl (sv (EV.le (v := .agg #[.int .i64 ((rd_T72 x14_0 0).f0), .int .i64 ((rd_T72 x14_0 0).f1), .int .i64 ((rd_T72 x14_0 0).f2)]) 0 0 (some 3) 0 z72 rfl rfl rfl dq g4 rfl rfl rfl) rfl (so rfl (op_lit (s := 3) (by_ := 24) k72 ([(⟨(rd_T72 x14_0 0).f0, (rd_T72 x14_0 0).f1, (rd_T72 x14_0 0).f2⟩ : S72)] : List S72) [[]] [] 2 [.tmp 36] rfl rfl rfl rfl rfl rfl rfl rfl rfl rfl rfl rfl rfl dq rfl fun A37_5 c37_5 => ?_)))
   revert H; refine ggI ?_; intro g6 H
   refine so rfl (op_app (k := k72) (s := 3) (by_ := 24) 2 3 rfl rfl rfl rfl (ap1 g6 dq) (ap1n g6 dq) (.inl rfl) true (fun _ => .inl rfl) rfl rfl fun A38_7 c38_7 => (nmE (en := [.sl 0 k72 Ax14_0 cx14_0 x14_0 0 false, .sl 0 k72 Ax14_1 cx14_1 x14_1 0 false, .sl 2 k72 A37_5 c37_5 ([(⟨(rd_T72 x14_0 0).f0, (rd_T72 x14_0 0).f1, (rd_T72 x14_0 0).f2⟩ : S72)] : List S72) 2 true, .sl 2 k72 A38_7 c38_7 (x14_5 ++ ([(⟨(rd_T72 x14_0 0).f0, (rd_T72 x14_0 0).f1, (rd_T72 x14_0 0).f2⟩ : S72)] : List S72)) 1 true]) (by kernel_rfl) (sv (EV.as rfl) rfl (re (pr [0, 1, 5] [] [0, 1, 3] rfl rfl rfl rfl (rg (sv (EV.mv rfl) rfl ?_)))))))
   revert H; refine ggI ?_; intro g8 H
   exact cutp (l' := x14_0.drop (1 : Int).toNat) 1 (x14_0.length : Int) 0 rfl dq g8 (Int.le_refl _) rfl 0 dq (.inl dq) ctl (sv (EV.ct 1 (x14_0.length : Int) 0 rfl rfl rfl rfl dq g8 (Int.le_refl _) rfl rfl ctnl) rfl (sv (EV.as rfl) rfl (re (ge (wk [0, 1, 5] [] [⟨3, 0, 0, false⟩, ⟨1, 0, 0, false⟩, ⟨2, 2, 1, true⟩] (ih0 _ (by omega) _ ⟨x14_0.drop (1 : Int).toNat, (cutA Ax14_0 cx14_0 (1 : Int).toNat 3), (cx14_0 - (1 : Int).toNat), x14_1, Ax14_1, cx14_1, x14_5 ++ ([(⟨(rd_T72 x14_0 0).f0, (rd_T72 x14_0 0).f1, (rd_T72 x14_0 0).f2⟩ : S72)] : List S72), A38_7, c38_7, H, rfl⟩))))))
  ·
   refine ts 18 rfl (dF c3) (xv 4 [] [0, 1, 2] rfl (EV.mv rfl) rfl rfl rfl rfl (xv 5 [] [0, 1, 2] rfl (EV.ln rfl) rfl rfl rfl rfl (xv 6 [] [0, 1, 2] rfl (EV.gtr rfl rfl) rfl rfl rfl rfl (xv 7 [] [0, 1, 2] rfl (EV.mv rfl) rfl rfl rfl rfl ?_))))
   revert H; refine ifsI ?_ ?_ <;> intro c9 H
   ·
    refine ts 22 rfl (dT c9) (xv 8 [] [0, 1, 2] rfl (EV.mv rfl) rfl rfl rfl rfl ?_)
    revert H; refine ggI ?_; intro g10 H
    refine xv 9 [] [0, 1, 2] rfl (EV.ix 0 rfl rfl rfl dq g10 rfl) rfl rfl rfl rfl (xv 10 [] [0, 1, 2] rfl (EV.le (v := .agg #[.int .i64 ((rd_T72 x14_0 0).f0), .int .i64 ((rd_T72 x14_0 0).f1), .int .i64 ((rd_T72 x14_0 0).f2)]) 0 0 (some 3) 0 z72 rfl rfl rfl dq g10 rfl rfl rfl) rfl rfl rfl rfl (xv 11 [] [0, 1, 2] rfl (EV.mv rfl) rfl rfl rfl rfl ?_))
    revert H; refine ggI ?_; intro g11 H
    refine xv 12 [] [0, 1, 2] rfl (EV.ix 1 rfl rfl rfl dq g11 rfl) rfl rfl rfl rfl (xv 13 [] [0, 1, 2] rfl (EV.le (v := .agg #[.int .i64 ((rd_T72 x14_1 0).f0), .int .i64 ((rd_T72 x14_1 0).f1), .int .i64 ((rd_T72 x14_1 0).f2)]) 0 0 (some 3) 1 z72 rfl rfl rfl dq g11 rfl rfl rfl) rfl rfl rfl rfl (one1 14 rfl rfl ?_))
    revert H; refine bdI ?_; rintro t12 A12 H
    refine op_call (impl_CompareRows.ok ((rd_T72 x14_0 0).f0) ((rd_T72 x14_0 0).f1) ((rd_T72 x14_0 0).f2) ((rd_T72 x14_1 0).f0) ((rd_T72 x14_1 0).f1) ((rd_T72 x14_1 0).f2) _ A12) [] 2 rfl rfl rfl rfl rfl ?_
    rintro _ _ _ ⟨rfl, rfl, rfl⟩
    refine xs [] [0, 1, 2] rfl rfl rfl (xv 15 [] [0, 1, 2] rfl (EV.leq rfl rfl) rfl rfl rfl rfl (xv 16 [] [0, 1, 2] rfl (EV.pt rfl rfl rfl) rfl rfl rfl rfl (xv 17 [] [0, 1, 2] rfl (EV.pf rfl rfl rfl) rfl rfl rfl rfl (xd ?_))))
    revert H; refine ifsI ?_ ?_ <;> intro c13 H
    ·
     refine gt rfl (dT c13) (gs (rg (sv (EV.mv rfl) rfl (sv (EV.mv rfl) rfl (sv (EV.ix 0 rfl rfl rfl dq g10 rfl) rfl (sv (EV.le (v := .agg #[.int .i64 ((rd_T72 x14_0 0).f0), .int .i64 ((rd_T72 x14_0 0).f1), .int .i64 ((rd_T72 x14_0 0).f2)]) 0 0 (some 3) 0 z72 rfl rfl rfl dq g10 rfl rfl rfl) rfl (so rfl (op_lit (s := 3) (by_ := 24) k72 ([(⟨(rd_T72 x14_0 0).f0, (rd_T72 x14_0 0).f1, (rd_T72 x14_0 0).f2⟩ : S72)] : List S72) [[]] [] 2 [.tmp 36] rfl rfl rfl rfl rfl rfl rfl rfl rfl rfl rfl rfl rfl dq rfl fun A37_14 c37_14 => ?_))))))))
     revert H; refine ggI ?_; intro g15 H
     refine so rfl (op_app (k := k72) (s := 3) (by_ := 24) 2 3 rfl rfl rfl rfl (ap1 g15 dq) (ap1n g15 dq) (.inl rfl) true (fun _ => .inl rfl) rfl rfl fun A38_16 c38_16 => (nmE (en := [.sl 0 k72 Ax14_0 cx14_0 x14_0 0 false, .sl 0 k72 Ax14_1 cx14_1 x14_1 0 false, .sl 2 k72 A37_14 c37_14 ([(⟨(rd_T72 x14_0 0).f0, (rd_T72 x14_0 0).f1, (rd_T72 x14_0 0).f2⟩ : S72)] : List S72) 2 true, .sl 2 k72 A38_16 c38_16 (x14_5 ++ ([(⟨(rd_T72 x14_0 0).f0, (rd_T72 x14_0 0).f1, (rd_T72 x14_0 0).f2⟩ : S72)] : List S72)) 1 true]) (by kernel_rfl) (sv (EV.as rfl) rfl (re (pr [0, 1, 5, 19, 20, 21, 22, 23, 24, 25, 26, 27, 28, 29, 30, 31] [] [0, 1, 3] rfl rfl rfl rfl (rg (sv (EV.mv rfl) rfl ?_)))))))
     revert H; refine ggI ?_; intro g17 H
     exact cutp (l' := x14_0.drop (1 : Int).toNat) 1 (x14_0.length : Int) 0 rfl dq g17 (Int.le_refl _) rfl 0 dq (.inl dq) ctl (sv (EV.ct 1 (x14_0.length : Int) 0 rfl rfl rfl rfl dq g17 (Int.le_refl _) rfl rfl ctnl) rfl (sv (EV.as rfl) rfl (re (ge (wk [0, 1, 5] [] [⟨3, 0, 0, false⟩, ⟨1, 0, 0, false⟩, ⟨2, 2, 1, true⟩] (ih0 _ (by omega) _ ⟨x14_0.drop (1 : Int).toNat, (cutA Ax14_0 cx14_0 (1 : Int).toNat 3), (cx14_0 - (1 : Int).toNat), x14_1, Ax14_1, cx14_1, x14_5 ++ ([(⟨(rd_T72 x14_0 0).f0, (rd_T72 x14_0 0).f1, (rd_T72 x14_0 0).f2⟩ : S72)] : List S72), A38_16, c38_16, H, rfl⟩))))))
    ·
     refine gf rfl (dF c13) (gs (rg (sv (EV.mv rfl) rfl (sv (EV.mv rfl) rfl (sv (EV.ix 1 rfl rfl rfl dq g11 rfl) rfl (sv (EV.le (v := .agg #[.int .i64 ((rd_T72 x14_1 0).f0), .int .i64 ((rd_T72 x14_1 0).f1), .int .i64 ((rd_T72 x14_1 0).f2)]) 0 0 (some 3) 1 z72 rfl rfl rfl dq g11 rfl rfl rfl) rfl (so rfl (op_lit (s := 3) (by_ := 24) k72 ([(⟨(rd_T72 x14_1 0).f0, (rd_T72 x14_1 0).f1, (rd_T72 x14_1 0).f2⟩ : S72)] : List S72) [[]] [] 2 [.tmp 44] rfl rfl rfl rfl rfl rfl rfl rfl rfl rfl rfl rfl rfl dq rfl fun A45_18 c45_18 => ?_))))))))
     revert H; refine ggI ?_; intro g19 H
     refine so rfl (op_app (k := k72) (s := 3) (by_ := 24) 2 3 rfl rfl rfl rfl (ap1 g19 dq) (ap1n g19 dq) (.inl rfl) true (fun _ => .inl rfl) rfl rfl fun A46_20 c46_20 => (nmE (en := [.sl 0 k72 Ax14_0 cx14_0 x14_0 0 false, .sl 0 k72 Ax14_1 cx14_1 x14_1 0 false, .sl 2 k72 A45_18 c45_18 ([(⟨(rd_T72 x14_1 0).f0, (rd_T72 x14_1 0).f1, (rd_T72 x14_1 0).f2⟩ : S72)] : List S72) 2 true, .sl 2 k72 A46_20 c46_20 (x14_5 ++ ([(⟨(rd_T72 x14_1 0).f0, (rd_T72 x14_1 0).f1, (rd_T72 x14_1 0).f2⟩ : S72)] : List S72)) 1 true]) (by kernel_rfl) (sv (EV.as rfl) rfl (re (pr [0, 1, 5, 19, 20, 21, 22, 23, 24, 25, 26, 27, 28, 29, 30, 31] [] [0, 1, 3] rfl rfl rfl rfl (rg (sv (EV.mv rfl) rfl ?_)))))))
     revert H; refine ggI ?_; intro g21 H
     exact cutp (l' := x14_1.drop (1 : Int).toNat) 1 (x14_1.length : Int) 1 rfl dq g21 (Int.le_refl _) rfl 0 dq (.inl dq) ctl (sv (EV.ct 1 (x14_1.length : Int) 1 rfl rfl rfl rfl dq g21 (Int.le_refl _) rfl rfl ctnl) rfl (sv (EV.as rfl) rfl (re (ge (wk [0, 1, 5] [] [⟨0, 0, 0, false⟩, ⟨3, 0, 0, false⟩, ⟨2, 2, 1, true⟩] (ih0 _ (by omega) _ ⟨x14_0, Ax14_0, cx14_0, x14_1.drop (1 : Int).toNat, (cutA Ax14_1 cx14_1 (1 : Int).toNat 3), (cx14_1 - (1 : Int).toNat), x14_5 ++ ([(⟨(rd_T72 x14_1 0).f0, (rd_T72 x14_1 0).f1, (rd_T72 x14_1 0).f2⟩ : S72)] : List S72), A46_20, c46_20, H, rfl⟩))))))
   ·
    refine ts 22 rfl (dF c9) (xk 8 [] [0, 1, 2] rfl rfl rfl rfl rfl (xk 9 [] [0, 1, 2] rfl rfl rfl rfl rfl (xk 10 [] [0, 1, 2] rfl rfl rfl rfl rfl (xk 11 [] [0, 1, 2] rfl rfl rfl rfl rfl (xk 12 [] [0, 1, 2] rfl rfl rfl rfl rfl (xk 13 [] [0, 1, 2] rfl rfl rfl rfl rfl (xk 14 [] [0, 1, 2] rfl rfl rfl rfl rfl (xk 15 [] [0, 1, 2] rfl rfl rfl rfl rfl (xv 16 [] [0, 1, 2] rfl (EV.pf rfl rfl rfl) rfl rfl rfl rfl (xv 17 [] [0, 1, 2] rfl (EV.pf rfl rfl rfl) rfl rfl rfl rfl (xd (pr [0, 1, 5, 19, 20, 21, 22, 31, 32] [] [0, 1, 2] rfl rfl rfl rfl (gf rfl rfl (gs (rg (sv (EV.mv rfl) rfl (sv (EV.mv rfl) rfl ?_)))))))))))))))))
    revert H; refine ggI ?_; intro g22 H
    refine sv (EV.ix 1 rfl rfl rfl dq g22 rfl) rfl (sv (EV.le (v := .agg #[.int .i64 ((rd_T72 x14_1 0).f0), .int .i64 ((rd_T72 x14_1 0).f1), .int .i64 ((rd_T72 x14_1 0).f2)]) 0 0 (some 3) 1 z72 rfl rfl rfl dq g22 rfl rfl rfl) rfl (so rfl (op_lit (s := 3) (by_ := 24) k72 ([(⟨(rd_T72 x14_1 0).f0, (rd_T72 x14_1 0).f1, (rd_T72 x14_1 0).f2⟩ : S72)] : List S72) [[]] [] 2 [.tmp 44] rfl rfl rfl rfl rfl rfl rfl rfl rfl rfl rfl rfl rfl dq rfl fun A45_23 c45_23 => ?_)))
    revert H; refine ggI ?_; intro g24 H
    refine so rfl (op_app (k := k72) (s := 3) (by_ := 24) 2 3 rfl rfl rfl rfl (ap1 g24 dq) (ap1n g24 dq) (.inl rfl) true (fun _ => .inl rfl) rfl rfl fun A46_25 c46_25 => (nmE (en := [.sl 0 k72 Ax14_0 cx14_0 x14_0 0 false, .sl 0 k72 Ax14_1 cx14_1 x14_1 0 false, .sl 2 k72 A45_23 c45_23 ([(⟨(rd_T72 x14_1 0).f0, (rd_T72 x14_1 0).f1, (rd_T72 x14_1 0).f2⟩ : S72)] : List S72) 2 true, .sl 2 k72 A46_25 c46_25 (x14_5 ++ ([(⟨(rd_T72 x14_1 0).f0, (rd_T72 x14_1 0).f1, (rd_T72 x14_1 0).f2⟩ : S72)] : List S72)) 1 true]) (by kernel_rfl) (sv (EV.as rfl) rfl (re (pr [0, 1, 5, 19, 20, 21, 22, 31] [] [0, 1, 3] rfl rfl rfl rfl (rg (sv (EV.mv rfl) rfl ?_)))))))
    revert H; refine ggI ?_; intro g26 H
    exact cutp (l' := x14_1.drop (1 : Int).toNat) 1 (x14_1.length : Int) 1 rfl dq g26 (Int.le_refl _) rfl 0 dq (.inl dq) ctl (sv (EV.ct 1 (x14_1.length : Int) 1 rfl rfl rfl rfl dq g26 (Int.le_refl _) rfl rfl ctnl) rfl (sv (EV.as rfl) rfl (re (ge (wk [0, 1, 5] [] [⟨0, 0, 0, false⟩, ⟨3, 0, 0, false⟩, ⟨2, 2, 1, true⟩] (ih0 _ (by omega) _ ⟨x14_0, Ax14_0, cx14_0, x14_1.drop (1 : Int).toNat, (cutA Ax14_1 cx14_1 (1 : Int).toNat 3), (cx14_1 - (1 : Int).toNat), x14_5 ++ ([(⟨(rd_T72 x14_1 0).f0, (rd_T72 x14_1 0).f1, (rd_T72 x14_1 0).f2⟩ : S72)] : List S72), A46_25, c46_25, H, rfl⟩))))))
 ·
  refine gs (rg (sv (EV.mv rfl) rfl (sv (EV.ln rfl) rfl (sv (EV.gtr rfl rfl) rfl (sv (EV.mv rfl) rfl ?_)))))
  revert H; refine ifsI ?_ ?_ <;> intro c27 H
  ·
   exact ts 10 rfl (dT c27) (sk rfl (sk rfl (sk rfl (sv (EV.pt rfl rfl rfl) rfl (re (pr [0, 1, 5, 14] [] [0, 1, 2] rfl rfl rfl rfl (gt rfl rfl (gk (wk [0, 1, 5] [] [⟨0, 0, 0, false⟩, ⟨1, 0, 0, false⟩, ⟨2, 2, 1, true⟩] (jh0 _ ⟨_, x12_0, Ax12_0, cx12_0, x12_1, Ax12_1, cx12_1, x12_5, Ax12_5, cx12_5, by omega, H, rfl⟩))))))))))
  ·
   refine ts 10 rfl (dF c27) (sv (EV.mv rfl) rfl (sv (EV.ln rfl) rfl (sv (EV.gtr rfl rfl) rfl (sv (EV.pf rfl rfl rfl) rfl (re ?_)))))
   revert H; refine ifsI ?_ ?_ <;> intro c28 H
   ·
    exact gt rfl (dT c28) (gk (wk [0, 1, 5] [] [⟨0, 0, 0, false⟩, ⟨1, 0, 0, false⟩, ⟨2, 2, 1, true⟩] (jh0 _ ⟨_, x12_0, Ax12_0, cx12_0, x12_1, Ax12_1, cx12_1, x12_5, Ax12_5, cx12_5, by omega, H, rfl⟩)))
   ·
    refine gf rfl (dF c28) (gx rfl (gs (rg (sv (EV.mv rfl) rfl (sv (EV.as rfl) rfl (re (pr [4] [] [2] rfl rfl rfl rfl ?_)))))))
    cases H
    exact rt Try.func67 rfl (.tmp rfl .nil) rfl [] [⟨0, 2, 1, true⟩] rfl rfl rfl rfl rfl ⟨_, _, rfl, rfl, rfl⟩
def impl_IsValidSorter.l0 : Nat → Int → Int → Int → Int → Int → Int → Int → (List S72) → (List S72) → (List S72) → (List S72) → (List S57) → Option (Bool)
 | 0, _, _, _, _, _, _, _, _, _, _, _, _ => none
 | k + 1, x2_42, x2_43, x2_3_1, x2_3_6, x2_3_7, x2_3_8, x2_3_9, l0_2, l0_0, l0_3, l0_4, l0_5 => if x2_43 < x2_42 then (if 0 ≤ x2_43 then (if x2_43 < (l0_2.length : Int) then ((impl_below.f ((rd_T72 l0_2 x2_43).f0) ((rd_T72 l0_2 x2_43).f1) ((rd_T72 l0_2 x2_43).f2) l0_4).bind fun t13 => (if t13 = true then (some false) else (impl_IsValidSorter.l0 k x2_42 (wrap64 (x2_43 + 1)) x2_3_1 x2_3_6 x2_3_7 x2_3_8 x2_3_9 l0_2 l0_0 l0_3 l0_4 l0_5))) else none) else none) else ((impl_FlattenRuns.f k l0_5).bind fun t15 => (if x2_3_8 = 1 then (if x2_3_6 = 0 then (if x2_3_7 = 0 then (if (l0_4.length : Int) > 0 then ((impl_SorterMemory.f k l0_0 x2_3_1 l0_2 l0_3 l0_4 l0_5 x2_3_6 x2_3_7 x2_3_8 x2_3_9).bind fun t20 => (if t20 ≤ 60 then (if 0 ≤ x2_3_1 then (if x2_3_1 ≤ (l0_0.length : Int) then ((impl_together.f k ([t15, l0_4, l0_2, l0_3] : List (List S72))).bind fun t25 => ((impl_EqualBags.f k t25 (l0_0.take x2_3_1.toNat)).bind fun t26 => (some t26))) else none) else none) else (some false))) else (if (l0_3.length : Int) = 0 then ((impl_SorterMemory.f k l0_0 x2_3_1 l0_2 l0_3 l0_4 l0_5 x2_3_6 x2_3_7 x2_3_8 x2_3_9).bind fun t28 => (if t28 ≤ 60 then (if 0 ≤ x2_3_1 then (if x2_3_1 ≤ (l0_0.length : Int) then ((impl_together.f k ([t15, l0_4, l0_2, l0_3] : List (List S72))).bind fun t33 => ((impl_EqualBags.f k t33 (l0_0.take x2_3_1.toNat)).bind fun t34 => (some t34))) else none) else none) else (some false))) else (some false))) else (some false)) else (some false)) else (if x2_3_1 = (l0_0.length : Int) then (if (l0_2.length : Int) > 0 then (some false) else (if (l0_3.length : Int) > 0 then (some false) else ((impl_EqualBags.f k t15 l0_0).bind fun t38 => (if t38 = true then (if x2_3_8 = 2 then (if (l0_5.length : Int) < 2 then (some false) else (if 0 < (l0_5.length : Int) then (if 1 < (l0_5.length : Int) then ((impl_within.f x2_3_6 0 (((rd_T57 l0_5 0).f0).length : Int)).bind fun t46 => (if t46 = true then ((impl_within.f x2_3_7 0 (((rd_T57 l0_5 1).f0).length : Int)).bind fun t48 => (if t48 = true then (if 0 ≤ x2_3_6 then (if x2_3_6 ≤ (((rd_T57 l0_5 0).f0).length : Int) then (if 0 ≤ x2_3_7 then (if x2_3_7 ≤ (((rd_T57 l0_5 1).f0).length : Int) then ((impl_MergeSorted.f k (((rd_T57 l0_5 0).f0).take x2_3_6.toNat) (((rd_T57 l0_5 1).f0).take x2_3_7.toNat)).bind fun t54 => ((impl_equal.f k l0_4 t54).bind fun t55 => (if t55 = true then ((impl_MergeSorted.f k ((rd_T57 l0_5 0).f0) ((rd_T57 l0_5 1).f0)).bind fun t57 => (if 0 ≤ (wrap64 (x2_3_6 + x2_3_7)) then (if (wrap64 (x2_3_6 + x2_3_7)) ≤ (t57.length : Int) then ((impl_equal.f k l0_4 (t57.take (wrap64 (x2_3_6 + x2_3_7)).toNat)).bind fun t60 => (some t60)) else none) else none)) else (some false)))) else none) else none) else none) else none) else (some false))) else (some false))) else none) else none)) else (if x2_3_8 = 3 then (if (l0_5.length : Int) = 1 then ((impl_within.f x2_3_6 0 (wrap64 ((l0_0.length : Int) - 1))).bind fun t63 => (if t63 = true then (if x2_3_7 = 0 then (some (decide ((l0_4.length : Int) = 0))) else (some false)) else (some false))) else (some false)) else (if x2_3_8 = 4 then (if (l0_5.length : Int) ≤ 1 then (if x2_3_6 = (l0_0.length : Int) then (if x2_3_7 = 0 then (some (decide ((l0_4.length : Int) = 0))) else (some false)) else (some false)) else (some false)) else (some false)))) else (some false))))) else (some false))))
def impl_IsValidSorter.f (k : Nat) (l0_0 : List S72) (a0_1 : Int) (l0_2 : List S72) (l0_3 : List S72) (l0_4 : List S72) (l0_5 : List S57) (a0_6 : Int) (a0_7 : Int) (a0_8 : Int) (a0_9 : Int) : Option (Bool) := (impl_AreValidRows.f k l0_0).bind fun t1 => (if t1 = true then ((impl_within.f a0_1 0 (l0_0.length : Int)).bind fun t3 => (if t3 = true then ((impl_AreValidRuns.f k l0_5).bind fun t5 => (if t5 = true then (if a0_9 < 0 then (some false) else ((impl_IsSorted.f k l0_4).bind fun t8 => (if t8 = true then (impl_IsValidSorter.l0 k (l0_2.length : Int) 0 a0_1 a0_6 a0_7 a0_8 a0_9 l0_2 l0_0 l0_3 l0_4 l0_5) else (some false)))) else (some false))) else (some false))) else (some false))
set_option maxHeartbeats 4000000 in
set_option maxRecDepth 100000 in
theorem impl_IsValidSorter.ok (k : Nat) (l0_0 : List S72) (Al0_0 : Option Addr) (cl0_0 : Nat) (a0_1 : Int) (l0_2 : List S72) (Al0_2 : Option Addr) (cl0_2 : Nat) (l0_3 : List S72) (Al0_3 : Option Addr) (cl0_3 : Nat) (l0_4 : List S72) (Al0_4 : Option Addr) (cl0_4 : Nat) (l0_5 : List S57) (Al0_5 : Option Addr) (cl0_5 : Nat) (a0_6 : Int) (a0_7 : Int) (a0_8 : Int) (a0_9 : Int) (r0 : Bool) (H : impl_IsValidSorter.f k l0_0 a0_1 l0_2 l0_3 l0_4 l0_5 a0_6 a0_7 a0_8 a0_9 = some r0) : Fn Try.prog 22 [.agg #[.slice Al0_0 l0_0.length cl0_0, .int .i64 a0_1, .slice Al0_2 l0_2.length cl0_2, .slice Al0_3 l0_3.length cl0_3, .slice Al0_4 l0_4.length cl0_4, .slice Al0_5 l0_5.length cl0_5, .int .i64 a0_6, .int .i64 a0_7, .int .i64 a0_8, .int .i64 a0_9]] [] [.sl 0 k72 Al0_0 cl0_0 l0_0 0 false, .sl 0 k72 Al0_2 cl0_2 l0_2 0 false, .sl 0 k72 Al0_3 cl0_3 l0_3 0 false, .sl 0 k72 Al0_4 cl0_4 l0_4 0 false, .sl 0 k57 Al0_5 cl0_5 l0_5 0 false] (fun v bx en => v = .bool r0 ∧ bx = [] ∧ en = []) := by
 refine fn_ 234 Try.func22 rfl rfl rfl (fun base T w0 => ?_)
 rw [impl_IsValidSorter.f] at H
 refine gs (rg (so rfl (op_box (cs := [.slice Al0_0 l0_0.length cl0_0, .int .i64 a0_1, .slice Al0_2 l0_2.length cl0_2, .slice Al0_3 l0_3.length cl0_3, .slice Al0_4 l0_4.length cl0_4, .slice Al0_5 l0_5.length cl0_5, .int .i64 a0_6, .int .i64 a0_7, .int .i64 a0_8, .int .i64 a0_9]) rfl rfl rfl fun b1 => (sv (EV.as rfl) rfl (re (gs (rg (sv (EV.ld (v := .agg #[.slice Al0_0 l0_0.length cl0_0, .int .i64 a0_1, .slice Al0_2 l0_2.length cl0_2, .slice Al0_3 l0_3.length cl0_3, .slice Al0_4 l0_4.length cl0_4, .slice Al0_5 l0_5.length cl0_5, .int .i64 a0_6, .int .i64 a0_7, .int .i64 a0_8, .int .i64 a0_9]) 0 (some 10) rfl rfl rfl) rfl (so rfl (op_alloc (cs := [.slice none 0 0, .int .i64 0, .slice none 0 0, .slice none 0 0, .slice none 0 0, .slice none 0 0, .int .i64 0, .int .i64 0, .int .i64 0, .int .i64 0]) (by kernel_rfl) rfl fun b3 => (so rfl (op_st (cs' := [.slice Al0_0 l0_0.length cl0_0, .int .i64 a0_1, .slice Al0_2 l0_2.length cl0_2, .slice Al0_3 l0_3.length cl0_3, .slice Al0_4 l0_4.length cl0_4, .slice Al0_5 l0_5.length cl0_5, .int .i64 a0_6, .int .i64 a0_7, .int .i64 a0_8, .int .i64 a0_9]) 1 rfl rfl rfl rfl rfl rfl (re (gs (gs (rg (sv (EV.fa 0 rfl) rfl (sv (EV.ld 1 none rfl rfl rfl) rfl ?_))))))))))))))))))
 revert H; refine bdI ?_; rintro t1 A1 H
 refine so rfl (op_call (impl_AreValidRows.ok k l0_0 Al0_0 cl0_0 _ A1) [⟨0, 0, 0, false⟩] 1 rfl rfl rfl rfl rfl ?_)
 rintro _ _ _ ⟨rfl, rfl, rfl⟩
 refine sv (EV.nt rfl) rfl (sv (EV.mv rfl) rfl ?_)
 revert H; refine ifsI ?_ ?_ <;> intro c2 H
 ·
  subst c2
  refine ts 14 rfl rfl (sv (EV.fa 1 rfl) rfl (sv (EV.ld 1 none rfl rfl rfl) rfl (sv (EV.fa 0 rfl) rfl (sv (EV.ld 1 none rfl rfl rfl) rfl (sv (EV.ln rfl) rfl ?_)))))
  revert H; refine bdI ?_; rintro t3 A3 H
  refine so rfl (op_call (impl_within.ok a0_1 0 (l0_0.length : Int) _ A3) [] 1 rfl rfl rfl rfl rfl ?_)
  rintro _ _ _ ⟨rfl, rfl, rfl⟩
  refine sv (EV.nt rfl) rfl (sv (EV.pf rfl rfl rfl) rfl (sv (EV.mv rfl) rfl ?_))
  revert H; refine ifsI ?_ ?_ <;> intro c4 H
  ·
   subst c4
   refine ts 23 rfl rfl (sv (EV.fa 5 rfl) rfl (sv (EV.ld 1 none rfl rfl rfl) rfl ?_))
   revert H; refine bdI ?_; rintro t5 A5 H
   refine so rfl (op_call (impl_AreValidRuns.ok k l0_5 Al0_5 cl0_5 _ A5) [⟨4, 0, 0, false⟩] 1 rfl rfl rfl rfl rfl ?_)
   rintro _ _ _ ⟨rfl, rfl, rfl⟩
   refine sv (EV.nt rfl) rfl (sv (EV.pf rfl rfl rfl) rfl (sv (EV.mv rfl) rfl ?_))
   revert H; refine ifsI ?_ ?_ <;> intro c6 H
   ·
    subst c6
    refine ts 29 rfl rfl (sv (EV.fa 9 rfl) rfl (sv (EV.ld 1 none rfl rfl rfl) rfl (sv (EV.lss rfl rfl) rfl (sv (EV.pf rfl rfl rfl) rfl (sv (EV.mv rfl) rfl ?_)))))
    revert H; refine ifsI ?_ ?_ <;> intro c7 H
    ·
     refine ts 34 rfl (dT c7) (sk rfl (sk rfl (sk rfl (sk rfl (sv (EV.pt rfl rfl rfl) rfl (re (pr [3, 39] [1] [0, 1, 2, 3, 4] rfl rfl rfl rfl (gt rfl rfl (gs (rg (sv (EV.as rfl) rfl (re ?_))))))))))))
     cases H
     exact rt Try.func22 rfl (.tmp rfl .nil) rfl [] [] rfl rfl rfl rfl rfl ⟨rfl, rfl, rfl⟩
    ·
     refine ts 34 rfl (dF c7) (sv (EV.fa 4 rfl) rfl (sv (EV.ld 1 none rfl rfl rfl) rfl ?_))
     revert H; refine bdI ?_; rintro t8 A8 H
     refine so rfl (op_call (impl_IsSorted.ok k l0_4 Al0_4 cl0_4 _ A8) [⟨3, 0, 0, false⟩] 1 rfl rfl rfl rfl rfl ?_)
     rintro _ _ _ ⟨rfl, rfl, rfl⟩
     refine sv (EV.nt rfl) rfl (sv (EV.pf rfl rfl rfl) rfl (re (pr [3, 39] [1] [0, 1, 2, 3, 4] rfl rfl rfl rfl ?_)))
     revert H; refine ifsI ?_ ?_ <;> intro c9 H
     ·
      subst c9
      refine gf rfl rfl (gk (gs (gs (rg (sv (EV.fa 2 rfl) rfl (sv (EV.ld 0 none rfl rfl rfl) rfl (sv (EV.ln rfl) rfl (sv (EV.mv rfl) rfl (re (gb ?_))))))))))
      refine lo (fun kk S => ∃ (x2_42 : Int) (x2_43 : Int) (x2_3_1 : Int) (x2_3_6 : Int) (x2_3_7 : Int) (x2_3_8 : Int) (x2_3_9 : Int), impl_IsValidSorter.l0 kk x2_42 x2_43 x2_3_1 x2_3_6 x2_3_7 x2_3_8 x2_3_9 l0_2 l0_0 l0_3 l0_4 l0_5 = some r0 ∧ S = ⟨[(3, .pointer (some ⟨b3, 0, none⟩)), (41, .slice Al0_2 l0_2.length cl0_2), (42, .int .i64 x2_42), (43, .int .i64 x2_43)], [⟨b3, 31, [.slice Al0_0 l0_0.length cl0_0, .int .i64 x2_3_1, .slice Al0_2 l0_2.length cl0_2, .slice Al0_3 l0_3.length cl0_3, .slice Al0_4 l0_4.length cl0_4, .slice Al0_5 l0_5.length cl0_5, .int .i64 x2_3_6, .int .i64 x2_3_7, .int .i64 x2_3_8, .int .i64 x2_3_9]⟩], [.sl 0 k72 Al0_2 cl0_2 l0_2 0 false, .sl 0 k72 Al0_0 cl0_0 l0_0 0 false, .sl 0 k72 Al0_3 cl0_3 l0_3 0 false, .sl 0 k72 Al0_4 cl0_4 l0_4 0 false, .sl 0 k57 Al0_5 cl0_5 l0_5 0 false]⟩) (fun S hS => ?_) (fun n0 ih0 S hS => ?_) ⟨(l0_2.length : Int), 0, a0_1, a0_6, a0_7, a0_8, a0_9, H, rfl⟩ (fun h => wk [3, 41, 42, 43] [0] [⟨1, 0, 0, false⟩, ⟨0, 0, 0, false⟩, ⟨2, 0, 0, false⟩, ⟨3, 0, 0, false⟩, ⟨4, 0, 0, false⟩] h)
      · clear H; obtain ⟨_, _, _, _, _, _, _, H, _⟩ := hS; rw [impl_IsValidSorter.l0] at H; cases H
      clear H
      obtain ⟨x2_42, x2_43, x2_3_1, x2_3_6, x2_3_7, x2_3_8, x2_3_9, H, rfl⟩ := hS
      rw [impl_IsValidSorter.l0] at H
      refine gs (rg (sv (EV.lss rfl rfl) rfl (re (gs ?_))))
      revert H; refine ifsI ?_ ?_ <;> intro c10 H
      ·
       refine gt rfl (dT c10) (gk (gs (gb (gs (rg ?_)))))
       revert H; refine ggI ?_; intro g11 H
       revert H; refine ggI ?_; intro g12 H
       refine sv (EV.ix 0 rfl rfl rfl g11 g12 rfl) rfl (sv (EV.le (v := .agg #[.int .i64 ((rd_T72 l0_2 x2_43).f0), .int .i64 ((rd_T72 l0_2 x2_43).f1), .int .i64 ((rd_T72 l0_2 x2_43).f2)]) x2_43 0 (some 3) 0 z72 rfl rfl rfl g11 g12 rfl rfl rfl) rfl (so rfl (op_alloc (cs := [.int .i64 0, .int .i64 0, .int .i64 0]) (by kernel_rfl) rfl fun b5 => (so rfl (op_st (cs' := [.int .i64 ((rd_T72 l0_2 x2_43).f0), .int .i64 ((rd_T72 l0_2 x2_43).f1), .int .i64 ((rd_T72 l0_2 x2_43).f2)]) 1 rfl rfl rfl rfl rfl rfl (re (gs (rg (sv (EV.ld (v := .agg #[.int .i64 ((rd_T72 l0_2 x2_43).f0), .int .i64 ((rd_T72 l0_2 x2_43).f1), .int .i64 ((rd_T72 l0_2 x2_43).f2)]) 1 (some 3) rfl rfl rfl) rfl (sv (EV.fa 4 rfl) rfl (sv (EV.ld 0 none rfl rfl rfl) rfl ?_)))))))))))
       revert H; refine bdI ?_; rintro t13 A13 H
       refine so rfl (op_call (impl_below.ok ((rd_T72 l0_2 x2_43).f0) ((rd_T72 l0_2 x2_43).f1) ((rd_T72 l0_2 x2_43).f2) l0_4 Al0_4 cl0_4 _ A13) [⟨3, 0, 0, false⟩] 1 rfl rfl rfl rfl rfl ?_)
       rintro _ _ _ ⟨rfl, rfl, rfl⟩
       refine re (pr [3, 41, 42, 43, 50] [0] [0, 1, 2, 3, 4] rfl rfl rfl rfl ?_)
       revert H; refine ifsI ?_ ?_ <;> intro c14 H
       ·
        subst c14
        refine gt rfl rfl (gs (rg (sv (EV.as rfl) rfl (re ?_))))
        cases H
        exact rt Try.func22 rfl (.tmp rfl .nil) rfl [] [] rfl rfl rfl rfl rfl ⟨rfl, rfl, rfl⟩
       ·
        have xc14 := bF c14; subst xc14
        exact gf rfl rfl (gk (ge (rg (sv (EV.add rfl rfl) rfl (sv (EV.mv rfl) rfl (re (wk [3, 41, 42, 43] [0] [⟨0, 0, 0, false⟩, ⟨1, 0, 0, false⟩, ⟨2, 0, 0, false⟩, ⟨3, 0, 0, false⟩, ⟨4, 0, 0, false⟩] (ih0 _ (by omega) _ ⟨x2_42, wrap64 (x2_43 + 1), x2_3_1, x2_3_6, x2_3_7, x2_3_8, x2_3_9, H, rfl⟩))))))))
      ·
       refine gf rfl (dF c10) (gx rfl (gs (rg (sv (EV.fa 5 rfl) rfl (sv (EV.ld 0 none rfl rfl rfl) rfl ?_)))))
       revert H; refine bdI ?_; rintro t15 A15 H
       refine so rfl (op_call (impl_FlattenRuns.ok n0 l0_5 Al0_5 cl0_5 _ A15) [⟨4, 0, 0, false⟩] 1 rfl rfl rfl rfl rfl ?_)
       rintro _ _ _ ⟨At15, ct15, rfl, rfl, rfl⟩
       refine sv (EV.as rfl) rfl (re (pr [3, 6] [0] [0, 1, 2, 3, 4, 5] rfl rfl rfl rfl (gs (gs (rg (sv (EV.fa 8 rfl) rfl (sv (EV.ld 0 none rfl rfl rfl) rfl (sv (EV.eql rfl rfl) rfl (re ?_)))))))))
       revert H; refine ifsI ?_ ?_ <;> intro c16 H
       ·
        refine gt rfl (dT c16) (gs ?_)
        revert H; refine ifsI ?_ ?_ <;> intro c17 H
        ·
         revert H; refine ifsI ?_ ?_ <;> intro c18 H
         ·
          revert H; refine ifsI ?_ ?_ <;> intro c19 H
          ·
           refine dr [0] [0, 1, 2, 3, 4] [42] 43 rfl rfl rfl rfl (xv 0 [0] [0, 1, 2, 3, 4] rfl (EV.fa 6 rfl) (by kernel_rfl) (by kernel_rfl) (by kernel_rfl) (by kernel_rfl) (xv 1 [0] [0, 1, 2, 3, 4] rfl (EV.ld 0 none rfl rfl rfl) (by kernel_rfl) (by kernel_rfl) (by kernel_rfl) (by kernel_rfl) (xv 2 [0] [0, 1, 2, 3, 4] rfl (EV.eql rfl rfl) (by kernel_rfl) (by kernel_rfl) (by kernel_rfl) (by kernel_rfl) (xv 3 [0] [0, 1, 2, 3, 4] rfl (EV.mv rfl) (by kernel_rfl) (by kernel_rfl) (by kernel_rfl) (by kernel_rfl) (ts 61 rfl (dT c17) (xv 4 [0] [0, 1, 2, 3, 4] rfl (EV.fa 7 rfl) (by kernel_rfl) (by kernel_rfl) (by kernel_rfl) (by kernel_rfl) (xv 5 [0] [0, 1, 2, 3, 4] rfl (EV.ld 0 none rfl rfl rfl) (by kernel_rfl) (by kernel_rfl) (by kernel_rfl) (by kernel_rfl) (xv 6 [0] [0, 1, 2, 3, 4] rfl (EV.eql rfl rfl) (by kernel_rfl) (by kernel_rfl) (by kernel_rfl) (by kernel_rfl) (xv 7 [0] [0, 1, 2, 3, 4] rfl (EV.pt rfl rfl rfl) (by kernel_rfl) (by kernel_rfl) (by kernel_rfl) (by kernel_rfl) (xv 8 [0] [0, 1, 2, 3, 4] rfl (EV.mv rfl) (by kernel_rfl) (by kernel_rfl) (by kernel_rfl) (by kernel_rfl) (ts 66 rfl (dT c18) (xv 9 [0] [0, 1, 2, 3, 4] rfl (EV.fa 4 rfl) (by kernel_rfl) (by kernel_rfl) (by kernel_rfl) (by kernel_rfl) (xv 10 [0] [0, 1, 2, 3, 4] rfl (EV.ld 0 none rfl rfl rfl) (by kernel_rfl) (by kernel_rfl) (by kernel_rfl) (by kernel_rfl) (xv 11 [0] [0, 1, 2, 3, 4] rfl (EV.ln rfl) (by kernel_rfl) (by kernel_rfl) (by kernel_rfl) (by kernel_rfl) (xv 12 [0] [0, 1, 2, 3, 4] rfl (EV.gtr rfl rfl) (by kernel_rfl) (by kernel_rfl) (by kernel_rfl) (by kernel_rfl) (xv 13 [0] [0, 1, 2, 3, 4] rfl (EV.mv rfl) (by kernel_rfl) (by kernel_rfl) (by kernel_rfl) (by kernel_rfl) (ts 71 rfl (dT c19) (xk 14 [0] [0, 1, 2, 3, 4] rfl (by kernel_rfl) (by kernel_rfl) (by kernel_rfl) (by kernel_rfl) (xk 15 [0] [0, 1, 2, 3, 4] rfl (by kernel_rfl) (by kernel_rfl) (by kernel_rfl) (by kernel_rfl) (xk 16 [0] [0, 1, 2, 3, 4] rfl (by kernel_rfl) (by kernel_rfl) (by kernel_rfl) (by kernel_rfl) (xk 17 [0] [0, 1, 2, 3, 4] rfl (by kernel_rfl) (by kernel_rfl) (by kernel_rfl) (by kernel_rfl) (xv 18 [0] [0, 1, 2, 3, 4] rfl (EV.pt rfl rfl rfl) (by kernel_rfl) (by kernel_rfl) (by kernel_rfl) (by kernel_rfl) (xv 19 [0] [0, 1, 2, 3, 4] rfl (EV.pt rfl rfl rfl) (by kernel_rfl) (by kernel_rfl) (by kernel_rfl) (by kernel_rfl) (xv 20 [0] [0, 1, 2, 3, 4] rfl (EV.mv rfl) (by kernel_rfl) (by kernel_rfl) (by kernel_rfl) (by kernel_rfl) (xv 21 [0] [0, 1, 2, 3, 4] rfl (EV.ld (v := .agg #[.slice Al0_0 l0_0.length cl0_0, .int .i64 x2_3_1, .slice Al0_2 l0_2.length cl0_2, .slice Al0_3 l0_3.length cl0_3, .slice Al0_4 l0_4.length cl0_4, .slice Al0_5 l0_5.length cl0_5, .int .i64 x2_3_6, .int .i64 x2_3_7, .int .i64 x2_3_8, .int .i64 x2_3_9]) 0 (some 10) rfl rfl rfl) (by kernel_rfl) (by kernel_rfl) (by kernel_rfl) (by kernel_rfl) (one1 22 rfl rfl ?_))))))))))))))))))))))))))
           revert H; refine bdI ?_; rintro t20 A20 H
           refine op_call (impl_SorterMemory.ok n0 l0_0 Al0_0 cl0_0 x2_3_1 l0_2 Al0_2 cl0_2 l0_3 Al0_3 cl0_3 l0_4 Al0_4 cl0_4 l0_5 Al0_5 cl0_5 x2_3_6 x2_3_7 x2_3_8 x2_3_9 _ A20) [⟨1, 0, 0, false⟩, ⟨0, 0, 0, false⟩, ⟨2, 0, 0, false⟩, ⟨3, 0, 0, false⟩, ⟨4, 0, 0, false⟩] 3 rfl rfl rfl rfl rfl ?_
           rintro _ _ _ ⟨rfl, rfl, rfl⟩
           refine xs [0] [0, 1, 2, 3, 4] rfl rfl rfl (xv 23 [0] [0, 1, 2, 3, 4] rfl (EV.leq rfl rfl) (by kernel_rfl) (by kernel_rfl) (by kernel_rfl) (by kernel_rfl) (xv 24 [0] [0, 1, 2, 3, 4] rfl (EV.pt rfl rfl rfl) (by kernel_rfl) (by kernel_rfl) (by kernel_rfl) (by kernel_rfl) (xv 25 [0] [0, 1, 2, 3, 4] rfl (EV.mv rfl) (by kernel_rfl) (by kernel_rfl) (by kernel_rfl) (by kernel_rfl) ?_)))
           revert H; refine ifsI ?_ ?_ <;> intro c21 H
           ·
            refine ts 83 rfl (dT c21) (xv 26 [0] [0, 1, 2, 3, 4] rfl (EV.mv rfl) (by kernel_rfl) (by kernel_rfl) (by kernel_rfl) (by kernel_rfl) (xv 27 [0] [0, 1, 2, 3, 4] rfl (EV.fa 4 rfl) (by kernel_rfl) (by kernel_rfl) (by kernel_rfl) (by kernel_rfl) (xv 28 [0] [0, 1, 2, 3, 4] rfl (EV.ld 0 none rfl rfl rfl) (by kernel_rfl) (by kernel_rfl) (by kernel_rfl) (by kernel_rfl) (xv 29 [0] [0, 1, 2, 3, 4] rfl (EV.fa 2 rfl) (by kernel_rfl) (by kernel_rfl) (by kernel_rfl) (by kernel_rfl) (xv 30 [0] [0, 1, 2, 3, 4] rfl (EV.ld 0 none rfl rfl rfl) (by kernel_rfl) (by kernel_rfl) (by kernel_rfl) (by kernel_rfl) (xv 31 [0] [0, 1, 2, 3, 4] rfl (EV.fa 3 rfl) (by kernel_rfl) (by kernel_rfl) (by kernel_rfl) (by kernel_rfl) (xv 32 [0] [0, 1, 2, 3, 4] rfl (EV.ld 0 none rfl rfl rfl) (by kernel_rfl) (by kernel_rfl) (by kernel_rfl) (by kernel_rfl) (xv 35 [0] [0, 1, 2, 3, 4] rfl (EV.fa 0 rfl) (by kernel_rfl) (by kernel_rfl) (by kernel_rfl) (by kernel_rfl) (xv 36 [0] [0, 1, 2, 3, 4] rfl (EV.ld 0 none rfl rfl rfl) (by kernel_rfl) (by kernel_rfl) (by kernel_rfl) (by kernel_rfl) (xv 37 [0] [0, 1, 2, 3, 4] rfl (EV.fa 1 rfl) (by kernel_rfl) (by kernel_rfl) (by kernel_rfl) (by kernel_rfl) (xv 38 [0] [0, 1, 2, 3, 4] rfl (EV.ld 0 none rfl rfl rfl) (by kernel_rfl) (by kernel_rfl) (by kernel_rfl) (by kernel_rfl) ?_)))))))))))
            revert H; refine ggI ?_; intro g22 H
            revert H; refine ggI ?_; intro g23 H
            refine cutp (l' := l0_0.take x2_3_1.toNat) 0 x2_3_1 1 rfl (Int.le_refl 0) g22 g23 rfl 0 dq (.inr rfl) rfl (xv 39 [0] [0, 1, 2, 3, 4] rfl (EV.ct 0 x2_3_1 1 rfl rfl rfl rfl (Int.le_refl 0) g22 g23 rfl rfl ctnh) (by kernel_rfl) (by kernel_rfl) (by kernel_rfl) (by kernel_rfl) (one1 33 rfl rfl (wkr [3, 6, 55, 56, 57, 58, 59, 60, 61, 62, 63, 64, 65, 66, 67, 68, 69, 70, 71, 72, 73, 74, 75, 76, 77, 78, 79, 80, 81, 82, 83, 84, 85, 86, 87, 88, 89, 90, 93, 94, 95, 96, 97] [0] [⟨0, 0, 0, false⟩, ⟨1, 0, 0, false⟩, ⟨2, 0, 0, false⟩, ⟨3, 0, 0, false⟩, ⟨4, 0, 0, false⟩, ⟨5, 0, 0, false⟩, ⟨6, 0, 0, false⟩] rfl rfl rfl rfl rfl (op_lit0 (s := 1) (by_ := 24) (.slice k72) ([t15, l0_4, l0_2, l0_3] : List (List S72)) [[(At15, ct15)], [(Al0_4, cl0_4)], [(Al0_2, cl0_2)], [(Al0_3, cl0_3)]] [5, 3, 0, 2] [.tmp 84, .tmp 86, .tmp 88, .tmp 90] rfl rfl rfl rfl rfl rfl rfl rfl rfl rfl rfl rfl fun A91_24 c91_24 => (nmE (en := [.sl 0 k72 Al0_2 cl0_2 l0_2 0 false, .sl 0 k72 Al0_0 cl0_0 l0_0 0 false, .sl 0 k72 Al0_3 cl0_3 l0_3 0 false, .sl 0 k72 Al0_4 cl0_4 l0_4 0 false, .sl 0 k57 Al0_5 cl0_5 l0_5 0 false, .sl 0 k72 At15 ct15 t15 0 false, .sl 0 k72 (cutA Al0_0 cl0_0 (0 : Int).toNat 3) (cl0_0 - (0 : Int).toNat) (l0_0.take x2_3_1.toNat) 0 false, .sl 0 (.slice k72) A91_24 c91_24 ([t15, l0_4, l0_2, l0_3] : List (List S72)) 0 false]) (by kernel_rfl) (xs [0] [0, 1, 2, 3, 4] rfl rfl rfl (one1 34 rfl rfl ?_)))))))
            revert H; refine bdI ?_; rintro t25 A25 H
            refine op_call (impl_together.ok n0 ([t15, l0_4, l0_2, l0_3] : List (List S72)) A91_24 c91_24 _ A25) [⟨7, 0, 0, false⟩] 1 rfl rfl rfl rfl rfl ?_
            rintro _ _ _ ⟨At25, ct25, rfl, rfl, rfl⟩
            refine xs [0] [0, 1, 2, 3, 4] rfl rfl rfl (one1 40 rfl rfl ?_)
            revert H; refine bdI ?_; rintro t26 A26 H
            refine op_call (impl_EqualBags.ok n0 t25 At25 ct25 (l0_0.take x2_3_1.toNat) (cutA Al0_0 cl0_0 (0 : Int).toNat 3) (cl0_0 - (0 : Int).toNat) _ A26) [⟨8, 0, 0, false⟩, ⟨6, 0, 0, false⟩] 3 rfl rfl rfl rfl rfl ?_
            rintro _ _ _ ⟨rfl, rfl, rfl⟩
            refine xs [0] [0, 1, 2, 3, 4] rfl rfl rfl (one1 41 rfl rfl (ov (EV.pt rfl rfl rfl) rfl (xs [0] [0, 1, 2, 3, 4] rfl rfl rfl (one1 42 rfl rfl (ov (EV.as rfl) rfl (xn rfl (xd (pr [2] [] [] rfl rfl rfl rfl ?_))))))))
            cases H
            exact rt Try.func22 rfl (.tmp rfl .nil) rfl [] [] rfl rfl rfl rfl rfl ⟨rfl, rfl, rfl⟩
           ·
            refine ts 83 rfl (dF c21) (xk 26 [0] [0, 1, 2, 3, 4] rfl (by kernel_rfl) (by kernel_rfl) (by kernel_rfl) (by kernel_rfl) (xk 27 [0] [0, 1, 2, 3, 4] rfl (by kernel_rfl) (by kernel_rfl) (by kernel_rfl) (by kernel_rfl) (xk 28 [0] [0, 1, 2, 3, 4] rfl (by kernel_rfl) (by kernel_rfl) (by kernel_rfl) (by kernel_rfl) (xk 29 [0] [0, 1, 2, 3, 4] rfl (by kernel_rfl) (by kernel_rfl) (by kernel_rfl) (by kernel_rfl) (xk 30 [0] [0, 1, 2, 3, 4] rfl (by kernel_rfl) (by kernel_rfl) (by kernel_rfl) (by kernel_rfl) (xk 31 [0] [0, 1, 2, 3, 4] rfl (by kernel_rfl) (by kernel_rfl) (by kernel_rfl) (by kernel_rfl) (xk 32 [0] [0, 1, 2, 3, 4] rfl (by kernel_rfl) (by kernel_rfl) (by kernel_rfl) (by kernel_rfl) (xk 35 [0] [0, 1, 2, 3, 4] rfl (by kernel_rfl) (by kernel_rfl) (by kernel_rfl) (by kernel_rfl) (xk 36 [0] [0, 1, 2, 3, 4] rfl (by kernel_rfl) (by kernel_rfl) (by kernel_rfl) (by kernel_rfl) (xk 37 [0] [0, 1, 2, 3, 4] rfl (by kernel_rfl) (by kernel_rfl) (by kernel_rfl) (by kernel_rfl) (xk 38 [0] [0, 1, 2, 3, 4] rfl (by kernel_rfl) (by kernel_rfl) (by kernel_rfl) (by kernel_rfl) (xk 39 [0] [0, 1, 2, 3, 4] rfl (by kernel_rfl) (by kernel_rfl) (by kernel_rfl) (by kernel_rfl) (xk 33 [0] [0, 1, 2, 3, 4] rfl (by kernel_rfl) (by kernel_rfl) (by kernel_rfl) (by kernel_rfl) (xk 34 [0] [0, 1, 2, 3, 4] rfl (by kernel_rfl) (by kernel_rfl) (by kernel_rfl) (by kernel_rfl) (xk 40 [0] [0, 1, 2, 3, 4] rfl (by kernel_rfl) (by kernel_rfl) (by kernel_rfl) (by kernel_rfl) (one1 41 rfl rfl (ov (EV.pf rfl rfl rfl) rfl (xs [0] [0, 1, 2, 3, 4] rfl rfl rfl (one1 42 rfl rfl (ov (EV.as rfl) rfl (xn rfl (xd (pr [2] [] [] rfl rfl rfl rfl ?_)))))))))))))))))))))))
            cases H
            exact rt Try.func22 rfl (.tmp rfl .nil) rfl [] [] rfl rfl rfl rfl rfl ⟨rfl, rfl, rfl⟩
          ·
           revert H; refine ifsI ?_ ?_ <;> intro c27 H
           ·
            refine dr [0] [0, 1, 2, 3, 4] [42] 43 rfl rfl rfl rfl (xv 0 [0] [0, 1, 2, 3, 4] rfl (EV.fa 6 rfl) (by kernel_rfl) (by kernel_rfl) (by kernel_rfl) (by kernel_rfl) (xv 1 [0] [0, 1, 2, 3, 4] rfl (EV.ld 0 none rfl rfl rfl) (by kernel_rfl) (by kernel_rfl) (by kernel_rfl) (by kernel_rfl) (xv 2 [0] [0, 1, 2, 3, 4] rfl (EV.eql rfl rfl) (by kernel_rfl) (by kernel_rfl) (by kernel_rfl) (by kernel_rfl) (xv 3 [0] [0, 1, 2, 3, 4] rfl (EV.mv rfl) (by kernel_rfl) (by kernel_rfl) (by kernel_rfl) (by kernel_rfl) (ts 61 rfl (dT c17) (xv 4 [0] [0, 1, 2, 3, 4] rfl (EV.fa 7 rfl) (by kernel_rfl) (by kernel_rfl) (by kernel_rfl) (by kernel_rfl) (xv 5 [0] [0, 1, 2, 3, 4] rfl (EV.ld 0 none rfl rfl rfl) (by kernel_rfl) (by kernel_rfl) (by kernel_rfl) (by kernel_rfl) (xv 6 [0] [0, 1, 2, 3, 4] rfl (EV.eql rfl rfl) (by kernel_rfl) (by kernel_rfl) (by kernel_rfl) (by kernel_rfl) (xv 7 [0] [0, 1, 2, 3, 4] rfl (EV.pt rfl rfl rfl) (by kernel_rfl) (by kernel_rfl) (by kernel_rfl) (by kernel_rfl) (xv 8 [0] [0, 1, 2, 3, 4] rfl (EV.mv rfl) (by kernel_rfl) (by kernel_rfl) (by kernel_rfl) (by kernel_rfl) (ts 66 rfl (dT c18) (xv 9 [0] [0, 1, 2, 3, 4] rfl (EV.fa 4 rfl) (by kernel_rfl) (by kernel_rfl) (by kernel_rfl) (by kernel_rfl) (xv 10 [0] [0, 1, 2, 3, 4] rfl (EV.ld 0 none rfl rfl rfl) (by kernel_rfl) (by kernel_rfl) (by kernel_rfl) (by kernel_rfl) (xv 11 [0] [0, 1, 2, 3, 4] rfl (EV.ln rfl) (by kernel_rfl) (by kernel_rfl) (by kernel_rfl) (by kernel_rfl) (xv 12 [0] [0, 1, 2, 3, 4] rfl (EV.gtr rfl rfl) (by kernel_rfl) (by kernel_rfl) (by kernel_rfl) (by kernel_rfl) (xv 13 [0] [0, 1, 2, 3, 4] rfl (EV.mv rfl) (by kernel_rfl) (by kernel_rfl) (by kernel_rfl) (by kernel_rfl) (ts 71 rfl (dF c19) (xv 14 [0] [0, 1, 2, 3, 4] rfl (EV.fa 3 rfl) (by kernel_rfl) (by kernel_rfl) (by kernel_rfl) (by kernel_rfl) (xv 15 [0] [0, 1, 2, 3, 4] rfl (EV.ld 0 none rfl rfl rfl) (by kernel_rfl) (by kernel_rfl) (by kernel_rfl) (by kernel_rfl) (xv 16 [0] [0, 1, 2, 3, 4] rfl (EV.ln rfl) (by kernel_rfl) (by kernel_rfl) (by kernel_rfl) (by kernel_rfl) (xv 17 [0] [0, 1, 2, 3, 4] rfl (EV.eql rfl rfl) (by kernel_rfl) (by kernel_rfl) (by kernel_rfl) (by kernel_rfl) (xv 18 [0] [0, 1, 2, 3, 4] rfl (EV.pf rfl rfl rfl) (by kernel_rfl) (by kernel_rfl) (by kernel_rfl) (by kernel_rfl) (xv 19 [0] [0, 1, 2, 3, 4] rfl (EV.pt rfl rfl rfl) (by kernel_rfl) (by kernel_rfl) (by kernel_rfl) (by kernel_rfl) (xv 20 [0] [0, 1, 2, 3, 4] rfl (EV.mv rfl) (by kernel_rfl) (by kernel_rfl) (by kernel_rfl) (by kernel_rfl) (ts 78 rfl (dT c27) (xv 21 [0] [0, 1, 2, 3, 4] rfl (EV.ld (v := .agg #[.slice Al0_0 l0_0.length cl0_0, .int .i64 x2_3_1, .slice Al0_2 l0_2.length cl0_2, .slice Al0_3 l0_3.length cl0_3, .slice Al0_4 l0_4.length cl0_4, .slice Al0_5 l0_5.length cl0_5, .int .i64 x2_3_6, .int .i64 x2_3_7, .int .i64 x2_3_8, .int .i64 x2_3_9]) 0 (some 10) rfl rfl rfl) (by kernel_rfl) (by kernel_rfl) (by kernel_rfl) (by kernel_rfl) (one1 22 rfl rfl ?_)))))))))))))))))))))))))))
            revert H; refine bdI ?_; rintro t28 A28 H
            refine op_call (impl_SorterMemory.ok n0 l0_0 Al0_0 cl0_0 x2_3_1 l0_2 Al0_2 cl0_2 l0_3 Al0_3 cl0_3 l0_4 Al0_4 cl0_4 l0_5 Al0_5 cl0_5 x2_3_6 x2_3_7 x2_3_8 x2_3_9 _ A28) [⟨1, 0, 0, false⟩, ⟨0, 0, 0, false⟩, ⟨2, 0, 0, false⟩, ⟨3, 0, 0, false⟩, ⟨4, 0, 0, false⟩] 3 rfl rfl rfl rfl rfl ?_
            rintro _ _ _ ⟨rfl, rfl, rfl⟩
            refine xs [0] [0, 1, 2, 3, 4] rfl rfl rfl (xv 23 [0] [0, 1, 2, 3, 4] rfl (EV.leq rfl rfl) (by kernel_rfl) (by kernel_rfl) (by kernel_rfl) (by kernel_rfl) (xv 24 [0] [0, 1, 2, 3, 4] rfl (EV.pt rfl rfl rfl) (by kernel_rfl) (by kernel_rfl) (by kernel_rfl) (by kernel_rfl) (xv 25 [0] [0, 1, 2, 3, 4] rfl (EV.mv rfl) (by kernel_rfl) (by kernel_rfl) (by kernel_rfl) (by kernel_rfl) ?_)))
            revert H; refine ifsI ?_ ?_ <;> intro c29 H
            ·
             refine ts 83 rfl (dT c29) (xv 26 [0] [0, 1, 2, 3, 4] rfl (EV.mv rfl) (by kernel_rfl) (by kernel_rfl) (by kernel_rfl) (by kernel_rfl) (xv 27 [0] [0, 1, 2, 3, 4] rfl (EV.fa 4 rfl) (by kernel_rfl) (by kernel_rfl) (by kernel_rfl) (by kernel_rfl) (xv 28 [0] [0, 1, 2, 3, 4] rfl (EV.ld 0 none rfl rfl rfl) (by kernel_rfl) (by kernel_rfl) (by kernel_rfl) (by kernel_rfl) (xv 29 [0] [0, 1, 2, 3, 4] rfl (EV.fa 2 rfl) (by kernel_rfl) (by kernel_rfl) (by kernel_rfl) (by kernel_rfl) (xv 30 [0] [0, 1, 2, 3, 4] rfl (EV.ld 0 none rfl rfl rfl) (by kernel_rfl) (by kernel_rfl) (by kernel_rfl) (by kernel_rfl) (xv 31 [0] [0, 1, 2, 3, 4] rfl (EV.fa 3 rfl) (by kernel_rfl) (by kernel_rfl) (by kernel_rfl) (by kernel_rfl) (xv 32 [0] [0, 1, 2, 3, 4] rfl (EV.ld 0 none rfl rfl rfl) (by kernel_rfl) (by kernel_rfl) (by kernel_rfl) (by kernel_rfl) (xv 35 [0] [0, 1, 2, 3, 4] rfl (EV.fa 0 rfl) (by kernel_rfl) (by kernel_rfl) (by kernel_rfl) (by kernel_rfl) (xv 36 [0] [0, 1, 2, 3, 4] rfl (EV.ld 0 none rfl rfl rfl) (by kernel_rfl) (by kernel_rfl) (by kernel_rfl) (by kernel_rfl) (xv 37 [0] [0, 1, 2, 3, 4] rfl (EV.fa 1 rfl) (by kernel_rfl) (by kernel_rfl) (by kernel_rfl) (by kernel_rfl) (xv 38 [0] [0, 1, 2, 3, 4] rfl (EV.ld 0 none rfl rfl rfl) (by kernel_rfl) (by kernel_rfl) (by kernel_rfl) (by kernel_rfl) ?_)))))))))))
             revert H; refine ggI ?_; intro g30 H
             revert H; refine ggI ?_; intro g31 H
             refine cutp (l' := l0_0.take x2_3_1.toNat) 0 x2_3_1 1 rfl (Int.le_refl 0) g30 g31 rfl 0 dq (.inr rfl) rfl (xv 39 [0] [0, 1, 2, 3, 4] rfl (EV.ct 0 x2_3_1 1 rfl rfl rfl rfl (Int.le_refl 0) g30 g31 rfl rfl ctnh) (by kernel_rfl) (by kernel_rfl) (by kernel_rfl) (by kernel_rfl) (one1 33 rfl rfl (wkr [3, 6, 55, 56, 57, 58, 59, 60, 61, 62, 63, 64, 65, 66, 67, 68, 69, 70, 71, 72, 73, 74, 75, 76, 77, 78, 79, 80, 81, 82, 83, 84, 85, 86, 87, 88, 89, 90, 93, 94, 95, 96, 97] [0] [⟨0, 0, 0, false⟩, ⟨1, 0, 0, false⟩, ⟨2, 0, 0, false⟩, ⟨3, 0, 0, false⟩, ⟨4, 0, 0, false⟩, ⟨5, 0, 0, false⟩, ⟨6, 0, 0, false⟩] rfl rfl rfl rfl rfl (op_lit0 (s := 1) (by_ := 24) (.slice k72) ([t15, l0_4, l0_2, l0_3] : List (List S72)) [[(At15, ct15)], [(Al0_4, cl0_4)], [(Al0_2, cl0_2)], [(Al0_3, cl0_3)]] [5, 3, 0, 2] [.tmp 84, .tmp 86, .tmp 88, .tmp 90] rfl rfl rfl rfl rfl rfl rfl rfl rfl rfl rfl rfl fun A91_32 c91_32 => (nmE (en := [.sl 0 k72 Al0_2 cl0_2 l0_2 0 false, .sl 0 k72 Al0_0 cl0_0 l0_0 0 false, .sl 0 k72 Al0_3 cl0_3 l0_3 0 false, .sl 0 k72 Al0_4 cl0_4 l0_4 0 false, .sl 0 k57 Al0_5 cl0_5 l0_5 0 false, .sl 0 k72 At15 ct15 t15 0 false, .sl 0 k72 (cutA Al0_0 cl0_0 (0 : Int).toNat 3) (cl0_0 - (0 : Int).toNat) (l0_0.take x2_3_1.toNat) 0 false, .sl 0 (.slice k72) A91_32 c91_32 ([t15, l0_4, l0_2, l0_3] : List (List S72)) 0 false]) (by kernel_rfl) (xs [0] [0, 1, 2, 3, 4] rfl rfl rfl (one1 34 rfl rfl ?_)))))))
             revert H; refine bdI ?_; rintro t33 A33 H
             refine op_call (impl_together.ok n0 ([t15, l0_4, l0_2, l0_3] : List (List S72)) A91_32 c91_32 _ A33) [⟨7, 0, 0, false⟩] 1 rfl rfl rfl rfl rfl ?_
             rintro _ _ _ ⟨At33, ct33, rfl, rfl, rfl⟩
             refine xs [0] [0, 1, 2, 3, 4] rfl rfl rfl (one1 40 rfl rfl ?_)
             revert H; refine bdI ?_; rintro t34 A34 H
             refine op_call (impl_EqualBags.ok n0 t33 At33 ct33 (l0_0.take x2_3_1.toNat) (cutA Al0_0 cl0_0 (0 : Int).toNat 3) (cl0_0 - (0 : Int).toNat) _ A34) [⟨8, 0, 0, false⟩, ⟨6, 0, 0, false⟩] 3 rfl rfl rfl rfl rfl ?_
             rintro _ _ _ ⟨rfl, rfl, rfl⟩
             refine xs [0] [0, 1, 2, 3, 4] rfl rfl rfl (one1 41 rfl rfl (ov (EV.pt rfl rfl rfl) rfl (xs [0] [0, 1, 2, 3, 4] rfl rfl rfl (one1 42 rfl rfl (ov (EV.as rfl) rfl (xn rfl (xd (pr [2] [] [] rfl rfl rfl rfl ?_))))))))
             cases H
             exact rt Try.func22 rfl (.tmp rfl .nil) rfl [] [] rfl rfl rfl rfl rfl ⟨rfl, rfl, rfl⟩
            ·
             refine ts 83 rfl (dF c29) (xk 26 [0] [0, 1, 2, 3, 4] rfl (by kernel_rfl) (by kernel_rfl) (by kernel_rfl) (by kernel_rfl) (xk 27 [0] [0, 1, 2, 3, 4] rfl (by kernel_rfl) (by kernel_rfl) (by kernel_rfl) (by kernel_rfl) (xk 28 [0] [0, 1, 2, 3, 4] rfl (by kernel_rfl) (by kernel_rfl) (by kernel_rfl) (by kernel_rfl) (xk 29 [0] [0, 1, 2, 3, 4] rfl (by kernel_rfl) (by kernel_rfl) (by kernel_rfl) (by kernel_rfl) (xk 30 [0] [0, 1, 2, 3, 4] rfl (by kernel_rfl) (by kernel_rfl) (by kernel_rfl) (by kernel_rfl) (xk 31 [0] [0, 1, 2, 3, 4] rfl (by kernel_rfl) (by kernel_rfl) (by kernel_rfl) (by kernel_rfl) (xk 32 [0] [0, 1, 2, 3, 4] rfl (by kernel_rfl) (by kernel_rfl) (by kernel_rfl) (by kernel_rfl) (xk 35 [0] [0, 1, 2, 3, 4] rfl (by kernel_rfl) (by kernel_rfl) (by kernel_rfl) (by kernel_rfl) (xk 36 [0] [0, 1, 2, 3, 4] rfl (by kernel_rfl) (by kernel_rfl) (by kernel_rfl) (by kernel_rfl) (xk 37 [0] [0, 1, 2, 3, 4] rfl (by kernel_rfl) (by kernel_rfl) (by kernel_rfl) (by kernel_rfl) (xk 38 [0] [0, 1, 2, 3, 4] rfl (by kernel_rfl) (by kernel_rfl) (by kernel_rfl) (by kernel_rfl) (xk 39 [0] [0, 1, 2, 3, 4] rfl (by kernel_rfl) (by kernel_rfl) (by kernel_rfl) (by kernel_rfl) (xk 33 [0] [0, 1, 2, 3, 4] rfl (by kernel_rfl) (by kernel_rfl) (by kernel_rfl) (by kernel_rfl) (xk 34 [0] [0, 1, 2, 3, 4] rfl (by kernel_rfl) (by kernel_rfl) (by kernel_rfl) (by kernel_rfl) (xk 40 [0] [0, 1, 2, 3, 4] rfl (by kernel_rfl) (by kernel_rfl) (by kernel_rfl) (by kernel_rfl) (one1 41 rfl rfl (ov (EV.pf rfl rfl rfl) rfl (xs [0] [0, 1, 2, 3, 4] rfl rfl rfl (one1 42 rfl rfl (ov (EV.as rfl) rfl (xn rfl (xd (pr [2] [] [] rfl rfl rfl rfl ?_)))))))))))))))))))))))
             cases H
             exact rt Try.func22 rfl (.tmp rfl .nil) rfl [] [] rfl rfl rfl rfl rfl ⟨rfl, rfl, rfl⟩
           ·
            refine dr [0] [0, 1, 2, 3, 4, 5] [] 43 rfl rfl rfl rfl (xv 0 [0] [0, 1, 2, 3, 4, 5] rfl (EV.fa 6 rfl) (by kernel_rfl) (by kernel_rfl) (by kernel_rfl) (by kernel_rfl) (xv 1 [0] [0, 1, 2, 3, 4, 5] rfl (EV.ld 0 none rfl rfl rfl) (by kernel_rfl) (by kernel_rfl) (by kernel_rfl) (by kernel_rfl) (xv 2 [0] [0, 1, 2, 3, 4, 5] rfl (EV.eql rfl rfl) (by kernel_rfl) (by kernel_rfl) (by kernel_rfl) (by kernel_rfl) (xv 3 [0] [0, 1, 2, 3, 4, 5] rfl (EV.mv rfl) (by kernel_rfl) (by kernel_rfl) (by kernel_rfl) (by kernel_rfl) (ts 61 rfl (dT c17) (xv 4 [0] [0, 1, 2, 3, 4, 5] rfl (EV.fa 7 rfl) (by kernel_rfl) (by kernel_rfl) (by kernel_rfl) (by kernel_rfl) (xv 5 [0] [0, 1, 2, 3, 4, 5] rfl (EV.ld 0 none rfl rfl rfl) (by kernel_rfl) (by kernel_rfl) (by kernel_rfl) (by kernel_rfl) (xv 6 [0] [0, 1, 2, 3, 4, 5] rfl (EV.eql rfl rfl) (by kernel_rfl) (by kernel_rfl) (by kernel_rfl) (by kernel_rfl) (xv 7 [0] [0, 1, 2, 3, 4, 5] rfl (EV.pt rfl rfl rfl) (by kernel_rfl) (by kernel_rfl) (by kernel_rfl) (by kernel_rfl) (xv 8 [0] [0, 1, 2, 3, 4, 5] rfl (EV.mv rfl) (by kernel_rfl) (by kernel_rfl) (by kernel_rfl) (by kernel_rfl) (ts 66 rfl (dT c18) (xv 9 [0] [0, 1, 2, 3, 4, 5] rfl (EV.fa 4 rfl) (by kernel_rfl) (by kernel_rfl) (by kernel_rfl) (by kernel_rfl) (xv 10 [0] [0, 1, 2, 3, 4, 5] rfl (EV.ld 0 none rfl rfl rfl) (by kernel_rfl) (by kernel_rfl) (by kernel_rfl) (by kernel_rfl) (xv 11 [0] [0, 1, 2, 3, 4, 5] rfl (EV.ln rfl) (by kernel_rfl) (by kernel_rfl) (by kernel_rfl) (by kernel_rfl) (xv 12 [0] [0, 1, 2, 3, 4, 5] rfl (EV.gtr rfl rfl) (by kernel_rfl) (by kernel_rfl) (by kernel_rfl) (by kernel_rfl) (xv 13 [0] [0, 1, 2, 3, 4, 5] rfl (EV.mv rfl) (by kernel_rfl) (by kernel_rfl) (by kernel_rfl) (by kernel_rfl) (ts 71 rfl (dF c19) (xv 14 [0] [0, 1, 2, 3, 4, 5] rfl (EV.fa 3 rfl) (by kernel_rfl) (by kernel_rfl) (by kernel_rfl) (by kernel_rfl) (xv 15 [0] [0, 1, 2, 3, 4, 5] rfl (EV.ld 0 none rfl rfl rfl) (by kernel_rfl) (by kernel_rfl) (by kernel_rfl) (by kernel_rfl) (xv 16 [0] [0, 1, 2, 3, 4, 5] rfl (EV.ln rfl) (by kernel_rfl) (by kernel_rfl) (by kernel_rfl) (by kernel_rfl) (xv 17 [0] [0, 1, 2, 3, 4, 5] rfl (EV.eql rfl rfl) (by kernel_rfl) (by kernel_rfl) (by kernel_rfl) (by kernel_rfl) (xv 18 [0] [0, 1, 2, 3, 4, 5] rfl (EV.pf rfl rfl rfl) (by kernel_rfl) (by kernel_rfl) (by kernel_rfl) (by kernel_rfl) (xv 19 [0] [0, 1, 2, 3, 4, 5] rfl (EV.pt rfl rfl rfl) (by kernel_rfl) (by kernel_rfl) (by kernel_rfl) (by kernel_rfl) (xv 20 [0] [0, 1, 2, 3, 4, 5] rfl (EV.mv rfl) (by kernel_rfl) (by kernel_rfl) (by kernel_rfl) (by kernel_rfl) (ts 78 rfl (dF c27) (xk 21 [0] [0, 1, 2, 3, 4, 5] rfl (by kernel_rfl) (by kernel_rfl) (by kernel_rfl) (by kernel_rfl) (xk 22 [0] [0, 1, 2, 3, 4, 5] rfl (by kernel_rfl) (by kernel_rfl) (by kernel_rfl) (by kernel_rfl) (xk 23 [0] [0, 1, 2, 3, 4, 5] rfl (by kernel_rfl) (by kernel_rfl) (by kernel_rfl) (by kernel_rfl) (xv 24 [0] [0, 1, 2, 3, 4, 5] rfl (EV.pf rfl rfl rfl) (by kernel_rfl) (by kernel_rfl) (by kernel_rfl) (by kernel_rfl) ?_)))))))))))))))))))))))))))))
            refine xv 25 [0] [0, 1, 2, 3, 4, 5] rfl (EV.mv rfl) (by kernel_rfl) (by kernel_rfl) (by kernel_rfl) (by kernel_rfl) (xk 26 [0] [0, 1, 2, 3, 4, 5] rfl (by kernel_rfl) (by kernel_rfl) (by kernel_rfl) (by kernel_rfl) (xk 27 [0] [0, 1, 2, 3, 4, 5] rfl (by kernel_rfl) (by kernel_rfl) (by kernel_rfl) (by kernel_rfl) (xk 28 [0] [0, 1, 2, 3, 4, 5] rfl (by kernel_rfl) (by kernel_rfl) (by kernel_rfl) (by kernel_rfl) (xk 29 [0] [0, 1, 2, 3, 4, 5] rfl (by kernel_rfl) (by kernel_rfl) (by kernel_rfl) (by kernel_rfl) (xk 30 [0] [0, 1, 2, 3, 4, 5] rfl (by kernel_rfl) (by kernel_rfl) (by kernel_rfl) (by kernel_rfl) (xk 31 [0] [0, 1, 2, 3, 4, 5] rfl (by kernel_rfl) (by kernel_rfl) (by kernel_rfl) (by kernel_rfl) (xk 32 [0] [0, 1, 2, 3, 4, 5] rfl (by kernel_rfl) (by kernel_rfl) (by kernel_rfl) (by kernel_rfl) (xk 35 [0] [0, 1, 2, 3, 4, 5] rfl (by kernel_rfl) (by kernel_rfl) (by kernel_rfl) (by kernel_rfl) (xk 36 [0] [0, 1, 2, 3, 4, 5] rfl (by kernel_rfl) (by kernel_rfl) (by kernel_rfl) (by kernel_rfl) (xk 37 [0] [0, 1, 2, 3, 4, 5] rfl (by kernel_rfl) (by kernel_rfl) (by kernel_rfl) (by kernel_rfl) (xk 38 [0] [0, 1, 2, 3, 4, 5] rfl (by kernel_rfl) (by kernel_rfl) (by kernel_rfl) (by kernel_rfl) (xk 39 [0] [0, 1, 2, 3, 4, 5] rfl (by kernel_rfl) (by kernel_rfl) (by kernel_rfl) (by kernel_rfl) (xk 33 [0] [0, 1, 2, 3, 4, 5] rfl (by kernel_rfl) (by kernel_rfl) (by kernel_rfl) (by kernel_rfl) (xk 34 [0] [0, 1, 2, 3, 4, 5] rfl (by kernel_rfl) (by kernel_rfl) (by kernel_rfl) (by kernel_rfl) (xk 40 [0] [0, 1, 2, 3, 4, 5] rfl (by kernel_rfl) (by kernel_rfl) (by kernel_rfl) (by kernel_rfl) (xv 41 [0] [0, 1, 2, 3, 4, 5] rfl (EV.pf rfl rfl rfl) (by kernel_rfl) (by kernel_rfl) (by kernel_rfl) (by kernel_rfl) (xv 42 [0] [0, 1, 2, 3, 4, 5] rfl (EV.as rfl) (by kernel_rfl) (by kernel_rfl) (by kernel_rfl) (by kernel_rfl) (xd (pr [2] [] [] rfl rfl rfl rfl ?_)))))))))))))))))))
            cases H
            exact rt Try.func22 rfl (.tmp rfl .nil) rfl [] [] rfl rfl rfl rfl rfl ⟨rfl, rfl, rfl⟩
         ·
          refine dr [0] [0, 1, 2, 3, 4, 5] [] 43 rfl rfl rfl rfl (xv 0 [0] [0, 1, 2, 3, 4, 5] rfl (EV.fa 6 rfl) (by kernel_rfl) (by kernel_rfl) (by kernel_rfl) (by kernel_rfl) (xv 1 [0] [0, 1, 2, 3, 4, 5] rfl (EV.ld 0 none rfl rfl rfl) (by kernel_rfl) (by kernel_rfl) (by kernel_rfl) (by kernel_rfl) (xv 2 [0] [0, 1, 2, 3, 4, 5] rfl (EV.eql rfl rfl) (by kernel_rfl) (by kernel_rfl) (by kernel_rfl) (by kernel_rfl) (xv 3 [0] [0, 1, 2, 3, 4, 5] rfl (EV.mv rfl) (by kernel_rfl) (by kernel_rfl) (by kernel_rfl) (by kernel_rfl) (ts 61 rfl (dT c17) (xv 4 [0] [0, 1, 2, 3, 4, 5] rfl (EV.fa 7 rfl) (by kernel_rfl) (by kernel_rfl) (by kernel_rfl) (by kernel_rfl) (xv 5 [0] [0, 1, 2, 3, 4, 5] rfl (EV.ld 0 none rfl rfl rfl) (by kernel_rfl) (by kernel_rfl) (by kernel_rfl) (by kernel_rfl) (xv 6 [0] [0, 1, 2, 3, 4, 5] rfl (EV.eql rfl rfl) (by kernel_rfl) (by kernel_rfl) (by kernel_rfl) (by kernel_rfl) (xv 7 [0] [0, 1, 2, 3, 4, 5] rfl (EV.pt rfl rfl rfl) (by kernel_rfl) (by kernel_rfl) (by kernel_rfl) (by kernel_rfl) (xv 8 [0] [0, 1, 2, 3, 4, 5] rfl (EV.mv rfl) (by kernel_rfl) (by kernel_rfl) (by kernel_rfl) (by kernel_rfl) (ts 66 rfl (dF c18) (xk 9 [0] [0, 1, 2, 3, 4, 5] rfl (by kernel_rfl) (by kernel_rfl) (by kernel_rfl) (by kernel_rfl) (xk 10 [0] [0, 1, 2, 3, 4, 5] rfl (by kernel_rfl) (by kernel_rfl) (by kernel_rfl) (by kernel_rfl) (xk 11 [0] [0, 1, 2, 3, 4, 5] rfl (by kernel_rfl) (by kernel_rfl) (by kernel_rfl) (by kernel_rfl) (xk 12 [0] [0, 1, 2, 3, 4, 5] rfl (by kernel_rfl) (by kernel_rfl) (by kernel_rfl) (by kernel_rfl) (xk 13 [0] [0, 1, 2, 3, 4, 5] rfl (by kernel_rfl) (by kernel_rfl) (by kernel_rfl) (by kernel_rfl) (xk 14 [0] [0, 1, 2, 3, 4, 5] rfl (by kernel_rfl) (by kernel_rfl) (by kernel_rfl) (by kernel_rfl) (xk 15 [0] [0, 1, 2, 3, 4, 5] rfl (by kernel_rfl) (by kernel_rfl) (by kernel_rfl) (by kernel_rfl) (xk 16 [0] [0, 1, 2, 3, 4, 5] rfl (by kernel_rfl) (by kernel_rfl) (by kernel_rfl) (by kernel_rfl) (xk 17 [0] [0, 1, 2, 3, 4, 5] rfl (by kernel_rfl) (by kernel_rfl) (by kernel_rfl) (by kernel_rfl) (xk 18 [0] [0, 1, 2, 3, 4, 5] rfl (by kernel_rfl) (by kernel_rfl) (by kernel_rfl) (by kernel_rfl) (xv 19 [0] [0, 1, 2, 3, 4, 5] rfl (EV.pf rfl rfl rfl) (by kernel_rfl) (by kernel_rfl) (by kernel_rfl) (by kernel_rfl) (xv 20 [0] [0, 1, 2, 3, 4, 5] rfl (EV.mv rfl) (by kernel_rfl) (by kernel_rfl) (by kernel_rfl) (by kernel_rfl) (xk 21 [0] [0, 1, 2, 3, 4, 5] rfl (by kernel_rfl) (by kernel_rfl) (by kernel_rfl) (by kernel_rfl) (xk 22 [0] [0, 1, 2, 3, 4, 5] rfl (by kernel_rfl) (by kernel_rfl) (by kernel_rfl) (by kernel_rfl) (xk 23 [0] [0, 1, 2, 3, 4, 5] rfl (by kernel_rfl) (by kernel_rfl) (by kernel_rfl) (by kernel_rfl) (xv 24 [0] [0, 1, 2, 3, 4, 5] rfl (EV.pf rfl rfl rfl) (by kernel_rfl) (by kernel_rfl) (by kernel_rfl) (by kernel_rfl) (xv 25 [0] [0, 1, 2, 3, 4, 5] rfl (EV.mv rfl) (by kernel_rfl) (by kernel_rfl) (by kernel_rfl) (by kernel_rfl) (xk 26 [0] [0, 1, 2, 3, 4, 5] rfl (by kernel_rfl) (by kernel_rfl) (by kernel_rfl) (by kernel_rfl) ?_)))))))))))))))))))))))))))))
          refine xk 27 [0] [0, 1, 2, 3, 4, 5] rfl (by kernel_rfl) (by kernel_rfl) (by kernel_rfl) (by kernel_rfl) (xk 28 [0] [0, 1, 2, 3, 4, 5] rfl (by kernel_rfl) (by kernel_rfl) (by kernel_rfl) (by kernel_rfl) (xk 29 [0] [0, 1, 2, 3, 4, 5] rfl (by kernel_rfl) (by kernel_rfl) (by kernel_rfl) (by kernel_rfl) (xk 30 [0] [0, 1, 2, 3, 4, 5] rfl (by kernel_rfl) (by kernel_rfl) (by kernel_rfl) (by kernel_rfl) (xk 31 [0] [0, 1, 2, 3, 4, 5] rfl (by kernel_rfl) (by kernel_rfl) (by kernel_rfl) (by kernel_rfl) (xk 32 [0] [0, 1, 2, 3, 4, 5] rfl (by kernel_rfl) (by kernel_rfl) (by kernel_rfl) (by kernel_rfl) (xk 35 [0] [0, 1, 2, 3, 4, 5] rfl (by kernel_rfl) (by kernel_rfl) (by kernel_rfl) (by kernel_rfl) (xk 36 [0] [0, 1, 2, 3, 4, 5] rfl (by kernel_rfl) (by kernel_rfl) (by kernel_rfl) (by kernel_rfl) (xk 37 [0] [0, 1, 2, 3, 4, 5] rfl (by kernel_rfl) (by kernel_rfl) (by kernel_rfl) (by kernel_rfl) (xk 38 [0] [0, 1, 2, 3, 4, 5] rfl (by kernel_rfl) (by kernel_rfl) (by kernel_rfl) (by kernel_rfl) (xk 39 [0] [0, 1, 2, 3, 4, 5] rfl (by kernel_rfl) (by kernel_rfl) (by kernel_rfl) (by kernel_rfl) (xk 33 [0] [0, 1, 2, 3, 4, 5] rfl (by kernel_rfl) (by kernel_rfl) (by kernel_rfl) (by kernel_rfl) (xk 34 [0] [0, 1, 2, 3, 4, 5] rfl (by kernel_rfl) (by kernel_rfl) (by kernel_rfl) (by kernel_rfl) (xk 40 [0] [0, 1, 2, 3, 4, 5] rfl (by kernel_rfl) (by kernel_rfl) (by kernel_rfl) (by kernel_rfl) (xv 41 [0] [0, 1, 2, 3, 4, 5] rfl (EV.pf rfl rfl rfl) (by kernel_rfl) (by kernel_rfl) (by kernel_rfl) (by kernel_rfl) (xv 42 [0] [0, 1, 2, 3, 4, 5] rfl (EV.as rfl) (by kernel_rfl) (by kernel_rfl) (by kernel_rfl) (by kernel_rfl) (xd (pr [2] [] [] rfl rfl rfl rfl ?_)))))))))))))))))
          cases H
          exact rt Try.func22 rfl (.tmp rfl .nil) rfl [] [] rfl rfl rfl rfl rfl ⟨rfl, rfl, rfl⟩
        ·
         refine dr [0] [0, 1, 2, 3, 4, 5] [] 43 rfl rfl rfl rfl (xv 0 [0] [0, 1, 2, 3, 4, 5] rfl (EV.fa 6 rfl) (by kernel_rfl) (by kernel_rfl) (by kernel_rfl) (by kernel_rfl) (xv 1 [0] [0, 1, 2, 3, 4, 5] rfl (EV.ld 0 none rfl rfl rfl) (by kernel_rfl) (by kernel_rfl) (by kernel_rfl) (by kernel_rfl) (xv 2 [0] [0, 1, 2, 3, 4, 5] rfl (EV.eql rfl rfl) (by kernel_rfl) (by kernel_rfl) (by kernel_rfl) (by kernel_rfl) (xv 3 [0] [0, 1, 2, 3, 4, 5] rfl (EV.mv rfl) (by kernel_rfl) (by kernel_rfl) (by kernel_rfl) (by kernel_rfl) (ts 61 rfl (dF c17) (xk 4 [0] [0, 1, 2, 3, 4, 5] rfl (by kernel_rfl) (by kernel_rfl) (by kernel_rfl) (by kernel_rfl) (xk 5 [0] [0, 1, 2, 3, 4, 5] rfl (by kernel_rfl) (by kernel_rfl) (by kernel_rfl) (by kernel_rfl) (xk 6 [0] [0, 1, 2, 3, 4, 5] rfl (by kernel_rfl) (by kernel_rfl) (by kernel_rfl) (by kernel_rfl) (xv 7 [0] [0, 1, 2, 3, 4, 5] rfl (EV.pf rfl rfl rfl) (by kernel_rfl) (by kernel_rfl) (by kernel_rfl) (by kernel_rfl) (xv 8 [0] [0, 1, 2, 3, 4, 5] rfl (EV.mv rfl) (by kernel_rfl) (by kernel_rfl) (by kernel_rfl) (by kernel_rfl) (xk 9 [0] [0, 1, 2, 3, 4, 5] rfl (by kernel_rfl) (by kernel_rfl) (by kernel_rfl) (by kernel_rfl) (xk 10 [0] [0, 1, 2, 3, 4, 5] rfl (by kernel_rfl) (by kernel_rfl) (by kernel_rfl) (by kernel_rfl) (xk 11 [0] [0, 1, 2, 3, 4, 5] rfl (by kernel_rfl) (by kernel_rfl) (by kernel_rfl) (by kernel_rfl) (xk 12 [0] [0, 1, 2, 3, 4, 5] rfl (by kernel_rfl) (by kernel_rfl) (by kernel_rfl) (by kernel_rfl) (xk 13 [0] [0, 1, 2, 3, 4, 5] rfl (by kernel_rfl) (by kernel_rfl) (by kernel_rfl) (by kernel_rfl) (xk 14 [0] [0, 1, 2, 3, 4, 5] rfl (by kernel_rfl) (by kernel_rfl) (by kernel_rfl) (by kernel_rfl) (xk 15 [0] [0, 1, 2, 3, 4, 5] rfl (by kernel_rfl) (by kernel_rfl) (by kernel_rfl) (by kernel_rfl) (xk 16 [0] [0, 1, 2, 3, 4, 5] rfl (by kernel_rfl) (by kernel_rfl) (by kernel_rfl) (by kernel_rfl) (xk 17 [0] [0, 1, 2, 3, 4, 5] rfl (by kernel_rfl) (by kernel_rfl) (by kernel_rfl) (by kernel_rfl) (xk 18 [0] [0, 1, 2, 3, 4, 5] rfl (by kernel_rfl) (by kernel_rfl) (by kernel_rfl) (by kernel_rfl) (xv 19 [0] [0, 1, 2, 3, 4, 5] rfl (EV.pf rfl rfl rfl) (by kernel_rfl) (by kernel_rfl) (by kernel_rfl) (by kernel_rfl) (xv 20 [0] [0, 1, 2, 3, 4, 5] rfl (EV.mv rfl) (by kernel_rfl) (by kernel_rfl) (by kernel_rfl) (by kernel_rfl) (xk 21 [0] [0, 1, 2, 3, 4, 5] rfl (by kernel_rfl) (by kernel_rfl) (by kernel_rfl) (by kernel_rfl) (xk 22 [0] [0, 1, 2, 3, 4, 5] rfl (by kernel_rfl) (by kernel_rfl) (by kernel_rfl) (by kernel_rfl) (xk 23 [0] [0, 1, 2, 3, 4, 5] rfl (by kernel_rfl) (by kernel_rfl) (by kernel_rfl) (by kernel_rfl) (xv 24 [0] [0, 1, 2, 3, 4, 5] rfl (EV.pf rfl rfl rfl) (by kernel_rfl) (by kernel_rfl) (by kernel_rfl) (by kernel_rfl) (xv 25 [0] [0, 1, 2, 3, 4, 5] rfl (EV.mv rfl) (by kernel_rfl) (by kernel_rfl) (by kernel_rfl) (by kernel_rfl) (xk 26 [0] [0, 1, 2, 3, 4, 5] rfl (by kernel_rfl) (by kernel_rfl) (by kernel_rfl) (by kernel_rfl) (xk 27 [0] [0, 1, 2, 3, 4, 5] rfl (by kernel_rfl) (by kernel_rfl) (by kernel_rfl) (by kernel_rfl) ?_)))))))))))))))))))))))))))))
         refine xk 28 [0] [0, 1, 2, 3, 4, 5] rfl (by kernel_rfl) (by kernel_rfl) (by kernel_rfl) (by kernel_rfl) (xk 29 [0] [0, 1, 2, 3, 4, 5] rfl (by kernel_rfl) (by kernel_rfl) (by kernel_rfl) (by kernel_rfl) (xk 30 [0] [0, 1, 2, 3, 4, 5] rfl (by kernel_rfl) (by kernel_rfl) (by kernel_rfl) (by kernel_rfl) (xk 31 [0] [0, 1, 2, 3, 4, 5] rfl (by kernel_rfl) (by kernel_rfl) (by kernel_rfl) (by kernel_rfl) (xk 32 [0] [0, 1, 2, 3, 4, 5] rfl (by kernel_rfl) (by kernel_rfl) (by kernel_rfl) (by kernel_rfl) (xk 35 [0] [0, 1, 2, 3, 4, 5] rfl (by kernel_rfl) (by kernel_rfl) (by kernel_rfl) (by kernel_rfl) (xk 36 [0] [0, 1, 2, 3, 4, 5] rfl (by kernel_rfl) (by kernel_rfl) (by kernel_rfl) (by kernel_rfl) (xk 37 [0] [0, 1, 2, 3, 4, 5] rfl (by kernel_rfl) (by kernel_rfl) (by kernel_rfl) (by kernel_rfl) (xk 38 [0] [0, 1, 2, 3, 4, 5] rfl (by kernel_rfl) (by kernel_rfl) (by kernel_rfl) (by kernel_rfl) (xk 39 [0] [0, 1, 2, 3, 4, 5] rfl (by kernel_rfl) (by kernel_rfl) (by kernel_rfl) (by kernel_rfl) (xk 33 [0] [0, 1, 2, 3, 4, 5] rfl (by kernel_rfl) (by kernel_rfl) (by kernel_rfl) (by kernel_rfl) (xk 34 [0] [0, 1, 2, 3, 4, 5] rfl (by kernel_rfl) (by kernel_rfl) (by kernel_rfl) (by kernel_rfl) (xk 40 [0] [0, 1, 2, 3, 4, 5] rfl (by kernel_rfl) (by kernel_rfl) (by kernel_rfl) (by kernel_rfl) (xv 41 [0] [0, 1, 2, 3, 4, 5] rfl (EV.pf rfl rfl rfl) (by kernel_rfl) (by kernel_rfl) (by kernel_rfl) (by kernel_rfl) (xv 42 [0] [0, 1, 2, 3, 4, 5] rfl (EV.as rfl) (by kernel_rfl) (by kernel_rfl) (by kernel_rfl) (by kernel_rfl) (xd (pr [2] [] [] rfl rfl rfl rfl ?_))))))))))))))))
         cases H
         exact rt Try.func22 rfl (.tmp rfl .nil) rfl [] [] rfl rfl rfl rfl rfl ⟨rfl, rfl, rfl⟩
       ·
        refine gf rfl (dF c16) (gk (gs (gs (rg (sv (EV.fa 1 rfl) rfl (sv (EV.ld 0 none rfl rfl rfl) rfl (sv (EV.fa 0 rfl) rfl (sv (EV.ld 0 none rfl rfl rfl) rfl (sv (EV.ln rfl) rfl (sv (EV.neq rfl rfl) rfl (sv (EV.mv rfl) rfl ?_)))))))))))
        revert H; refine ifsI ?_ ?_ <;> intro c35 H
        ·
         refine ts 106 rfl (nF c35) (sv (EV.fa 2 rfl) rfl (sv (EV.ld 0 none rfl rfl rfl) rfl (sv (EV.ln rfl) rfl (sv (EV.gtr rfl rfl) rfl (sv (EV.pf rfl rfl rfl) rfl (sv (EV.mv rfl) rfl ?_))))))
         revert H; refine ifsI ?_ ?_ <;> intro c36 H
         ·
          refine ts 112 rfl (dT c36) (sk rfl (sk rfl (sk rfl (sk rfl (sv (EV.pt rfl rfl rfl) rfl (sv (EV.mv rfl) rfl (sk rfl (sk rfl (sk rfl (sk rfl (sk rfl (sv (EV.pt rfl rfl rfl) rfl (re (pr [3, 124] [0] [0, 1, 2, 3, 4] rfl rfl rfl rfl (gt rfl rfl (gs (rg (sv (EV.as rfl) rfl (re ?_)))))))))))))))))))
          cases H
          exact rt Try.func22 rfl (.tmp rfl .nil) rfl [] [] rfl rfl rfl rfl rfl ⟨rfl, rfl, rfl⟩
         ·
          refine ts 112 rfl (dF c36) (sv (EV.fa 3 rfl) rfl (sv (EV.ld 0 none rfl rfl rfl) rfl (sv (EV.ln rfl) rfl (sv (EV.gtr rfl rfl) rfl (sv (EV.pf rfl rfl rfl) rfl (sv (EV.mv rfl) rfl ?_))))))
          revert H; refine ifsI ?_ ?_ <;> intro c37 H
          ·
           refine ts 118 rfl (dT c37) (sk rfl (sk rfl (sk rfl (sk rfl (sk rfl (sv (EV.pt rfl rfl rfl) rfl (re (pr [3, 124] [0] [0, 1, 2, 3, 4] rfl rfl rfl rfl (gt rfl rfl (gs (rg (sv (EV.as rfl) rfl (re ?_)))))))))))))
           cases H
           exact rt Try.func22 rfl (.tmp rfl .nil) rfl [] [] rfl rfl rfl rfl rfl ⟨rfl, rfl, rfl⟩
          ·
           refine ts 118 rfl (dF c37) (sv (EV.mv rfl) rfl (sv (EV.fa 0 rfl) rfl (sv (EV.ld 0 none rfl rfl rfl) rfl ?_)))
           revert H; refine bdI ?_; rintro t38 A38 H
           refine so rfl (op_call (impl_EqualBags.ok n0 t15 At15 ct15 l0_0 Al0_0 cl0_0 _ A38) [⟨5, 0, 0, false⟩, ⟨1, 0, 0, false⟩] 3 rfl rfl rfl rfl rfl ?_)
           rintro _ _ _ ⟨rfl, rfl, rfl⟩
           refine sv (EV.nt rfl) rfl (sv (EV.pf rfl rfl rfl) rfl (re (pr [3, 124] [0] [0, 1, 2, 3, 4] rfl rfl rfl rfl ?_)))
           revert H; refine ifsI ?_ ?_ <;> intro c39 H
           ·
            subst c39
            refine gf rfl rfl (gk (gs (gs (rg (sv (EV.fa 8 rfl) rfl (sv (EV.ld 0 none rfl rfl rfl) rfl (re (gb (gs (rg (sv (EV.eql rfl rfl) rfl (sv (EV.as rfl) rfl (re ?_)))))))))))))
            revert H; refine ifsI ?_ ?_ <;> intro c40 H
            ·
             refine gt rfl (dT c40) (gs (gs (rg (sv (EV.fa 5 rfl) rfl (sv (EV.ld 0 none rfl rfl rfl) rfl (sv (EV.ln rfl) rfl (sv (EV.lss rfl rfl) rfl (re (pr [3, 132] [0] [0, 1, 2, 3, 4] rfl rfl rfl rfl ?_)))))))))
             revert H; refine ifsI ?_ ?_ <;> intro c41 H
             ·
              refine gt rfl (dT c41) (gs (rg (sv (EV.as rfl) rfl (re ?_))))
              cases H
              exact rt Try.func22 rfl (.tmp rfl .nil) rfl [] [] rfl rfl rfl rfl rfl ⟨rfl, rfl, rfl⟩
             ·
              refine gf rfl (dF c41) (gk (gs ?_))
              revert H; refine ggI ?_; intro g42 H
              refine opn (i := 0) 4 z57 rfl dq g42 fun A_43 c_43 => ?_
              revert H; refine ggI ?_; intro g44 H
              refine opn (i := 1) 4 z57 rfl dq g44 fun A_45 c_45 => (dr [0] [0, 1, 2, 3, 4, 5, 6, 7, 8] [] 12 rfl rfl rfl rfl (xv 0 [0] [0, 1, 2, 3, 4, 5, 6, 7, 8] rfl (EV.fa 5 rfl) rfl rfl rfl rfl (xv 1 [0] [0, 1, 2, 3, 4, 5, 6, 7, 8] rfl (EV.ld 0 none rfl rfl rfl) rfl rfl rfl rfl (xv 2 [0] [0, 1, 2, 3, 4, 5, 6, 7, 8] rfl (EV.ix 4 rfl rfl rfl dq g42 rfl) rfl rfl rfl rfl (xv 3 [0] [0, 1, 2, 3, 4, 5, 6, 7, 8] rfl (EV.fa 0 rfl) rfl rfl rfl rfl (xv 4 [0] [0, 1, 2, 3, 4, 5, 6, 7, 8] rfl (EV.lc (v := .slice A_43 ((rd_T57 l0_5 0).f0).length c_43) 0 none 5 rfl rfl rfl rfl) rfl rfl rfl rfl (xv 5 [0] [0, 1, 2, 3, 4, 5, 6, 7, 8] rfl (EV.fa 5 rfl) rfl rfl rfl rfl (xv 6 [0] [0, 1, 2, 3, 4, 5, 6, 7, 8] rfl (EV.ld 0 none rfl rfl rfl) rfl rfl rfl rfl (xv 7 [0] [0, 1, 2, 3, 4, 5, 6, 7, 8] rfl (EV.ix 4 rfl rfl rfl dq g44 rfl) rfl rfl rfl rfl (xv 8 [0] [0, 1, 2, 3, 4, 5, 6, 7, 8] rfl (EV.fa 0 rfl) rfl rfl rfl rfl (xv 9 [0] [0, 1, 2, 3, 4, 5, 6, 7, 8] rfl (EV.lc (v := .slice A_45 ((rd_T57 l0_5 1).f0).length c_45) 0 none 7 rfl rfl rfl rfl) rfl rfl rfl rfl (xv 10 [0] [0, 1, 2, 3, 4, 5, 6, 7, 8] rfl (EV.as rfl) rfl rfl rfl rfl (xv 11 [0] [0, 1, 2, 3, 4, 5, 6, 7, 8] rfl (EV.as rfl) rfl rfl rfl rfl (xd (pr [3, 7, 8] [0] [0, 1, 2, 3, 4, 5, 6, 7, 8] rfl rfl rfl rfl (gs (gs (rg (sv (EV.fa 6 rfl) rfl (sv (EV.ld 0 none rfl rfl rfl) rfl (sv (EV.mv rfl) rfl (sv (EV.ln rfl) rfl ?_))))))))))))))))))))))
              revert H; refine bdI ?_; rintro t46 A46 H
              refine so rfl (op_call (impl_within.ok x2_3_6 0 (((rd_T57 l0_5 0).f0).length : Int) _ A46) [] 1 rfl rfl rfl rfl rfl ?_)
              rintro _ _ _ ⟨rfl, rfl, rfl⟩
              refine sv (EV.nt rfl) rfl (sv (EV.mv rfl) rfl ?_)
              revert H; refine ifsI ?_ ?_ <;> intro c47 H
              ·
               subst c47
               refine ts 149 rfl rfl (sv (EV.fa 7 rfl) rfl (sv (EV.ld 0 none rfl rfl rfl) rfl (sv (EV.mv rfl) rfl (sv (EV.ln rfl) rfl ?_))))
               revert H; refine bdI ?_; rintro t48 A48 H
               refine so rfl (op_call (impl_within.ok x2_3_7 0 (((rd_T57 l0_5 1).f0).length : Int) _ A48) [] 1 rfl rfl rfl rfl rfl ?_)
               rintro _ _ _ ⟨rfl, rfl, rfl⟩
               refine sv (EV.nt rfl) rfl (sv (EV.pf rfl rfl rfl) rfl (re (pr [3, 7, 8, 156] [0] [0, 1, 2, 3, 4, 5, 6, 7, 8] rfl rfl rfl rfl ?_)))
               revert H; refine ifsI ?_ ?_ <;> intro c49 H
               ·
                subst c49
                refine gf rfl rfl (gk (gs ?_))
                revert H; refine ggI ?_; intro g50 H
                revert H; refine ggI ?_; intro g51 H
                revert H; refine ggI ?_; intro g52 H
                revert H; refine ggI ?_; intro g53 H
                refine dr [0] [0, 1, 2, 3, 4, 5, 6, 7, 8] [] 27 rfl rfl rfl rfl (xv 0 [0] [0, 1, 2, 3, 4, 5, 6, 7, 8] rfl (EV.fa 4 rfl) rfl rfl rfl rfl (xv 1 [0] [0, 1, 2, 3, 4, 5, 6, 7, 8] rfl (EV.ld 0 none rfl rfl rfl) rfl rfl rfl rfl (xv 2 [0] [0, 1, 2, 3, 4, 5, 6, 7, 8] rfl (EV.mv rfl) rfl rfl rfl rfl (xv 3 [0] [0, 1, 2, 3, 4, 5, 6, 7, 8] rfl (EV.fa 6 rfl) rfl rfl rfl rfl (xv 4 [0] [0, 1, 2, 3, 4, 5, 6, 7, 8] rfl (EV.ld 0 none rfl rfl rfl) rfl rfl rfl rfl (cutp (l' := ((rd_T57 l0_5 0).f0).take x2_3_6.toNat) 0 x2_3_6 6 rfl (Int.le_refl 0) g50 g51 rfl 0 dq (.inr rfl) rfl (xv 5 [0] [0, 1, 2, 3, 4, 5, 6, 7, 8] rfl (EV.ct 0 x2_3_6 6 rfl rfl rfl rfl (Int.le_refl 0) g50 g51 rfl rfl ctnh) rfl rfl rfl rfl (xv 6 [0] [0, 1, 2, 3, 4, 5, 6, 7, 8] rfl (EV.mv rfl) rfl rfl rfl rfl (xv 7 [0] [0, 1, 2, 3, 4, 5, 6, 7, 8] rfl (EV.fa 7 rfl) rfl rfl rfl rfl (xv 8 [0] [0, 1, 2, 3, 4, 5, 6, 7, 8] rfl (EV.ld 0 none rfl rfl rfl) rfl rfl rfl rfl (cutp (l' := ((rd_T57 l0_5 1).f0).take x2_3_7.toNat) 0 x2_3_7 8 rfl (Int.le_refl 0) g52 g53 rfl 0 dq (.inr rfl) rfl (xv 9 [0] [0, 1, 2, 3, 4, 5, 6, 7, 8] rfl (EV.ct 0 x2_3_7 8 rfl rfl rfl rfl (Int.le_refl 0) g52 g53 rfl rfl ctnh) rfl rfl rfl rfl (one1 10 rfl rfl ?_)))))))))))))
                revert H; refine bdI ?_; rintro t54 A54 H
                refine op_call (impl_MergeSorted.ok n0 (((rd_T57 l0_5 0).f0).take x2_3_6.toNat) (cutA A_43 c_43 (0 : Int).toNat 3) (c_43 - (0 : Int).toNat) (((rd_T57 l0_5 1).f0).take x2_3_7.toNat) (cutA A_45 c_45 (0 : Int).toNat 3) (c_45 - (0 : Int).toNat) _ A54) [⟨9, 0, 0, false⟩, ⟨10, 0, 0, false⟩] 1 rfl rfl rfl rfl rfl ?_
                rintro _ _ _ ⟨At54, ct54, rfl, rfl, rfl⟩
                refine xs [0] [0, 1, 2, 3, 4, 5, 6, 7, 8] rfl rfl rfl (one1 11 rfl rfl ?_)
                revert H; refine bdI ?_; rintro t55 A55 H
                refine op_call (impl_equal.ok n0 l0_4 Al0_4 cl0_4 t54 At54 ct54 _ A55) [⟨3, 0, 0, false⟩, ⟨11, 0, 0, false⟩] 3 rfl rfl rfl rfl rfl ?_
                rintro _ _ _ ⟨rfl, rfl, rfl⟩
                refine xs [0] [0, 1, 2, 3, 4, 5, 6, 7, 8] rfl rfl rfl (xv 12 [0] [0, 1, 2, 3, 4, 5, 6, 7, 8] rfl (EV.mv rfl) rfl rfl rfl rfl ?_)
                revert H; refine ifsI ?_ ?_ <;> intro c56 H
                ·
                 subst c56
                 refine ts 169 rfl rfl (xv 13 [0] [0, 1, 2, 3, 4, 5, 6, 7, 8] rfl (EV.fa 4 rfl) rfl rfl rfl rfl (xv 14 [0] [0, 1, 2, 3, 4, 5, 6, 7, 8] rfl (EV.ld 0 none rfl rfl rfl) rfl rfl rfl rfl (xv 15 [0] [0, 1, 2, 3, 4, 5, 6, 7, 8] rfl (EV.mv rfl) rfl rfl rfl rfl (xv 16 [0] [0, 1, 2, 3, 4, 5, 6, 7, 8] rfl (EV.mv rfl) rfl rfl rfl rfl (xv 18 [0] [0, 1, 2, 3, 4, 5, 6, 7, 8] rfl (EV.fa 6 rfl) rfl rfl rfl rfl (xv 19 [0] [0, 1, 2, 3, 4, 5, 6, 7, 8] rfl (EV.ld 0 none rfl rfl rfl) rfl rfl rfl rfl (xv 20 [0] [0, 1, 2, 3, 4, 5, 6, 7, 8] rfl (EV.fa 7 rfl) rfl rfl rfl rfl (xv 21 [0] [0, 1, 2, 3, 4, 5, 6, 7, 8] rfl (EV.ld 0 none rfl rfl rfl) rfl rfl rfl rfl (xv 22 [0] [0, 1, 2, 3, 4, 5, 6, 7, 8] rfl (EV.add rfl rfl) rfl rfl rfl rfl (one1 17 rfl rfl ?_))))))))))
                 revert H; refine bdI ?_; rintro t57 A57 H
                 refine op_call (impl_MergeSorted.ok n0 ((rd_T57 l0_5 0).f0) A_43 c_43 ((rd_T57 l0_5 1).f0) A_45 c_45 _ A57) [⟨6, 0, 0, false⟩, ⟨8, 0, 0, false⟩] 3 rfl rfl rfl rfl rfl ?_
                 rintro _ _ _ ⟨At57, ct57, rfl, rfl, rfl⟩
                 refine xs [0] [0, 1, 2, 3, 4, 5, 6, 7, 8] rfl rfl rfl (one1 23 rfl rfl ?_)
                 revert H; refine ggI ?_; intro g58 H
                 revert H; refine ggI ?_; intro g59 H
                 refine cutp (l' := t57.take (wrap64 (x2_3_6 + x2_3_7)).toNat) 0 (wrap64 (x2_3_6 + x2_3_7)) 12 rfl (Int.le_refl 0) g58 g59 rfl 2 dq (.inr rfl) rfl (ov (EV.ct 0 (wrap64 (x2_3_6 + x2_3_7)) 12 rfl rfl rfl rfl (Int.le_refl 0) g58 g59 rfl rfl ctnh) rfl (xs [0] [0, 1, 2, 3, 4, 5, 6, 7, 8] rfl rfl rfl (one1 24 rfl rfl ?_)))
                 revert H; refine bdI ?_; rintro t60 A60 H
                 refine op_call (impl_equal.ok n0 l0_4 Al0_4 cl0_4 (t57.take (wrap64 (x2_3_6 + x2_3_7)).toNat) (cutA At57 ct57 (0 : Int).toNat 3) (ct57 - (0 : Int).toNat) _ A60) [⟨3, 0, 0, false⟩, ⟨13, 0, 0, false⟩] 5 rfl rfl rfl rfl rfl ?_
                 rintro _ _ _ ⟨rfl, rfl, rfl⟩
                 refine xs [0] [0, 1, 2, 3, 4, 5, 6, 7, 8] rfl rfl rfl (xv 25 [0] [0, 1, 2, 3, 4, 5, 6, 7, 8] rfl (EV.pt rfl rfl rfl) rfl rfl rfl rfl (xv 26 [0] [0, 1, 2, 3, 4, 5, 6, 7, 8] rfl (EV.as rfl) rfl rfl rfl rfl (xd (pr [2] [] [] rfl rfl rfl rfl ?_))))
                 cases H
                 exact rt Try.func22 rfl (.tmp rfl .nil) rfl [] [] rfl rfl rfl rfl rfl ⟨rfl, rfl, rfl⟩
                ·
                 have xc56 := bF c56; subst xc56
                 refine ts 169 rfl rfl (xk 13 [0] [0, 1, 2, 3, 4, 5, 6, 7, 8] rfl rfl rfl rfl rfl (xk 14 [0] [0, 1, 2, 3, 4, 5, 6, 7, 8] rfl rfl rfl rfl rfl (xk 15 [0] [0, 1, 2, 3, 4, 5, 6, 7, 8] rfl rfl rfl rfl rfl (xk 16 [0] [0, 1, 2, 3, 4, 5, 6, 7, 8] rfl rfl rfl rfl rfl (xk 18 [0] [0, 1, 2, 3, 4, 5, 6, 7, 8] rfl rfl rfl rfl rfl (xk 19 [0] [0, 1, 2, 3, 4, 5, 6, 7, 8] rfl rfl rfl rfl rfl (xk 20 [0] [0, 1, 2, 3, 4, 5, 6, 7, 8] rfl rfl rfl rfl rfl (xk 21 [0] [0, 1, 2, 3, 4, 5, 6, 7, 8] rfl rfl rfl rfl rfl (xk 22 [0] [0, 1, 2, 3, 4, 5, 6, 7, 8] rfl rfl rfl rfl rfl (xk 17 [0] [0, 1, 2, 3, 4, 5, 6, 7, 8] rfl rfl rfl rfl rfl (xk 23 [0] [0, 1, 2, 3, 4, 5, 6, 7, 8] rfl rfl rfl rfl rfl (xk 24 [0] [0, 1, 2, 3, 4, 5, 6, 7, 8] rfl rfl rfl rfl rfl (xv 25 [0] [0, 1, 2, 3, 4, 5, 6, 7, 8] rfl (EV.pf rfl rfl rfl) rfl rfl rfl rfl (xv 26 [0] [0, 1, 2, 3, 4, 5, 6, 7, 8] rfl (EV.as rfl) rfl rfl rfl rfl (xd (pr [2] [] [] rfl rfl rfl rfl ?_))))))))))))))))
                 cases H
                 exact rt Try.func22 rfl (.tmp rfl .nil) rfl [] [] rfl rfl rfl rfl rfl ⟨rfl, rfl, rfl⟩
               ·
                have xc49 := bF c49; subst xc49
                refine gt rfl rfl (gs (rg (sv (EV.as rfl) rfl (re ?_))))
                cases H
                exact rt Try.func22 rfl (.tmp rfl .nil) rfl [] [] rfl rfl rfl rfl rfl ⟨rfl, rfl, rfl⟩
              ·
               have xc47 := bF c47; subst xc47
               refine ts 149 rfl rfl (sk rfl (sk rfl (sk rfl (sk rfl (sk rfl (sk rfl (sv (EV.pt rfl rfl rfl) rfl (re (pr [3, 7, 8, 156] [0] [0, 1, 2, 3, 4, 5, 6, 7, 8] rfl rfl rfl rfl (gt rfl rfl (gs (rg (sv (EV.as rfl) rfl (re ?_))))))))))))))
               cases H
               exact rt Try.func22 rfl (.tmp rfl .nil) rfl [] [] rfl rfl rfl rfl rfl ⟨rfl, rfl, rfl⟩
            ·
             refine gf rfl (dF c40) (gs (rg (sv (EV.eql rfl rfl) rfl (sv (EV.as rfl) rfl (re ?_)))))
             revert H; refine ifsI ?_ ?_ <;> intro c61 H
             ·
              refine gt rfl (dT c61) (gs (rg (sv (EV.fa 5 rfl) rfl (sv (EV.ld 0 none rfl rfl rfl) rfl (sv (EV.ln rfl) rfl (sv (EV.eql rfl rfl) rfl (sv (EV.mv rfl) rfl ?_)))))))
              revert H; refine ifsI ?_ ?_ <;> intro c62 H
              ·
               refine ts 189 rfl (dT c62) (sv (EV.fa 6 rfl) rfl (sv (EV.ld 0 none rfl rfl rfl) rfl (sv (EV.fa 0 rfl) rfl (sv (EV.ld 0 none rfl rfl rfl) rfl (sv (EV.ln rfl) rfl (sv (EV.sub rfl rfl) rfl ?_))))))
               revert H; refine bdI ?_; rintro t63 A63 H
               refine so rfl (op_call (impl_within.ok x2_3_6 0 (wrap64 ((l0_0.length : Int) - 1)) _ A63) [] 1 rfl rfl rfl rfl rfl ?_)
               rintro _ _ _ ⟨rfl, rfl, rfl⟩
               refine sv (EV.pt rfl rfl rfl) rfl (sv (EV.mv rfl) rfl ?_)
               revert H; refine ifsI ?_ ?_ <;> intro c64 H
               ·
                subst c64
                refine ts 198 rfl rfl (sv (EV.fa 7 rfl) rfl (sv (EV.ld 0 none rfl rfl rfl) rfl (sv (EV.eql rfl rfl) rfl (sv (EV.pt rfl rfl rfl) rfl (sv (EV.mv rfl) rfl ?_)))))
                revert H; refine ifsI ?_ ?_ <;> intro c65 H
                ·
                 refine ts 203 rfl (dT c65) (sv (EV.fa 4 rfl) rfl (sv (EV.ld 0 none rfl rfl rfl) rfl (sv (EV.ln rfl) rfl (sv (EV.eql rfl rfl) rfl (sv (EV.pt rfl rfl rfl) rfl (sv (EV.as rfl) rfl (re (pr [2] [] [] rfl rfl rfl rfl ?_))))))))
                 cases H
                 exact rt Try.func22 rfl (.tmp rfl .nil) rfl [] [] rfl rfl rfl rfl rfl ⟨rfl, rfl, rfl⟩
                ·
                 refine ts 203 rfl (dF c65) (sk rfl (sk rfl (sk rfl (sk rfl (sv (EV.pf rfl rfl rfl) rfl (sv (EV.as rfl) rfl (re (pr [2] [] [] rfl rfl rfl rfl ?_))))))))
                 cases H
                 exact rt Try.func22 rfl (.tmp rfl .nil) rfl [] [] rfl rfl rfl rfl rfl ⟨rfl, rfl, rfl⟩
               ·
                have xc64 := bF c64; subst xc64
                refine ts 198 rfl rfl (sk rfl (sk rfl (sk rfl (sv (EV.pf rfl rfl rfl) rfl (sv (EV.mv rfl) rfl (sk rfl (sk rfl (sk rfl (sk rfl (sv (EV.pf rfl rfl rfl) rfl (sv (EV.as rfl) rfl (re (pr [2] [] [] rfl rfl rfl rfl ?_)))))))))))))
                cases H
                exact rt Try.func22 rfl (.tmp rfl .nil) rfl [] [] rfl rfl rfl rfl rfl ⟨rfl, rfl, rfl⟩
              ·
               refine ts 189 rfl (dF c62) (sk rfl (sk rfl (sk rfl (sk rfl (sk rfl (sk rfl (sk rfl (sv (EV.pf rfl rfl rfl) rfl (sv (EV.mv rfl) rfl (sk rfl (sk rfl (sk rfl (sv (EV.pf rfl rfl rfl) rfl (sv (EV.mv rfl) rfl (sk rfl (sk rfl (sk rfl (sk rfl (sv (EV.pf rfl rfl rfl) rfl (sv (EV.as rfl) rfl (re (pr [2] [] [] rfl rfl rfl rfl ?_))))))))))))))))))))))
               cases H
               exact rt Try.func22 rfl (.tmp rfl .nil) rfl [] [] rfl rfl rfl rfl rfl ⟨rfl, rfl, rfl⟩
             ·
              refine gf rfl (dF c61) (gs (rg (sv (EV.eql rfl rfl) rfl (sv (EV.as rfl) rfl (re (pr [3, 209] [0] [0, 1, 2, 3, 4] rfl rfl rfl rfl ?_))))))
              revert H; refine ifsI ?_ ?_ <;> intro c66 H
              ·
               refine gt rfl (dT c66) (gs (rg (sv (EV.fa 5 rfl) rfl (sv (EV.ld 0 none rfl rfl rfl) rfl (sv (EV.ln rfl) rfl (sv (EV.leq rfl rfl) rfl (sv (EV.mv rfl) rfl ?_)))))))
               revert H; refine ifsI ?_ ?_ <;> intro c67 H
               ·
                refine ts 215 rfl (dT c67) (sv (EV.fa 6 rfl) rfl (sv (EV.ld 0 none rfl rfl rfl) rfl (sv (EV.fa 0 rfl) rfl (sv (EV.ld 0 none rfl rfl rfl) rfl (sv (EV.ln rfl) rfl (sv (EV.eql rfl rfl) rfl (sv (EV.pt rfl rfl rfl) rfl (sv (EV.mv rfl) rfl ?_))))))))
                revert H; refine ifsI ?_ ?_ <;> intro c68 H
                ·
                 refine ts 223 rfl (dT c68) (sv (EV.fa 7 rfl) rfl (sv (EV.ld 0 none rfl rfl rfl) rfl (sv (EV.eql rfl rfl) rfl (sv (EV.pt rfl rfl rfl) rfl (sv (EV.mv rfl) rfl ?_)))))
                 revert H; refine ifsI ?_ ?_ <;> intro c69 H
                 ·
                  refine ts 228 rfl (dT c69) (sv (EV.fa 4 rfl) rfl (sv (EV.ld 0 none rfl rfl rfl) rfl (sv (EV.ln rfl) rfl (sv (EV.eql rfl rfl) rfl (sv (EV.pt rfl rfl rfl) rfl (sv (EV.as rfl) rfl (re (pr [2] [] [] rfl rfl rfl rfl ?_))))))))
                  cases H
                  exact rt Try.func22 rfl (.tmp rfl .nil) rfl [] [] rfl rfl rfl rfl rfl ⟨rfl, rfl, rfl⟩
                 ·
                  refine ts 228 rfl (dF c69) (sk rfl (sk rfl (sk rfl (sk rfl (sv (EV.pf rfl rfl rfl) rfl (sv (EV.as rfl) rfl (re (pr [2] [] [] rfl rfl rfl rfl ?_))))))))
                  cases H
                  exact rt Try.func22 rfl (.tmp rfl .nil) rfl [] [] rfl rfl rfl rfl rfl ⟨rfl, rfl, rfl⟩
                ·
                 refine ts 223 rfl (dF c68) (sk rfl (sk rfl (sk rfl (sv (EV.pf rfl rfl rfl) rfl (sv (EV.mv rfl) rfl (sk rfl (sk rfl (sk rfl (sk rfl (sv (EV.pf rfl rfl rfl) rfl (sv (EV.as rfl) rfl (re (pr [2] [] [] rfl rfl rfl rfl ?_)))))))))))))
                 cases H
                 exact rt Try.func22 rfl (.tmp rfl .nil) rfl [] [] rfl rfl rfl rfl rfl ⟨rfl, rfl, rfl⟩
               ·
                refine ts 215 rfl (dF c67) (sk rfl (sk rfl (sk rfl (sk rfl (sk rfl (sk rfl (sv (EV.pf rfl rfl rfl) rfl (sv (EV.mv rfl) rfl (sk rfl (sk rfl (sk rfl (sv (EV.pf rfl rfl rfl) rfl (sv (EV.mv rfl) rfl (sk rfl (sk rfl (sk rfl (sk rfl (sv (EV.pf rfl rfl rfl) rfl (sv (EV.as rfl) rfl (re (pr [2] [] [] rfl rfl rfl rfl ?_)))))))))))))))))))))
                cases H
                exact rt Try.func22 rfl (.tmp rfl .nil) rfl [] [] rfl rfl rfl rfl rfl ⟨rfl, rfl, rfl⟩
              ·
               refine gf rfl (dF c66) (gk (ge (gs (rg (sv (EV.as rfl) rfl (re ?_))))))
               cases H
               exact rt Try.func22 rfl (.tmp rfl .nil) rfl [] [] rfl rfl rfl rfl rfl ⟨rfl, rfl, rfl⟩
           ·
            have xc39 := bF c39; subst xc39
            refine gt rfl rfl (gs (rg (sv (EV.as rfl) rfl (re ?_))))
            cases H
            exact rt Try.func22 rfl (.tmp rfl .nil) rfl [] [] rfl rfl rfl rfl rfl ⟨rfl, rfl, rfl⟩
        ·
         refine ts 106 rfl (nT c35) (sk rfl (sk rfl (sk rfl (sk rfl (sv (EV.pt rfl rfl rfl) rfl (sv (EV.mv rfl) rfl (sk rfl (sk rfl (sk rfl (sk rfl (sv (EV.pt rfl rfl rfl) rfl (sv (EV.mv rfl) rfl (sk rfl (sk rfl (sk rfl (sk rfl (sk rfl (sv (EV.pt rfl rfl rfl) rfl (re (pr [3, 124] [0] [0, 1, 2, 3, 4] rfl rfl rfl rfl (gt rfl rfl (gs (rg (sv (EV.as rfl) rfl (re ?_)))))))))))))))))))))))))
         cases H
         exact rt Try.func22 rfl (.tmp rfl .nil) rfl [] [] rfl rfl rfl rfl rfl ⟨rfl, rfl, rfl⟩
     ·
      have xc9 := bF c9; subst xc9
      refine gt rfl rfl (gs (rg (sv (EV.as rfl) rfl (re ?_))))
      cases H
      exact rt Try.func22 rfl (.tmp rfl .nil) rfl [] [] rfl rfl rfl rfl rfl ⟨rfl, rfl, rfl⟩
   ·
    have xc6 := bF c6; subst xc6
    refine ts 29 rfl rfl (sk rfl (sk rfl (sk rfl (sv (EV.pt rfl rfl rfl) rfl (sv (EV.mv rfl) rfl (sk rfl (sk rfl (sk rfl (sk rfl (sv (EV.pt rfl rfl rfl) rfl (re (pr [3, 39] [1] [0, 1, 2, 3, 4] rfl rfl rfl rfl (gt rfl rfl (gs (rg (sv (EV.as rfl) rfl (re ?_)))))))))))))))))
    cases H
    exact rt Try.func22 rfl (.tmp rfl .nil) rfl [] [] rfl rfl rfl rfl rfl ⟨rfl, rfl, rfl⟩
  ·
   have xc4 := bF c4; subst xc4
   refine ts 23 rfl rfl (sk rfl (sk rfl (sk rfl (sk rfl (sv (EV.pt rfl rfl rfl) rfl (sv (EV.mv rfl) rfl (sk rfl (sk rfl (sk rfl (sv (EV.pt rfl rfl rfl) rfl (sv (EV.mv rfl) rfl (sk rfl (sk rfl (sk rfl (sk rfl (sv (EV.pt rfl rfl rfl) rfl (re (pr [3, 39] [1] [0, 1, 2, 3, 4] rfl rfl rfl rfl (gt rfl rfl (gs (rg (sv (EV.as rfl) rfl (re ?_)))))))))))))))))))))))
   cases H
   exact rt Try.func22 rfl (.tmp rfl .nil) rfl [] [] rfl rfl rfl rfl rfl ⟨rfl, rfl, rfl⟩
 ·
  have xc2 := bF c2; subst xc2
  refine ts 14 rfl rfl (sk rfl (sk rfl (sk rfl (sk rfl (sk rfl (sk rfl (sk rfl (sv (EV.pt rfl rfl rfl) rfl (sv (EV.mv rfl) rfl (sk rfl (sk rfl (sk rfl (sk rfl (sv (EV.pt rfl rfl rfl) rfl (sv (EV.mv rfl) rfl (sk rfl (sk rfl (sk rfl (sv (EV.pt rfl rfl rfl) rfl (sv (EV.mv rfl) rfl (sk rfl (sk rfl (sk rfl (sk rfl (sv (EV.pt rfl rfl rfl) rfl (re (pr [3, 39] [1] [0, 1, 2, 3, 4] rfl rfl rfl rfl (gt rfl rfl (gs ?_)))))))))))))))))))))))))))))
  refine rg (sv (EV.as rfl) rfl (re ?_))
  cases H
  exact rt Try.func22 rfl (.tmp rfl .nil) rfl [] [] rfl rfl rfl rfl rfl ⟨rfl, rfl, rfl⟩
def impl_cut.l0 : Nat → ByteArray → Int → (List ByteArray) → Int → Int → Int → Option ((List ByteArray))
 | 0, _, _, _, _, _, _ => none
 | k + 1, x2_0, x2_1, x2_5, x2_6, x2_10, x2_11 => if x2_11 < x2_10 then (if 0 ≤ x2_11 then (if x2_11 < (x2_0.size : Int) then (if (bt x2_0 x2_11) = x2_1 then (if 0 ≤ x2_6 then (if x2_6 ≤ x2_11 then (if x2_11 ≤ (x2_0.size : Int) then (if x2_5.length < 8796093022208 then (impl_cut.l0 k x2_0 x2_1 (x2_5 ++ ([x2_0.extract x2_6.toNat x2_11.toNat] : List ByteArray)) (wrap64 (x2_11 + 1)) x2_10 (wrap64 (x2_11 + 1))) else none) else none) else none) else none) else (impl_cut.l0 k x2_0 x2_1 x2_5 x2_6 x2_10 (wrap64 (x2_11 + 1)))) else none) else none) else (if 0 ≤ x2_6 then (if x2_6 ≤ (x2_0.size : Int) then (if x2_5.length < 8796093022208 then (some (x2_5 ++ ([x2_0.extract x2_6.toNat x2_0.size] : List ByteArray))) else none) else none) else none)
def impl_cut.f (k : Nat) (a0 : ByteArray) (a1 : Int) : Option ((List ByteArray)) := impl_cut.l0 k a0 a1 [] 0 (a0.size : Int) 0
set_option maxHeartbeats 4000000 in
set_option maxRecDepth 100000 in
theorem impl_cut.ok (k : Nat) (a0 : ByteArray) (a1 : Int) (r0 : List ByteArray) (H : impl_cut.f k a0 a1 = some r0) : Fn Try.prog 33 [.string a0, .int .u8 a1] [] [] (fun v bx en => ∃ A0 c0, v = .slice A0 r0.length c0 ∧ bx = [] ∧ en = [.sl 2 .str A0 c0 r0 1 true]) := by
 refine fn_ 35 Try.func33 rfl rfl rfl (fun base T w0 => ?_)
 rw [impl_cut.f] at H
 refine gs (rg (sv (EV.as rfl) rfl (re (gs (rg (so rfl (op_lit (s := 1) (by_ := 16) .str ([] : List ByteArray) [] [] 1 [] rfl rfl rfl rfl rfl rfl rfl rfl rfl rfl rfl rfl rfl dq rfl fun A8_1 c8_1 => (sv (EV.as rfl) rfl (sv (EV.as rfl) rfl (re (gs (gs (rg (sv (EV.mv rfl) rfl (sv (EV.lns rfl) rfl (sv (EV.mv rfl) rfl (re (gb ?_))))))))))))))))))
 refine lo (fun kk S => ∃ (x2_0 : ByteArray) (x2_1 : Int) (x2_5 : List ByteArray) (Ax2_5 : Option Addr) (cx2_5 : Nat) (x2_6 : Int) (x2_10 : Int) (x2_11 : Int), impl_cut.l0 kk x2_0 x2_1 x2_5 x2_6 x2_10 x2_11 = some r0 ∧ S = ⟨[(0, .string x2_0), (1, .int .u8 x2_1), (5, .slice Ax2_5 x2_5.length cx2_5), (6, .int .i64 x2_6), (10, .int .i64 x2_10), (11, .int .i64 x2_11)], [], [.sl 2 .str Ax2_5 cx2_5 x2_5 1 true]⟩) (fun S hS => ?_) (fun n0 ih0 S hS => ?_) ⟨a0, a1, [], A8_1, c8_1, 0, (a0.size : Int), 0, H, rfl⟩ (fun h => wk [0, 1, 5, 6, 10, 11] [] [⟨0, 2, 1, true⟩] h)
 · clear H; obtain ⟨_, _, _, _, _, _, _, _, H, _⟩ := hS; rw [impl_cut.l0] at H; cases H
 clear H
 obtain ⟨x2_0, x2_1, x2_5, Ax2_5, cx2_5, x2_6, x2_10, x2_11, H, rfl⟩ := hS
 rw [impl_cut.l0] at H
 refine gs (rg (sv (EV.lss rfl rfl) rfl (re (gs ?_))))
 revert H; refine ifsI ?_ ?_ <;> intro c2 H
 ·
  refine gt rfl (dT c2) (gk (gs (gb (gs (rg (sv (EV.mv rfl) rfl (sv (EV.as rfl) rfl (re (gs (rg (sv (EV.mv rfl) rfl (sv (EV.mv rfl) rfl ?_))))))))))))
  revert H; refine ggI ?_; intro g3 H
  revert H; refine ggI ?_; intro g4 H
  refine sv (EV.is rfl rfl g3 g4) rfl (sv (EV.mv rfl) rfl (sv (EV.eql rfl rfl) rfl (re (pr [0, 1, 5, 6, 7, 10, 11, 18] [] [0] rfl rfl rfl rfl ?_))))
  revert H; refine ifsI ?_ ?_ <;> intro c5 H
  ·
   refine gt rfl (dT c5) (gs (rg (sv (EV.mv rfl) rfl (sv (EV.mv rfl) rfl (sv (EV.mv rfl) rfl (sv (EV.mv rfl) rfl ?_))))))
   revert H; refine ggI ?_; intro g6 H
   revert H; refine ggI ?_; intro g7 H
   revert H; refine ggI ?_; intro g8 H
   refine sv (EV.ssb rfl rfl rfl g6 g7 g8) rfl (so rfl (op_lit (s := 1) (by_ := 16) .str ([x2_0.extract x2_6.toNat x2_11.toNat] : List ByteArray) [[]] [] 2 [.tmp 23] rfl rfl rfl rfl rfl rfl rfl rfl rfl rfl rfl rfl rfl dq rfl fun A24_9 c24_9 => ?_))
   revert H; refine ggI ?_; intro g10 H
   exact so rfl (op_app (k := .str) (s := 1) (by_ := 16) 0 1 rfl rfl rfl rfl (ap1 g10 dq) (ap1n g10 dq) (.inl rfl) true (fun _ => .inl rfl) rfl rfl fun A25_11 c25_11 => (nmE (en := [.sl 2 .str A24_9 c24_9 ([x2_0.extract x2_6.toNat x2_11.toNat] : List ByteArray) 2 true, .sl 2 .str A25_11 c25_11 (x2_5 ++ ([x2_0.extract x2_6.toNat x2_11.toNat] : List ByteArray)) 1 true]) (by kernel_rfl) (sv (EV.as rfl) rfl (re (pr [0, 1, 5, 7, 10, 11] [] [1] rfl rfl rfl rfl (rg (sv (EV.mv rfl) rfl (sv (EV.add rfl rfl) rfl (sv (EV.as rfl) rfl (re (ge (rg (sv (EV.add rfl rfl) rfl (sv (EV.mv rfl) rfl (re (wk [0, 1, 5, 6, 10, 11] [] [⟨0, 2, 1, true⟩] (ih0 _ (by omega) _ ⟨x2_0, x2_1, x2_5 ++ ([x2_0.extract x2_6.toNat x2_11.toNat] : List ByteArray), A25_11, c25_11, wrap64 (x2_11 + 1), x2_10, wrap64 (x2_11 + 1), H, rfl⟩)))))))))))))))))
  ·
   exact gf rfl (dF c5) (gk (ge (rg (sv (EV.add rfl rfl) rfl (sv (EV.mv rfl) rfl (re (wk [0, 1, 5, 6, 10, 11] [] [⟨0, 2, 1, true⟩] (ih0 _ (by omega) _ ⟨x2_0, x2_1, x2_5, Ax2_5, cx2_5, x2_6, x2_10, wrap64 (x2_11 + 1), H, rfl⟩))))))))
 ·
  refine gf rfl (dF c2) (gx rfl (gs (rg (sv (EV.mv rfl) rfl (sv (EV.mv rfl) rfl (sv (EV.mv rfl) rfl ?_))))))
  revert H; refine ggI ?_; intro g12 H
  revert H; refine ggI ?_; intro g13 H
  refine sv (EV.ssl rfl rfl g12 g13) rfl (so rfl (op_lit (s := 1) (by_ := 16) .str ([x2_0.extract x2_6.toNat x2_0.size] : List ByteArray) [[]] [] 2 [.tmp 32] rfl rfl rfl rfl rfl rfl rfl rfl rfl rfl rfl rfl rfl dq rfl fun A33_14 c33_14 => ?_))
  revert H; refine ggI ?_; intro g15 H
  refine so rfl (op_app (k := .str) (s := 1) (by_ := 16) 0 1 rfl rfl rfl rfl (ap1 g15 dq) (ap1n g15 dq) (.inl rfl) true (fun _ => .inl rfl) rfl rfl fun A34_16 c34_16 => (nmE (en := [.sl 2 .str A33_14 c33_14 ([x2_0.extract x2_6.toNat x2_0.size] : List ByteArray) 2 true, .sl 2 .str A34_16 c34_16 (x2_5 ++ ([x2_0.extract x2_6.toNat x2_0.size] : List ByteArray)) 1 true]) (by kernel_rfl) (sv (EV.as rfl) rfl (re (pr [4] [] [1] rfl rfl rfl rfl ?_)))))
  cases H
  exact rt Try.func33 rfl (.tmp rfl .nil) rfl [] [⟨0, 2, 1, true⟩] rfl rfl rfl rfl rfl ⟨_, _, rfl, rfl, rfl⟩
def impl_decimal.f : Nat → Int → Option (ByteArray)
 | 0, _ => none
 | k + 1, a0 => if a0 < 10 then (some (strOfNums ([IntKind.u8.wrap (IntKind.u64.wrap (48 + a0))] : List Int))) else ((impl_decimal.f k (IntKind.u64.wrap (Int.tdiv a0 10))).bind fun t3 => (if t3.size + (strOfNums ([IntKind.u8.wrap (IntKind.u64.wrap (48 + (Int.tmod a0 10)))] : List Int)).size ≤ 9223372036854775807 then (some (t3 ++ (strOfNums ([IntKind.u8.wrap (IntKind.u64.wrap (48 + (Int.tmod a0 10)))] : List Int)))) else none))
set_option maxHeartbeats 4000000 in
set_option maxRecDepth 100000 in
theorem impl_decimal.ok : ∀ (k : Nat) (a0 : Int) (r0 : ByteArray) (h : impl_decimal.f k a0 = some r0), Fn Try.prog 68 [.int .u64 a0] [] [] (fun v bx en => v = .string r0 ∧ bx = [] ∧ en = []) := by
 intro k
 induction k with
 | zero => intro a0 r0 h; rw [impl_decimal.f] at h; cases h
 | succ k ih =>
 intro a0 r0 H
 refine fn_ 20 Try.func68 rfl rfl rfl (fun base T w0 => ?_)
 rw [impl_decimal.f] at H
 refine gs (rg (sv (EV.as rfl) rfl (re (gs (gs (rg (sv (EV.mv rfl) rfl (sv (EV.lss rfl rfl) rfl (re ?_)))))))))
 revert H; refine ifsI ?_ ?_ <;> intro c1 H
 ·
  refine gt rfl (dT c1) (gs (rg (sv (EV.mv rfl) rfl (sv (EV.addk rfl rfl) rfl (sv (EV.cv (k' := .u8) rfl) rfl (so rfl (op_lit (s := 1) (by_ := 1) (.int .u8) ([IntKind.u8.wrap (IntKind.u64.wrap (48 + a0))] : List Int) [[]] [] 1 [.tmp 7] rfl rfl rfl rfl rfl rfl rfl rfl rfl rfl rfl rfl rfl dq rfl fun A8_2 c8_2 => (sv (EV.bs 0 rfl rfl) rfl (sv (EV.as rfl) rfl (re (pr [2] [] [] rfl rfl rfl rfl ?_)))))))))))
  cases H
  exact rt Try.func68 rfl (.tmp rfl .nil) rfl [] [] rfl rfl rfl rfl rfl ⟨rfl, rfl, rfl⟩
 ·
  refine gf rfl (dF c1) (gk (gs (dr [] [] [] 11 rfl rfl rfl rfl (xv 0 [] [] rfl (EV.mv rfl) rfl rfl rfl rfl (xv 1 [] [] rfl (EV.quok rfl rfl dq) rfl rfl rfl rfl (xv 3 [] [] rfl (EV.mv rfl) rfl rfl rfl rfl (xv 4 [] [] rfl (EV.rem rfl rfl dq) rfl rfl rfl rfl (xv 5 [] [] rfl (EV.addk rfl rfl) rfl rfl rfl rfl (xv 6 [] [] rfl (EV.cv (k' := .u8) rfl) rfl rfl rfl rfl ?_)))))))))
  refine one2 2 7 rfl rfl rfl rfl ?_ ?_
  ·
   revert H; refine bdI ?_; rintro t3 A3 H
   refine op_call (ih (IntKind.u64.wrap (Int.tdiv a0 10)) _ A3) [] 1 rfl rfl rfl rfl rfl ?_
   rintro _ _ _ ⟨rfl, rfl, rfl⟩
   refine xs [] [] rfl rfl rfl (one1 7 rfl rfl (op_lit (s := 1) (by_ := 1) (.int .u8) ([IntKind.u8.wrap (IntKind.u64.wrap (48 + (Int.tmod a0 10)))] : List Int) [[]] [] 1 [.tmp 16] rfl rfl rfl rfl rfl rfl rfl rfl rfl rfl rfl rfl rfl dq rfl fun A17_4 c17_4 => (xs [] [] rfl rfl rfl (one1 8 rfl rfl (ov (EV.bs 0 rfl rfl) rfl (xs [] [] rfl rfl rfl ?_))))))
   revert H; refine ggI ?_; intro g5 H
   refine xv 9 [] [] rfl (EV.ads rfl rfl g5) rfl rfl rfl rfl (xv 10 [] [] rfl (EV.as rfl) rfl rfl rfl rfl (xd (pr [2] [] [] rfl rfl rfl rfl ?_)))
   cases H
   exact rt Try.func68 rfl (.tmp rfl .nil) rfl [] [] rfl rfl rfl rfl rfl ⟨rfl, rfl, rfl⟩
  ·
   refine op_lit (s := 1) (by_ := 1) (.int .u8) ([IntKind.u8.wrap (IntKind.u64.wrap (48 + (Int.tmod a0 10)))] : List Int) [[]] [] 1 [.tmp 16] rfl rfl rfl rfl rfl rfl rfl rfl rfl rfl rfl rfl rfl dq rfl fun A17_6 c17_6 => (xs [] [] rfl rfl rfl ?_)
   refine one2 2 8 rfl rfl rfl rfl ?_ ?_
   ·
    revert H; refine bdI ?_; rintro t7 A7 H
    refine op_call (ih (IntKind.u64.wrap (Int.tdiv a0 10)) _ A7) [] 2 rfl rfl rfl rfl rfl ?_
    rintro _ _ _ ⟨rfl, rfl, rfl⟩
    refine xs [] [] rfl rfl rfl (one1 8 rfl rfl (ov (EV.bs 0 rfl rfl) rfl (xs [] [] rfl rfl rfl ?_)))
    revert H; refine ggI ?_; intro g8 H
    refine xv 9 [] [] rfl (EV.ads rfl rfl g8) rfl rfl rfl rfl (xv 10 [] [] rfl (EV.as rfl) rfl rfl rfl rfl (xd (pr [2] [] [] rfl rfl rfl rfl ?_)))
    cases H
    exact rt Try.func68 rfl (.tmp rfl .nil) rfl [] [] rfl rfl rfl rfl rfl ⟨rfl, rfl, rfl⟩
   ·
    refine ov (EV.bs 0 rfl rfl) rfl (xs [] [] rfl rfl rfl (one1 2 rfl rfl ?_))
    revert H; refine bdI ?_; rintro t9 A9 H
    refine op_call (ih (IntKind.u64.wrap (Int.tdiv a0 10)) _ A9) [] 2 rfl rfl rfl rfl rfl ?_
    rintro _ _ _ ⟨rfl, rfl, rfl⟩
    refine xs [] [] rfl rfl rfl ?_
    revert H; refine ggI ?_; intro g10 H
    refine xv 9 [] [] rfl (EV.ads rfl rfl g10) rfl rfl rfl rfl (xv 10 [] [] rfl (EV.as rfl) rfl rfl rfl rfl (xd (pr [2] [] [] rfl rfl rfl rfl ?_)))
    cases H
    exact rt Try.func68 rfl (.tmp rfl .nil) rfl [] [] rfl rfl rfl rfl rfl ⟨rfl, rfl, rfl⟩
def impl_FormatInt.f (k : Nat) (a0 : Int) : Option (ByteArray) := if a0 < 0 then ((impl_decimal.f k (IntKind.u64.wrap (-(IntKind.u64.wrap a0)))).bind fun t2 => (if (⟨#[45]⟩ : ByteArray).size + t2.size ≤ 9223372036854775807 then (some ((⟨#[45]⟩ : ByteArray) ++ t2)) else none)) else ((impl_decimal.f k (IntKind.u64.wrap a0)).bind fun t4 => (some t4))
set_option maxHeartbeats 4000000 in
set_option maxRecDepth 100000 in
theorem impl_FormatInt.ok (k : Nat) (a0 : Int) (r0 : ByteArray) (H : impl_FormatInt.f k a0 = some r0) : Fn Try.prog 25 [.int .i64 a0] [] [] (fun v bx en => v = .string r0 ∧ bx = [] ∧ en = []) := by
 refine fn_ 13 Try.func25 rfl rfl rfl (fun base T w0 => ?_)
 rw [impl_FormatInt.f] at H
 refine gs (rg (sv (EV.as rfl) rfl (re (gs (gs (rg (sv (EV.mv rfl) rfl (sv (EV.lss rfl rfl) rfl (re ?_)))))))))
 revert H; refine ifsI ?_ ?_ <;> intro c1 H
 ·
  refine gt rfl (dT c1) (gs (rg (sv (EV.mv rfl) rfl (sv (EV.cv (k' := .u64) rfl) rfl (sv (EV.ngk rfl) rfl ?_)))))
  revert H; refine bdI ?_; rintro t2 A2 H
  refine so rfl (op_call (impl_decimal.ok k (IntKind.u64.wrap (-(IntKind.u64.wrap a0))) _ A2) [] 1 rfl rfl rfl rfl rfl ?_)
  rintro _ _ _ ⟨rfl, rfl, rfl⟩
  revert H; refine ggI ?_; intro g3 H
  refine sv (EV.ads rfl rfl g3) rfl (sv (EV.as rfl) rfl (re (pr [2] [] [] rfl rfl rfl rfl ?_)))
  cases H
  exact rt Try.func25 rfl (.tmp rfl .nil) rfl [] [] rfl rfl rfl rfl rfl ⟨rfl, rfl, rfl⟩
 ·
  refine gf rfl (dF c1) (gk (gs (rg (sv (EV.mv rfl) rfl (sv (EV.cv (k' := .u64) rfl) rfl ?_)))))
  revert H; refine bdI ?_; rintro t4 A4 H
  refine so rfl (op_call (impl_decimal.ok k (IntKind.u64.wrap a0) _ A4) [] 1 rfl rfl rfl rfl rfl ?_)
  rintro _ _ _ ⟨rfl, rfl, rfl⟩
  refine sv (EV.as rfl) rfl (re (pr [2] [] [] rfl rfl rfl rfl ?_))
  cases H
  exact rt Try.func25 rfl (.tmp rfl .nil) rfl [] [] rfl rfl rfl rfl rfl ⟨rfl, rfl, rfl⟩
mutual
def impl_ParseInt.j1 : Nat → ByteArray → Int → Option (Int × Bool)
 | 0, _, _ => none
 | k + 1, x5_0, x5_5 => (impl_FormatInt.f k x5_5).bind fun t10 => (if t10.toList = x5_0.toList then (some (x5_5, true)) else (some (0, false)))
def impl_ParseInt.l0 : Nat → ByteArray → ByteArray → Int → Int → Int → Option (Int × Bool)
 | 0, _, _, _, _, _ => none
 | k + 1, x3_0, x3_4, x3_5, x3_27, x3_28 => if x3_28 < x3_27 then (if 0 ≤ x3_28 then (if x3_28 < (x3_4.size : Int) then (if (bt x3_4 x3_28) < 48 then (some (0, false)) else (if (bt x3_4 x3_28) > 57 then (some (0, false)) else (impl_ParseInt.l0 k x3_0 x3_4 (wrap64 ((wrap64 (10 * x3_5)) + (IntKind.i64.wrap (IntKind.u8.wrap ((bt x3_4 x3_28) - 48))))) x3_27 (wrap64 (x3_28 + 1))))) else none) else none) else (if (x3_4.size : Int) < (x3_0.size : Int) then (impl_ParseInt.j1 k x3_0 (wrap64 (-x3_5))) else (impl_ParseInt.j1 k x3_0 x3_5))
def impl_ParseInt.j0 : Nat → ByteArray → ByteArray → Option (Int × Bool)
 | 0, _, _ => none
 | k + 1, x1_0, x1_4 => if (x1_4.size : Int) < 1 then (some (0, false)) else (if (x1_4.size : Int) > 9 then (some (0, false)) else (impl_ParseInt.l0 k x1_0 x1_4 0 (x1_4.size : Int) 0))
end
def impl_ParseInt.f (k : Nat) (a0 : ByteArray) : Option (Int × Bool) := if (a0.size : Int) > 0 then (if 0 < (a0.size : Int) then (if (bt a0 0) = 45 then (if 1 ≤ (a0.size : Int) then (impl_ParseInt.j0 k a0 (a0.extract (1 : Int).toNat a0.size)) else none) else (impl_ParseInt.j0 k a0 a0)) else none) else (impl_ParseInt.j0 k a0 a0)
set_option maxHeartbeats 4000000 in
set_option maxRecDepth 100000 in
theorem impl_ParseInt.ok (k : Nat) (a0 : ByteArray) (r0 : Int) (r1 : Bool) (H : impl_ParseInt.f k a0 = some (r0, r1)) : Fn Try.prog 37 [.string a0] [] [] (fun v bx en => v = .tuple #[.int .i64 r0, .bool r1] ∧ bx = [] ∧ en = []) := by
 refine fn_ 62 Try.func37 rfl rfl rfl (fun base T w0 => ?_)
 rw [impl_ParseInt.f] at H
 refine gs (rg (sv (EV.as rfl) rfl (sv (EV.as rfl) rfl (re (gs (rg (sv (EV.mv rfl) rfl (sv (EV.as rfl) rfl (re ?_)))))))))
 refine jo (fun S => ∃ (m : Nat) (x1_0 : ByteArray) (x1_4 : ByteArray), impl_ParseInt.j0 m x1_0 x1_4 = some (r0, r1) ∧ S = ⟨[(0, .string x1_0), (4, .string x1_4)], [], []⟩) (fun S hS => ?_) (fun jh0 => ?_)
 ·
  clear H
  obtain ⟨m1, x1_0, x1_4, H, rfl⟩ := hS
  rcases m1 with _ | m1
  · rw [impl_ParseInt.j0] at H; cases H
  rw [impl_ParseInt.j0] at H
  refine gs (gs (rg (sv (EV.mv rfl) rfl (sv (EV.lns rfl) rfl (sv (EV.lss rfl rfl) rfl (sv (EV.mv rfl) rfl ?_))))))
  revert H; refine ifsI ?_ ?_ <;> intro c2 H
  ·
   refine ts 21 rfl (dT c2) (sk rfl (sk rfl (sk rfl (sv (EV.pt rfl rfl rfl) rfl (re (pr [0, 4, 25] [] [] rfl rfl rfl rfl (gt rfl rfl (gs (rg (sv (EV.as rfl) rfl (sv (EV.as rfl) rfl (re ?_))))))))))))
   cases H
   exact rt Try.func37 rfl (.tmp rfl (.tmp rfl .nil)) rfl [] [] rfl rfl rfl rfl rfl ⟨rfl, rfl, rfl⟩
  ·
   refine ts 21 rfl (dF c2) (sv (EV.mv rfl) rfl (sv (EV.lns rfl) rfl (sv (EV.gtr rfl rfl) rfl (sv (EV.pf rfl rfl rfl) rfl (re (pr [0, 4, 25] [] [] rfl rfl rfl rfl ?_))))))
   revert H; refine ifsI ?_ ?_ <;> intro c3 H
   ·
    refine gt rfl (dT c3) (gs (rg (sv (EV.as rfl) rfl (sv (EV.as rfl) rfl (re ?_)))))
    cases H
    exact rt Try.func37 rfl (.tmp rfl (.tmp rfl .nil)) rfl [] [] rfl rfl rfl rfl rfl ⟨rfl, rfl, rfl⟩
   ·
    refine gf rfl (dF c3) (gk (gs (rg (sv (EV.as rfl) rfl (re (gs (gs (rg (sv (EV.mv rfl) rfl (sv (EV.lns rfl) rfl (sv (EV.mv rfl) rfl (re (gb ?_)))))))))))))
    refine lo (fun kk S => ∃ (x3_0 : ByteArray) (x3_4 : ByteArray) (x3_5 : Int) (x3_27 : Int) (x3_28 : Int), kk ≤ m1 ∧ impl_ParseInt.l0 kk x3_0 x3_4 x3_5 x3_27 x3_28 = some (r0, r1) ∧ S = ⟨[(0, .string x3_0), (4, .string x3_4), (5, .int .i64 x3_5), (27, .int .i64 x3_27), (28, .int .i64 x3_28)], [], []⟩) (fun S hS => ?_) (fun n0 ih0 S hS => ?_) ⟨x1_0, x1_4, 0, (x1_4.size : Int), 0, by omega, H, rfl⟩ (fun h => wk [0, 4, 5, 27, 28] [] [] h)
    · clear H; obtain ⟨_, _, _, _, _, _, H, _⟩ := hS; rw [impl_ParseInt.l0] at H; cases H
    clear H
    obtain ⟨x3_0, x3_4, x3_5, x3_27, x3_28, lk0, H, rfl⟩ := hS
    rw [impl_ParseInt.l0] at H
    refine gs (rg (sv (EV.lss rfl rfl) rfl (re (gs ?_))))
    revert H; refine ifsI ?_ ?_ <;> intro c4 H
    ·
     refine gt rfl (dT c4) (gk (gs (gb (gs (rg (sv (EV.mv rfl) rfl (sv (EV.as rfl) rfl (re (gs (gs (rg (sv (EV.mv rfl) rfl (sv (EV.mv rfl) rfl ?_)))))))))))))
     revert H; refine ggI ?_; intro g5 H
     revert H; refine ggI ?_; intro g6 H
     refine sv (EV.is rfl rfl g5 g6) rfl (sv (EV.lss rfl rfl) rfl (sv (EV.mv rfl) rfl ?_))
     revert H; refine ifsI ?_ ?_ <;> intro c7 H
     ·
      refine ts 35 rfl (dT c7) (sk rfl (sk rfl (sk rfl (sk rfl (sv (EV.pt rfl rfl rfl) rfl (re (pr [0, 4, 5, 6, 27, 28, 40] [] [] rfl rfl rfl rfl (gt rfl rfl (gs (rg (sv (EV.as rfl) rfl (sv (EV.as rfl) rfl (re (pr [2, 3] [] [] rfl rfl rfl rfl ?_))))))))))))))
      cases H
      exact rt Try.func37 rfl (.tmp rfl (.tmp rfl .nil)) rfl [] [] rfl rfl rfl rfl rfl ⟨rfl, rfl, rfl⟩
     ·
      refine ts 35 rfl (dF c7) (sv (EV.mv rfl) rfl (sv (EV.mv rfl) rfl (sv (EV.is rfl rfl g5 g6) rfl (sv (EV.gtr rfl rfl) rfl (sv (EV.pf rfl rfl rfl) rfl (re (pr [0, 4, 5, 6, 27, 28, 36, 37, 38, 39, 40] [] [] rfl rfl rfl rfl ?_)))))))
      revert H; refine ifsI ?_ ?_ <;> intro c8 H
      ·
       refine gt rfl (dT c8) (gs (rg (sv (EV.as rfl) rfl (sv (EV.as rfl) rfl (re (pr [2, 3] [] [] rfl rfl rfl rfl ?_))))))
       cases H
       exact rt Try.func37 rfl (.tmp rfl (.tmp rfl .nil)) rfl [] [] rfl rfl rfl rfl rfl ⟨rfl, rfl, rfl⟩
      ·
       exact gf rfl (dF c8) (gk (rg (sv (EV.mv rfl) rfl (sv (EV.mul rfl rfl) rfl (sv (EV.mv rfl) rfl (sv (EV.mv rfl) rfl (sv (EV.is rfl rfl g5 g6) rfl (sv (EV.subk rfl rfl) rfl (sv (EV.cv (k' := .i64) rfl) rfl (sv (EV.add rfl rfl) rfl (sv (EV.as rfl) rfl (re (pr [0, 4, 5, 27, 28, 36, 37, 38, 39] [] [] rfl rfl rfl rfl (ge (rg (sv (EV.add rfl rfl) rfl (sv (EV.mv rfl) rfl (re (wk [0, 4, 5, 27, 28] [] [] (ih0 _ (by omega) _ ⟨x3_0, x3_4, wrap64 ((wrap64 (10 * x3_5)) + (IntKind.i64.wrap (IntKind.u8.wrap ((bt x3_4 x3_28) - 48)))), x3_27, wrap64 (x3_28 + 1), by omega, H, rfl⟩))))))))))))))))))))
    ·
     refine gf rfl (dF c4) (gx rfl ?_)
     refine jo (fun S => ∃ (m : Nat) (x5_0 : ByteArray) (x5_5 : Int), m ≤ n0 ∧ impl_ParseInt.j1 m x5_0 x5_5 = some (r0, r1) ∧ S = ⟨[(0, .string x5_0), (5, .int .i64 x5_5)], [], []⟩) (fun S hS => ?_) (fun jh1 => ?_)
     ·
      clear H
      obtain ⟨m9, x5_0, x5_5, lm9, H, rfl⟩ := hS
      rcases m9 with _ | m9
      · rw [impl_ParseInt.j1] at H; cases H
      rw [impl_ParseInt.j1] at H
      refine gs (gs (rg (sv (EV.mv rfl) rfl ?_)))
      revert H; refine bdI ?_; rintro t10 A10 H
      refine so rfl (op_call (impl_FormatInt.ok m9 x5_5 _ A10) [] 1 rfl rfl rfl rfl rfl ?_)
      rintro _ _ _ ⟨rfl, rfl, rfl⟩
      refine sv (EV.mv rfl) rfl (sv (EV.nes rfl rfl) rfl (re ?_))
      revert H; refine ifsI ?_ ?_ <;> intro c11 H
      ·
       refine gf rfl (nF c11) (gk (gs (rg (sv (EV.mv rfl) rfl (sv (EV.as rfl) rfl (sv (EV.as rfl) rfl (re (pr [2, 3] [] [] rfl rfl rfl rfl ?_))))))))
       cases H
       exact rt Try.func37 rfl (.tmp rfl (.tmp rfl .nil)) rfl [] [] rfl rfl rfl rfl rfl ⟨rfl, rfl, rfl⟩
      ·
       refine gt rfl (nT c11) (gs (rg (sv (EV.as rfl) rfl (sv (EV.as rfl) rfl (re (pr [2, 3] [] [] rfl rfl rfl rfl ?_))))))
       cases H
       exact rt Try.func37 rfl (.tmp rfl (.tmp rfl .nil)) rfl [] [] rfl rfl rfl rfl rfl ⟨rfl, rfl, rfl⟩
     ·
      refine gs (rg (sv (EV.mv rfl) rfl (sv (EV.lns rfl) rfl (sv (EV.mv rfl) rfl (sv (EV.lns rfl) rfl (sv (EV.lss rfl rfl) rfl (re (pr [0, 5, 54] [] [] rfl rfl rfl rfl ?_))))))))
      revert H; refine ifsI ?_ ?_ <;> intro c12 H
      ·
       exact gt rfl (dT c12) (rg (sv (EV.mv rfl) rfl (sv (EV.ng rfl) rfl (sv (EV.as rfl) rfl (re (wk [0, 5] [] [] (jh1 _ ⟨_, x3_0, wrap64 (-x3_5), by omega, H, rfl⟩)))))))
      ·
       exact gf rfl (dF c12) (gk (wk [0, 5] [] [] (jh1 _ ⟨_, x3_0, x3_5, by omega, H, rfl⟩)))
 ·
  refine gs (rg (sv (EV.mv rfl) rfl (sv (EV.lns rfl) rfl (sv (EV.gtr rfl rfl) rfl (sv (EV.mv rfl) rfl ?_)))))
  revert H; refine ifsI ?_ ?_ <;> intro c13 H
  ·
   refine ts 11 rfl (dT c13) (sv (EV.mv rfl) rfl ?_)
   revert H; refine ggI ?_; intro g14 H
   refine sv (EV.is rfl rfl dq g14) rfl (sv (EV.eql rfl rfl) rfl (sv (EV.pt rfl rfl rfl) rfl (re (pr [0, 4, 15] [] [] rfl rfl rfl rfl ?_))))
   revert H; refine ifsI ?_ ?_ <;> intro c15 H
   ·
    refine gt rfl (dT c15) (rg (sv (EV.mv rfl) rfl ?_))
    revert H; refine ggI ?_; intro g16 H
    exact sv (EV.ssl rfl rfl dq g16) rfl (sv (EV.as rfl) rfl (re (wk [0, 4] [] [] (jh0 _ ⟨_, a0, a0.extract (1 : Int).toNat a0.size, H, rfl⟩))))
   ·
    exact gf rfl (dF c15) (gk (wk [0, 4] [] [] (jh0 _ ⟨_, a0, a0, H, rfl⟩)))
  ·
   exact ts 11 rfl (dF c13) (sk rfl (sk rfl (sk rfl (sv (EV.pf rfl rfl rfl) rfl (re (pr [0, 4, 15] [] [] rfl rfl rfl rfl (gf rfl rfl (gk (wk [0, 4] [] [] (jh0 _ ⟨_, a0, a0, H, rfl⟩))))))))))
def impl_ParseRow.f (k : Nat) (a0 : ByteArray) : Option (Int × Int × Int × Bool) := (impl_cut.f k a0 46).bind fun t1 => (if (t1.length : Int) = 3 then (if 0 < (t1.length : Int) then ((impl_ParseInt.f k (rdOf ByteArray.empty t1 0)).bind fun bt4 => (if 1 < (t1.length : Int) then ((impl_ParseInt.f k (rdOf ByteArray.empty t1 1)).bind fun bt6 => (if 2 < (t1.length : Int) then ((impl_ParseInt.f k (rdOf ByteArray.empty t1 2)).bind fun bt8 => (if bt4.2 = true then (if bt6.2 = true then (if bt8.2 = true then ((impl_IsValidRow.f bt4.1 bt6.1 bt8.1).bind fun t12 => (if t12 = true then (some (bt4.1, bt6.1, bt8.1, true)) else (some (0, 0, 0, false)))) else (some (0, 0, 0, false))) else (some (0, 0, 0, false))) else (some (0, 0, 0, false)))) else none)) else none)) else none) else (some (0, 0, 0, false)))
set_option maxHeartbeats 4000000 in
set_option maxRecDepth 100000 in
theorem impl_ParseRow.ok (k : Nat) (a0 : ByteArray) (r0 : Int) (r1 : Int) (r2 : Int) (r3 : Bool) (H : impl_ParseRow.f k a0 = some (r0, r1, r2, r3)) : Fn Try.prog 73 [.string a0] [] [] (fun v bx en => v = .tuple #[.agg #[.int .i64 r0, .int .i64 r1, .int .i64 r2], .bool r3] ∧ bx = [] ∧ en = []) := by
 refine fn_ 60 Try.func73 rfl rfl rfl (fun base T w0 => ?_)
 rw [impl_ParseRow.f] at H
 refine gs (rg (so rfl (op_alloc (cs := [.int .i64 0, .int .i64 0, .int .i64 0]) (by kernel_rfl) rfl fun b2 => (sv (EV.as rfl) rfl (re (gs (rg (sv (EV.mv rfl) rfl ?_))))))))
 revert H; refine bdI ?_; rintro t1 A1 H
 refine so rfl (op_call (impl_cut.ok k a0 46 _ A1) [] 1 rfl rfl rfl rfl rfl ?_)
 rintro _ _ _ ⟨At1, ct1, rfl, rfl, rfl⟩
 refine sv (EV.as rfl) rfl (re (gs (gs (rg (sv (EV.mv rfl) rfl (sv (EV.ln rfl) rfl (sv (EV.neq rfl rfl) rfl (re (pr [2, 4, 16] [0] [0] rfl rfl rfl rfl ?_)))))))))
 revert H; refine ifsI ?_ ?_ <;> intro c2 H
 ·
  refine gf rfl (nF c2) (gk (gs (rg (sv (EV.mv rfl) rfl ?_))))
  revert H; refine ggI ?_; intro g3 H
  refine sv (EV.ix 0 rfl rfl rfl dq g3 rfl) rfl (sv (EV.le (v := .string (rdOf ByteArray.empty t1 0)) 0 0 none 0 ByteArray.empty rfl rfl rfl dq g3 rfl rfl rfl) rfl ?_)
  revert H; refine bdI ?_; rintro ⟨t4_0, t4_1⟩ A4 H
  refine so rfl (op_call (impl_ParseInt.ok k (rdOf ByteArray.empty t1 0) _ _ A4) [] 3 rfl rfl rfl rfl rfl ?_)
  rintro _ _ _ ⟨rfl, rfl, rfl⟩
  refine sv (EV.mv rfl) rfl (sv (EV.ex rfl rfl) rfl (sv (EV.ex rfl rfl) rfl (sv (EV.as rfl) rfl (sv (EV.as rfl) rfl (re (pr [2, 4, 5, 6] [0] [0] rfl rfl rfl rfl (gs (rg (sv (EV.mv rfl) rfl ?_)))))))))
  revert H; refine ggI ?_; intro g5 H
  refine sv (EV.ix 0 rfl rfl rfl dq g5 rfl) rfl (sv (EV.le (v := .string (rdOf ByteArray.empty t1 1)) 1 0 none 0 ByteArray.empty rfl rfl rfl dq g5 rfl rfl rfl) rfl ?_)
  revert H; refine bdI ?_; rintro ⟨t6_0, t6_1⟩ A6 H
  refine so rfl (op_call (impl_ParseInt.ok k (rdOf ByteArray.empty t1 1) _ _ A6) [] 3 rfl rfl rfl rfl rfl ?_)
  rintro _ _ _ ⟨rfl, rfl, rfl⟩
  refine sv (EV.mv rfl) rfl (sv (EV.ex rfl rfl) rfl (sv (EV.ex rfl rfl) rfl (sv (EV.as rfl) rfl (sv (EV.as rfl) rfl (re (pr [2, 4, 5, 6, 7, 8] [0] [0] rfl rfl rfl rfl (gs (rg (sv (EV.mv rfl) rfl ?_)))))))))
  revert H; refine ggI ?_; intro g7 H
  refine sv (EV.ix 0 rfl rfl rfl dq g7 rfl) rfl (sv (EV.le (v := .string (rdOf ByteArray.empty t1 2)) 2 0 none 0 ByteArray.empty rfl rfl rfl dq g7 rfl rfl rfl) rfl ?_)
  revert H; refine bdI ?_; rintro ⟨t8_0, t8_1⟩ A8 H
  refine so rfl (op_call (impl_ParseInt.ok k (rdOf ByteArray.empty t1 2) _ _ A8) [] 3 rfl rfl rfl rfl rfl ?_)
  rintro _ _ _ ⟨rfl, rfl, rfl⟩
  refine sv (EV.mv rfl) rfl (sv (EV.ex rfl rfl) rfl (sv (EV.ex rfl rfl) rfl (sv (EV.as rfl) rfl (sv (EV.as rfl) rfl (re (pr [2, 5, 6, 7, 8, 9, 10] [0] [] rfl rfl rfl rfl (gs (rg (sv (EV.mv rfl) rfl (sv (EV.mv rfl) rfl (sv (EV.mv rfl) rfl (sv (EV.bd (v := .agg #[.int .i64 t4_0, .int .i64 t6_0, .int .i64 t8_0]) rfl (by kernel_rfl)) rfl (so rfl (op_alloc (cs := [.int .i64 0, .int .i64 0, .int .i64 0]) (by kernel_rfl) rfl fun b11 => (so rfl (op_st (cs' := [.int .i64 t4_0, .int .i64 t6_0, .int .i64 t8_0]) 1 rfl rfl rfl rfl rfl rfl (re (pr [2, 6, 8, 10, 11] [0, 1] [] rfl rfl rfl rfl (gs (gs (rg (sv (EV.mv rfl) rfl (sv (EV.nt rfl) rfl (sv (EV.mv rfl) rfl ?_))))))))))))))))))))))))
  revert H; refine ifsI ?_ ?_ <;> intro c9 H
  ·
   subst c9
   refine ts 45 rfl rfl (sv (EV.mv rfl) rfl (sv (EV.nt rfl) rfl (sv (EV.pf rfl rfl rfl) rfl (sv (EV.mv rfl) rfl ?_))))
   revert H; refine ifsI ?_ ?_ <;> intro c10 H
   ·
    subst c10
    refine ts 49 rfl rfl (sv (EV.mv rfl) rfl (sv (EV.nt rfl) rfl (sv (EV.pf rfl rfl rfl) rfl (sv (EV.mv rfl) rfl ?_))))
    revert H; refine ifsI ?_ ?_ <;> intro c11 H
    ·
     subst c11
     refine ts 53 rfl rfl (sv (EV.ld (v := .agg #[.int .i64 t4_0, .int .i64 t6_0, .int .i64 t8_0]) 1 (some 3) rfl rfl rfl) rfl ?_)
     revert H; refine bdI ?_; rintro t12 A12 H
     refine so rfl (op_call (impl_IsValidRow.ok t4_0 t6_0 t8_0 _ A12) [] 1 rfl rfl rfl rfl rfl ?_)
     rintro _ _ _ ⟨rfl, rfl, rfl⟩
     refine sv (EV.nt rfl) rfl (sv (EV.pf rfl rfl rfl) rfl (re (pr [2, 11, 57] [0, 1] [] rfl rfl rfl rfl ?_)))
     revert H; refine ifsI ?_ ?_ <;> intro c13 H
     ·
      subst c13
      refine gf rfl rfl (gk (gs (rg (sv (EV.ld (v := .agg #[.int .i64 t4_0, .int .i64 t6_0, .int .i64 t8_0]) 1 (some 3) rfl rfl rfl) rfl (so rfl (op_st (cs' := [.int .i64 t4_0, .int .i64 t6_0, .int .i64 t8_0]) 0 rfl rfl rfl rfl rfl rfl (sv (EV.as rfl) rfl (re ?_))))))))
      cases H
      exact rt Try.func73 rfl (.cell 0 (some 3) rfl rfl rfl (.tmp rfl .nil)) rfl [] [] rfl rfl rfl rfl rfl ⟨rfl, rfl, rfl⟩
     ·
      have xc13 := bF c13; subst xc13
      refine gt rfl rfl (gs (rg (sv (EV.bd (v := .agg #[.int .i64 0, .int .i64 0, .int .i64 0]) rfl (by kernel_rfl)) rfl (so rfl (op_st (cs' := [.int .i64 0, .int .i64 0, .int .i64 0]) 0 rfl rfl rfl rfl rfl rfl (sv (EV.as rfl) rfl (re ?_)))))))
      cases H
      exact rt Try.func73 rfl (.cell 0 (some 3) rfl rfl rfl (.tmp rfl .nil)) rfl [] [] rfl rfl rfl rfl rfl ⟨rfl, rfl, rfl⟩
    ·
     have xc11 := bF c11; subst xc11
     refine ts 53 rfl rfl (sk rfl (sk rfl (sk rfl (sv (EV.pt rfl rfl rfl) rfl (re (pr [2, 11, 57] [0, 1] [] rfl rfl rfl rfl (gt rfl rfl (gs (rg (sv (EV.bd (v := .agg #[.int .i64 0, .int .i64 0, .int .i64 0]) rfl (by kernel_rfl)) rfl (so rfl (op_st (cs' := [.int .i64 0, .int .i64 0, .int .i64 0]) 0 rfl rfl rfl rfl rfl rfl (sv (EV.as rfl) rfl (re ?_))))))))))))))
     cases H
     exact rt Try.func73 rfl (.cell 0 (some 3) rfl rfl rfl (.tmp rfl .nil)) rfl [] [] rfl rfl rfl rfl rfl ⟨rfl, rfl, rfl⟩
   ·
    have xc10 := bF c10; subst xc10
    refine ts 49 rfl rfl (sk rfl (sk rfl (sv (EV.pt rfl rfl rfl) rfl (sv (EV.mv rfl) rfl (sk rfl (sk rfl (sk rfl (sv (EV.pt rfl rfl rfl) rfl (re (pr [2, 11, 57] [0, 1] [] rfl rfl rfl rfl (gt rfl rfl (gs (rg (sv (EV.bd (v := .agg #[.int .i64 0, .int .i64 0, .int .i64 0]) rfl (by kernel_rfl)) rfl (so rfl (op_st (cs' := [.int .i64 0, .int .i64 0, .int .i64 0]) 0 rfl rfl rfl rfl rfl rfl (sv (EV.as rfl) rfl (re ?_))))))))))))))))))
    cases H
    exact rt Try.func73 rfl (.cell 0 (some 3) rfl rfl rfl (.tmp rfl .nil)) rfl [] [] rfl rfl rfl rfl rfl ⟨rfl, rfl, rfl⟩
  ·
   have xc9 := bF c9; subst xc9
   refine ts 45 rfl rfl (sk rfl (sk rfl (sv (EV.pt rfl rfl rfl) rfl (sv (EV.mv rfl) rfl (sk rfl (sk rfl (sv (EV.pt rfl rfl rfl) rfl (sv (EV.mv rfl) rfl (sk rfl (sk rfl (sk rfl (sv (EV.pt rfl rfl rfl) rfl (re (pr [2, 11, 57] [0, 1] [] rfl rfl rfl rfl (gt rfl rfl (gs (rg (sv (EV.bd (v := .agg #[.int .i64 0, .int .i64 0, .int .i64 0]) rfl (by kernel_rfl)) rfl (so rfl (op_st (cs' := [.int .i64 0, .int .i64 0, .int .i64 0]) 0 rfl rfl rfl rfl rfl rfl (sv (EV.as rfl) rfl (re ?_))))))))))))))))))))))
   cases H
   exact rt Try.func73 rfl (.cell 0 (some 3) rfl rfl rfl (.tmp rfl .nil)) rfl [] [] rfl rfl rfl rfl rfl ⟨rfl, rfl, rfl⟩
 ·
  refine gt rfl (nT c2) (gs (rg (sv (EV.bd (v := .agg #[.int .i64 0, .int .i64 0, .int .i64 0]) rfl (by kernel_rfl)) rfl (so rfl (op_st (cs' := [.int .i64 0, .int .i64 0, .int .i64 0]) 0 rfl rfl rfl rfl rfl rfl (sv (EV.as rfl) rfl (re ?_)))))))
  cases H
  exact rt Try.func73 rfl (.cell 0 (some 3) rfl rfl rfl (.tmp rfl .nil)) rfl [] [] rfl rfl rfl rfl rfl ⟨rfl, rfl, rfl⟩
def impl_ParseRows.l0 : Nat → (List S72) → (List ByteArray) → Int → Int → Option ((List S72) × Bool)
 | 0, _, _, _, _ => none
 | k + 1, x2_4, x2_13, x2_14, x2_15 => if x2_15 < x2_14 then (if 0 ≤ x2_15 then (if x2_15 < (x2_13.length : Int) then ((impl_ParseRow.f k (rdOf ByteArray.empty x2_13 x2_15)).bind fun bt7 => (if bt7.2.2.2 = true then (if x2_4.length < 5864062014805 then (impl_ParseRows.l0 k (x2_4 ++ ([(⟨bt7.1, bt7.2.1, bt7.2.2.1⟩ : S72)] : List S72)) x2_13 x2_14 (wrap64 (x2_15 + 1))) else none) else (some ([], false)))) else none) else none) else ((impl_AreValidRows.f k x2_4).bind fun t12 => (if t12 = true then (some (x2_4, true)) else (some ([], false))))
def impl_ParseRows.f (k : Nat) (a0 : ByteArray) : Option ((List S72) × Bool) := if a0.toList = (⟨#[]⟩ : ByteArray).toList then (some ([], true)) else ((impl_cut.f k a0 32).bind fun t3 => (impl_ParseRows.l0 k [] t3 (t3.length : Int) 0))
set_option maxHeartbeats 4000000 in
set_option maxRecDepth 100000 in
theorem impl_ParseRows.ok (k : Nat) (a0 : ByteArray) (r0 : List S72) (r1 : Bool) (H : impl_ParseRows.f k a0 = some (r0, r1)) : Fn Try.prog 35 [.string a0] [] [] (fun v bx en => ∃ A0 c0, v = .tuple #[.slice A0 r0.length c0, .bool r1] ∧ bx = [] ∧ en = [.sl 2 k72 A0 c0 r0 1 true]) := by
 refine fn_ 35 Try.func35 rfl rfl rfl (fun base T w0 => ?_)
 rw [impl_ParseRows.f] at H
 refine gs (rg (sv (EV.as rfl) rfl (sv (EV.as rfl) rfl (re (gs (gs (rg (sv (EV.mv rfl) rfl (sv (EV.eqs rfl rfl) rfl (re ?_))))))))))
 revert H; refine ifsI ?_ ?_ <;> intro c1 H
 ·
  refine gt rfl (dT c1) (gs (rg (sv (EV.as rfl) rfl (sv (EV.as rfl) rfl (re (nil_ k72 1 dq ?_))))))
  cases H
  exact rt Try.func35 rfl (.tmp rfl (.tmp rfl .nil)) rfl [] [⟨0, 2, 1, true⟩] rfl rfl rfl rfl rfl ⟨_, _, rfl, rfl, rfl⟩
 ·
  refine gf rfl (dF c1) (gk (gs (rg (so rfl (op_lit (s := 3) (by_ := 24) k72 ([] : List S72) [] [] 1 [] rfl rfl rfl rfl rfl rfl rfl rfl rfl rfl rfl rfl rfl dq rfl fun A11_2 c11_2 => (sv (EV.as rfl) rfl (re (gs (gs (rg (sv (EV.mv rfl) rfl ?_)))))))))))
  revert H; refine bdI ?_; rintro t3 A3 H
  refine so rfl (op_call (impl_cut.ok k a0 32 _ A3) [] 2 rfl rfl rfl rfl rfl ?_)
  rintro _ _ _ ⟨At3, ct3, rfl, rfl, rfl⟩
  refine sv (EV.ln rfl) rfl (sv (EV.mv rfl) rfl (re (pr [4, 13, 14, 15] [] [0, 1] rfl rfl rfl rfl (gb ?_))))
  refine lo (fun kk S => ∃ (x2_4 : List S72) (Ax2_4 : Option Addr) (cx2_4 : Nat) (x2_13 : List ByteArray) (Ax2_13 : Option Addr) (cx2_13 : Nat) (x2_14 : Int) (x2_15 : Int), impl_ParseRows.l0 kk x2_4 x2_13 x2_14 x2_15 = some (r0, r1) ∧ S = ⟨[(4, .slice Ax2_4 x2_4.length cx2_4), (13, .slice Ax2_13 x2_13.length cx2_13), (14, .int .i64 x2_14), (15, .int .i64 x2_15)], [], [.sl 2 k72 Ax2_4 cx2_4 x2_4 1 true, .sl 2 .str Ax2_13 cx2_13 x2_13 2 true]⟩) (fun S hS => ?_) (fun n0 ih0 S hS => ?_) ⟨[], A11_2, c11_2, t3, At3, ct3, (t3.length : Int), 0, H, rfl⟩ (fun h => wk [4, 13, 14, 15] [] [⟨0, 2, 1, true⟩, ⟨1, 2, 2, true⟩] h)
  · clear H; obtain ⟨_, _, _, _, _, _, _, _, H, _⟩ := hS; rw [impl_ParseRows.l0] at H; cases H
  clear H
  obtain ⟨x2_4, Ax2_4, cx2_4, x2_13, Ax2_13, cx2_13, x2_14, x2_15, H, rfl⟩ := hS
  rw [impl_ParseRows.l0] at H
  refine gs (rg (sv (EV.lss rfl rfl) rfl (re (gs ?_))))
  revert H; refine ifsI ?_ ?_ <;> intro c4 H
  ·
   refine gt rfl (dT c4) (gk (gs (gb (gs (rg ?_)))))
   revert H; refine ggI ?_; intro g5 H
   revert H; refine ggI ?_; intro g6 H
   refine sv (EV.ix 1 rfl rfl rfl g5 g6 rfl) rfl (sv (EV.le (v := .string (rdOf ByteArray.empty x2_13 x2_15)) x2_15 0 none 1 ByteArray.empty rfl rfl rfl g5 g6 rfl rfl rfl) rfl (sv (EV.as rfl) rfl (re (gs (rg (sv (EV.mv rfl) rfl ?_))))))
   revert H; refine bdI ?_; rintro ⟨t7_0, t7_1, t7_2, t7_3⟩ A7 H
   refine so rfl (op_call (impl_ParseRow.ok n0 (rdOf ByteArray.empty x2_13 x2_15) _ _ _ _ A7) [] 3 rfl rfl rfl rfl rfl ?_)
   rintro _ _ _ ⟨rfl, rfl, rfl⟩
   refine sv (EV.mv rfl) rfl (sv (EV.ex rfl rfl) rfl (sv (EV.ex rfl rfl) rfl (so rfl (op_alloc (cs := [.int .i64 0, .int .i64 0, .int .i64 0]) (by kernel_rfl) rfl fun b7 => (so rfl (op_st (cs' := [.int .i64 t7_0, .int .i64 t7_1, .int .i64 t7_2]) 0 rfl rfl rfl rfl rfl rfl (sv (EV.as rfl) rfl (re (pr [4, 7, 8, 13, 14, 15] [0] [0, 1] rfl rfl rfl rfl (gs (gs (rg (sv (EV.mv rfl) rfl (sv (EV.nt rfl) rfl (re ?_)))))))))))))))
   revert H; refine ifsI ?_ ?_ <;> intro c8 H
   ·
    subst c8
    refine gf rfl rfl (gk (rg (sv (EV.mv rfl) rfl (sv (EV.ld (v := .agg #[.int .i64 t7_0, .int .i64 t7_1, .int .i64 t7_2]) 0 (some 3) rfl rfl rfl) rfl (so rfl (op_lit (s := 3) (by_ := 24) k72 ([(⟨t7_0, t7_1, t7_2⟩ : S72)] : List S72) [[]] [] 3 [.tmp 27] rfl rfl rfl rfl rfl rfl rfl rfl rfl rfl rfl rfl rfl dq rfl fun A28_9 c28_9 => ?_))))))
    revert H; refine ggI ?_; intro g10 H
    exact so rfl (op_app (k := k72) (s := 3) (by_ := 24) 0 2 rfl rfl rfl rfl (ap1 g10 dq) (ap1n g10 dq) (.inl rfl) true (fun _ => .inl rfl) rfl rfl fun A29_11 c29_11 => (nmE (en := [.sl 2 .str Ax2_13 cx2_13 x2_13 2 true, .sl 2 k72 A28_9 c28_9 ([(⟨t7_0, t7_1, t7_2⟩ : S72)] : List S72) 3 true, .sl 2 k72 A29_11 c29_11 (x2_4 ++ ([(⟨t7_0, t7_1, t7_2⟩ : S72)] : List S72)) 1 true]) (by kernel_rfl) (sv (EV.as rfl) rfl (re (pr [4, 13, 14, 15] [] [0, 2] rfl rfl rfl rfl (ge (rg (sv (EV.add rfl rfl) rfl (sv (EV.mv rfl) rfl (re (wk [4, 13, 14, 15] [] [⟨1, 2, 1, true⟩, ⟨0, 2, 2, true⟩] (ih0 _ (by omega) _ ⟨x2_4 ++ ([(⟨t7_0, t7_1, t7_2⟩ : S72)] : List S72), A29_11, c29_11, x2_13, Ax2_13, cx2_13, x2_14, wrap64 (x2_15 + 1), H, rfl⟩))))))))))))
   ·
    have xc8 := bF c8; subst xc8
    refine gt rfl rfl (gs (rg (sv (EV.as rfl) rfl (sv (EV.as rfl) rfl (re (pr [2, 3] [] [] rfl rfl rfl rfl (nil_ k72 1 dq ?_)))))))
    cases H
    exact rt Try.func35 rfl (.tmp rfl (.tmp rfl .nil)) rfl [] [⟨0, 2, 1, true⟩] rfl rfl rfl rfl rfl ⟨_, _, rfl, rfl, rfl⟩
  ·
   refine gf rfl (dF c4) (gx rfl (gs (gs (rg (sv (EV.mv rfl) rfl ?_)))))
   revert H; refine bdI ?_; rintro t12 A12 H
   refine so rfl (op_call (impl_AreValidRows.ok n0 x2_4 Ax2_4 cx2_4 _ A12) [⟨0, 0, 0, false⟩] 3 rfl rfl rfl rfl rfl ?_)
   rintro _ _ _ ⟨rfl, rfl, rfl⟩
   refine sv (EV.nt rfl) rfl (re (pr [4, 33] [] [0] rfl rfl rfl rfl ?_))
   revert H; refine ifsI ?_ ?_ <;> intro c13 H
   ·
    subst c13
    refine gf rfl rfl (gk (gs (rg (sv (EV.mv rfl) rfl (sv (EV.as rfl) rfl (sv (EV.as rfl) rfl (re ?_)))))))
    cases H
    exact rt Try.func35 rfl (.tmp rfl (.tmp rfl .nil)) rfl [] [⟨0, 2, 1, true⟩] rfl rfl rfl rfl rfl ⟨_, _, rfl, rfl, rfl⟩
   ·
    have xc13 := bF c13; subst xc13
    refine gt rfl rfl (gs (rg (sv (EV.as rfl) rfl (sv (EV.as rfl) rfl (re (nil_ k72 2 dq ?_))))))
    cases H
    exact rt Try.func35 rfl (.tmp rfl (.tmp rfl .nil)) rfl [] [⟨1, 2, 1, true⟩] rfl rfl rfl rfl rfl ⟨_, _, rfl, rfl, rfl⟩
def impl_ParseSorter_1.f (k : Nat) (a0 : ByteArray) (a1_0 : Bool) : Option ((List S72) × Bool) := (impl_ParseRows.f k a0).bind fun bt1 => (if a1_0 = true then (some (bt1.1, bt1.2)) else (some (bt1.1, false)))
set_option maxHeartbeats 4000000 in
set_option maxRecDepth 100000 in
theorem impl_ParseSorter_1.ok (k : Nat) (a0 : ByteArray) (b1001 : Nat) (a1_0 : Bool) (r0 : List S72) (r1 : Bool) (H : impl_ParseSorter_1.f k a0 a1_0 = some (r0, r1)) : Fn Try.prog 34 [.string a0, .pointer (some ⟨b1001, 0, none⟩)] [⟨b1001, 4, [.bool a1_0]⟩] [] (fun v bx en => ∃ A0 c0, v = .slice A0 r0.length c0 ∧ bx = [⟨b1001, 4, [.bool r1]⟩] ∧ en = [.sl 2 k72 A0 c0 r0 1 true]) := by
 refine fn_ 16 Try.func34 rfl rfl rfl (fun base T w0 => ?_)
 rw [impl_ParseSorter_1.f] at H
 refine gs (rg (sv (EV.as rfl) rfl (re (gs (rg (sv (EV.mv rfl) rfl ?_))))))
 revert H; refine bdI ?_; rintro ⟨t1_0, t1_1⟩ A1 H
 refine so rfl (op_call (impl_ParseRows.ok k a0 _ _ A1) [] 1 rfl rfl rfl rfl rfl ?_)
 rintro _ _ _ ⟨At1_0, ct1_0, rfl, rfl, rfl⟩
 refine sv (EV.mv rfl) rfl (sv (EV.ex rfl rfl) rfl (sv (EV.ex rfl rfl) rfl (sv (EV.as rfl) rfl (sv (EV.as rfl) rfl (re (pr [1, 4, 5] [0] [0] rfl rfl rfl rfl (gs (rg (sv (EV.ld 0 none rfl rfl rfl) rfl (sv (EV.mv rfl) rfl ?_))))))))))
 revert H; refine ifsI ?_ ?_ <;> intro c2 H
 ·
  subst c2
  refine ts 12 rfl rfl (sv (EV.mv rfl) rfl (sv (EV.pt rfl rfl rfl) rfl (so rfl (op_st (cs' := [.bool t1_1]) 0 rfl rfl rfl rfl rfl rfl (re (pr [4] [0] [0] rfl rfl rfl rfl (gs (rg (sv (EV.mv rfl) rfl (sv (EV.as rfl) rfl (re ?_)))))))))))
  cases H
  exact rt Try.func34 rfl (.tmp rfl .nil) rfl [0] [⟨0, 2, 1, true⟩] rfl rfl rfl rfl rfl ⟨_, _, rfl, rfl, rfl⟩
 ·
  have xc2 := bF c2; subst xc2
  refine ts 12 rfl rfl (sk rfl (sv (EV.pf rfl rfl rfl) rfl (so rfl (op_st (cs' := [.bool false]) 0 rfl rfl rfl rfl rfl rfl (re (pr [4] [0] [0] rfl rfl rfl rfl (gs (rg (sv (EV.mv rfl) rfl (sv (EV.as rfl) rfl (re ?_)))))))))))
  cases H
  exact rt Try.func34 rfl (.tmp rfl .nil) rfl [0] [⟨0, 2, 1, true⟩] rfl rfl rfl rfl rfl ⟨_, _, rfl, rfl, rfl⟩
def impl_ParseSorter_2.f (k : Nat) (a0 : ByteArray) (a1_0 : Bool) : Option (Int × Bool) := (impl_ParseInt.f k a0).bind fun bt1 => (if a1_0 = true then (some (bt1.1, bt1.2)) else (some (bt1.1, false)))
set_option maxHeartbeats 4000000 in
set_option maxRecDepth 100000 in
theorem impl_ParseSorter_2.ok (k : Nat) (a0 : ByteArray) (b1001 : Nat) (a1_0 : Bool) (r0 : Int) (r1 : Bool) (H : impl_ParseSorter_2.f k a0 a1_0 = some (r0, r1)) : Fn Try.prog 36 [.string a0, .pointer (some ⟨b1001, 0, none⟩)] [⟨b1001, 4, [.bool a1_0]⟩] [] (fun v bx en => v = .int .i64 r0 ∧ bx = [⟨b1001, 4, [.bool r1]⟩] ∧ en = []) := by
 refine fn_ 16 Try.func36 rfl rfl rfl (fun base T w0 => ?_)
 rw [impl_ParseSorter_2.f] at H
 refine gs (rg (sv (EV.as rfl) rfl (re (gs (rg (sv (EV.mv rfl) rfl ?_))))))
 revert H; refine bdI ?_; rintro ⟨t1_0, t1_1⟩ A1 H
 refine so rfl (op_call (impl_ParseInt.ok k a0 _ _ A1) [] 1 rfl rfl rfl rfl rfl ?_)
 rintro _ _ _ ⟨rfl, rfl, rfl⟩
 refine sv (EV.mv rfl) rfl (sv (EV.ex rfl rfl) rfl (sv (EV.ex rfl rfl) rfl (sv (EV.as rfl) rfl (sv (EV.as rfl) rfl (re (pr [1, 4, 5] [0] [] rfl rfl rfl rfl (gs (rg (sv (EV.ld 0 none rfl rfl rfl) rfl (sv (EV.mv rfl) rfl ?_))))))))))
 revert H; refine ifsI ?_ ?_ <;> intro c2 H
 ·
  subst c2
  refine ts 12 rfl rfl (sv (EV.mv rfl) rfl (sv (EV.pt rfl rfl rfl) rfl (so rfl (op_st (cs' := [.bool t1_1]) 0 rfl rfl rfl rfl rfl rfl (re (pr [4] [0] [] rfl rfl rfl rfl (gs (rg (sv (EV.mv rfl) rfl (sv (EV.as rfl) rfl (re ?_)))))))))))
  cases H
  exact rt Try.func36 rfl (.tmp rfl .nil) rfl [0] [] rfl rfl rfl rfl rfl ⟨rfl, rfl, rfl⟩
 ·
  have xc2 := bF c2; subst xc2
  refine ts 12 rfl rfl (sk rfl (sv (EV.pf rfl rfl rfl) rfl (so rfl (op_st (cs' := [.bool false]) 0 rfl rfl rfl rfl rfl rfl (re (pr [4] [0] [] rfl rfl rfl rfl (gs (rg (sv (EV.mv rfl) rfl (sv (EV.as rfl) rfl (re ?_)))))))))))
  cases H
  exact rt Try.func36 rfl (.tmp rfl .nil) rfl [0] [] rfl rfl rfl rfl rfl ⟨rfl, rfl, rfl⟩
def impl_parseRuns.l0 : Nat → (List S57) → (List ByteArray) → Int → Int → Option ((List S57) × Bool)
 | 0, _, _, _, _ => none
 | k + 1, x2_4, x2_13, x2_14, x2_15 => if x2_15 < x2_14 then (if 0 ≤ x2_15 then (if x2_15 < (x2_13.length : Int) then ((impl_ParseRows.f k (rdOf ByteArray.empty x2_13 x2_15)).bind fun bt7 => (if bt7.2 = true then (if x2_4.length < 5864062014805 then (impl_parseRuns.l0 k (x2_4 ++ ([(⟨bt7.1⟩ : S57)] : List S57)) x2_13 x2_14 (wrap64 (x2_15 + 1))) else none) else (some ([], false)))) else none) else none) else (some (x2_4, true))
def impl_parseRuns.f (k : Nat) (a0 : ByteArray) : Option ((List S57) × Bool) := if a0.toList = (⟨#[]⟩ : ByteArray).toList then (some ([], true)) else ((impl_cut.f k a0 124).bind fun t3 => (impl_parseRuns.l0 k [] t3 (t3.length : Int) 0))
set_option maxHeartbeats 4000000 in
set_option maxRecDepth 100000 in
theorem impl_parseRuns.ok (k : Nat) (a0 : ByteArray) (r0 : List S57) (r1 : Bool) (H : impl_parseRuns.f k a0 = some (r0, r1)) : Fn Try.prog 38 [.string a0] [] [] (fun v bx en => ∃ A0 c0, v = .tuple #[.slice A0 r0.length c0, .bool r1] ∧ bx = [] ∧ en = [.sl 2 k57 A0 c0 r0 1 true]) := by
 refine fn_ 33 Try.func38 rfl rfl rfl (fun base T w0 => ?_)
 rw [impl_parseRuns.f] at H
 refine gs (rg (sv (EV.as rfl) rfl (sv (EV.as rfl) rfl (re (gs (gs (rg (sv (EV.mv rfl) rfl (sv (EV.eqs rfl rfl) rfl (re ?_))))))))))
 revert H; refine ifsI ?_ ?_ <;> intro c1 H
 ·
  refine gt rfl (dT c1) (gs (rg (sv (EV.as rfl) rfl (sv (EV.as rfl) rfl (re (nil_ k57 1 dq ?_))))))
  cases H
  exact rt Try.func38 rfl (.tmp rfl (.tmp rfl .nil)) rfl [] [⟨0, 2, 1, true⟩] rfl rfl rfl rfl rfl ⟨_, _, rfl, rfl, rfl⟩
 ·
  refine gf rfl (dF c1) (gk (gs (rg (so rfl (op_lit (s := 1) (by_ := 24) k57 ([] : List S57) [] [] 1 [] rfl rfl rfl rfl rfl rfl rfl rfl rfl rfl rfl rfl rfl dq rfl fun A11_2 c11_2 => (sv (EV.as rfl) rfl (re (gs (gs (rg (sv (EV.mv rfl) rfl ?_)))))))))))
  revert H; refine bdI ?_; rintro t3 A3 H
  refine so rfl (op_call (impl_cut.ok k a0 124 _ A3) [] 2 rfl rfl rfl rfl rfl ?_)
  rintro _ _ _ ⟨At3, ct3, rfl, rfl, rfl⟩
  refine sv (EV.ln rfl) rfl (sv (EV.mv rfl) rfl (re (pr [4, 13, 14, 15] [] [0, 1] rfl rfl rfl rfl (gb ?_))))
  refine lo (fun kk S => ∃ (x2_4 : List S57) (Ax2_4 : Option Addr) (cx2_4 : Nat) (x2_13 : List ByteArray) (Ax2_13 : Option Addr) (cx2_13 : Nat) (x2_14 : Int) (x2_15 : Int), impl_parseRuns.l0 kk x2_4 x2_13 x2_14 x2_15 = some (r0, r1) ∧ S = ⟨[(4, .slice Ax2_4 x2_4.length cx2_4), (13, .slice Ax2_13 x2_13.length cx2_13), (14, .int .i64 x2_14), (15, .int .i64 x2_15)], [], [.sl 2 k57 Ax2_4 cx2_4 x2_4 1 true, .sl 2 .str Ax2_13 cx2_13 x2_13 2 true]⟩) (fun S hS => ?_) (fun n0 ih0 S hS => ?_) ⟨[], A11_2, c11_2, t3, At3, ct3, (t3.length : Int), 0, H, rfl⟩ (fun h => wk [4, 13, 14, 15] [] [⟨0, 2, 1, true⟩, ⟨1, 2, 2, true⟩] h)
  · clear H; obtain ⟨_, _, _, _, _, _, _, _, H, _⟩ := hS; rw [impl_parseRuns.l0] at H; cases H
  clear H
  obtain ⟨x2_4, Ax2_4, cx2_4, x2_13, Ax2_13, cx2_13, x2_14, x2_15, H, rfl⟩ := hS
  rw [impl_parseRuns.l0] at H
  refine gs (rg (sv (EV.lss rfl rfl) rfl (re (gs ?_))))
  revert H; refine ifsI ?_ ?_ <;> intro c4 H
  ·
   refine gt rfl (dT c4) (gk (gs (gb (gs (rg ?_)))))
   revert H; refine ggI ?_; intro g5 H
   revert H; refine ggI ?_; intro g6 H
   refine sv (EV.ix 1 rfl rfl rfl g5 g6 rfl) rfl (sv (EV.le (v := .string (rdOf ByteArray.empty x2_13 x2_15)) x2_15 0 none 1 ByteArray.empty rfl rfl rfl g5 g6 rfl rfl rfl) rfl (sv (EV.as rfl) rfl (re (gs (rg (sv (EV.mv rfl) rfl ?_))))))
   revert H; refine bdI ?_; rintro ⟨t7_0, t7_1⟩ A7 H
   refine so rfl (op_call (impl_ParseRows.ok n0 (rdOf ByteArray.empty x2_13 x2_15) _ _ A7) [] 3 rfl rfl rfl rfl rfl ?_)
   rintro _ _ _ ⟨At7_0, ct7_0, rfl, rfl, rfl⟩
   refine sv (EV.mv rfl) rfl (sv (EV.ex rfl rfl) rfl (sv (EV.ex rfl rfl) rfl (sv (EV.as rfl) rfl (sv (EV.as rfl) rfl (re (pr [4, 7, 8, 13, 14, 15] [] [0, 1, 2] rfl rfl rfl rfl (gs (gs (rg (sv (EV.mv rfl) rfl (sv (EV.nt rfl) rfl (re ?_))))))))))))
   revert H; refine ifsI ?_ ?_ <;> intro c8 H
   ·
    subst c8
    refine gf rfl rfl (gk (rg (sv (EV.mv rfl) rfl (sv (EV.mv rfl) rfl (sv (EV.bd (v := .agg #[.slice At7_0 t7_0.length ct7_0]) rfl (by kernel_rfl)) rfl (so rfl (op_lit (s := 1) (by_ := 24) k57 ([(⟨t7_0⟩ : S57)] : List S57) [[(At7_0, ct7_0)]] [2] 5 [.tmp 28] rfl rfl rfl rfl rfl rfl rfl rfl rfl rfl rfl rfl rfl dq rfl fun A29_9 c29_9 => (nmE (en := [.sl 2 k57 Ax2_4 cx2_4 x2_4 1 true, .sl 2 .str Ax2_13 cx2_13 x2_13 2 true, .sl 2 k72 At7_0 ct7_0 t7_0 5 true, .sl 2 k57 A29_9 c29_9 ([(⟨t7_0⟩ : S57)] : List S57) 5 true]) (by kernel_rfl) ?_))))))))
    revert H; refine ggI ?_; intro g10 H
    exact so rfl (op_app (k := k57) (s := 1) (by_ := 24) 0 3 rfl rfl rfl rfl (ap1 g10 dq) (ap1n g10 dq) (.inr ⟨dq, dq, rfl, dq⟩) true (fun _ => .inr ⟨rfl, rfl, dq⟩) rfl rfl fun A30_11 c30_11 => (nmE (en := [.sl 2 .str Ax2_13 cx2_13 x2_13 2 true, .sl 2 k72 At7_0 ct7_0 t7_0 1 true, .sl 2 k57 A29_9 c29_9 ([(⟨t7_0⟩ : S57)] : List S57) 1 true, .sl 2 k57 A30_11 c30_11 (x2_4 ++ ([(⟨t7_0⟩ : S57)] : List S57)) 1 true]) (by kernel_rfl) (sv (EV.as rfl) rfl (re (pr [4, 13, 14, 15] [] [0, 3] rfl rfl rfl rfl (ge (rg (sv (EV.add rfl rfl) rfl (sv (EV.mv rfl) rfl (re (wk [4, 13, 14, 15] [] [⟨1, 2, 1, true⟩, ⟨0, 2, 2, true⟩] (ih0 _ (by omega) _ ⟨x2_4 ++ ([(⟨t7_0⟩ : S57)] : List S57), A30_11, c30_11, x2_13, Ax2_13, cx2_13, x2_14, wrap64 (x2_15 + 1), H, rfl⟩))))))))))))
   ·
    have xc8 := bF c8; subst xc8
    refine gt rfl rfl (gs (rg (sv (EV.as rfl) rfl (sv (EV.as rfl) rfl (re (pr [2, 3] [] [] rfl rfl rfl rfl (nil_ k57 1 dq ?_)))))))
    cases H
    exact rt Try.func38 rfl (.tmp rfl (.tmp rfl .nil)) rfl [] [⟨0, 2, 1, true⟩] rfl rfl rfl rfl rfl ⟨_, _, rfl, rfl, rfl⟩
  ·
   refine gf rfl (dF c4) (gx rfl (gs (rg (sv (EV.mv rfl) rfl (sv (EV.as rfl) rfl (sv (EV.as rfl) rfl (re (pr [2, 3] [] [0] rfl rfl rfl rfl ?_))))))))
   cases H
   exact rt Try.func38 rfl (.tmp rfl (.tmp rfl .nil)) rfl [] [⟨0, 2, 1, true⟩] rfl rfl rfl rfl rfl ⟨_, _, rfl, rfl, rfl⟩
mutual
def impl_joined.j0 : Nat → ByteArray → ByteArray → ByteArray → Int → Int → (List ByteArray) → Option (ByteArray)
 | 0, _, _, _, _, _, _ => none
 | k + 1, x10_1, x10_5, x10_7, x10_9, x10_10, l0 => if x10_5.size + x10_7.size ≤ 9223372036854775807 then (impl_joined.l0 k x10_1 (x10_5 ++ x10_7) x10_9 (wrap64 (x10_10 + 1)) l0) else none
def impl_joined.l0 : Nat → ByteArray → ByteArray → Int → Int → (List ByteArray) → Option (ByteArray)
 | 0, _, _, _, _, _ => none
 | k + 1, x6_1, x6_5, x6_9, x6_10, l0 => if x6_10 < x6_9 then (if 0 ≤ x6_10 then (if x6_10 < (l0.length : Int) then (if x6_10 > 0 then (if x6_5.size + x6_1.size ≤ 9223372036854775807 then (impl_joined.j0 k x6_1 (x6_5 ++ x6_1) (rdOf ByteArray.empty l0 x6_10) x6_9 x6_10 l0) else none) else (impl_joined.j0 k x6_1 x6_5 (rdOf ByteArray.empty l0 x6_10) x6_9 x6_10 l0)) else none) else none) else (some x6_5)
end
def impl_joined.f (k : Nat) (l0 : List ByteArray) (a1 : ByteArray) : Option (ByteArray) := impl_joined.l0 k a1 (⟨#[]⟩ : ByteArray) (l0.length : Int) 0 l0
set_option maxHeartbeats 4000000 in
set_option maxRecDepth 100000 in
theorem impl_joined.ok (k : Nat) (l0 : List ByteArray) (Al0 : Option Addr) (cl0 : Nat) (a1 : ByteArray) (r0 : ByteArray) (H : impl_joined.f k l0 a1 = some r0) : Fn Try.prog 23 [.slice Al0 l0.length cl0, .string a1] [] [.sl 0 .str Al0 cl0 l0 0 false] (fun v bx en => v = .string r0 ∧ bx = [] ∧ en = []) := by
 refine fn_ 25 Try.func23 rfl rfl rfl (fun base T w0 => ?_)
 rw [impl_joined.f] at H
 refine gs (rg (sv (EV.as rfl) rfl (re (gs (rg (sv (EV.as rfl) rfl (re (gs (gs (rg (sv (EV.mv rfl) rfl (sv (EV.ln rfl) rfl (sv (EV.mv rfl) rfl (re (gb ?_)))))))))))))))
 refine lo (fun kk S => ∃ (x6_1 : ByteArray) (x6_5 : ByteArray) (x6_9 : Int) (x6_10 : Int), impl_joined.l0 kk x6_1 x6_5 x6_9 x6_10 l0 = some r0 ∧ S = ⟨[(1, .string x6_1), (5, .string x6_5), (8, .slice Al0 l0.length cl0), (9, .int .i64 x6_9), (10, .int .i64 x6_10)], [], [.sl 0 .str Al0 cl0 l0 0 false]⟩) (fun S hS => ?_) (fun n0 ih0 S hS => ?_) ⟨a1, (⟨#[]⟩ : ByteArray), (l0.length : Int), 0, H, rfl⟩ (fun h => wk [1, 5, 8, 9, 10] [] [⟨0, 0, 0, false⟩] h)
 · clear H; obtain ⟨_, _, _, _, H, _⟩ := hS; rw [impl_joined.l0] at H; cases H
 clear H
 obtain ⟨x6_1, x6_5, x6_9, x6_10, H, rfl⟩ := hS
 rw [impl_joined.l0] at H
 refine gs (rg (sv (EV.lss rfl rfl) rfl (re (gs ?_))))
 revert H; refine ifsI ?_ ?_ <;> intro c1 H
 ·
  refine gt rfl (dT c1) (gk (gs (gb (gs (rg (sv (EV.mv rfl) rfl ?_))))))
  revert H; refine ggI ?_; intro g2 H
  revert H; refine ggI ?_; intro g3 H
  refine sv (EV.ix 0 rfl rfl rfl g2 g3 rfl) rfl (sv (EV.le (v := .string (rdOf ByteArray.empty l0 x6_10)) x6_10 0 none 0 ByteArray.empty rfl rfl rfl g2 g3 rfl rfl rfl) rfl (sv (EV.as rfl) rfl (sv (EV.as rfl) rfl (re ?_))))
  refine jo (fun S => ∃ (m : Nat) (x10_1 : ByteArray) (x10_5 : ByteArray) (x10_7 : ByteArray) (x10_9 : Int) (x10_10 : Int), m ≤ n0 ∧ impl_joined.j0 m x10_1 x10_5 x10_7 x10_9 x10_10 l0 = some r0 ∧ S = ⟨[(1, .string x10_1), (5, .string x10_5), (7, .string x10_7), (8, .slice Al0 l0.length cl0), (9, .int .i64 x10_9), (10, .int .i64 x10_10)], [], [.sl 0 .str Al0 cl0 l0 0 false]⟩) (fun S hS => ?_) (fun jh0 => ?_)
  ·
   clear H
   obtain ⟨m4, x10_1, x10_5, x10_7, x10_9, x10_10, lm4, H, rfl⟩ := hS
   rcases m4 with _ | m4
   · rw [impl_joined.j0] at H; cases H
   rw [impl_joined.j0] at H
   refine rg (sv (EV.mv rfl) rfl (sv (EV.mv rfl) rfl ?_))
   revert H; refine ggI ?_; intro g5 H
   exact sv (EV.ads rfl rfl g5) rfl (sv (EV.as rfl) rfl (re (ge (rg (sv (EV.add rfl rfl) rfl (sv (EV.mv rfl) rfl (re (wk [1, 5, 8, 9, 10] [] [⟨0, 0, 0, false⟩] (ih0 _ (by omega) _ ⟨x10_1, x10_5 ++ x10_7, x10_9, wrap64 (x10_10 + 1), H, rfl⟩)))))))))
  ·
   refine gs (rg (sv (EV.mv rfl) rfl (sv (EV.gtr rfl rfl) rfl (re (pr [1, 5, 7, 8, 9, 10, 16] [] [0] rfl rfl rfl rfl ?_)))))
   revert H; refine ifsI ?_ ?_ <;> intro c6 H
   ·
    refine gt rfl (dT c6) (rg (sv (EV.mv rfl) rfl (sv (EV.mv rfl) rfl ?_)))
    revert H; refine ggI ?_; intro g7 H
    exact sv (EV.ads rfl rfl g7) rfl (sv (EV.as rfl) rfl (re (wk [1, 5, 7, 8, 9, 10] [] [⟨0, 0, 0, false⟩] (jh0 _ ⟨_, x6_1, x6_5 ++ x6_1, rdOf ByteArray.empty l0 x6_10, x6_9, x6_10, by omega, H, rfl⟩))))
   ·
    exact gf rfl (dF c6) (gk (wk [1, 5, 7, 8, 9, 10] [] [⟨0, 0, 0, false⟩] (jh0 _ ⟨_, x6_1, x6_5, rdOf ByteArray.empty l0 x6_10, x6_9, x6_10, by omega, H, rfl⟩)))
 ·
  refine gf rfl (dF c1) (gx rfl (gs (rg (sv (EV.mv rfl) rfl (sv (EV.as rfl) rfl (re (pr [4] [] [] rfl rfl rfl rfl ?_)))))))
  cases H
  exact rt Try.func23 rfl (.tmp rfl .nil) rfl [] [] rfl rfl rfl rfl rfl ⟨rfl, rfl, rfl⟩
def impl_FormatRow.f (k : Nat) (a0_0 : Int) (a0_1 : Int) (a0_2 : Int) : Option (ByteArray) := (impl_IsValidRow.f a0_0 a0_1 a0_2).bind fun t1 => (if t1 = true then ((impl_FormatInt.f k a0_0).bind fun t3 => (if t3.size + (⟨#[46]⟩ : ByteArray).size ≤ 9223372036854775807 then ((impl_FormatInt.f k a0_1).bind fun t5 => (if (t3 ++ (⟨#[46]⟩ : ByteArray)).size + t5.size ≤ 9223372036854775807 then (if ((t3 ++ (⟨#[46]⟩ : ByteArray)) ++ t5).size + (⟨#[46]⟩ : ByteArray).size ≤ 9223372036854775807 then ((impl_FormatInt.f k a0_2).bind fun t8 => (if (((t3 ++ (⟨#[46]⟩ : ByteArray)) ++ t5) ++ (⟨#[46]⟩ : ByteArray)).size + t8.size ≤ 9223372036854775807 then (some ((((t3 ++ (⟨#[46]⟩ : ByteArray)) ++ t5) ++ (⟨#[46]⟩ : ByteArray)) ++ t8)) else none)) else none) else none)) else none)) else (some (⟨#[]⟩ : ByteArray)))
set_option maxHeartbeats 4000000 in
set_option maxRecDepth 100000 in
theorem impl_FormatRow.ok (k : Nat) (a0_0 : Int) (a0_1 : Int) (a0_2 : Int) (r0 : ByteArray) (H : impl_FormatRow.f k a0_0 a0_1 a0_2 = some r0) : Fn Try.prog 69 [.agg #[.int .i64 a0_0, .int .i64 a0_1, .int .i64 a0_2]] [] [] (fun v bx en => v = .string r0 ∧ bx = [] ∧ en = []) := by
 refine fn_ 19 Try.func69 rfl rfl rfl (fun base T w0 => ?_)
 rw [impl_FormatRow.f] at H
 refine gs (rg (so rfl (op_box (cs := [.int .i64 a0_0, .int .i64 a0_1, .int .i64 a0_2]) rfl rfl rfl fun b1 => (sv (EV.as rfl) rfl (re (gs (gs (rg (sv (EV.ld (v := .agg #[.int .i64 a0_0, .int .i64 a0_1, .int .i64 a0_2]) 0 (some 3) rfl rfl rfl) rfl ?_)))))))))
 revert H; refine bdI ?_; rintro t1 A1 H
 refine so rfl (op_call (impl_IsValidRow.ok a0_0 a0_1 a0_2 _ A1) [] 1 rfl rfl rfl rfl rfl ?_)
 rintro _ _ _ ⟨rfl, rfl, rfl⟩
 refine sv (EV.nt rfl) rfl (re ?_)
 revert H; refine ifsI ?_ ?_ <;> intro c2 H
 ·
  subst c2
  refine gf rfl rfl (gk (gs (dr [0] [] [] 14 rfl rfl rfl rfl (xv 0 [0] [] rfl (EV.fa 0 rfl) rfl rfl rfl rfl (xv 1 [0] [] rfl (EV.ld 0 none rfl rfl rfl) rfl rfl rfl rfl (xv 4 [0] [] rfl (EV.fa 1 rfl) rfl rfl rfl rfl (xv 5 [0] [] rfl (EV.ld 0 none rfl rfl rfl) rfl rfl rfl rfl (xv 9 [0] [] rfl (EV.fa 2 rfl) rfl rfl rfl rfl (xv 10 [0] [] rfl (EV.ld 0 none rfl rfl rfl) rfl rfl rfl rfl (one1 2 rfl rfl ?_))))))))))
  revert H; refine bdI ?_; rintro t3 A3 H
  refine op_call (impl_FormatInt.ok k a0_0 _ A3) [] 1 rfl rfl rfl rfl rfl ?_
  rintro _ _ _ ⟨rfl, rfl, rfl⟩
  refine xs [0] [] rfl rfl rfl ?_
  revert H; refine ggI ?_; intro g4 H
  refine xv 3 [0] [] rfl (EV.ads rfl rfl g4) rfl rfl rfl rfl (one1 6 rfl rfl ?_)
  revert H; refine bdI ?_; rintro t5 A5 H
  refine op_call (impl_FormatInt.ok k a0_1 _ A5) [] 1 rfl rfl rfl rfl rfl ?_
  rintro _ _ _ ⟨rfl, rfl, rfl⟩
  refine xs [0] [] rfl rfl rfl ?_
  revert H; refine ggI ?_; intro g6 H
  refine xv 7 [0] [] rfl (EV.ads rfl rfl g6) rfl rfl rfl rfl ?_
  revert H; refine ggI ?_; intro g7 H
  refine xv 8 [0] [] rfl (EV.ads rfl rfl g7) rfl rfl rfl rfl (one1 11 rfl rfl ?_)
  revert H; refine bdI ?_; rintro t8 A8 H
  refine op_call (impl_FormatInt.ok k a0_2 _ A8) [] 1 rfl rfl rfl rfl rfl ?_
  rintro _ _ _ ⟨rfl, rfl, rfl⟩
  refine xs [0] [] rfl rfl rfl ?_
  revert H; refine ggI ?_; intro g9 H
  refine xv 12 [0] [] rfl (EV.ads rfl rfl g9) rfl rfl rfl rfl (xv 13 [0] [] rfl (EV.as rfl) rfl rfl rfl rfl (xd (pr [2] [] [] rfl rfl rfl rfl ?_)))
  cases H
  exact rt Try.func69 rfl (.tmp rfl .nil) rfl [] [] rfl rfl rfl rfl rfl ⟨rfl, rfl, rfl⟩
 ·
  have xc2 := bF c2; subst xc2
  refine gt rfl rfl (gs (rg (sv (EV.as rfl) rfl (re ?_))))
  cases H
  exact rt Try.func69 rfl (.tmp rfl .nil) rfl [] [] rfl rfl rfl rfl rfl ⟨rfl, rfl, rfl⟩
def impl_rowTexts.l0 : Nat → (List ByteArray) → Int → Int → (List S72) → Option (ByteArray)
 | 0, _, _, _, _ => none
 | k + 1, x2_3, x2_8, x2_9, l0 => if x2_9 < x2_8 then (if 0 ≤ x2_9 then (if x2_9 < (l0.length : Int) then ((impl_FormatRow.f k ((rd_T72 l0 x2_9).f0) ((rd_T72 l0 x2_9).f1) ((rd_T72 l0 x2_9).f2)).bind fun t5 => (if x2_3.length < 8796093022208 then (impl_rowTexts.l0 k (x2_3 ++ ([t5] : List ByteArray)) x2_8 (wrap64 (x2_9 + 1)) l0) else none)) else none) else none) else ((impl_joined.f k x2_3 (⟨#[32]⟩ : ByteArray)).bind fun t9 => (some t9))
def impl_rowTexts.f (k : Nat) (l0 : List S72) : Option (ByteArray) := impl_rowTexts.l0 k [] (l0.length : Int) 0 l0
set_option maxHeartbeats 4000000 in
set_option maxRecDepth 100000 in
theorem impl_rowTexts.ok (k : Nat) (l0 : List S72) (Al0 : Option Addr) (cl0 : Nat) (r0 : ByteArray) (H : impl_rowTexts.f k l0 = some r0) : Fn Try.prog 26 [.slice Al0 l0.length cl0] [] [.sl 0 k72 Al0 cl0 l0 0 false] (fun v bx en => v = .string r0 ∧ bx = [] ∧ en = []) := by
 refine fn_ 21 Try.func26 rfl rfl rfl (fun base T w0 => ?_)
 rw [impl_rowTexts.f] at H
 refine gs (rg (sv (EV.as rfl) rfl (re (gs (rg (so rfl (op_lit (s := 1) (by_ := 16) .str ([] : List ByteArray) [] [] 1 [] rfl rfl rfl rfl rfl rfl rfl rfl rfl rfl rfl rfl rfl dq rfl fun A6_1 c6_1 => (sv (EV.as rfl) rfl (re (gs (gs (rg (sv (EV.mv rfl) rfl (sv (EV.ln rfl) rfl (sv (EV.mv rfl) rfl (re (gb ?_)))))))))))))))))
 refine lo (fun kk S => ∃ (x2_3 : List ByteArray) (Ax2_3 : Option Addr) (cx2_3 : Nat) (x2_8 : Int) (x2_9 : Int), impl_rowTexts.l0 kk x2_3 x2_8 x2_9 l0 = some r0 ∧ S = ⟨[(3, .slice Ax2_3 x2_3.length cx2_3), (7, .slice Al0 l0.length cl0), (8, .int .i64 x2_8), (9, .int .i64 x2_9)], [], [.sl 2 .str Ax2_3 cx2_3 x2_3 1 true, .sl 0 k72 Al0 cl0 l0 0 false]⟩) (fun S hS => ?_) (fun n0 ih0 S hS => ?_) ⟨[], A6_1, c6_1, (l0.length : Int), 0, H, rfl⟩ (fun h => wk [3, 7, 8, 9] [] [⟨1, 2, 1, true⟩, ⟨0, 0, 0, false⟩] h)
 · clear H; obtain ⟨_, _, _, _, _, H, _⟩ := hS; rw [impl_rowTexts.l0] at H; cases H
 clear H
 obtain ⟨x2_3, Ax2_3, cx2_3, x2_8, x2_9, H, rfl⟩ := hS
 rw [impl_rowTexts.l0] at H
 refine gs (rg (sv (EV.lss rfl rfl) rfl (re (gs ?_))))
 revert H; refine ifsI ?_ ?_ <;> intro c2 H
 ·
  refine gt rfl (dT c2) (gk (gs (gb (gs (rg ?_)))))
  revert H; refine ggI ?_; intro g3 H
  revert H; refine ggI ?_; intro g4 H
  refine sv (EV.ix 1 rfl rfl rfl g3 g4 rfl) rfl (sv (EV.le (v := .agg #[.int .i64 ((rd_T72 l0 x2_9).f0), .int .i64 ((rd_T72 l0 x2_9).f1), .int .i64 ((rd_T72 l0 x2_9).f2)]) x2_9 0 (some 3) 1 z72 rfl rfl rfl g3 g4 rfl rfl rfl) rfl (so rfl (op_alloc (cs := [.int .i64 0, .int .i64 0, .int .i64 0]) (by kernel_rfl) rfl fun b5 => (so rfl (op_st (cs' := [.int .i64 ((rd_T72 l0 x2_9).f0), .int .i64 ((rd_T72 l0 x2_9).f1), .int .i64 ((rd_T72 l0 x2_9).f2)]) 0 rfl rfl rfl rfl rfl rfl (re (rg (sv (EV.mv rfl) rfl (sv (EV.ld (v := .agg #[.int .i64 ((rd_T72 l0 x2_9).f0), .int .i64 ((rd_T72 l0 x2_9).f1), .int .i64 ((rd_T72 l0 x2_9).f2)]) 0 (some 3) rfl rfl rfl) rfl ?_)))))))))
  revert H; refine bdI ?_; rintro t5 A5 H
  refine so rfl (op_call (impl_FormatRow.ok n0 ((rd_T72 l0 x2_9).f0) ((rd_T72 l0 x2_9).f1) ((rd_T72 l0 x2_9).f2) _ A5) [] 2 rfl rfl rfl rfl rfl ?_)
  rintro _ _ _ ⟨rfl, rfl, rfl⟩
  refine so rfl (op_lit (s := 1) (by_ := 16) .str ([t5] : List ByteArray) [[]] [] 2 [.tmp 15] rfl rfl rfl rfl rfl rfl rfl rfl rfl rfl rfl rfl rfl dq rfl fun A16_6 c16_6 => ?_)
  revert H; refine ggI ?_; intro g7 H
  exact so rfl (op_app (k := .str) (s := 1) (by_ := 16) 0 2 rfl rfl rfl rfl (ap1 g7 dq) (ap1n g7 dq) (.inl rfl) true (fun _ => .inl rfl) rfl rfl fun A17_8 c17_8 => (nmE (en := [.sl 0 k72 Al0 cl0 l0 0 false, .sl 2 .str A16_6 c16_6 ([t5] : List ByteArray) 2 true, .sl 2 .str A17_8 c17_8 (x2_3 ++ ([t5] : List ByteArray)) 1 true]) (by kernel_rfl) (sv (EV.as rfl) rfl (re (pr [3, 7, 8, 9] [] [0, 2] rfl rfl rfl rfl (ge (rg (sv (EV.add rfl rfl) rfl (sv (EV.mv rfl) rfl (re (wk [3, 7, 8, 9] [] [⟨1, 2, 1, true⟩, ⟨0, 0, 0, false⟩] (ih0 _ (by omega) _ ⟨x2_3 ++ ([t5] : List ByteArray), A17_8, c17_8, x2_8, wrap64 (x2_9 + 1), H, rfl⟩))))))))))))
 ·
  refine gf rfl (dF c2) (gx rfl (gs (rg (sv (EV.mv rfl) rfl ?_))))
  revert H; refine bdI ?_; rintro t9 A9 H
  refine so rfl (op_call (impl_joined.ok n0 x2_3 Ax2_3 cx2_3 (⟨#[32]⟩ : ByteArray) _ A9) [⟨0, 0, 0, false⟩] 2 rfl rfl rfl rfl rfl ?_)
  rintro _ _ _ ⟨rfl, rfl, rfl⟩
  refine sv (EV.as rfl) rfl (re (pr [2] [] [] rfl rfl rfl rfl ?_))
  cases H
  exact rt Try.func26 rfl (.tmp rfl .nil) rfl [] [] rfl rfl rfl rfl rfl ⟨rfl, rfl, rfl⟩
def impl_FormatRows.f (k : Nat) (l0 : List S72) : Option (ByteArray) := (impl_AreValidRows.f k l0).bind fun t1 => (if t1 = true then ((impl_rowTexts.f k l0).bind fun t3 => (some t3)) else (some (⟨#[]⟩ : ByteArray)))
set_option maxHeartbeats 4000000 in
set_option maxRecDepth 100000 in
theorem impl_FormatRows.ok (k : Nat) (l0 : List S72) (Al0 : Option Addr) (cl0 : Nat) (r0 : ByteArray) (H : impl_FormatRows.f k l0 = some r0) : Fn Try.prog 24 [.slice Al0 l0.length cl0] [] [.sl 0 k72 Al0 cl0 l0 0 false] (fun v bx en => v = .string r0 ∧ bx = [] ∧ en = []) := by
 refine fn_ 8 Try.func24 rfl rfl rfl (fun base T w0 => ?_)
 rw [impl_FormatRows.f] at H
 refine gs (rg (sv (EV.as rfl) rfl (re (gs (gs (rg (sv (EV.mv rfl) rfl ?_)))))))
 revert H; refine bdI ?_; rintro t1 A1 H
 refine so rfl (op_call (impl_AreValidRows.ok k l0 Al0 cl0 _ A1) [⟨0, 0, 0, false⟩] 1 rfl rfl rfl rfl rfl ?_)
 rintro _ _ _ ⟨rfl, rfl, rfl⟩
 refine sv (EV.nt rfl) rfl (re ?_)
 revert H; refine ifsI ?_ ?_ <;> intro c2 H
 ·
  subst c2
  refine gf rfl rfl (gk (gs (rg (sv (EV.mv rfl) rfl ?_))))
  revert H; refine bdI ?_; rintro t3 A3 H
  refine so rfl (op_call (impl_rowTexts.ok k l0 Al0 cl0 _ A3) [⟨0, 0, 0, false⟩] 1 rfl rfl rfl rfl rfl ?_)
  rintro _ _ _ ⟨rfl, rfl, rfl⟩
  refine sv (EV.as rfl) rfl (re (pr [2] [] [] rfl rfl rfl rfl ?_))
  cases H
  exact rt Try.func24 rfl (.tmp rfl .nil) rfl [] [] rfl rfl rfl rfl rfl ⟨rfl, rfl, rfl⟩
 ·
  have xc2 := bF c2; subst xc2
  refine gt rfl rfl (gs (rg (sv (EV.as rfl) rfl (re ?_))))
  cases H
  exact rt Try.func24 rfl (.tmp rfl .nil) rfl [] [] rfl rfl rfl rfl rfl ⟨rfl, rfl, rfl⟩
def impl_FormatRuns.l0 : Nat → (List ByteArray) → Int → Int → (List S57) → Option (ByteArray)
 | 0, _, _, _, _ => none
 | k + 1, x2_3, x2_8, x2_9, l0 => if x2_9 < x2_8 then (if 0 ≤ x2_9 then (if x2_9 < (l0.length : Int) then ((impl_FormatRows.f k ((rd_T57 l0 x2_9).f0)).bind fun t6 => (if x2_3.length < 8796093022208 then (impl_FormatRuns.l0 k (x2_3 ++ ([t6] : List ByteArray)) x2_8 (wrap64 (x2_9 + 1)) l0) else none)) else none) else none) else ((impl_joined.f k x2_3 (⟨#[124]⟩ : ByteArray)).bind fun t10 => (some t10))
def impl_FormatRuns.f (k : Nat) (l0 : List S57) : Option (ByteArray) := impl_FormatRuns.l0 k [] (l0.length : Int) 0 l0
set_option maxHeartbeats 4000000 in
set_option maxRecDepth 100000 in
theorem impl_FormatRuns.ok (k : Nat) (l0 : List S57) (Al0 : Option Addr) (cl0 : Nat) (r0 : ByteArray) (H : impl_FormatRuns.f k l0 = some r0) : Fn Try.prog 27 [.slice Al0 l0.length cl0] [] [.sl 0 k57 Al0 cl0 l0 0 false] (fun v bx en => v = .string r0 ∧ bx = [] ∧ en = []) := by
 refine fn_ 22 Try.func27 rfl rfl rfl (fun base T w0 => ?_)
 rw [impl_FormatRuns.f] at H
 refine gs (rg (sv (EV.as rfl) rfl (re (gs (rg (so rfl (op_lit (s := 1) (by_ := 16) .str ([] : List ByteArray) [] [] 1 [] rfl rfl rfl rfl rfl rfl rfl rfl rfl rfl rfl rfl rfl dq rfl fun A6_1 c6_1 => (sv (EV.as rfl) rfl (re (gs (gs (rg (sv (EV.mv rfl) rfl (sv (EV.ln rfl) rfl (sv (EV.mv rfl) rfl (re (gb ?_)))))))))))))))))
 refine lo (fun kk S => ∃ (x2_3 : List ByteArray) (Ax2_3 : Option Addr) (cx2_3 : Nat) (x2_8 : Int) (x2_9 : Int), impl_FormatRuns.l0 kk x2_3 x2_8 x2_9 l0 = some r0 ∧ S = ⟨[(3, .slice Ax2_3 x2_3.length cx2_3), (7, .slice Al0 l0.length cl0), (8, .int .i64 x2_8), (9, .int .i64 x2_9)], [], [.sl 2 .str Ax2_3 cx2_3 x2_3 1 true, .sl 0 k57 Al0 cl0 l0 0 false]⟩) (fun S hS => ?_) (fun n0 ih0 S hS => ?_) ⟨[], A6_1, c6_1, (l0.length : Int), 0, H, rfl⟩ (fun h => wk [3, 7, 8, 9] [] [⟨1, 2, 1, true⟩, ⟨0, 0, 0, false⟩] h)
 · clear H; obtain ⟨_, _, _, _, _, H, _⟩ := hS; rw [impl_FormatRuns.l0] at H; cases H
 clear H
 obtain ⟨x2_3, Ax2_3, cx2_3, x2_8, x2_9, H, rfl⟩ := hS
 rw [impl_FormatRuns.l0] at H
 refine gs (rg (sv (EV.lss rfl rfl) rfl (re (gs ?_))))
 revert H; refine ifsI ?_ ?_ <;> intro c2 H
 ·
  refine gt rfl (dT c2) (gk (gs (gb (gs (rg ?_)))))
  revert H; refine ggI ?_; intro g3 H
  revert H; refine ggI ?_; intro g4 H
  refine sv (EV.ix 1 rfl rfl rfl g3 g4 rfl) rfl (opn (i := x2_9) 1 z57 rfl g3 g4 fun A_5 c_5 => (sv (EV.lc (v := .agg #[.slice A_5 ((rd_T57 l0 x2_9).f0).length c_5]) 0 (some 1) 2 rfl rfl rfl rfl) rfl (so rfl (op_alloc (cs := [.slice none 0 0]) (by kernel_rfl) rfl fun b5 => (so rfl (op_st (cs' := [.slice A_5 ((rd_T57 l0 x2_9).f0).length c_5]) 0 rfl rfl rfl rfl rfl rfl (re (rg (sv (EV.mv rfl) rfl (sv (EV.fa 0 rfl) rfl (sv (EV.ld 0 none rfl rfl rfl) rfl ?_)))))))))))
  revert H; refine bdI ?_; rintro t6 A6 H
  refine so rfl (op_call (impl_FormatRows.ok n0 ((rd_T57 l0 x2_9).f0) A_5 c_5 _ A6) [⟨3, 0, 0, false⟩] 2 rfl rfl rfl rfl rfl ?_)
  rintro _ _ _ ⟨rfl, rfl, rfl⟩
  refine so rfl (op_lit (s := 1) (by_ := 16) .str ([t6] : List ByteArray) [[]] [] 2 [.tmp 16] rfl rfl rfl rfl rfl rfl rfl rfl rfl rfl rfl rfl rfl dq rfl fun A17_7 c17_7 => ?_)
  revert H; refine ggI ?_; intro g8 H
  exact so rfl (op_app (k := .str) (s := 1) (by_ := 16) 0 4 rfl rfl rfl rfl (ap1 g8 dq) (ap1n g8 dq) (.inl rfl) true (fun _ => .inl rfl) rfl rfl fun A18_9 c18_9 => (nmE (en := [.sl 0 k57 Al0 cl0 l0 0 false, celE Al0 (x2_9.toNat * 1) [.slice A_5 ((rd_T57 l0 x2_9).f0).length c_5] 0, .sl 0 k72 A_5 c_5 ((rd_T57 l0 x2_9).f0) 0 false, .sl 2 .str A17_7 c17_7 ([t6] : List ByteArray) 2 true, .sl 2 .str A18_9 c18_9 (x2_3 ++ ([t6] : List ByteArray)) 1 true]) (by kernel_rfl) (sv (EV.as rfl) rfl (re (pr [3, 7, 8, 9] [] [0, 4] rfl rfl rfl rfl (ge (rg (sv (EV.add rfl rfl) rfl (sv (EV.mv rfl) rfl (re (wk [3, 7, 8, 9] [] [⟨1, 2, 1, true⟩, ⟨0, 0, 0, false⟩] (ih0 _ (by omega) _ ⟨x2_3 ++ ([t6] : List ByteArray), A18_9, c18_9, x2_8, wrap64 (x2_9 + 1), H, rfl⟩))))))))))))
 ·
  refine gf rfl (dF c2) (gx rfl (gs (rg (sv (EV.mv rfl) rfl ?_))))
  revert H; refine bdI ?_; rintro t10 A10 H
  refine so rfl (op_call (impl_joined.ok n0 x2_3 Ax2_3 cx2_3 (⟨#[124]⟩ : ByteArray) _ A10) [⟨0, 0, 0, false⟩] 2 rfl rfl rfl rfl rfl ?_)
  rintro _ _ _ ⟨rfl, rfl, rfl⟩
  refine sv (EV.as rfl) rfl (re (pr [2] [] [] rfl rfl rfl rfl ?_))
  cases H
  exact rt Try.func27 rfl (.tmp rfl .nil) rfl [] [] rfl rfl rfl rfl rfl ⟨rfl, rfl, rfl⟩
def impl_FormatSorter.f (k : Nat) (l0_0 : List S72) (a0_1 : Int) (l0_2 : List S72) (l0_3 : List S72) (l0_4 : List S72) (l0_5 : List S57) (a0_6 : Int) (a0_7 : Int) (a0_8 : Int) (a0_9 : Int) : Option (ByteArray) := (impl_IsValidSorter.f k l0_0 a0_1 l0_2 l0_3 l0_4 l0_5 a0_6 a0_7 a0_8 a0_9).bind fun t1 => (if t1 = true then ((impl_FormatRows.f k l0_0).bind fun t3 => ((impl_FormatInt.f k a0_1).bind fun t4 => ((impl_rowTexts.f k l0_2).bind fun t5 => ((impl_rowTexts.f k l0_3).bind fun t6 => ((impl_rowTexts.f k l0_4).bind fun t7 => ((impl_FormatRuns.f k l0_5).bind fun t8 => ((impl_FormatInt.f k a0_6).bind fun t9 => ((impl_FormatInt.f k a0_7).bind fun t10 => ((impl_FormatInt.f k a0_8).bind fun t11 => ((impl_FormatInt.f k a0_9).bind fun t12 => ((impl_joined.f k ([t3, t4, t5, t6, t7, t8, t9, t10, t11, t12] : List ByteArray) (⟨#[47]⟩ : ByteArray)).bind fun t14 => (some t14)))))))))))) else (some (⟨#[]⟩ : ByteArray)))
set_option maxHeartbeats 4000000 in
set_option maxRecDepth 100000 in
theorem impl_FormatSorter.ok (k : Nat) (l0_0 : List S72) (Al0_0 : Option Addr) (cl0_0 : Nat) (a0_1 : Int) (l0_2 : List S72) (Al0_2 : Option Addr) (cl0_2 : Nat) (l0_3 : List S72) (Al0_3 : Option Addr) (cl0_3 : Nat) (l0_4 : List S72) (Al0_4 : Option Addr) (cl0_4 : Nat) (l0_5 : List S57) (Al0_5 : Option Addr) (cl0_5 : Nat) (a0_6 : Int) (a0_7 : Int) (a0_8 : Int) (a0_9 : Int) (r0 : ByteArray) (H : impl_FormatSorter.f k l0_0 a0_1 l0_2 l0_3 l0_4 l0_5 a0_6 a0_7 a0_8 a0_9 = some r0) : Fn Try.prog 8 [.agg #[.slice Al0_0 l0_0.length cl0_0, .int .i64 a0_1, .slice Al0_2 l0_2.length cl0_2, .slice Al0_3 l0_3.length cl0_3, .slice Al0_4 l0_4.length cl0_4, .slice Al0_5 l0_5.length cl0_5, .int .i64 a0_6, .int .i64 a0_7, .int .i64 a0_8, .int .i64 a0_9]] [] [.sl 0 k72 Al0_0 cl0_0 l0_0 0 false, .sl 0 k72 Al0_2 cl0_2 l0_2 0 false, .sl 0 k72 Al0_3 cl0_3 l0_3 0 false, .sl 0 k72 Al0_4 cl0_4 l0_4 0 false, .sl 0 k57 Al0_5 cl0_5 l0_5 0 false] (fun v bx en => v = .string r0 ∧ bx = [] ∧ en = []) := by
 refine fn_ 40 Try.func8 rfl rfl rfl (fun base T w0 => ?_)
 rw [impl_FormatSorter.f] at H
 refine gs (rg (so rfl (op_box (cs := [.slice Al0_0 l0_0.length cl0_0, .int .i64 a0_1, .slice Al0_2 l0_2.length cl0_2, .slice Al0_3 l0_3.length cl0_3, .slice Al0_4 l0_4.length cl0_4, .slice Al0_5 l0_5.length cl0_5, .int .i64 a0_6, .int .i64 a0_7, .int .i64 a0_8, .int .i64 a0_9]) rfl rfl rfl fun b1 => (sv (EV.as rfl) rfl (re (gs (rg (sv (EV.ld (v := .agg #[.slice Al0_0 l0_0.length cl0_0, .int .i64 a0_1, .slice Al0_2 l0_2.length cl0_2, .slice Al0_3 l0_3.length cl0_3, .slice Al0_4 l0_4.length cl0_4, .slice Al0_5 l0_5.length cl0_5, .int .i64 a0_6, .int .i64 a0_7, .int .i64 a0_8, .int .i64 a0_9]) 0 (some 10) rfl rfl rfl) rfl (so rfl (op_alloc (cs := [.slice none 0 0, .int .i64 0, .slice none 0 0, .slice none 0 0, .slice none 0 0, .slice none 0 0, .int .i64 0, .int .i64 0, .int .i64 0, .int .i64 0]) (by kernel_rfl) rfl fun b3 => (so rfl (op_st (cs' := [.slice Al0_0 l0_0.length cl0_0, .int .i64 a0_1, .slice Al0_2 l0_2.length cl0_2, .slice Al0_3 l0_3.length cl0_3, .slice Al0_4 l0_4.length cl0_4, .slice Al0_5 l0_5.length cl0_5, .int .i64 a0_6, .int .i64 a0_7, .int .i64 a0_8, .int .i64 a0_9]) 1 rfl rfl rfl rfl rfl rfl (re (gs (gs (rg (sv (EV.ld (v := .agg #[.slice Al0_0 l0_0.length cl0_0, .int .i64 a0_1, .slice Al0_2 l0_2.length cl0_2, .slice Al0_3 l0_3.length cl0_3, .slice Al0_4 l0_4.length cl0_4, .slice Al0_5 l0_5.length cl0_5, .int .i64 a0_6, .int .i64 a0_7, .int .i64 a0_8, .int .i64 a0_9]) 1 (some 10) rfl rfl rfl) rfl ?_)))))))))))))))))
 revert H; refine bdI ?_; rintro t1 A1 H
 refine so rfl (op_call (impl_IsValidSorter.ok k l0_0 Al0_0 cl0_0 a0_1 l0_2 Al0_2 cl0_2 l0_3 Al0_3 cl0_3 l0_4 Al0_4 cl0_4 l0_5 Al0_5 cl0_5 a0_6 a0_7 a0_8 a0_9 _ A1) [⟨0, 0, 0, false⟩, ⟨1, 0, 0, false⟩, ⟨2, 0, 0, false⟩, ⟨3, 0, 0, false⟩, ⟨4, 0, 0, false⟩] 1 rfl rfl rfl rfl rfl ?_)
 rintro _ _ _ ⟨rfl, rfl, rfl⟩
 refine sv (EV.nt rfl) rfl (re (pr [3, 7] [1] [0, 1, 2, 3, 4] rfl rfl rfl rfl ?_))
 revert H; refine ifsI ?_ ?_ <;> intro c2 H
 ·
  subst c2
  refine gf rfl rfl (gk (gs (dr [0] [0, 1, 2, 3, 4] [] 33 rfl rfl rfl rfl (xv 0 [0] [0, 1, 2, 3, 4] rfl (EV.fa 0 rfl) rfl rfl rfl rfl (xv 1 [0] [0, 1, 2, 3, 4] rfl (EV.ld 0 none rfl rfl rfl) rfl rfl rfl rfl (xv 3 [0] [0, 1, 2, 3, 4] rfl (EV.fa 1 rfl) rfl rfl rfl rfl (xv 4 [0] [0, 1, 2, 3, 4] rfl (EV.ld 0 none rfl rfl rfl) rfl rfl rfl rfl (xv 6 [0] [0, 1, 2, 3, 4] rfl (EV.fa 2 rfl) rfl rfl rfl rfl (xv 7 [0] [0, 1, 2, 3, 4] rfl (EV.ld 0 none rfl rfl rfl) rfl rfl rfl rfl (xv 9 [0] [0, 1, 2, 3, 4] rfl (EV.fa 3 rfl) rfl rfl rfl rfl (xv 10 [0] [0, 1, 2, 3, 4] rfl (EV.ld 0 none rfl rfl rfl) rfl rfl rfl rfl (xv 12 [0] [0, 1, 2, 3, 4] rfl (EV.fa 4 rfl) rfl rfl rfl rfl (xv 13 [0] [0, 1, 2, 3, 4] rfl (EV.ld 0 none rfl rfl rfl) rfl rfl rfl rfl (xv 15 [0] [0, 1, 2, 3, 4] rfl (EV.fa 5 rfl) rfl rfl rfl rfl (xv 16 [0] [0, 1, 2, 3, 4] rfl (EV.ld 0 none rfl rfl rfl) rfl rfl rfl rfl (xv 18 [0] [0, 1, 2, 3, 4] rfl (EV.fa 6 rfl) rfl rfl rfl rfl (xv 19 [0] [0, 1, 2, 3, 4] rfl (EV.ld 0 none rfl rfl rfl) rfl rfl rfl rfl (xv 21 [0] [0, 1, 2, 3, 4] rfl (EV.fa 7 rfl) rfl rfl rfl rfl (xv 22 [0] [0, 1, 2, 3, 4] rfl (EV.ld 0 none rfl rfl rfl) rfl rfl rfl rfl (xv 24 [0] [0, 1, 2, 3, 4] rfl (EV.fa 8 rfl) rfl rfl rfl rfl (xv 25 [0] [0, 1, 2, 3, 4] rfl (EV.ld 0 none rfl rfl rfl) rfl rfl rfl rfl (xv 27 [0] [0, 1, 2, 3, 4] rfl (EV.fa 9 rfl) rfl rfl rfl rfl (xv 28 [0] [0, 1, 2, 3, 4] rfl (EV.ld 0 none rfl rfl rfl) rfl rfl rfl rfl (one1 2 rfl rfl ?_))))))))))))))))))))))))
  revert H; refine bdI ?_; rintro t3 A3 H
  refine op_call (impl_FormatRows.ok k l0_0 Al0_0 cl0_0 _ A3) [⟨0, 0, 0, false⟩] 1 rfl rfl rfl rfl rfl ?_
  rintro _ _ _ ⟨rfl, rfl, rfl⟩
  refine xs [0] [0, 1, 2, 3, 4] rfl rfl rfl (one1 5 rfl rfl ?_)
  revert H; refine bdI ?_; rintro t4 A4 H
  refine op_call (impl_FormatInt.ok k a0_1 _ A4) [] 1 rfl rfl rfl rfl rfl ?_
  rintro _ _ _ ⟨rfl, rfl, rfl⟩
  refine xs [0] [0, 1, 2, 3, 4] rfl rfl rfl (one1 8 rfl rfl ?_)
  revert H; refine bdI ?_; rintro t5 A5 H
  refine op_call (impl_rowTexts.ok k l0_2 Al0_2 cl0_2 _ A5) [⟨1, 0, 0, false⟩] 1 rfl rfl rfl rfl rfl ?_
  rintro _ _ _ ⟨rfl, rfl, rfl⟩
  refine xs [0] [0, 1, 2, 3, 4] rfl rfl rfl (one1 11 rfl rfl ?_)
  revert H; refine bdI ?_; rintro t6 A6 H
  refine op_call (impl_rowTexts.ok k l0_3 Al0_3 cl0_3 _ A6) [⟨2, 0, 0, false⟩] 1 rfl rfl rfl rfl rfl ?_
  rintro _ _ _ ⟨rfl, rfl, rfl⟩
  refine xs [0] [0, 1, 2, 3, 4] rfl rfl rfl (one1 14 rfl rfl ?_)
  revert H; refine bdI ?_; rintro t7 A7 H
  refine op_call (impl_rowTexts.ok k l0_4 Al0_4 cl0_4 _ A7) [⟨3, 0, 0, false⟩] 1 rfl rfl rfl rfl rfl ?_
  rintro _ _ _ ⟨rfl, rfl, rfl⟩
  refine xs [0] [0, 1, 2, 3, 4] rfl rfl rfl (one1 17 rfl rfl ?_)
  revert H; refine bdI ?_; rintro t8 A8 H
  refine op_call (impl_FormatRuns.ok k l0_5 Al0_5 cl0_5 _ A8) [⟨4, 0, 0, false⟩] 1 rfl rfl rfl rfl rfl ?_
  rintro _ _ _ ⟨rfl, rfl, rfl⟩
  refine xs [0] [0, 1, 2, 3, 4] rfl rfl rfl (one1 20 rfl rfl ?_)
  revert H; refine bdI ?_; rintro t9 A9 H
  refine op_call (impl_FormatInt.ok k a0_6 _ A9) [] 1 rfl rfl rfl rfl rfl ?_
  rintro _ _ _ ⟨rfl, rfl, rfl⟩
  refine xs [0] [0, 1, 2, 3, 4] rfl rfl rfl (one1 23 rfl rfl ?_)
  revert H; refine bdI ?_; rintro t10 A10 H
  refine op_call (impl_FormatInt.ok k a0_7 _ A10) [] 1 rfl rfl rfl rfl rfl ?_
  rintro _ _ _ ⟨rfl, rfl, rfl⟩
  refine xs [0] [0, 1, 2, 3, 4] rfl rfl rfl (one1 26 rfl rfl ?_)
  revert H; refine bdI ?_; rintro t11 A11 H
  refine op_call (impl_FormatInt.ok k a0_8 _ A11) [] 1 rfl rfl rfl rfl rfl ?_
  rintro _ _ _ ⟨rfl, rfl, rfl⟩
  refine xs [0] [0, 1, 2, 3, 4] rfl rfl rfl (one1 29 rfl rfl ?_)
  revert H; refine bdI ?_; rintro t12 A12 H
  refine op_call (impl_FormatInt.ok k a0_9 _ A12) [] 1 rfl rfl rfl rfl rfl ?_
  rintro _ _ _ ⟨rfl, rfl, rfl⟩
  refine xs [0] [0, 1, 2, 3, 4] rfl rfl rfl (one1 30 rfl rfl (op_lit (s := 1) (by_ := 16) .str ([t3, t4, t5, t6, t7, t8, t9, t10, t11, t12] : List ByteArray) [[], [], [], [], [], [], [], [], [], []] [] 1 [.tmp 10, .tmp 13, .tmp 16, .tmp 19, .tmp 22, .tmp 25, .tmp 28, .tmp 31, .tmp 34, .tmp 37] rfl rfl rfl rfl rfl rfl rfl rfl rfl rfl rfl rfl rfl dq rfl fun A38_13 c38_13 => (xs [0] [0, 1, 2, 3, 4] rfl rfl rfl (one1 31 rfl rfl ?_))))
  revert H; refine bdI ?_; rintro t14 A14 H
  refine op_call (impl_joined.ok k ([t3, t4, t5, t6, t7, t8, t9, t10, t11, t12] : List ByteArray) A38_13 c38_13 (⟨#[47]⟩ : ByteArray) _ A14) [⟨5, 0, 0, false⟩] 2 rfl rfl rfl rfl rfl ?_
  rintro _ _ _ ⟨rfl, rfl, rfl⟩
  refine xs [0] [0, 1, 2, 3, 4] rfl rfl rfl (xv 32 [0] [0, 1, 2, 3, 4] rfl (EV.as rfl) rfl rfl rfl rfl (xd (pr [2] [] [] rfl rfl rfl rfl ?_)))
  cases H
  exact rt Try.func8 rfl (.tmp rfl .nil) rfl [] [] rfl rfl rfl rfl rfl ⟨rfl, rfl, rfl⟩
 ·
  have xc2 := bF c2; subst xc2
  refine gt rfl rfl (gs (rg (sv (EV.as rfl) rfl (re ?_))))
  cases H
  exact rt Try.func8 rfl (.tmp rfl .nil) rfl [] [] rfl rfl rfl rfl rfl ⟨rfl, rfl, rfl⟩
end Go.Proofs.Ytnadolmpaeenpaa.K
