/- Walks: what the functions compute. Printed by gen.py; no condition. -/
import Derived.Test.YtgpencaijhbolaaVFnGroupUnderGrantsa
namespace Go.Proofs.Ytgpencaijhbolaa.K
open Go Go.RowKit
set_option linter.unusedVariables false
set_option linter.unusedSimpArgs false
def impl_IsValidAggregator.l0 : Nat → Int → Int → Int → Int → Bool → (List S64) → Option (Bool)
 | 0, _, _, _, _, _, _ => none
 | k + 1, x2_3, x2_8, x2_9, x2_1_1, x2_1_2, l0_0 => if x2_9 < x2_8 then (if 0 ≤ x2_9 then (if x2_9 < (l0_0.length : Int) then ((impl_AreValidRows.f k ((rd_T64 l0_0 x2_9).f0)).bind fun t5 => (if t5 = true then ((impl_within.f ((rd_T64 l0_0 x2_9).f1) 0 4).bind fun t7 => (if t7 = true then (impl_IsValidAggregator.l0 k (wrap64 (x2_3 + (((rd_T64 l0_0 x2_9).f0).length : Int))) x2_8 (wrap64 (x2_9 + 1)) x2_1_1 x2_1_2 l0_0) else (some false))) else (some false))) else none) else none) else (if (l0_0.length : Int) ≤ 40 then (if x2_3 ≤ 24 then ((impl_within.f x2_1_1 0 100000).bind fun t11 => (some t11)) else (some false)) else (some false))
def impl_IsValidAggregator.f (k : Nat) (l0_0 : List S64) (a0_1 : Int) (a0_2 : Bool) : Option (Bool) := impl_IsValidAggregator.l0 k 0 (l0_0.length : Int) 0 a0_1 a0_2 l0_0
set_option maxHeartbeats 4000000 in
set_option maxRecDepth 100000 in
theorem impl_IsValidAggregator.ok (k : Nat) (l0_0 : List S64) (Al0_0 : Option Addr) (cl0_0 : Nat) (a0_1 : Int) (a0_2 : Bool) (r0 : Bool) (H : impl_IsValidAggregator.f k l0_0 a0_1 a0_2 = some r0) : Fn Try.prog 38 [.agg #[.slice Al0_0 l0_0.length cl0_0, .int .i64 a0_1, .bool a0_2]] [] [.sl 0 k64 Al0_0 cl0_0 l0_0 0 false] (fun v bx en => v = .bool r0 ∧ bx = [] ∧ en = []) := by
 refine fn_ 42 Try.func38 rfl rfl rfl (fun base T w0 => ?_)
 rw [impl_IsValidAggregator.f] at H
 refine gs (rg (so rfl (op_box (cs := [.slice Al0_0 l0_0.length cl0_0, .int .i64 a0_1, .bool a0_2]) rfl rfl rfl fun b1 => (sv (EV.as rfl) rfl (re (gs (rg (sv (EV.as rfl) rfl (re (gs (gs (rg (sv (EV.fa 0 rfl) rfl (sv (EV.ld 0 none rfl rfl rfl) rfl (sv (EV.ln rfl) rfl (sv (EV.mv rfl) rfl (re (gb ?_))))))))))))))))))
 refine lo (fun kk S => ∃ (x2_3 : Int) (x2_8 : Int) (x2_9 : Int) (x2_1_1 : Int) (x2_1_2 : Bool), impl_IsValidAggregator.l0 kk x2_3 x2_8 x2_9 x2_1_1 x2_1_2 l0_0 = some r0 ∧ S = ⟨[(1, .pointer (some ⟨b1, 0, none⟩)), (3, .int .i64 x2_3), (7, .slice Al0_0 l0_0.length cl0_0), (8, .int .i64 x2_8), (9, .int .i64 x2_9)], [⟨b1, 54, [.slice Al0_0 l0_0.length cl0_0, .int .i64 x2_1_1, .bool x2_1_2]⟩], [.sl 0 k64 Al0_0 cl0_0 l0_0 0 false]⟩) (fun S hS => ?_) (fun n0 ih0 S hS => ?_) ⟨0, (l0_0.length : Int), 0, a0_1, a0_2, H, rfl⟩ (fun h => wk [1, 3, 7, 8, 9] [0] [⟨0, 0, 0, false⟩] h)
 · clear H; obtain ⟨_, _, _, _, _, H, _⟩ := hS; rw [impl_IsValidAggregator.l0] at H; cases H
 clear H
 obtain ⟨x2_3, x2_8, x2_9, x2_1_1, x2_1_2, H, rfl⟩ := hS
 rw [impl_IsValidAggregator.l0] at H
 refine gs (rg (sv (EV.lss rfl rfl) rfl (re (gs ?_))))
 revert H; refine ifsI ?_ ?_ <;> intro c1 H
 ·
  refine gt rfl (dT c1) (gk (gs (gb (gs (rg ?_)))))
  revert H; refine ggI ?_; intro g2 H
  revert H; refine ggI ?_; intro g3 H
  refine sv (EV.ix 0 rfl rfl rfl g2 g3 rfl) rfl (opn (i := x2_9) 0 z64 rfl g2 g3 fun A_4 c_4 => (sv (EV.lc (v := .agg #[.slice A_4 ((rd_T64 l0_0 x2_9).f0).length c_4, .int .i64 ((rd_T64 l0_0 x2_9).f1)]) 0 (some 2) 1 rfl rfl rfl rfl) rfl (so rfl (op_alloc (cs := [.slice none 0 0, .int .i64 0]) (by kernel_rfl) rfl fun b5 => (so rfl (op_st (cs' := [.slice A_4 ((rd_T64 l0_0 x2_9).f0).length c_4, .int .i64 ((rd_T64 l0_0 x2_9).f1)]) 1 rfl rfl rfl rfl rfl rfl (re (gs (gs (rg (sv (EV.fa 0 rfl) rfl (sv (EV.ld 1 none rfl rfl rfl) rfl ?_))))))))))))
  revert H; refine bdI ?_; rintro t5 A5 H
  refine so rfl (op_call (impl_AreValidRows.ok n0 ((rd_T64 l0_0 x2_9).f0) A_4 c_4 _ A5) [⟨2, 0, 0, false⟩] 1 rfl rfl rfl rfl rfl ?_)
  rintro _ _ _ ⟨rfl, rfl, rfl⟩
  refine sv (EV.nt rfl) rfl (sv (EV.mv rfl) rfl ?_)
  revert H; refine ifsI ?_ ?_ <;> intro c6 H
  ·
   subst c6
   refine ts 17 rfl rfl (sv (EV.fa 1 rfl) rfl (sv (EV.ld 1 none rfl rfl rfl) rfl ?_))
   revert H; refine bdI ?_; rintro t7 A7 H
   refine so rfl (op_call (impl_within.ok ((rd_T64 l0_0 x2_9).f1) 0 4 _ A7) [] 1 rfl rfl rfl rfl rfl ?_)
   rintro _ _ _ ⟨rfl, rfl, rfl⟩
   refine sv (EV.nt rfl) rfl (sv (EV.pf rfl rfl rfl) rfl (re (pr [1, 3, 5, 7, 8, 9, 18, 19, 20, 21, 22] [0, 1] [0, 1, 2] rfl rfl rfl rfl ?_)))
   revert H; refine ifsI ?_ ?_ <;> intro c8 H
   ·
    subst c8
    exact gf rfl rfl (gk (rg (sv (EV.mv rfl) rfl (sv (EV.fa 0 rfl) rfl (sv (EV.ld 1 none rfl rfl rfl) rfl (sv (EV.ln rfl) rfl (sv (EV.add rfl rfl) rfl (sv (EV.as rfl) rfl (re (pr [1, 3, 7, 8, 9, 18, 19, 20, 21] [0, 1] [0, 1, 2] rfl rfl rfl rfl (ge (rg (sv (EV.add rfl rfl) rfl (sv (EV.mv rfl) rfl (re (wk [1, 3, 7, 8, 9] [0] [⟨0, 0, 0, false⟩] (ih0 _ (by omega) _ ⟨wrap64 (x2_3 + (((rd_T64 l0_0 x2_9).f0).length : Int)), x2_8, wrap64 (x2_9 + 1), x2_1_1, x2_1_2, H, rfl⟩)))))))))))))))))
   ·
    obtain rfl := bF c8
    refine gt rfl rfl (gs (rg (sv (EV.as rfl) rfl (re (pr [2] [] [] rfl rfl rfl rfl ?_)))))
    cases H
    exact rt Try.func38 rfl (.tmp rfl .nil) rfl [] [] rfl rfl rfl rfl rfl ⟨rfl, rfl, rfl⟩
  ·
   obtain rfl := bF c6
   refine ts 17 rfl rfl (sk rfl (sk rfl (sk rfl (sk rfl (sv (EV.pt rfl rfl rfl) rfl (re (pr [1, 3, 5, 7, 8, 9, 22] [0, 1] [0, 1, 2] rfl rfl rfl rfl (gt rfl rfl (gs (rg (sv (EV.as rfl) rfl (re (pr [2] [] [] rfl rfl rfl rfl ?_)))))))))))))
   cases H
   exact rt Try.func38 rfl (.tmp rfl .nil) rfl [] [] rfl rfl rfl rfl rfl ⟨rfl, rfl, rfl⟩
 ·
  refine gf rfl (dF c1) (gx rfl (gs (rg (sv (EV.fa 0 rfl) rfl (sv (EV.ld 0 none rfl rfl rfl) rfl (sv (EV.ln rfl) rfl (sv (EV.leq rfl rfl) rfl (sv (EV.mv rfl) rfl ?_))))))))
  revert H; refine ifsI ?_ ?_ <;> intro c9 H
  ·
   refine ts 33 rfl (dT c9) (sv (EV.mv rfl) rfl (sv (EV.leq rfl rfl) rfl (sv (EV.pt rfl rfl rfl) rfl (sv (EV.mv rfl) rfl ?_))))
   revert H; refine ifsI ?_ ?_ <;> intro c10 H
   ·
    refine ts 37 rfl (dT c10) (sv (EV.fa 1 rfl) rfl (sv (EV.ld 0 none rfl rfl rfl) rfl ?_))
    revert H; refine bdI ?_; rintro t11 A11 H
    refine so rfl (op_call (impl_within.ok x2_1_1 0 100000 _ A11) [] 1 rfl rfl rfl rfl rfl ?_)
    rintro _ _ _ ⟨rfl, rfl, rfl⟩
    refine sv (EV.pt rfl rfl rfl) rfl (sv (EV.as rfl) rfl (re (pr [2] [] [] rfl rfl rfl rfl ?_)))
    cases H
    exact rt Try.func38 rfl (.tmp rfl .nil) rfl [] [] rfl rfl rfl rfl rfl ⟨rfl, rfl, rfl⟩
   ·
    refine ts 37 rfl (dF c10) (sk rfl (sk rfl (sk rfl (sv (EV.pf rfl rfl rfl) rfl (sv (EV.as rfl) rfl (re (pr [2] [] [] rfl rfl rfl rfl ?_)))))))
    cases H
    exact rt Try.func38 rfl (.tmp rfl .nil) rfl [] [] rfl rfl rfl rfl rfl ⟨rfl, rfl, rfl⟩
  ·
   refine ts 33 rfl (dF c9) (sk rfl (sk rfl (sv (EV.pf rfl rfl rfl) rfl (sv (EV.mv rfl) rfl (sk rfl (sk rfl (sk rfl (sv (EV.pf rfl rfl rfl) rfl (sv (EV.as rfl) rfl (re (pr [2] [] [] rfl rfl rfl rfl ?_)))))))))))
   cases H
   exact rt Try.func38 rfl (.tmp rfl .nil) rfl [] [] rfl rfl rfl rfl rfl ⟨rfl, rfl, rfl⟩
def impl_clone.f (l0 : List S75) : Option ((List S75)) := if l0.length ≤ 5864062014805 then (some l0) else none
set_option maxHeartbeats 4000000 in
set_option maxRecDepth 100000 in
theorem impl_clone.ok (l0 : List S75) (Al0 : Option Addr) (cl0 : Nat) (r0 : List S75) (H : impl_clone.f l0 = some r0) : Fn Try.prog 80 [.slice Al0 l0.length cl0] [] [.sl 0 k75 Al0 cl0 l0 0 false] (fun v bx en => ∃ A0 c0, v = .slice A0 r0.length c0 ∧ bx = [] ∧ en = [.sl 2 k75 A0 c0 r0 1 true]) := by
 refine fn_ 5 Try.func80 rfl rfl rfl (fun base T w0 => ?_)
 rw [impl_clone.f] at H
 refine gs (rg (sv (EV.as rfl) rfl (re (gs (rg (sv (EV.mv rfl) rfl (nil_ k75 1 dq ?_)))))))
 revert H; refine ggI ?_; intro g1 H
 refine so rfl (op_app (k := k75) (s := 3) (by_ := 24) 1 0 rfl rfl rfl rfl (ap0 g1 dq) (ap0n g1 dq) (.inl rfl) true (fun _ => .inl rfl) rfl rfl fun A4_2 c4_2 => (nmE (en := [.sl 0 k75 Al0 cl0 l0 0 false, .sl 2 k75 A4_2 c4_2 l0 1 true]) (by kernel_rfl) (sv (EV.as rfl) rfl (re ?_))))
 cases H
 exact rt Try.func80 rfl (.tmp rfl .nil) rfl [] [⟨1, 2, 1, true⟩] rfl rfl rfl rfl rfl ⟨_, _, rfl, rfl, rfl⟩
def impl_cloneAggregator.l0 : Nat → (List S64) → Int → Int → Int → Bool → (List S64) → Int → Bool → (List S64) → Option ((List S64) × Int × Bool)
 | 0, _, _, _, _, _, _, _, _, _ => none
 | k + 1, x2_3, x2_8, x2_9, x2_1_1, x2_1_2, x2_2_0, x2_2_1, x2_2_2, l0_0 => if x2_9 < x2_8 then (if 0 ≤ x2_9 then (if x2_9 < (l0_0.length : Int) then (if x2_3.length < 4398046511104 then ((impl_clone.f ((rd_T64 l0_0 x2_9).f0)).bind fun t6 => (impl_cloneAggregator.l0 k (x2_3 ++ ([(⟨t6, (rd_T64 l0_0 x2_9).f1⟩ : S64)] : List S64)) x2_8 (wrap64 (x2_9 + 1)) x2_1_1 x2_1_2 x2_2_0 x2_2_1 x2_2_2 l0_0)) else none) else none) else none) else (some (x2_3, x2_1_1, x2_1_2))
def impl_cloneAggregator.f (k : Nat) (l0_0 : List S64) (a0_1 : Int) (a0_2 : Bool) : Option ((List S64) × Int × Bool) := impl_cloneAggregator.l0 k [] (l0_0.length : Int) 0 a0_1 a0_2 [] 0 false l0_0
set_option maxHeartbeats 4000000 in
set_option maxRecDepth 100000 in
theorem impl_cloneAggregator.ok (k : Nat) (l0_0 : List S64) (Al0_0 : Option Addr) (cl0_0 : Nat) (a0_1 : Int) (a0_2 : Bool) (r0 : List S64) (r1 : Int) (r2 : Bool) (H : impl_cloneAggregator.f k l0_0 a0_1 a0_2 = some (r0, r1, r2)) : Fn Try.prog 67 [.agg #[.slice Al0_0 l0_0.length cl0_0, .int .i64 a0_1, .bool a0_2]] [] [.sl 0 k64 Al0_0 cl0_0 l0_0 0 false] (fun v bx en => ∃ A0 c0, v = .agg #[.slice A0 r0.length c0, .int .i64 r1, .bool r2] ∧ bx = [] ∧ en = [.sl 2 k64 A0 c0 r0 1 true]) := by
 refine fn_ 26 Try.func67 rfl rfl rfl (fun base T w0 => ?_)
 rw [impl_cloneAggregator.f] at H
 refine gs (rg (so rfl (op_box (cs := [.slice Al0_0 l0_0.length cl0_0, .int .i64 a0_1, .bool a0_2]) rfl rfl rfl fun b1 => (so rfl (op_alloc (cs := [.slice none 0 0, .int .i64 0, .bool false]) (by kernel_rfl) rfl fun b2 => (re (gs (rg (sv (EV.as rfl) rfl (re (gs (gs (rg (sv (EV.fa 0 rfl) rfl (sv (EV.ld 0 none rfl rfl rfl) rfl (sv (EV.ln rfl) rfl (sv (EV.mv rfl) rfl (re (gb (nil_ k64 1 dq (nil_ k64 2 dq ?_)))))))))))))))))))))
 refine lo (fun kk S => ∃ (x2_3 : List S64) (Ax2_3 : Option Addr) (cx2_3 : Nat) (x2_8 : Int) (x2_9 : Int) (x2_1_1 : Int) (x2_1_2 : Bool) (x2_2_0 : List S64) (Ax2_2_0 : Option Addr) (cx2_2_0 : Nat) (x2_2_1 : Int) (x2_2_2 : Bool), impl_cloneAggregator.l0 kk x2_3 x2_8 x2_9 x2_1_1 x2_1_2 x2_2_0 x2_2_1 x2_2_2 l0_0 = some (r0, r1, r2) ∧ S = ⟨[(1, .pointer (some ⟨b1, 0, none⟩)), (2, .pointer (some ⟨b2, 0, none⟩)), (3, .slice Ax2_3 x2_3.length cx2_3), (7, .slice Al0_0 l0_0.length cl0_0), (8, .int .i64 x2_8), (9, .int .i64 x2_9)], [⟨b1, 54, [.slice Al0_0 l0_0.length cl0_0, .int .i64 x2_1_1, .bool x2_1_2]⟩, ⟨b2, 54, [.slice Ax2_2_0 x2_2_0.length cx2_2_0, .int .i64 x2_2_1, .bool x2_2_2]⟩], [.sl 2 k64 Ax2_3 cx2_3 x2_3 1 true, .sl 2 k64 Ax2_2_0 cx2_2_0 x2_2_0 2 true, .sl 0 k64 Al0_0 cl0_0 l0_0 0 false]⟩) (fun S hS => ?_) (fun n0 ih0 S hS => ?_) ⟨[], none, 0, (l0_0.length : Int), 0, a0_1, a0_2, [], none, 0, 0, false, H, rfl⟩ (fun h => wk [1, 2, 3, 7, 8, 9] [0, 1] [⟨1, 2, 1, true⟩, ⟨2, 2, 2, true⟩, ⟨0, 0, 0, false⟩] h)
 · clear H; obtain ⟨_, _, _, _, _, _, _, _, _, _, _, _, H, _⟩ := hS; rw [impl_cloneAggregator.l0] at H; cases H
 clear H
 obtain ⟨x2_3, Ax2_3, cx2_3, x2_8, x2_9, x2_1_1, x2_1_2, x2_2_0, Ax2_2_0, cx2_2_0, x2_2_1, x2_2_2, H, rfl⟩ := hS
 rw [impl_cloneAggregator.l0] at H
 refine gs (rg (sv (EV.lss rfl rfl) rfl (re (gs ?_))))
 revert H; refine ifsI ?_ ?_ <;> intro c1 H
 ·
  refine gt rfl (dT c1) (gk (gs (gb (gs (rg ?_)))))
  revert H; refine ggI ?_; intro g2 H
  revert H; refine ggI ?_; intro g3 H
  refine sv (EV.ix 2 rfl rfl rfl g2 g3 rfl) rfl (opn (i := x2_9) 2 z64 rfl g2 g3 fun A_4 c_4 => (sv (EV.lc (v := .agg #[.slice A_4 ((rd_T64 l0_0 x2_9).f0).length c_4, .int .i64 ((rd_T64 l0_0 x2_9).f1)]) 0 (some 2) 3 rfl rfl rfl rfl) rfl (so rfl (op_alloc (cs := [.slice none 0 0, .int .i64 0]) (by kernel_rfl) rfl fun b5 => (so rfl (op_st (cs' := [.slice A_4 ((rd_T64 l0_0 x2_9).f0).length c_4, .int .i64 ((rd_T64 l0_0 x2_9).f1)]) 2 rfl rfl rfl rfl rfl rfl (re ?_)))))))
  revert H; refine ggI ?_; intro g5 H
  refine dr [0, 1, 2] [1, 2, 3, 4] [9] 10 rfl rfl rfl rfl (xv 0 [0, 1, 2] [1, 2, 3, 4] rfl (EV.mv rfl) rfl rfl rfl rfl (xv 1 [0, 1, 2] [1, 2, 3, 4] rfl (EV.fa 0 rfl) rfl rfl rfl rfl (xv 2 [0, 1, 2] [1, 2, 3, 4] rfl (EV.ld 2 none rfl rfl rfl) rfl rfl rfl rfl (xv 4 [0, 1, 2] [1, 2, 3, 4] rfl (EV.fa 1 rfl) rfl rfl rfl rfl (xv 5 [0, 1, 2] [1, 2, 3, 4] rfl (EV.ld 2 none rfl rfl rfl) rfl rfl rfl rfl (one1 3 rfl rfl ?_))))))
  revert H; refine bdI ?_; rintro t6 A6 H
  refine op_call (impl_clone.ok ((rd_T64 l0_0 x2_9).f0) A_4 c_4 _ A6) [⟨4, 0, 0, false⟩] 3 rfl rfl rfl rfl rfl ?_
  rintro _ _ _ ⟨At6, ct6, rfl, rfl, rfl⟩
  exact xs [0, 1, 2] [1, 2, 3, 4] rfl rfl rfl (xv 6 [0, 1, 2] [1, 2, 3, 4] rfl (EV.bd (v := .agg #[.slice At6 t6.length ct6, .int .i64 ((rd_T64 l0_0 x2_9).f1)]) rfl (by kernel_rfl)) rfl rfl rfl rfl (one1 7 rfl rfl (op_lit (s := 2) (by_ := 32) k64 ([(⟨t6, (rd_T64 l0_0 x2_9).f1⟩ : S64)] : List S64) [[(At6, ct6)]] [5] 5 [.tmp 19] rfl rfl rfl rfl rfl rfl rfl rfl rfl rfl rfl rfl rfl dq rfl fun A20_7 c20_7 => (nmE (en := [.sl 2 k64 Ax2_3 cx2_3 x2_3 1 true, .sl 2 k64 Ax2_2_0 cx2_2_0 x2_2_0 2 true, .sl 0 k64 Al0_0 cl0_0 l0_0 0 false, celE Al0_0 (x2_9.toNat * 2) [.slice A_4 ((rd_T64 l0_0 x2_9).f0).length c_4, .int .i64 ((rd_T64 l0_0 x2_9).f1)] 0, .sl 0 k75 A_4 c_4 ((rd_T64 l0_0 x2_9).f0) 0 false, .sl 2 k75 At6 ct6 t6 5 true, .sl 2 k64 A20_7 c20_7 ([(⟨t6, (rd_T64 l0_0 x2_9).f1⟩ : S64)] : List S64) 5 true]) (by kernel_rfl) (xs [0, 1, 2] [1, 2, 3, 4] rfl rfl rfl (one1 8 rfl rfl (op_app (k := k64) (s := 2) (by_ := 32) 0 6 rfl rfl rfl rfl (ap1 g5 dq) (ap1n g5 dq) (.inr ⟨dq, dq, rfl, dq⟩) true (fun _ => .inr ⟨rfl, rfl, dq⟩) rfl rfl fun A21_8 c21_8 => (nmE (en := [.sl 2 k64 Ax2_2_0 cx2_2_0 x2_2_0 2 true, .sl 0 k64 Al0_0 cl0_0 l0_0 0 false, celE Al0_0 (x2_9.toNat * 2) [.slice A_4 ((rd_T64 l0_0 x2_9).f0).length c_4, .int .i64 ((rd_T64 l0_0 x2_9).f1)] 0, .sl 0 k75 A_4 c_4 ((rd_T64 l0_0 x2_9).f0) 0 false, .sl 2 k75 At6 ct6 t6 1 true, .sl 2 k64 A20_7 c20_7 ([(⟨t6, (rd_T64 l0_0 x2_9).f1⟩ : S64)] : List S64) 1 true, .sl 2 k64 A21_8 c21_8 (x2_3 ++ ([(⟨t6, (rd_T64 l0_0 x2_9).f1⟩ : S64)] : List S64)) 1 true]) (by kernel_rfl) (xs [0, 1, 2] [0, 1, 2, 3] rfl rfl rfl (one1 9 rfl rfl (ov (EV.as rfl) rfl (xn rfl (xd (pr [1, 2, 3, 7, 8, 9] [0, 1] [0, 1, 6] rfl rfl rfl rfl (ge (rg (sv (EV.add rfl rfl) rfl (sv (EV.mv rfl) rfl (re (wk [1, 2, 3, 7, 8, 9] [0, 1] [⟨2, 2, 1, true⟩, ⟨0, 2, 2, true⟩, ⟨1, 0, 0, false⟩] (ih0 _ (by omega) _ ⟨x2_3 ++ ([(⟨t6, (rd_T64 l0_0 x2_9).f1⟩ : S64)] : List S64), A21_8, c21_8, x2_8, wrap64 (x2_9 + 1), x2_1_1, x2_1_2, x2_2_0, Ax2_2_0, cx2_2_0, x2_2_1, x2_2_2, H, rfl⟩)))))))))))))))))))))
 ·
  refine gf rfl (dF c1) (gx rfl (gs (rg (sv (EV.mv rfl) rfl (sv (EV.fa 0 rfl) rfl (so rfl (op_st (cs' := [.slice Ax2_3 x2_3.length cx2_3, .int .i64 x2_1_1, .bool x2_1_2]) 0 rfl rfl rfl rfl rfl rfl (re (pr [1, 2] [0, 1] [0, 1] rfl rfl rfl rfl (gs (rg (sv (EV.ld (v := .agg #[.slice Ax2_3 x2_3.length cx2_3, .int .i64 x2_1_1, .bool x2_1_2]) 0 (some 3) rfl rfl rfl) rfl (so rfl (op_st (cs' := [.slice Ax2_3 x2_3.length cx2_3, .int .i64 x2_1_1, .bool x2_1_2]) 1 rfl rfl rfl rfl rfl rfl (re ?_)))))))))))))))
  cases H
  exact rt Try.func67 rfl (.cell 1 (some 3) rfl rfl rfl .nil) rfl [] [⟨0, 2, 1, true⟩] rfl rfl rfl rfl rfl ⟨_, _, rfl, rfl, rfl⟩
def impl_isGrant.f (a0 : Int) : Option (Bool) := (impl_within.f a0 8 60).bind fun t1 => (some t1)
set_option maxHeartbeats 4000000 in
set_option maxRecDepth 100000 in
theorem impl_isGrant.ok (a0 : Int) (r0 : Bool) (H : impl_isGrant.f a0 = some r0) : Fn Try.prog 68 [.int .i64 a0] [] [] (fun v bx en => v = .bool r0 ∧ bx = [] ∧ en = []) := by
 refine fn_ 5 Try.func68 rfl rfl rfl (fun base T w0 => ?_)
 rw [impl_isGrant.f] at H
 refine gs (rg (sv (EV.as rfl) rfl (re (gs (rg (sv (EV.mv rfl) rfl ?_))))))
 revert H; refine bdI ?_; rintro t1 A1 H
 refine so rfl (op_call (impl_within.ok a0 8 60 _ A1) [] 1 rfl rfl rfl rfl rfl ?_)
 rintro _ _ _ ⟨rfl, rfl, rfl⟩
 refine sv (EV.as rfl) rfl (re ?_)
 cases H
 exact rt Try.func68 rfl (.tmp rfl .nil) rfl [] [] rfl rfl rfl rfl rfl ⟨rfl, rfl, rfl⟩
def impl_HashBit.f (a0 : Int) (a1 : Int) : Option (Int) := (impl_within.f a1 0 3).bind fun t1 => (if t1 = true then ((impl_within.f a0 0 9).bind fun t3 => (if t3 = true then (if 0 ≤ a1 then (some (andI (shrI (Int.tmod (wrap64 (7 * a0)) 16) a1) 1)) else none) else (some 0))) else (some 0))
set_option maxHeartbeats 4000000 in
set_option maxRecDepth 100000 in
theorem impl_HashBit.ok (a0 : Int) (a1 : Int) (r0 : Int) (H : impl_HashBit.f a0 a1 = some r0) : Fn Try.prog 90 [.int .i64 a0, .int .i64 a1] [] [] (fun v bx en => v = .int .i64 r0 ∧ bx = [] ∧ en = []) := by
 refine fn_ 19 Try.func90 rfl rfl rfl (fun base T w0 => ?_)
 rw [impl_HashBit.f] at H
 refine gs (rg (sv (EV.as rfl) rfl (re (gs (gs (rg (sv (EV.mv rfl) rfl ?_)))))))
 revert H; refine bdI ?_; rintro t1 A1 H
 refine so rfl (op_call (impl_within.ok a1 0 3 _ A1) [] 1 rfl rfl rfl rfl rfl ?_)
 rintro _ _ _ ⟨rfl, rfl, rfl⟩
 refine sv (EV.nt rfl) rfl (sv (EV.mv rfl) rfl ?_)
 revert H; refine ifsI ?_ ?_ <;> intro c2 H
 ·
  subst c2
  refine ts 8 rfl rfl (sv (EV.mv rfl) rfl ?_)
  revert H; refine bdI ?_; rintro t3 A3 H
  refine so rfl (op_call (impl_within.ok a0 0 9 _ A3) [] 1 rfl rfl rfl rfl rfl ?_)
  rintro _ _ _ ⟨rfl, rfl, rfl⟩
  refine sv (EV.nt rfl) rfl (sv (EV.pf rfl rfl rfl) rfl (re (pr [0, 1, 12] [] [] rfl rfl rfl rfl ?_)))
  revert H; refine ifsI ?_ ?_ <;> intro c4 H
  ·
   subst c4
   refine gf rfl rfl (gk (gs (rg (sv (EV.mv rfl) rfl (sv (EV.mul rfl rfl) rfl (sv (EV.rem rfl rfl dq) rfl (sv (EV.mv rfl) rfl ?_)))))))
   revert H; refine ggI ?_; intro g5 H
   refine sv (EV.shr rfl rfl g5) rfl (sv (EV.andI rfl rfl) rfl (sv (EV.as rfl) rfl (re (pr [4] [] [] rfl rfl rfl rfl ?_))))
   cases H
   exact rt Try.func90 rfl (.tmp rfl .nil) rfl [] [] rfl rfl rfl rfl rfl ⟨rfl, rfl, rfl⟩
  ·
   obtain rfl := bF c4
   refine gt rfl rfl (gs (rg (sv (EV.as rfl) rfl (re ?_))))
   cases H
   exact rt Try.func90 rfl (.tmp rfl .nil) rfl [] [] rfl rfl rfl rfl rfl ⟨rfl, rfl, rfl⟩
 ·
  obtain rfl := bF c2
  refine ts 8 rfl rfl (sk rfl (sk rfl (sk rfl (sv (EV.pt rfl rfl rfl) rfl (re (pr [0, 1, 12] [] [] rfl rfl rfl rfl (gt rfl rfl (gs (rg (sv (EV.as rfl) rfl (re ?_)))))))))))
  cases H
  exact rt Try.func90 rfl (.tmp rfl .nil) rfl [] [] rfl rfl rfl rfl rfl ⟨rfl, rfl, rfl⟩
def impl_SplitByHashBit.l0 : Nat → Int → (List S75) → (List S75) → Int → Int → (List S75) → Option ((List S75) × (List S75))
 | 0, _, _, _, _, _, _ => none
 | k + 1, x2_1, x2_6, x2_7, x2_13, x2_14, l0 => if x2_14 < x2_13 then (if 0 ≤ x2_14 then (if x2_14 < (l0.length : Int) then ((impl_HashBit.f ((rd_T75 l0 x2_14).f0) x2_1).bind fun t6 => (if t6 = 0 then (if x2_6.length < 5864062014805 then (impl_SplitByHashBit.l0 k x2_1 (x2_6 ++ ([(⟨(rd_T75 l0 x2_14).f0, (rd_T75 l0 x2_14).f1, (rd_T75 l0 x2_14).f2⟩ : S75)] : List S75)) x2_7 x2_13 (wrap64 (x2_14 + 1)) l0) else none) else (if x2_7.length < 5864062014805 then (impl_SplitByHashBit.l0 k x2_1 x2_6 (x2_7 ++ ([(⟨(rd_T75 l0 x2_14).f0, (rd_T75 l0 x2_14).f1, (rd_T75 l0 x2_14).f2⟩ : S75)] : List S75)) x2_13 (wrap64 (x2_14 + 1)) l0) else none))) else none) else none) else (some (x2_6, x2_7))
def impl_SplitByHashBit.f (k : Nat) (l0 : List S75) (a1 : Int) : Option ((List S75) × (List S75)) := impl_SplitByHashBit.l0 k a1 [] [] (l0.length : Int) 0 l0
set_option maxHeartbeats 4000000 in
set_option maxRecDepth 100000 in
theorem impl_SplitByHashBit.ok (k : Nat) (l0 : List S75) (Al0 : Option Addr) (cl0 : Nat) (a1 : Int) (r0 : List S75) (r1 : List S75) (H : impl_SplitByHashBit.f k l0 a1 = some (r0, r1)) : Fn Try.prog 69 [.slice Al0 l0.length cl0, .int .i64 a1] [] [.sl 0 k75 Al0 cl0 l0 0 false] (fun v bx en => ∃ A0 c0 A1 c1, v = .tuple #[.slice A0 r0.length c0, .slice A1 r1.length c1] ∧ bx = [] ∧ en = [.sl 2 k75 A0 c0 r0 1 true, .sl 2 k75 A1 c1 r1 2 true]) := by
 refine fn_ 34 Try.func69 rfl rfl rfl (fun base T w0 => ?_)
 rw [impl_SplitByHashBit.f] at H
 refine gs (rg (sv (EV.as rfl) rfl (sv (EV.as rfl) rfl (re (gs (rg (so rfl (op_lit (s := 3) (by_ := 24) k75 ([] : List S75) [] [] 1 [] rfl rfl rfl rfl rfl rfl rfl rfl rfl rfl rfl rfl rfl dq rfl fun A10_1 c10_1 => (so rfl (op_lit (s := 3) (by_ := 24) k75 ([] : List S75) [] [] 2 [] rfl rfl rfl rfl rfl rfl rfl rfl rfl rfl rfl rfl rfl dq rfl fun A11_2 c11_2 => (sv (EV.as rfl) rfl (sv (EV.as rfl) rfl (re (gs (gs (rg (sv (EV.mv rfl) rfl (sv (EV.ln rfl) rfl (sv (EV.mv rfl) rfl (re (gb ?_)))))))))))))))))))))
 refine lo (fun kk S => ∃ (x2_1 : Int) (x2_6 : List S75) (Ax2_6 : Option Addr) (cx2_6 : Nat) (x2_7 : List S75) (Ax2_7 : Option Addr) (cx2_7 : Nat) (x2_13 : Int) (x2_14 : Int), impl_SplitByHashBit.l0 kk x2_1 x2_6 x2_7 x2_13 x2_14 l0 = some (r0, r1) ∧ S = ⟨[(1, .int .i64 x2_1), (6, .slice Ax2_6 x2_6.length cx2_6), (7, .slice Ax2_7 x2_7.length cx2_7), (12, .slice Al0 l0.length cl0), (13, .int .i64 x2_13), (14, .int .i64 x2_14)], [], [.sl 2 k75 Ax2_6 cx2_6 x2_6 1 true, .sl 2 k75 Ax2_7 cx2_7 x2_7 2 true, .sl 0 k75 Al0 cl0 l0 0 false]⟩) (fun S hS => ?_) (fun n0 ih0 S hS => ?_) ⟨a1, [], A10_1, c10_1, [], A11_2, c11_2, (l0.length : Int), 0, H, rfl⟩ (fun h => wk [1, 6, 7, 12, 13, 14] [] [⟨1, 2, 1, true⟩, ⟨2, 2, 2, true⟩, ⟨0, 0, 0, false⟩] h)
 · clear H; obtain ⟨_, _, _, _, _, _, _, _, _, H, _⟩ := hS; rw [impl_SplitByHashBit.l0] at H; cases H
 clear H
 obtain ⟨x2_1, x2_6, Ax2_6, cx2_6, x2_7, Ax2_7, cx2_7, x2_13, x2_14, H, rfl⟩ := hS
 rw [impl_SplitByHashBit.l0] at H
 refine gs (rg (sv (EV.lss rfl rfl) rfl (re (gs ?_))))
 revert H; refine ifsI ?_ ?_ <;> intro c3 H
 ·
  refine gt rfl (dT c3) (gk (gs (gb (gs (rg ?_)))))
  revert H; refine ggI ?_; intro g4 H
  revert H; refine ggI ?_; intro g5 H
  refine sv (EV.ix 2 rfl rfl rfl g4 g5 rfl) rfl (sv (EV.le (v := .agg #[.int .i64 ((rd_T75 l0 x2_14).f0), .int .i64 ((rd_T75 l0 x2_14).f1), .int .i64 ((rd_T75 l0 x2_14).f2)]) x2_14 0 (some 3) 2 z75 rfl rfl rfl g4 g5 rfl rfl rfl) rfl (so rfl (op_alloc (cs := [.int .i64 0, .int .i64 0, .int .i64 0]) (by kernel_rfl) rfl fun b9 => (so rfl (op_st (cs' := [.int .i64 ((rd_T75 l0 x2_14).f0), .int .i64 ((rd_T75 l0 x2_14).f1), .int .i64 ((rd_T75 l0 x2_14).f2)]) 0 rfl rfl rfl rfl rfl rfl (re (gs (rg (sv (EV.fa 0 rfl) rfl (sv (EV.ld 0 none rfl rfl rfl) rfl (sv (EV.mv rfl) rfl ?_)))))))))))
  revert H; refine bdI ?_; rintro t6 A6 H
  refine so rfl (op_call (impl_HashBit.ok ((rd_T75 l0 x2_14).f0) x2_1 _ A6) [] 3 rfl rfl rfl rfl rfl ?_)
  rintro _ _ _ ⟨rfl, rfl, rfl⟩
  refine sv (EV.eql rfl rfl) rfl (re (pr [1, 6, 7, 9, 12, 13, 14, 22] [0] [0, 1, 2] rfl rfl rfl rfl ?_))
  revert H; refine ifsI ?_ ?_ <;> intro c7 H
  ·
   refine gt rfl (dT c7) (rg (sv (EV.mv rfl) rfl (sv (EV.ld (v := .agg #[.int .i64 ((rd_T75 l0 x2_14).f0), .int .i64 ((rd_T75 l0 x2_14).f1), .int .i64 ((rd_T75 l0 x2_14).f2)]) 0 (some 3) rfl rfl rfl) rfl (so rfl (op_lit (s := 3) (by_ := 24) k75 ([(⟨(rd_T75 l0 x2_14).f0, (rd_T75 l0 x2_14).f1, (rd_T75 l0 x2_14).f2⟩ : S75)] : List S75) [[]] [] 3 [.tmp 24] rfl rfl rfl rfl rfl rfl rfl rfl rfl rfl rfl rfl rfl dq rfl fun A25_8 c25_8 => ?_)))))
   revert H; refine ggI ?_; intro g9 H
   exact so rfl (op_app (k := k75) (s := 3) (by_ := 24) 0 3 rfl rfl rfl rfl (ap1 g9 dq) (ap1n g9 dq) (.inl rfl) true (fun _ => .inl rfl) rfl rfl fun A26_10 c26_10 => (nmE (en := [.sl 2 k75 Ax2_7 cx2_7 x2_7 2 true, .sl 0 k75 Al0 cl0 l0 0 false, .sl 2 k75 A25_8 c25_8 ([(⟨(rd_T75 l0 x2_14).f0, (rd_T75 l0 x2_14).f1, (rd_T75 l0 x2_14).f2⟩ : S75)] : List S75) 3 true, .sl 2 k75 A26_10 c26_10 (x2_6 ++ ([(⟨(rd_T75 l0 x2_14).f0, (rd_T75 l0 x2_14).f1, (rd_T75 l0 x2_14).f2⟩ : S75)] : List S75)) 1 true]) (by kernel_rfl) (sv (EV.as rfl) rfl (re (pr [1, 6, 7, 12, 13, 14] [] [0, 1, 3] rfl rfl rfl rfl (ge (rg (sv (EV.add rfl rfl) rfl (sv (EV.mv rfl) rfl (re (wk [1, 6, 7, 12, 13, 14] [] [⟨2, 2, 1, true⟩, ⟨0, 2, 2, true⟩, ⟨1, 0, 0, false⟩] (ih0 _ (by omega) _ ⟨x2_1, x2_6 ++ ([(⟨(rd_T75 l0 x2_14).f0, (rd_T75 l0 x2_14).f1, (rd_T75 l0 x2_14).f2⟩ : S75)] : List S75), A26_10, c26_10, x2_7, Ax2_7, cx2_7, x2_13, wrap64 (x2_14 + 1), H, rfl⟩))))))))))))
  ·
   refine gf rfl (dF c7) (rg (sv (EV.mv rfl) rfl (sv (EV.ld (v := .agg #[.int .i64 ((rd_T75 l0 x2_14).f0), .int .i64 ((rd_T75 l0 x2_14).f1), .int .i64 ((rd_T75 l0 x2_14).f2)]) 0 (some 3) rfl rfl rfl) rfl (so rfl (op_lit (s := 3) (by_ := 24) k75 ([(⟨(rd_T75 l0 x2_14).f0, (rd_T75 l0 x2_14).f1, (rd_T75 l0 x2_14).f2⟩ : S75)] : List S75) [[]] [] 3 [.tmp 28] rfl rfl rfl rfl rfl rfl rfl rfl rfl rfl rfl rfl rfl dq rfl fun A29_11 c29_11 => ?_)))))
   revert H; refine ggI ?_; intro g12 H
   exact so rfl (op_app (k := k75) (s := 3) (by_ := 24) 1 3 rfl rfl rfl rfl (ap1 g12 dq) (ap1n g12 dq) (.inl rfl) true (fun _ => .inl rfl) rfl rfl fun A30_13 c30_13 => (nmE (en := [.sl 2 k75 Ax2_6 cx2_6 x2_6 1 true, .sl 0 k75 Al0 cl0 l0 0 false, .sl 2 k75 A29_11 c29_11 ([(⟨(rd_T75 l0 x2_14).f0, (rd_T75 l0 x2_14).f1, (rd_T75 l0 x2_14).f2⟩ : S75)] : List S75) 3 true, .sl 2 k75 A30_13 c30_13 (x2_7 ++ ([(⟨(rd_T75 l0 x2_14).f0, (rd_T75 l0 x2_14).f1, (rd_T75 l0 x2_14).f2⟩ : S75)] : List S75)) 2 true]) (by kernel_rfl) (sv (EV.as rfl) rfl (re (pr [1, 6, 7, 12, 13, 14] [] [0, 1, 3] rfl rfl rfl rfl (ge (rg (sv (EV.add rfl rfl) rfl (sv (EV.mv rfl) rfl (re (wk [1, 6, 7, 12, 13, 14] [] [⟨0, 2, 1, true⟩, ⟨2, 2, 2, true⟩, ⟨1, 0, 0, false⟩] (ih0 _ (by omega) _ ⟨x2_1, x2_6, Ax2_6, cx2_6, x2_7 ++ ([(⟨(rd_T75 l0 x2_14).f0, (rd_T75 l0 x2_14).f1, (rd_T75 l0 x2_14).f2⟩ : S75)] : List S75), A30_13, c30_13, x2_13, wrap64 (x2_14 + 1), H, rfl⟩))))))))))))
 ·
  refine gf rfl (dF c3) (gx rfl (gs (rg (sv (EV.mv rfl) rfl (sv (EV.mv rfl) rfl (sv (EV.as rfl) rfl (sv (EV.as rfl) rfl (re (pr [4, 5] [] [0, 1] rfl rfl rfl rfl ?_)))))))))
  cases H
  exact rt Try.func69 rfl (.tmp rfl (.tmp rfl .nil)) rfl [] [⟨0, 2, 1, true⟩, ⟨1, 2, 2, true⟩] rfl rfl rfl rfl rfl ⟨_, _, _, _, rfl, rfl, rfl⟩
mutual
def impl_StepAggregator.j1 : Nat → Int → (List (Int × Bool)) → (List S75) → (List S75) → (List S75) → Int → Int → (List S64) → Int → Bool → (List S64) → Int → Bool → (List S75) → Int → Int → Int → Int → Option ((List S64) × Int × Bool × (List S49) × Int × Bool)
 | 0, _, _, _, _, _, _, _, _, _, _, _, _, _, _, _, _, _, _ => none
 | k + 1, x21_10, x21_11, x21_12, x21_13, x21_52, x21_53, x21_54, x21_4_0, x21_4_1, x21_4_2, x21_8_0, x21_8_1, x21_8_2, x21_9_0, x21_9_1, x21_16_0, x21_16_1, x21_16_2 => if x21_12.length < 5864062014805 then (impl_StepAggregator.l0 k x21_10 x21_11 (x21_12 ++ ([(⟨x21_16_0, x21_16_1, x21_16_2⟩ : S75)] : List S75)) x21_13 (!x21_8_2) x21_52 x21_53 (wrap64 (x21_54 + 1)) x21_4_0 x21_4_1 x21_4_2 x21_8_0 x21_8_1 x21_8_2 x21_9_0 x21_9_1) else none
def impl_StepAggregator.j0 : Nat → Int → (List (Int × Bool)) → (List S75) → (List S75) → Bool → (List S75) → Int → Int → (List S64) → Int → Bool → (List S64) → Int → Bool → (List S75) → Int → Int → Int → Int → Option ((List S64) × Int × Bool × (List S49) × Int × Bool)
 | 0, _, _, _, _, _, _, _, _, _, _, _, _, _, _, _, _, _, _, _ => none
 | k + 1, x20_10, x20_11, x20_12, x20_13, x20_14, x20_52, x20_53, x20_54, x20_4_0, x20_4_1, x20_4_2, x20_8_0, x20_8_1, x20_8_2, x20_9_0, x20_9_1, x20_16_0, x20_16_1, x20_16_2 => if x20_14 = true then (if ((mGet x20_11 x20_16_0).getD false) = true then (if x20_13.length < 5864062014805 then (impl_StepAggregator.l0 k x20_10 x20_11 x20_12 (x20_13 ++ ([(⟨x20_16_0, x20_16_1, x20_16_2⟩ : S75)] : List S75)) true x20_52 x20_53 (wrap64 (x20_54 + 1)) x20_4_0 x20_4_1 x20_4_2 x20_8_0 x20_8_1 x20_8_2 x20_9_0 x20_9_1) else none) else (impl_StepAggregator.j1 k x20_10 x20_11 x20_12 x20_13 x20_52 x20_53 x20_54 x20_4_0 x20_4_1 x20_4_2 x20_8_0 x20_8_1 x20_8_2 x20_9_0 x20_9_1 x20_16_0 x20_16_1 x20_16_2)) else (impl_StepAggregator.j1 k x20_10 x20_11 x20_12 x20_13 x20_52 x20_53 x20_54 x20_4_0 x20_4_1 x20_4_2 x20_8_0 x20_8_1 x20_8_2 x20_9_0 x20_9_1 x20_16_0 x20_16_1 x20_16_2)
def impl_StepAggregator.j2 : Nat → (List S49) → (List S64) → Int → Bool → (List S64) → Int → Bool → Option ((List S64) × Int × Bool × (List S49) × Int × Bool)
 | 0, _, _, _, _, _, _, _ => none
 | k + 1, x23_17, x23_4_0, x23_4_1, x23_4_2, x23_8_0, x23_8_1, x23_8_2 => some (x23_8_0, x23_8_1, x23_8_2, x23_17, wrap64 (3 * (x23_17.length : Int)), true)
def impl_StepAggregator.j3 : Nat → (List S49) → (List S64) → (List S64) → Int → Bool → (List S64) → Int → Bool → Option ((List S64) × Int × Bool × (List S49) × Int × Bool)
 | 0, _, _, _, _, _, _, _, _ => none
 | k + 1, x24_17, x24_18, x24_4_0, x24_4_1, x24_4_2, x24_8_0, x24_8_1, x24_8_2 => if x24_18.length + x24_8_0.length ≤ 4398046511104 then (impl_StepAggregator.j2 k x24_17 x24_4_0 x24_4_1 x24_4_2 (x24_18 ++ x24_8_0) x24_8_1 x24_8_2) else none
def impl_StepAggregator.l0 : Nat → Int → (List (Int × Bool)) → (List S75) → (List S75) → Bool → (List S75) → Int → Int → (List S64) → Int → Bool → (List S64) → Int → Bool → (List S75) → Int → Option ((List S64) × Int × Bool × (List S49) × Int × Bool)
 | 0, _, _, _, _, _, _, _, _, _, _, _, _, _, _, _, _ => none
 | k + 1, x10_10, x10_11, x10_12, x10_13, x10_14, x10_52, x10_53, x10_54, x10_4_0, x10_4_1, x10_4_2, x10_8_0, x10_8_1, x10_8_2, x10_9_0, x10_9_1 => if x10_54 < x10_53 then (if 0 ≤ x10_54 then (if x10_54 < (x10_52.length : Int) then (if x10_14 = true then (if ((mGet x10_11 ((rd_T75 x10_52 x10_54).f0)).getD false) = true then (impl_StepAggregator.j0 k x10_10 x10_11 x10_12 x10_13 true x10_52 x10_53 x10_54 x10_4_0 x10_4_1 x10_4_2 x10_8_0 x10_8_1 x10_8_2 x10_9_0 x10_9_1 ((rd_T75 x10_52 x10_54).f0) ((rd_T75 x10_52 x10_54).f1) ((rd_T75 x10_52 x10_54).f2)) else (if (x10_11.length : Int) < x10_10 then (impl_StepAggregator.j0 k x10_10 (mSet x10_11 ((rd_T75 x10_52 x10_54).f0) true) x10_12 x10_13 true x10_52 x10_53 x10_54 x10_4_0 x10_4_1 x10_4_2 x10_8_0 x10_8_1 x10_8_2 x10_9_0 x10_9_1 ((rd_T75 x10_52 x10_54).f0) ((rd_T75 x10_52 x10_54).f1) ((rd_T75 x10_52 x10_54).f2)) else (impl_StepAggregator.j0 k x10_10 x10_11 x10_12 x10_13 true x10_52 x10_53 x10_54 x10_4_0 x10_4_1 x10_4_2 x10_8_0 x10_8_1 x10_8_2 x10_9_0 x10_9_1 ((rd_T75 x10_52 x10_54).f0) ((rd_T75 x10_52 x10_54).f1) ((rd_T75 x10_52 x10_54).f2)))) else (impl_StepAggregator.j0 k x10_10 x10_11 x10_12 x10_13 false x10_52 x10_53 x10_54 x10_4_0 x10_4_1 x10_4_2 x10_8_0 x10_8_1 x10_8_2 x10_9_0 x10_9_1 ((rd_T75 x10_52 x10_54).f0) ((rd_T75 x10_52 x10_54).f1) ((rd_T75 x10_52 x10_54).f2))) else none) else none) else ((impl_ReferenceGroups.f k x10_13).bind fun t29 => (if (x10_12.length : Int) > 0 then (if x10_8_2 = true then (impl_StepAggregator.j3 k t29 ([(⟨x10_12, x10_9_1⟩ : S64)] : List S64) x10_4_0 x10_4_1 x10_4_2 x10_8_0 x10_8_1 true) else ((impl_TotalCost.f k x10_12).bind fun t37 => (if x10_9_1 < 4 then ((impl_SplitByHashBit.f k x10_12 x10_9_1).bind fun bt39 => (impl_StepAggregator.j3 k t29 ([(⟨bt39.1, wrap64 (x10_9_1 + 1)⟩ : S64), (⟨bt39.2, wrap64 (x10_9_1 + 1)⟩ : S64)] : List S64) x10_4_0 x10_4_1 x10_4_2 x10_8_0 (wrap64 (x10_8_1 + t37)) false)) else (impl_StepAggregator.j3 k t29 ([(⟨x10_12, x10_9_1⟩ : S64)] : List S64) x10_4_0 x10_4_1 x10_4_2 x10_8_0 (wrap64 (x10_8_1 + t37)) false)))) else (impl_StepAggregator.j2 k t29 x10_4_0 x10_4_1 x10_4_2 x10_8_0 x10_8_1 x10_8_2)))
end
def impl_StepAggregator.f (k : Nat) (l0_0 : List S64) (a0_1 : Int) (a0_2 : Bool) (a1 : Int) : Option ((List S64) × Int × Bool × (List S49) × Int × Bool) := (impl_cloneAggregator.f k l0_0 a0_1 a0_2).bind fun bt1 => ((impl_IsValidAggregator.f k l0_0 a0_1 a0_2).bind fun t2 => (if t2 = true then (if (l0_0.length : Int) = 0 then (some (bt1.1, bt1.2.1, bt1.2.2, [], 0, false)) else ((impl_isGrant.f a1).bind fun t5 => (if t5 = true then (if 0 < (bt1.1.length : Int) then (if 1 ≤ (bt1.1.length : Int) then (impl_StepAggregator.l0 k (wrap64 (Int.tdiv a1 3)) ([] : List (Int × Bool)) [] [] true ((rd_T64 bt1.1 0).f0) (((rd_T64 bt1.1 0).f0).length : Int) 0 [] 0 false (bt1.1.drop (1 : Int).toNat) bt1.2.1 bt1.2.2 ((rd_T64 bt1.1 0).f0) ((rd_T64 bt1.1 0).f1)) else none) else none) else (some (bt1.1, bt1.2.1, bt1.2.2, [], 0, false))))) else (some (bt1.1, bt1.2.1, bt1.2.2, [], 0, false))))
set_option maxHeartbeats 4000000 in
set_option maxRecDepth 100000 in
theorem impl_StepAggregator.ok (k : Nat) (l0_0 : List S64) (Al0_0 : Option Addr) (cl0_0 : Nat) (a0_1 : Int) (a0_2 : Bool) (a1 : Int) (r0 : List S64) (r1 : Int) (r2 : Bool) (r3 : List S49) (r4 : Int) (r5 : Bool) (H : impl_StepAggregator.f k l0_0 a0_1 a0_2 a1 = some (r0, r1, r2, r3, r4, r5)) : Fn Try.prog 34 [.agg #[.slice Al0_0 l0_0.length cl0_0, .int .i64 a0_1, .bool a0_2], .int .i64 a1] [] [.sl 0 k64 Al0_0 cl0_0 l0_0 0 false] (fun v bx en => ∃ A0 c0 A3 c3, v = .tuple #[.agg #[.slice A0 r0.length c0, .int .i64 r1, .bool r2], .slice A3 r3.length c3, .int .i64 r4, .bool r5] ∧ bx = [] ∧ en = [.sl 1 k64 A0 c0 r0 1 true, .sl 1 k49 A3 c3 r3 2 false]) := by
 refine fn_ 144 Try.func34 rfl rfl rfl (fun base T w0 => ?_)
 rw [impl_StepAggregator.f] at H
 refine gs (rg (so rfl (op_box (cs := [.slice Al0_0 l0_0.length cl0_0, .int .i64 a0_1, .bool a0_2]) rfl rfl rfl fun b2 => (so rfl (op_alloc (cs := [.slice none 0 0, .int .i64 0, .bool false]) (by kernel_rfl) rfl fun b4 => (sv (EV.as rfl) rfl (sv (EV.as rfl) rfl (sv (EV.as rfl) rfl (re (gs (rg (sv (EV.ld (v := .agg #[.slice Al0_0 l0_0.length cl0_0, .int .i64 a0_1, .bool a0_2]) 0 (some 3) rfl rfl rfl) rfl ?_))))))))))))
 revert H; refine bdI ?_; rintro ⟨t1_0, t1_1, t1_2⟩ A1 H
 refine so rfl (op_call (impl_cloneAggregator.ok k l0_0 Al0_0 cl0_0 a0_1 a0_2 _ _ _ A1) [⟨0, 0, 0, false⟩] 1 rfl rfl rfl rfl rfl ?_)
 rintro _ _ _ ⟨At1_0, ct1_0, rfl, rfl, rfl⟩
 refine so rfl (op_alloc (cs := [.slice none 0 0, .int .i64 0, .bool false]) (by kernel_rfl) rfl fun b8 => (so rfl (op_st (cs' := [.slice At1_0 t1_0.length ct1_0, .int .i64 t1_1, .bool t1_2]) 2 rfl rfl rfl rfl rfl rfl (re (pr [1, 2, 4, 8] [0, 1, 2] [0, 1] rfl rfl rfl rfl (gs (gs (rg (sv (EV.ld (v := .agg #[.slice Al0_0 l0_0.length cl0_0, .int .i64 a0_1, .bool a0_2]) 0 (some 3) rfl rfl rfl) rfl ?_)))))))))
 revert H; refine bdI ?_; rintro t2 A2 H
 refine so rfl (op_call (impl_IsValidAggregator.ok k l0_0 Al0_0 cl0_0 a0_1 a0_2 _ A2) [⟨0, 0, 0, false⟩] 3 rfl rfl rfl rfl rfl ?_)
 rintro _ _ _ ⟨rfl, rfl, rfl⟩
 refine sv (EV.nt rfl) rfl (sv (EV.mv rfl) rfl ?_)
 revert H; refine ifsI ?_ ?_ <;> intro c3 H
 ·
  subst c3
  refine ts 26 rfl rfl (sv (EV.fa 0 rfl) rfl (sv (EV.ld 0 none rfl rfl rfl) rfl (sv (EV.ln rfl) rfl (sv (EV.eql rfl rfl) rfl (sv (EV.pf rfl rfl rfl) rfl (sv (EV.mv rfl) rfl ?_))))))
  revert H; refine ifsI ?_ ?_ <;> intro c4 H
  ·
   refine ts 32 rfl (dT c4) (sk rfl (sk rfl (sk rfl (sv (EV.pt rfl rfl rfl) rfl (re (pr [1, 4, 8, 36] [1, 2] [1] rfl rfl rfl rfl (gt rfl rfl (gs (rg (sv (EV.ld (v := .agg #[.slice At1_0 t1_0.length ct1_0, .int .i64 t1_1, .bool t1_2]) 1 (some 3) rfl rfl rfl) rfl (so rfl (op_st (cs' := [.slice At1_0 t1_0.length ct1_0, .int .i64 t1_1, .bool t1_2]) 0 rfl rfl rfl rfl rfl rfl (sv (EV.as rfl) rfl (sv (EV.as rfl) rfl (sv (EV.as rfl) rfl (re (nil_ k49 3 dq ?_)))))))))))))))))
   cases H
   exact rt Try.func34 rfl (.cell 0 (some 3) rfl rfl rfl (.tmp rfl (.tmp rfl (.tmp rfl .nil)))) rfl [] [⟨0, 1, 1, true⟩, ⟨1, 1, 2, false⟩] rfl rfl rfl rfl rfl ⟨_, _, _, _, rfl, rfl, rfl⟩
  ·
   refine ts 32 rfl (dF c4) (sv (EV.mv rfl) rfl ?_)
   revert H; refine bdI ?_; rintro t5 A5 H
   refine so rfl (op_call (impl_isGrant.ok a1 _ A5) [] 3 rfl rfl rfl rfl rfl ?_)
   rintro _ _ _ ⟨rfl, rfl, rfl⟩
   refine sv (EV.nt rfl) rfl (sv (EV.pf rfl rfl rfl) rfl (re (pr [1, 4, 8, 36] [1, 2] [1] rfl rfl rfl rfl ?_)))
   revert H; refine ifsI ?_ ?_ <;> intro c6 H
   ·
    subst c6
    refine gf rfl rfl (gk (gs (rg (sv (EV.fa 0 rfl) rfl (sv (EV.ld 1 none rfl rfl rfl) rfl ?_)))))
    revert H; refine ggI ?_; intro g7 H
    refine sv (EV.ix 0 rfl rfl rfl dq g7 rfl) rfl (opn (i := 0) 0 z64 rfl dq g7 fun A_8 c_8 => (sv (EV.lc (v := .agg #[.slice A_8 ((rd_T64 t1_0 0).f0).length c_8, .int .i64 ((rd_T64 t1_0 0).f1)]) 0 (some 2) 1 rfl rfl rfl rfl) rfl (sv (EV.mv rfl) rfl (sv (EV.quo rfl rfl dq) rfl (so rfl (op_alloc (cs := [.slice none 0 0, .int .i64 0]) (by kernel_rfl) rfl fun b9 => (so rfl (op_st (cs' := [.slice A_8 ((rd_T64 t1_0 0).f0).length c_8, .int .i64 ((rd_T64 t1_0 0).f1)]) 2 rfl rfl rfl rfl rfl rfl (sv (EV.as rfl) rfl (re (pr [4, 8, 9, 10] [0, 1, 2] [0, 1, 2] rfl rfl rfl rfl (gs (rg (sv (EV.fa 0 rfl) rfl (sv (EV.ld 1 none rfl rfl rfl) rfl ?_)))))))))))))))
    revert H; refine ggI ?_; intro g9 H
    refine cutp (l' := t1_0.drop (1 : Int).toNat) 1 (t1_0.length : Int) 0 rfl dq g9 (Int.le_refl _) rfl 1 dq (.inl dq) ctl (sv (EV.ct 1 (t1_0.length : Int) 0 rfl rfl rfl rfl dq g9 (Int.le_refl _) rfl rfl ctnl) rfl (sv (EV.fa 0 rfl) rfl (so rfl (op_st (cs' := [.slice (cutA At1_0 ct1_0 (1 : Int).toNat 2) (t1_0.drop (1 : Int).toNat).length (ct1_0 - (1 : Int).toNat), .int .i64 t1_1, .bool t1_2]) 1 rfl rfl rfl rfl rfl rfl (re (gs (rg (so rfl (op_mkm (β := Bool) .i64 Value.bool 3 rfl dq rfl fun r48_10 => (so rfl (op_lit (s := 3) (by_ := 24) k75 ([] : List S75) [] [] 4 [] rfl rfl rfl rfl rfl rfl rfl rfl rfl rfl rfl rfl rfl dq rfl fun A49_11 c49_11 => (sv (EV.as rfl) rfl (sv (EV.as rfl) rfl (re (pr [4, 8, 9, 10, 11, 12] [0, 1, 2] [2, 3, 4, 5] rfl rfl rfl rfl (gs (rg (so rfl (op_lit (s := 3) (by_ := 24) k75 ([] : List S75) [] [] 5 [] rfl rfl rfl rfl rfl rfl rfl rfl rfl rfl rfl rfl rfl dq rfl fun A50_12 c50_12 => (sv (EV.as rfl) rfl (sv (EV.as rfl) rfl (re (gs (gs (rg (sv (EV.fa 0 rfl) rfl (sv (EV.ld 2 none rfl rfl rfl) rfl (sv (EV.ln rfl) rfl (sv (EV.mv rfl) rfl ?_)))))))))))))))))))))))))))))
    refine re (gb (nil_ k64 6 dq ?_))
    refine lo (fun kk S => ∃ (x10_10 : Int) (x10_11 : List (Int × Bool)) (rx10_11 : Nat) (x10_12 : List S75) (Ax10_12 : Option Addr) (cx10_12 : Nat) (x10_13 : List S75) (Ax10_13 : Option Addr) (cx10_13 : Nat) (x10_14 : Bool) (x10_52 : List S75) (Ax10_52 : Option Addr) (cx10_52 : Nat) (x10_53 : Int) (x10_54 : Int) (x10_4_0 : List S64) (Ax10_4_0 : Option Addr) (cx10_4_0 : Nat) (x10_4_1 : Int) (x10_4_2 : Bool) (x10_8_0 : List S64) (Ax10_8_0 : Option Addr) (cx10_8_0 : Nat) (x10_8_1 : Int) (x10_8_2 : Bool) (x10_9_0 : List S75) (Ax10_9_0 : Option Addr) (cx10_9_0 : Nat) (x10_9_1 : Int), impl_StepAggregator.l0 kk x10_10 x10_11 x10_12 x10_13 x10_14 x10_52 x10_53 x10_54 x10_4_0 x10_4_1 x10_4_2 x10_8_0 x10_8_1 x10_8_2 x10_9_0 x10_9_1 = some (r0, r1, r2, r3, r4, r5) ∧ S = ⟨[(4, .pointer (some ⟨b4, 0, none⟩)), (8, .pointer (some ⟨b8, 0, none⟩)), (9, .pointer (some ⟨b9, 0, none⟩)), (10, .int .i64 x10_10), (11, .map (some rx10_11)), (12, .slice Ax10_12 x10_12.length cx10_12), (13, .slice Ax10_13 x10_13.length cx10_13), (14, .bool x10_14), (52, .slice Ax10_52 x10_52.length cx10_52), (53, .int .i64 x10_53), (54, .int .i64 x10_54)], [⟨b4, 54, [.slice Ax10_4_0 x10_4_0.length cx10_4_0, .int .i64 x10_4_1, .bool x10_4_2]⟩, ⟨b8, 54, [.slice Ax10_8_0 x10_8_0.length cx10_8_0, .int .i64 x10_8_1, .bool x10_8_2]⟩, ⟨b9, 64, [.slice Ax10_9_0 x10_9_0.length cx10_9_0, .int .i64 x10_9_1]⟩], [mapE .i64 Value.bool rx10_11 x10_11 1, .sl 2 k75 Ax10_12 cx10_12 x10_12 2 true, .sl 2 k75 Ax10_13 cx10_13 x10_13 3 true, .sl 1 k75 Ax10_52 cx10_52 x10_52 4 true, .sl 2 k64 Ax10_4_0 cx10_4_0 x10_4_0 5 true, .sl 1 k64 Ax10_8_0 cx10_8_0 x10_8_0 4 true, .sl 1 k75 Ax10_9_0 cx10_9_0 x10_9_0 4 true]⟩) (fun S hS => ?_) (fun n0 ih0 S hS => ?_) ⟨wrap64 (Int.tdiv a1 3), ([] : List (Int × Bool)), r48_10, [], A49_11, c49_11, [], A50_12, c50_12, true, (rd_T64 t1_0 0).f0, A_8, c_8, (((rd_T64 t1_0 0).f0).length : Int), 0, [], none, 0, 0, false, t1_0.drop (1 : Int).toNat, (cutA At1_0 ct1_0 (1 : Int).toNat 2), (ct1_0 - (1 : Int).toNat), t1_1, t1_2, (rd_T64 t1_0 0).f0, A_8, c_8, (rd_T64 t1_0 0).f1, H, rfl⟩ (fun h => wk [4, 8, 9, 10, 11, 12, 13, 14, 52, 53, 54] [0, 1, 2] [⟨2, 1, 1, false⟩, ⟨3, 2, 2, true⟩, ⟨4, 2, 3, true⟩, ⟨0, 1, 4, true⟩, ⟨5, 2, 5, true⟩, ⟨1, 1, 4, true⟩, ⟨0, 1, 4, true⟩] h)
    · clear H; obtain ⟨_, _, _, _, _, _, _, _, _, _, _, _, _, _, _, _, _, _, _, _, _, _, _, _, _, _, _, _, _, H, _⟩ := hS; rw [impl_StepAggregator.l0] at H; cases H
    clear H
    obtain ⟨x10_10, x10_11, rx10_11, x10_12, Ax10_12, cx10_12, x10_13, Ax10_13, cx10_13, x10_14, x10_52, Ax10_52, cx10_52, x10_53, x10_54, x10_4_0, Ax10_4_0, cx10_4_0, x10_4_1, x10_4_2, x10_8_0, Ax10_8_0, cx10_8_0, x10_8_1, x10_8_2, x10_9_0, Ax10_9_0, cx10_9_0, x10_9_1, H, rfl⟩ := hS
    rw [impl_StepAggregator.l0] at H
    refine gs (rg (sv (EV.lss rfl rfl) rfl (re (gs ?_))))
    revert H; refine ifsI ?_ ?_ <;> intro c13 H
    ·
     refine gt rfl (dT c13) (gk (gs (gb (gs (rg ?_)))))
     revert H; refine ggI ?_; intro g14 H
     revert H; refine ggI ?_; intro g15 H
     refine sv (EV.ix 3 rfl rfl rfl g14 g15 rfl) rfl (sv (EV.le (v := .agg #[.int .i64 ((rd_T75 x10_52 x10_54).f0), .int .i64 ((rd_T75 x10_52 x10_54).f1), .int .i64 ((rd_T75 x10_52 x10_54).f2)]) x10_54 0 (some 3) 3 z75 rfl rfl rfl g14 g15 rfl rfl rfl) rfl (so rfl (op_alloc (cs := [.int .i64 0, .int .i64 0, .int .i64 0]) (by kernel_rfl) rfl fun b16 => (so rfl (op_st (cs' := [.int .i64 ((rd_T75 x10_52 x10_54).f0), .int .i64 ((rd_T75 x10_52 x10_54).f1), .int .i64 ((rd_T75 x10_52 x10_54).f2)]) 3 rfl rfl rfl rfl rfl rfl (re ?_))))))
     refine jo (fun S => ∃ (m : Nat) (x20_10 : Int) (x20_11 : List (Int × Bool)) (rx20_11 : Nat) (x20_12 : List S75) (Ax20_12 : Option Addr) (cx20_12 : Nat) (x20_13 : List S75) (Ax20_13 : Option Addr) (cx20_13 : Nat) (x20_14 : Bool) (x20_52 : List S75) (Ax20_52 : Option Addr) (cx20_52 : Nat) (x20_53 : Int) (x20_54 : Int) (x20_4_0 : List S64) (Ax20_4_0 : Option Addr) (cx20_4_0 : Nat) (x20_4_1 : Int) (x20_4_2 : Bool) (x20_8_0 : List S64) (Ax20_8_0 : Option Addr) (cx20_8_0 : Nat) (x20_8_1 : Int) (x20_8_2 : Bool) (x20_9_0 : List S75) (Ax20_9_0 : Option Addr) (cx20_9_0 : Nat) (x20_9_1 : Int) (x20_16_0 : Int) (x20_16_1 : Int) (x20_16_2 : Int), m ≤ n0 ∧ impl_StepAggregator.j0 m x20_10 x20_11 x20_12 x20_13 x20_14 x20_52 x20_53 x20_54 x20_4_0 x20_4_1 x20_4_2 x20_8_0 x20_8_1 x20_8_2 x20_9_0 x20_9_1 x20_16_0 x20_16_1 x20_16_2 = some (r0, r1, r2, r3, r4, r5) ∧ S = ⟨[(4, .pointer (some ⟨b4, 0, none⟩)), (8, .pointer (some ⟨b8, 0, none⟩)), (9, .pointer (some ⟨b9, 0, none⟩)), (10, .int .i64 x20_10), (11, .map (some rx20_11)), (12, .slice Ax20_12 x20_12.length cx20_12), (13, .slice Ax20_13 x20_13.length cx20_13), (14, .bool x20_14), (16, .pointer (some ⟨b16, 0, none⟩)), (52, .slice Ax20_52 x20_52.length cx20_52), (53, .int .i64 x20_53), (54, .int .i64 x20_54)], [⟨b4, 54, [.slice Ax20_4_0 x20_4_0.length cx20_4_0, .int .i64 x20_4_1, .bool x20_4_2]⟩, ⟨b8, 54, [.slice Ax20_8_0 x20_8_0.length cx20_8_0, .int .i64 x20_8_1, .bool x20_8_2]⟩, ⟨b9, 64, [.slice Ax20_9_0 x20_9_0.length cx20_9_0, .int .i64 x20_9_1]⟩, ⟨b16, 75, [.int .i64 x20_16_0, .int .i64 x20_16_1, .int .i64 x20_16_2]⟩], [mapE .i64 Value.bool rx20_11 x20_11 1, .sl 2 k75 Ax20_12 cx20_12 x20_12 2 true, .sl 2 k75 Ax20_13 cx20_13 x20_13 3 true, .sl 1 k75 Ax20_52 cx20_52 x20_52 4 true, .sl 2 k64 Ax20_4_0 cx20_4_0 x20_4_0 5 true, .sl 1 k64 Ax20_8_0 cx20_8_0 x20_8_0 4 true, .sl 1 k75 Ax20_9_0 cx20_9_0 x20_9_0 4 true]⟩) (fun S hS => ?_) (fun jh0 => ?_)
     ·
      clear H
      obtain ⟨m16, x20_10, x20_11, rx20_11, x20_12, Ax20_12, cx20_12, x20_13, Ax20_13, cx20_13, x20_14, x20_52, Ax20_52, cx20_52, x20_53, x20_54, x20_4_0, Ax20_4_0, cx20_4_0, x20_4_1, x20_4_2, x20_8_0, Ax20_8_0, cx20_8_0, x20_8_1, x20_8_2, x20_9_0, Ax20_9_0, cx20_9_0, x20_9_1, x20_16_0, x20_16_1, x20_16_2, lm16, H, rfl⟩ := hS
      rcases m16 with _ | m16
      · rw [impl_StepAggregator.j0] at H; cases H
      rw [impl_StepAggregator.j0] at H
      refine jo (fun S => ∃ (m : Nat) (x21_10 : Int) (x21_11 : List (Int × Bool)) (rx21_11 : Nat) (x21_12 : List S75) (Ax21_12 : Option Addr) (cx21_12 : Nat) (x21_13 : List S75) (Ax21_13 : Option Addr) (cx21_13 : Nat) (x21_52 : List S75) (Ax21_52 : Option Addr) (cx21_52 : Nat) (x21_53 : Int) (x21_54 : Int) (x21_4_0 : List S64) (Ax21_4_0 : Option Addr) (cx21_4_0 : Nat) (x21_4_1 : Int) (x21_4_2 : Bool) (x21_8_0 : List S64) (Ax21_8_0 : Option Addr) (cx21_8_0 : Nat) (x21_8_1 : Int) (x21_8_2 : Bool) (x21_9_0 : List S75) (Ax21_9_0 : Option Addr) (cx21_9_0 : Nat) (x21_9_1 : Int) (x21_16_0 : Int) (x21_16_1 : Int) (x21_16_2 : Int), m ≤ m16 ∧ impl_StepAggregator.j1 m x21_10 x21_11 x21_12 x21_13 x21_52 x21_53 x21_54 x21_4_0 x21_4_1 x21_4_2 x21_8_0 x21_8_1 x21_8_2 x21_9_0 x21_9_1 x21_16_0 x21_16_1 x21_16_2 = some (r0, r1, r2, r3, r4, r5) ∧ S = ⟨[(4, .pointer (some ⟨b4, 0, none⟩)), (8, .pointer (some ⟨b8, 0, none⟩)), (9, .pointer (some ⟨b9, 0, none⟩)), (10, .int .i64 x21_10), (11, .map (some rx21_11)), (12, .slice Ax21_12 x21_12.length cx21_12), (13, .slice Ax21_13 x21_13.length cx21_13), (16, .pointer (some ⟨b16, 0, none⟩)), (52, .slice Ax21_52 x21_52.length cx21_52), (53, .int .i64 x21_53), (54, .int .i64 x21_54)], [⟨b4, 54, [.slice Ax21_4_0 x21_4_0.length cx21_4_0, .int .i64 x21_4_1, .bool x21_4_2]⟩, ⟨b8, 54, [.slice Ax21_8_0 x21_8_0.length cx21_8_0, .int .i64 x21_8_1, .bool x21_8_2]⟩, ⟨b9, 64, [.slice Ax21_9_0 x21_9_0.length cx21_9_0, .int .i64 x21_9_1]⟩, ⟨b16, 75, [.int .i64 x21_16_0, .int .i64 x21_16_1, .int .i64 x21_16_2]⟩], [mapE .i64 Value.bool rx21_11 x21_11 1, .sl 2 k75 Ax21_12 cx21_12 x21_12 2 true, .sl 2 k75 Ax21_13 cx21_13 x21_13 3 true, .sl 1 k75 Ax21_52 cx21_52 x21_52 4 true, .sl 2 k64 Ax21_4_0 cx21_4_0 x21_4_0 5 true, .sl 1 k64 Ax21_8_0 cx21_8_0 x21_8_0 4 true, .sl 1 k75 Ax21_9_0 cx21_9_0 x21_9_0 4 true]⟩) (fun S hS => ?_) (fun jh1 => ?_)
      ·
       clear H
       obtain ⟨m17, x21_10, x21_11, rx21_11, x21_12, Ax21_12, cx21_12, x21_13, Ax21_13, cx21_13, x21_52, Ax21_52, cx21_52, x21_53, x21_54, x21_4_0, Ax21_4_0, cx21_4_0, x21_4_1, x21_4_2, x21_8_0, Ax21_8_0, cx21_8_0, x21_8_1, x21_8_2, x21_9_0, Ax21_9_0, cx21_9_0, x21_9_1, x21_16_0, x21_16_1, x21_16_2, lm17, H, rfl⟩ := hS
       rcases m17 with _ | m17
       · rw [impl_StepAggregator.j1] at H; cases H
       rw [impl_StepAggregator.j1] at H
       refine gs (rg (sv (EV.mv rfl) rfl (sv (EV.ld (v := .agg #[.int .i64 x21_16_0, .int .i64 x21_16_1, .int .i64 x21_16_2]) 3 (some 3) rfl rfl rfl) rfl (so rfl (op_lit (s := 3) (by_ := 24) k75 ([(⟨x21_16_0, x21_16_1, x21_16_2⟩ : S75)] : List S75) [[]] [] 6 [.tmp 87] rfl rfl rfl rfl rfl rfl rfl rfl rfl rfl rfl rfl rfl dq rfl fun A88_18 c88_18 => ?_)))))
       revert H; refine ggI ?_; intro g19 H
       exact so rfl (op_app (k := k75) (s := 3) (by_ := 24) 1 7 rfl rfl rfl rfl (ap1 g19 dq) (ap1n g19 dq) (.inl rfl) true (fun _ => .inl rfl) rfl rfl fun A89_20 c89_20 => (nmE (en := [mapE .i64 Value.bool rx21_11 x21_11 1, .sl 2 k75 Ax21_13 cx21_13 x21_13 3 true, .sl 1 k75 Ax21_52 cx21_52 x21_52 4 true, .sl 2 k64 Ax21_4_0 cx21_4_0 x21_4_0 5 true, .sl 1 k64 Ax21_8_0 cx21_8_0 x21_8_0 4 true, .sl 1 k75 Ax21_9_0 cx21_9_0 x21_9_0 4 true, .sl 2 k75 A88_18 c88_18 ([(⟨x21_16_0, x21_16_1, x21_16_2⟩ : S75)] : List S75) 6 true, .sl 2 k75 A89_20 c89_20 (x21_12 ++ ([(⟨x21_16_0, x21_16_1, x21_16_2⟩ : S75)] : List S75)) 2 true]) (by kernel_rfl) (sv (EV.as rfl) rfl (re (rg (sv (EV.fa 2 rfl) rfl (sv (EV.ld 1 none rfl rfl rfl) rfl (sv (EV.nt rfl) rfl (sv (EV.as rfl) rfl (re (pr [4, 8, 9, 10, 11, 12, 13, 14, 52, 53, 54] [0, 1, 2] [0, 1, 2, 3, 4, 5, 7] rfl rfl rfl rfl (ge (rg (sv (EV.add rfl rfl) rfl (sv (EV.mv rfl) rfl (re (wk [4, 8, 9, 10, 11, 12, 13, 14, 52, 53, 54] [0, 1, 2] [⟨0, 1, 1, false⟩, ⟨6, 2, 2, true⟩, ⟨1, 2, 3, true⟩, ⟨2, 1, 4, true⟩, ⟨3, 2, 5, true⟩, ⟨4, 1, 4, true⟩, ⟨5, 1, 4, true⟩] (ih0 _ (by omega) _ ⟨x21_10, x21_11, rx21_11, x21_12 ++ ([(⟨x21_16_0, x21_16_1, x21_16_2⟩ : S75)] : List S75), A89_20, c89_20, x21_13, Ax21_13, cx21_13, !x21_8_2, x21_52, Ax21_52, cx21_52, x21_53, wrap64 (x21_54 + 1), x21_4_0, Ax21_4_0, cx21_4_0, x21_4_1, x21_4_2, x21_8_0, Ax21_8_0, cx21_8_0, x21_8_1, x21_8_2, x21_9_0, Ax21_9_0, cx21_9_0, x21_9_1, H, rfl⟩))))))))))))))))))
      ·
       refine gs (rg (sv (EV.mv rfl) rfl (sv (EV.mv rfl) rfl ?_)))
       revert H; refine ifsI ?_ ?_ <;> intro c21 H
       ·
        subst c21
        refine ts 76 rfl rfl (sv (EV.mv rfl) rfl (sv (EV.fa 0 rfl) rfl (sv (EV.ld 3 none rfl rfl rfl) rfl (sv (EV.lk (vf := Value.bool) (zz := false) 0 rfl rfl rfl) rfl (sv (EV.pt rfl rfl rfl) rfl (re ?_))))))
        revert H; refine ifsI ?_ ?_ <;> intro c22 H
        ·
         refine gt rfl (c22) (gs (rg (sv (EV.mv rfl) rfl (sv (EV.ld (v := .agg #[.int .i64 x20_16_0, .int .i64 x20_16_1, .int .i64 x20_16_2]) 3 (some 3) rfl rfl rfl) rfl (so rfl (op_lit (s := 3) (by_ := 24) k75 ([(⟨x20_16_0, x20_16_1, x20_16_2⟩ : S75)] : List S75) [[]] [] 6 [.tmp 83] rfl rfl rfl rfl rfl rfl rfl rfl rfl rfl rfl rfl rfl dq rfl fun A84_23 c84_23 => ?_))))))
         revert H; refine ggI ?_; intro g24 H
         exact so rfl (op_app (k := k75) (s := 3) (by_ := 24) 2 7 rfl rfl rfl rfl (ap1 g24 dq) (ap1n g24 dq) (.inl rfl) true (fun _ => .inl rfl) rfl rfl fun A85_25 c85_25 => (nmE (en := [mapE .i64 Value.bool rx20_11 x20_11 1, .sl 2 k75 Ax20_12 cx20_12 x20_12 2 true, .sl 1 k75 Ax20_52 cx20_52 x20_52 4 true, .sl 2 k64 Ax20_4_0 cx20_4_0 x20_4_0 5 true, .sl 1 k64 Ax20_8_0 cx20_8_0 x20_8_0 4 true, .sl 1 k75 Ax20_9_0 cx20_9_0 x20_9_0 4 true, .sl 2 k75 A84_23 c84_23 ([(⟨x20_16_0, x20_16_1, x20_16_2⟩ : S75)] : List S75) 6 true, .sl 2 k75 A85_25 c85_25 (x20_13 ++ ([(⟨x20_16_0, x20_16_1, x20_16_2⟩ : S75)] : List S75)) 3 true]) (by kernel_rfl) (sv (EV.as rfl) rfl (re (pr [4, 8, 9, 10, 11, 12, 13, 14, 52, 53, 54, 77, 78, 79, 80] [0, 1, 2, 3] [0, 1, 2, 3, 4, 5, 7] rfl rfl rfl rfl (gx rfl (rg (sv (EV.add rfl rfl) rfl (sv (EV.mv rfl) rfl (re (wk [4, 8, 9, 10, 11, 12, 13, 14, 52, 53, 54] [0, 1, 2] [⟨0, 1, 1, false⟩, ⟨1, 2, 2, true⟩, ⟨6, 2, 3, true⟩, ⟨2, 1, 4, true⟩, ⟨3, 2, 5, true⟩, ⟨4, 1, 4, true⟩, ⟨5, 1, 4, true⟩] (ih0 _ (by omega) _ ⟨x20_10, x20_11, rx20_11, x20_12, Ax20_12, cx20_12, x20_13 ++ ([(⟨x20_16_0, x20_16_1, x20_16_2⟩ : S75)] : List S75), A85_25, c85_25, true, x20_52, Ax20_52, cx20_52, x20_53, wrap64 (x20_54 + 1), x20_4_0, Ax20_4_0, cx20_4_0, x20_4_1, x20_4_2, x20_8_0, Ax20_8_0, cx20_8_0, x20_8_1, x20_8_2, x20_9_0, Ax20_9_0, cx20_9_0, x20_9_1, H, rfl⟩))))))))))))
        ·
         exact gf rfl (bF c22) (gk (wk [4, 8, 9, 10, 11, 12, 13, 16, 52, 53, 54] [0, 1, 2, 3] [⟨0, 1, 1, false⟩, ⟨1, 2, 2, true⟩, ⟨2, 2, 3, true⟩, ⟨3, 1, 4, true⟩, ⟨4, 2, 5, true⟩, ⟨5, 1, 4, true⟩, ⟨6, 1, 4, true⟩] (jh1 _ ⟨_, x20_10, x20_11, rx20_11, x20_12, Ax20_12, cx20_12, x20_13, Ax20_13, cx20_13, x20_52, Ax20_52, cx20_52, x20_53, x20_54, x20_4_0, Ax20_4_0, cx20_4_0, x20_4_1, x20_4_2, x20_8_0, Ax20_8_0, cx20_8_0, x20_8_1, x20_8_2, x20_9_0, Ax20_9_0, cx20_9_0, x20_9_1, x20_16_0, x20_16_1, x20_16_2, by omega, H, rfl⟩)))
       ·
        obtain rfl := bF c21
        exact ts 76 rfl rfl (sk rfl (sk rfl (sk rfl (sk rfl (sv (EV.pf rfl rfl rfl) rfl (re (pr [4, 8, 9, 10, 11, 12, 13, 14, 16, 52, 53, 54, 81] [0, 1, 2, 3] [0, 1, 2, 3, 4, 5, 6] rfl rfl rfl rfl (gf rfl rfl (gk (wk [4, 8, 9, 10, 11, 12, 13, 16, 52, 53, 54] [0, 1, 2, 3] [⟨0, 1, 1, false⟩, ⟨1, 2, 2, true⟩, ⟨2, 2, 3, true⟩, ⟨3, 1, 4, true⟩, ⟨4, 2, 5, true⟩, ⟨5, 1, 4, true⟩, ⟨6, 1, 4, true⟩] (jh1 _ ⟨_, x20_10, x20_11, rx20_11, x20_12, Ax20_12, cx20_12, x20_13, Ax20_13, cx20_13, x20_52, Ax20_52, cx20_52, x20_53, x20_54, x20_4_0, Ax20_4_0, cx20_4_0, x20_4_1, x20_4_2, x20_8_0, Ax20_8_0, cx20_8_0, x20_8_1, x20_8_2, x20_9_0, Ax20_9_0, cx20_9_0, x20_9_1, x20_16_0, x20_16_1, x20_16_2, by omega, H, rfl⟩)))))))))))
     ·
      refine gs (rg (sv (EV.mv rfl) rfl (sv (EV.mv rfl) rfl ?_)))
      revert H; refine ifsI ?_ ?_ <;> intro c26 H
      ·
       subst c26
       refine ts 59 rfl rfl (sv (EV.mv rfl) rfl (sv (EV.fa 0 rfl) rfl (sv (EV.ld 3 none rfl rfl rfl) rfl (sv (EV.lk (vf := Value.bool) (zz := false) 0 rfl rfl rfl) rfl (sv (EV.nt rfl) rfl (sv (EV.pt rfl rfl rfl) rfl (sv (EV.mv rfl) rfl ?_)))))))
       revert H; refine ifsI ?_ ?_ <;> intro c27 H
       ·
        exact ts 66 rfl (bN c27) (sk rfl (sk rfl (sk rfl (sk rfl (sv (EV.pf rfl rfl rfl) rfl (re (pr [4, 8, 9, 10, 11, 12, 13, 14, 16, 52, 53, 54, 60, 61, 62, 63, 64, 71] [0, 1, 2, 3] [0, 1, 2, 3, 4, 5, 6] rfl rfl rfl rfl (gf rfl rfl (gk (wk [4, 8, 9, 10, 11, 12, 13, 14, 16, 52, 53, 54] [0, 1, 2, 3] [⟨0, 1, 1, false⟩, ⟨1, 2, 2, true⟩, ⟨2, 2, 3, true⟩, ⟨3, 1, 4, true⟩, ⟨4, 2, 5, true⟩, ⟨5, 1, 4, true⟩, ⟨6, 1, 4, true⟩] (jh0 _ ⟨_, x10_10, x10_11, rx10_11, x10_12, Ax10_12, cx10_12, x10_13, Ax10_13, cx10_13, true, x10_52, Ax10_52, cx10_52, x10_53, x10_54, x10_4_0, Ax10_4_0, cx10_4_0, x10_4_1, x10_4_2, x10_8_0, Ax10_8_0, cx10_8_0, x10_8_1, x10_8_2, x10_9_0, Ax10_9_0, cx10_9_0, x10_9_1, (rd_T75 x10_52 x10_54).f0, (rd_T75 x10_52 x10_54).f1, (rd_T75 x10_52 x10_54).f2, by omega, H, rfl⟩)))))))))))
       ·
        refine ts 66 rfl (bM c27) (sv (EV.mv rfl) rfl (sv (EV.lm 0 rfl rfl) rfl (sv (EV.mv rfl) rfl (sv (EV.lss rfl rfl) rfl (sv (EV.pt rfl rfl rfl) rfl (re (pr [4, 8, 9, 10, 11, 12, 13, 14, 16, 52, 53, 54, 60, 61, 62, 63, 64, 67, 68, 69, 70, 71] [0, 1, 2, 3] [0, 1, 2, 3, 4, 5, 6] rfl rfl rfl rfl ?_)))))))
        revert H; refine ifsI ?_ ?_ <;> intro c28 H
        ·
         exact gt rfl (dT c28) (rg (sv (EV.mv rfl) rfl (sv (EV.fa 0 rfl) rfl (sv (EV.ld 3 none rfl rfl rfl) rfl (so rfl (op_mu 0 true rfl rfl rfl rfl rfl (nmE (en := [.sl 2 k75 Ax10_12 cx10_12 x10_12 2 true, .sl 2 k75 Ax10_13 cx10_13 x10_13 3 true, .sl 1 k75 Ax10_52 cx10_52 x10_52 4 true, .sl 2 k64 Ax10_4_0 cx10_4_0 x10_4_0 5 true, .sl 1 k64 Ax10_8_0 cx10_8_0 x10_8_0 4 true, .sl 1 k75 Ax10_9_0 cx10_9_0 x10_9_0 4 true, mapE .i64 Value.bool rx10_11 (mSet x10_11 ((rd_T75 x10_52 x10_54).f0) true) 1]) (by kernel_rfl) (re (wk [4, 8, 9, 10, 11, 12, 13, 14, 16, 52, 53, 54] [0, 1, 2, 3] [⟨6, 1, 1, false⟩, ⟨0, 2, 2, true⟩, ⟨1, 2, 3, true⟩, ⟨2, 1, 4, true⟩, ⟨3, 2, 5, true⟩, ⟨4, 1, 4, true⟩, ⟨5, 1, 4, true⟩] (jh0 _ ⟨_, x10_10, mSet x10_11 ((rd_T75 x10_52 x10_54).f0) true, rx10_11, x10_12, Ax10_12, cx10_12, x10_13, Ax10_13, cx10_13, true, x10_52, Ax10_52, cx10_52, x10_53, x10_54, x10_4_0, Ax10_4_0, cx10_4_0, x10_4_1, x10_4_2, x10_8_0, Ax10_8_0, cx10_8_0, x10_8_1, x10_8_2, x10_9_0, Ax10_9_0, cx10_9_0, x10_9_1, (rd_T75 x10_52 x10_54).f0, (rd_T75 x10_52 x10_54).f1, (rd_T75 x10_52 x10_54).f2, by omega, H, rfl⟩))))))))))
        ·
         exact gf rfl (dF c28) (gk (wk [4, 8, 9, 10, 11, 12, 13, 14, 16, 52, 53, 54] [0, 1, 2, 3] [⟨0, 1, 1, false⟩, ⟨1, 2, 2, true⟩, ⟨2, 2, 3, true⟩, ⟨3, 1, 4, true⟩, ⟨4, 2, 5, true⟩, ⟨5, 1, 4, true⟩, ⟨6, 1, 4, true⟩] (jh0 _ ⟨_, x10_10, x10_11, rx10_11, x10_12, Ax10_12, cx10_12, x10_13, Ax10_13, cx10_13, true, x10_52, Ax10_52, cx10_52, x10_53, x10_54, x10_4_0, Ax10_4_0, cx10_4_0, x10_4_1, x10_4_2, x10_8_0, Ax10_8_0, cx10_8_0, x10_8_1, x10_8_2, x10_9_0, Ax10_9_0, cx10_9_0, x10_9_1, (rd_T75 x10_52 x10_54).f0, (rd_T75 x10_52 x10_54).f1, (rd_T75 x10_52 x10_54).f2, by omega, H, rfl⟩)))
      ·
       obtain rfl := bF c26
       exact ts 59 rfl rfl (sk rfl (sk rfl (sk rfl (sk rfl (sk rfl (sv (EV.pf rfl rfl rfl) rfl (sv (EV.mv rfl) rfl (sk rfl (sk rfl (sk rfl (sk rfl (sv (EV.pf rfl rfl rfl) rfl (re (pr [4, 8, 9, 10, 11, 12, 13, 14, 16, 52, 53, 54, 71] [0, 1, 2, 3] [0, 1, 2, 3, 4, 5, 6] rfl rfl rfl rfl (gf rfl rfl (gk (wk [4, 8, 9, 10, 11, 12, 13, 14, 16, 52, 53, 54] [0, 1, 2, 3] [⟨0, 1, 1, false⟩, ⟨1, 2, 2, true⟩, ⟨2, 2, 3, true⟩, ⟨3, 1, 4, true⟩, ⟨4, 2, 5, true⟩, ⟨5, 1, 4, true⟩, ⟨6, 1, 4, true⟩] (jh0 _ ⟨_, x10_10, x10_11, rx10_11, x10_12, Ax10_12, cx10_12, x10_13, Ax10_13, cx10_13, false, x10_52, Ax10_52, cx10_52, x10_53, x10_54, x10_4_0, Ax10_4_0, cx10_4_0, x10_4_1, x10_4_2, x10_8_0, Ax10_8_0, cx10_8_0, x10_8_1, x10_8_2, x10_9_0, Ax10_9_0, cx10_9_0, x10_9_1, (rd_T75 x10_52 x10_54).f0, (rd_T75 x10_52 x10_54).f1, (rd_T75 x10_52 x10_54).f2, by omega, H, rfl⟩))))))))))))))))))
    ·
     refine gf rfl (dF c13) (gx rfl (gs (rg (sv (EV.mv rfl) rfl ?_))))
     revert H; refine bdI ?_; rintro t29 A29 H
     refine so rfl (op_call (impl_ReferenceGroups.ok n0 x10_13 Ax10_13 cx10_13 _ A29) [⟨2, 0, 0, false⟩] 6 rfl rfl rfl rfl rfl ?_)
     rintro _ _ _ ⟨At29, ct29, rfl, rfl, rfl⟩
     refine sv (EV.as rfl) rfl (re (pr [4, 8, 9, 12, 17] [0, 1, 2] [1, 4, 5, 6, 7] rfl rfl rfl rfl ?_))
     refine jo (fun S => ∃ (m : Nat) (x23_17 : List S49) (Ax23_17 : Option Addr) (cx23_17 : Nat) (x23_4_0 : List S64) (Ax23_4_0 : Option Addr) (cx23_4_0 : Nat) (x23_4_1 : Int) (x23_4_2 : Bool) (x23_8_0 : List S64) (Ax23_8_0 : Option Addr) (cx23_8_0 : Nat) (x23_8_1 : Int) (x23_8_2 : Bool), m ≤ n0 ∧ impl_StepAggregator.j2 m x23_17 x23_4_0 x23_4_1 x23_4_2 x23_8_0 x23_8_1 x23_8_2 = some (r0, r1, r2, r3, r4, r5) ∧ S = ⟨[(4, .pointer (some ⟨b4, 0, none⟩)), (8, .pointer (some ⟨b8, 0, none⟩)), (17, .slice Ax23_17 x23_17.length cx23_17)], [⟨b4, 54, [.slice Ax23_4_0 x23_4_0.length cx23_4_0, .int .i64 x23_4_1, .bool x23_4_2]⟩, ⟨b8, 54, [.slice Ax23_8_0 x23_8_0.length cx23_8_0, .int .i64 x23_8_1, .bool x23_8_2]⟩], [.sl 1 k49 Ax23_17 cx23_17 x23_17 1 false, .sl 2 k64 Ax23_4_0 cx23_4_0 x23_4_0 2 true, .sl 1 k64 Ax23_8_0 cx23_8_0 x23_8_0 3 true]⟩) (fun S hS => ?_) (fun jh2 => ?_)
     ·
      clear H
      obtain ⟨m30, x23_17, Ax23_17, cx23_17, x23_4_0, Ax23_4_0, cx23_4_0, x23_4_1, x23_4_2, x23_8_0, Ax23_8_0, cx23_8_0, x23_8_1, x23_8_2, lm30, H, rfl⟩ := hS
      rcases m30 with _ | m30
      · rw [impl_StepAggregator.j2] at H; cases H
      rw [impl_StepAggregator.j2] at H
      refine gs (rg (sv (EV.ld (v := .agg #[.slice Ax23_8_0 x23_8_0.length cx23_8_0, .int .i64 x23_8_1, .bool x23_8_2]) 1 (some 3) rfl rfl rfl) rfl (sv (EV.mv rfl) rfl (sv (EV.mv rfl) rfl (sv (EV.ln rfl) rfl (sv (EV.mul rfl rfl) rfl (so rfl (op_st (cs' := [.slice Ax23_8_0 x23_8_0.length cx23_8_0, .int .i64 x23_8_1, .bool x23_8_2]) 0 rfl rfl rfl rfl rfl rfl (sv (EV.as rfl) rfl (sv (EV.as rfl) rfl (sv (EV.as rfl) rfl (re (pr [4, 5, 6, 7] [0] [0, 2] rfl rfl rfl rfl ?_)))))))))))))
      cases H
      exact rt Try.func34 rfl (.cell 0 (some 3) rfl rfl rfl (.tmp rfl (.tmp rfl (.tmp rfl .nil)))) rfl [] [⟨1, 1, 1, true⟩, ⟨0, 1, 2, false⟩] rfl rfl rfl rfl rfl ⟨_, _, _, _, rfl, rfl, rfl⟩
     ·
      refine gs (rg (sv (EV.mv rfl) rfl (sv (EV.ln rfl) rfl (sv (EV.gtr rfl rfl) rfl (re ?_)))))
      revert H; refine ifsI ?_ ?_ <;> intro c31 H
      ·
       refine gt rfl (dT c31) (gs (rg (sv (EV.mv rfl) rfl (sv (EV.fa 1 rfl) rfl (sv (EV.ld 2 none rfl rfl rfl) rfl (sv (EV.bd (v := .agg #[.slice Ax10_12 x10_12.length cx10_12, .int .i64 x10_9_1]) rfl (by kernel_rfl)) rfl (so rfl (op_lit (s := 2) (by_ := 32) k64 ([(⟨x10_12, x10_9_1⟩ : S64)] : List S64) [[(Ax10_12, cx10_12)]] [0] 8 [.tmp 102] rfl rfl rfl rfl rfl rfl rfl rfl rfl rfl rfl rfl rfl dq rfl fun A103_32 c103_32 => (nmE (en := [.sl 2 k75 Ax10_12 cx10_12 x10_12 8 true, .sl 2 k64 Ax10_4_0 cx10_4_0 x10_4_0 5 true, .sl 1 k64 Ax10_8_0 cx10_8_0 x10_8_0 4 true, .sl 1 k75 Ax10_9_0 cx10_9_0 x10_9_0 4 true, .sl 1 k49 At29 ct29 t29 7 false, .sl 2 k64 A103_32 c103_32 ([(⟨x10_12, x10_9_1⟩ : S64)] : List S64) 8 true]) (by kernel_rfl) (sv (EV.as rfl) rfl (re (pr [4, 8, 9, 12, 17, 18] [0, 1, 2] [0, 1, 2, 3, 4, 5] rfl rfl rfl rfl ?_))))))))))))
       refine jo (fun S => ∃ (m : Nat) (x24_17 : List S49) (Ax24_17 : Option Addr) (cx24_17 : Nat) (x24_18 : List S64) (Ax24_18 : Option Addr) (cx24_18 : Nat) (x24_4_0 : List S64) (Ax24_4_0 : Option Addr) (cx24_4_0 : Nat) (x24_4_1 : Int) (x24_4_2 : Bool) (x24_8_0 : List S64) (Ax24_8_0 : Option Addr) (cx24_8_0 : Nat) (x24_8_1 : Int) (x24_8_2 : Bool), m ≤ n0 ∧ impl_StepAggregator.j3 m x24_17 x24_18 x24_4_0 x24_4_1 x24_4_2 x24_8_0 x24_8_1 x24_8_2 = some (r0, r1, r2, r3, r4, r5) ∧ S = ⟨[(4, .pointer (some ⟨b4, 0, none⟩)), (8, .pointer (some ⟨b8, 0, none⟩)), (17, .slice Ax24_17 x24_17.length cx24_17), (18, .slice Ax24_18 x24_18.length cx24_18)], [⟨b4, 54, [.slice Ax24_4_0 x24_4_0.length cx24_4_0, .int .i64 x24_4_1, .bool x24_4_2]⟩, ⟨b8, 54, [.slice Ax24_8_0 x24_8_0.length cx24_8_0, .int .i64 x24_8_1, .bool x24_8_2]⟩], [.sl 1 k49 Ax24_17 cx24_17 x24_17 1 false, .sl 2 k64 Ax24_18 cx24_18 x24_18 2 true, .sl 2 k64 Ax24_4_0 cx24_4_0 x24_4_0 3 true, .sl 1 k64 Ax24_8_0 cx24_8_0 x24_8_0 4 true]⟩) (fun S hS => ?_) (fun jh3 => ?_)
       ·
        clear H
        obtain ⟨m33, x24_17, Ax24_17, cx24_17, x24_18, Ax24_18, cx24_18, x24_4_0, Ax24_4_0, cx24_4_0, x24_4_1, x24_4_2, x24_8_0, Ax24_8_0, cx24_8_0, x24_8_1, x24_8_2, lm33, H, rfl⟩ := hS
        rcases m33 with _ | m33
        · rw [impl_StepAggregator.j3] at H; cases H
        rw [impl_StepAggregator.j3] at H
        refine rg (sv (EV.mv rfl) rfl (sv (EV.fa 0 rfl) rfl (sv (EV.ld 1 none rfl rfl rfl) rfl ?_)))
        revert H; refine ggI ?_; intro g34 H
        exact so rfl (op_app (k := k64) (s := 2) (by_ := 32) 1 3 rfl rfl rfl rfl (ap2 g34 dq) (ap2n g34 dq) (.inr ⟨dq, dq, rfl, dq⟩) true (fun _ => .inr ⟨rfl, rfl, dq⟩) rfl rfl fun A137_35 c137_35 => (nmE (en := [.sl 1 k49 Ax24_17 cx24_17 x24_17 1 false, .sl 2 k64 Ax24_4_0 cx24_4_0 x24_4_0 3 true, .sl 1 k64 Ax24_8_0 cx24_8_0 x24_8_0 2 true, .sl 2 k64 A137_35 c137_35 (x24_18 ++ x24_8_0) 2 true]) (by kernel_rfl) (sv (EV.fa 0 rfl) rfl (so rfl (op_st (cs' := [.slice A137_35 (x24_18 ++ x24_8_0).length c137_35, .int .i64 x24_8_1, .bool x24_8_2]) 1 rfl rfl rfl rfl rfl rfl (re (pr [4, 8, 17] [0, 1] [0, 1, 3] rfl rfl rfl rfl (wk [4, 8, 17] [0, 1] [⟨0, 1, 1, false⟩, ⟨1, 2, 2, true⟩, ⟨2, 1, 3, true⟩] (jh2 _ ⟨_, x24_17, Ax24_17, cx24_17, x24_4_0, Ax24_4_0, cx24_4_0, x24_4_1, x24_4_2, x24_18 ++ x24_8_0, A137_35, c137_35, x24_8_1, x24_8_2, by omega, H, rfl⟩)))))))))
       ·
        refine gs (rg (sv (EV.fa 2 rfl) rfl (sv (EV.ld 1 none rfl rfl rfl) rfl (sv (EV.nt rfl) rfl (re ?_)))))
        revert H; refine ifsI ?_ ?_ <;> intro c36 H
        ·
         subst c36
         exact gf rfl rfl (gk (wk [4, 8, 17, 18] [0, 1] [⟨4, 1, 1, false⟩, ⟨5, 2, 2, true⟩, ⟨1, 2, 3, true⟩, ⟨2, 1, 4, true⟩] (jh3 _ ⟨_, t29, At29, ct29, ([(⟨x10_12, x10_9_1⟩ : S64)] : List S64), A103_32, c103_32, x10_4_0, Ax10_4_0, cx10_4_0, x10_4_1, x10_4_2, x10_8_0, Ax10_8_0, cx10_8_0, x10_8_1, true, by omega, H, rfl⟩)))
        ·
         obtain rfl := bF c36
         refine gt rfl rfl (gs (dr [0, 1, 2] [0, 1, 2, 3, 4, 5] [6] 7 rfl rfl rfl rfl (xv 0 [0, 1, 2] [0, 1, 2, 3, 4, 5] rfl (EV.fa 1 rfl) rfl rfl rfl rfl (xv 1 [0, 1, 2] [0, 1, 2, 3, 4, 5] rfl (EV.ld 1 none rfl rfl rfl) rfl rfl rfl rfl (xv 2 [0, 1, 2] [0, 1, 2, 3, 4, 5] rfl (EV.mv rfl) rfl rfl rfl rfl (one1 3 rfl rfl ?_))))))
         revert H; refine bdI ?_; rintro t37 A37 H
         refine op_call (impl_TotalCost.ok n0 x10_12 Ax10_12 cx10_12 _ A37) [⟨0, 0, 0, false⟩] 9 rfl rfl rfl rfl rfl ?_
         rintro _ _ _ ⟨rfl, rfl, rfl⟩
         refine xs [0, 1, 2] [0, 1, 2, 3, 4, 5] rfl rfl rfl (xv 4 [0, 1, 2] [0, 1, 2, 3, 4, 5] rfl (EV.add rfl rfl) rfl rfl rfl rfl (xv 5 [0, 1, 2] [0, 1, 2, 3, 4, 5] rfl (EV.fa 1 rfl) rfl rfl rfl rfl (one1 6 rfl rfl (op_st (cs' := [.slice Ax10_8_0 x10_8_0.length cx10_8_0, .int .i64 (wrap64 (x10_8_1 + t37)), .bool false]) 1 rfl rfl rfl rfl rfl rfl (xn rfl (xd (pr [4, 8, 9, 12, 17, 18] [0, 1, 2] [0, 1, 2, 3, 4, 5] rfl rfl rfl rfl (gs (rg (sv (EV.fa 1 rfl) rfl (sv (EV.ld 2 none rfl rfl rfl) rfl (sv (EV.lss rfl rfl) rfl (re ?_)))))))))))))
         revert H; refine ifsI ?_ ?_ <;> intro c38 H
         ·
          refine gt rfl (dT c38) (gs (rg (sv (EV.mv rfl) rfl (sv (EV.fa 1 rfl) rfl (sv (EV.ld 2 none rfl rfl rfl) rfl ?_)))))
          revert H; refine bdI ?_; rintro ⟨t39_0, t39_1⟩ A39 H
          refine so rfl (op_call (impl_SplitByHashBit.ok n0 x10_12 Ax10_12 cx10_12 x10_9_1 _ _ A39) [⟨0, 0, 0, false⟩] 9 rfl rfl rfl rfl rfl ?_)
          rintro _ _ _ ⟨At39_0, ct39_0, At39_1, ct39_1, rfl, rfl, rfl⟩
          exact sv (EV.mv rfl) rfl (sv (EV.ex rfl rfl) rfl (sv (EV.ex rfl rfl) rfl (sv (EV.as rfl) rfl (sv (EV.as rfl) rfl (re (pr [4, 8, 9, 17, 19, 20] [0, 1, 2] [1, 2, 3, 4, 6, 7] rfl rfl rfl rfl (rg (sv (EV.mv rfl) rfl (sv (EV.fa 1 rfl) rfl (sv (EV.ld 2 none rfl rfl rfl) rfl (sv (EV.add rfl rfl) rfl (sv (EV.bd (v := .agg #[.slice At39_0 t39_0.length ct39_0, .int .i64 (wrap64 (x10_9_1 + 1))]) rfl (by kernel_rfl)) rfl (sv (EV.mv rfl) rfl (sv (EV.fa 1 rfl) rfl (sv (EV.ld 2 none rfl rfl rfl) rfl (sv (EV.add rfl rfl) rfl (sv (EV.bd (v := .agg #[.slice At39_1 t39_1.length ct39_1, .int .i64 (wrap64 (x10_9_1 + 1))]) rfl (by kernel_rfl)) rfl (so rfl (op_lit (s := 2) (by_ := 32) k64 ([(⟨t39_0, wrap64 (x10_9_1 + 1)⟩ : S64), (⟨t39_1, wrap64 (x10_9_1 + 1)⟩ : S64)] : List S64) [[(At39_0, ct39_0)], [(At39_1, ct39_1)]] [4, 5] 12 [.tmp 127, .tmp 132] rfl rfl rfl rfl rfl rfl rfl rfl rfl rfl rfl rfl rfl dq rfl fun A133_40 c133_40 => (nmE (en := [.sl 2 k64 Ax10_4_0 cx10_4_0 x10_4_0 5 true, .sl 1 k64 Ax10_8_0 cx10_8_0 x10_8_0 4 true, .sl 1 k75 Ax10_9_0 cx10_9_0 x10_9_0 4 true, .sl 1 k49 At29 ct29 t29 7 false, .sl 2 k75 At39_0 ct39_0 t39_0 12 true, .sl 2 k75 At39_1 ct39_1 t39_1 12 true, .sl 2 k64 A133_40 c133_40 ([(⟨t39_0, wrap64 (x10_9_1 + 1)⟩ : S64), (⟨t39_1, wrap64 (x10_9_1 + 1)⟩ : S64)] : List S64) 12 true]) (by kernel_rfl) (sv (EV.as rfl) rfl (re (pr [4, 8, 17, 18] [0, 1] [0, 1, 3, 6] rfl rfl rfl rfl (wk [4, 8, 17, 18] [0, 1] [⟨2, 1, 1, false⟩, ⟨3, 2, 2, true⟩, ⟨0, 2, 3, true⟩, ⟨1, 1, 4, true⟩] (jh3 _ ⟨_, t29, At29, ct29, ([(⟨t39_0, wrap64 (x10_9_1 + 1)⟩ : S64), (⟨t39_1, wrap64 (x10_9_1 + 1)⟩ : S64)] : List S64), A133_40, c133_40, x10_4_0, Ax10_4_0, cx10_4_0, x10_4_1, x10_4_2, x10_8_0, Ax10_8_0, cx10_8_0, wrap64 (x10_8_1 + t37), false, by omega, H, rfl⟩)))))))))))))))))))))))))
         ·
          exact gf rfl (dF c38) (gk (wk [4, 8, 17, 18] [0, 1] [⟨4, 1, 1, false⟩, ⟨5, 2, 2, true⟩, ⟨1, 2, 3, true⟩, ⟨2, 1, 4, true⟩] (jh3 _ ⟨_, t29, At29, ct29, ([(⟨x10_12, x10_9_1⟩ : S64)] : List S64), A103_32, c103_32, x10_4_0, Ax10_4_0, cx10_4_0, x10_4_1, x10_4_2, x10_8_0, Ax10_8_0, cx10_8_0, wrap64 (x10_8_1 + t37), false, by omega, H, rfl⟩)))
      ·
       exact gf rfl (dF c31) (gk (wk [4, 8, 17] [0, 1] [⟨4, 1, 1, false⟩, ⟨1, 2, 2, true⟩, ⟨2, 1, 3, true⟩] (jh2 _ ⟨_, t29, At29, ct29, x10_4_0, Ax10_4_0, cx10_4_0, x10_4_1, x10_4_2, x10_8_0, Ax10_8_0, cx10_8_0, x10_8_1, x10_8_2, by omega, H, rfl⟩)))
   ·
    obtain rfl := bF c6
    refine gt rfl rfl (gs (rg (sv (EV.ld (v := .agg #[.slice At1_0 t1_0.length ct1_0, .int .i64 t1_1, .bool t1_2]) 1 (some 3) rfl rfl rfl) rfl (so rfl (op_st (cs' := [.slice At1_0 t1_0.length ct1_0, .int .i64 t1_1, .bool t1_2]) 0 rfl rfl rfl rfl rfl rfl (sv (EV.as rfl) rfl (sv (EV.as rfl) rfl (sv (EV.as rfl) rfl (re (nil_ k49 3 dq ?_))))))))))
    cases H
    exact rt Try.func34 rfl (.cell 0 (some 3) rfl rfl rfl (.tmp rfl (.tmp rfl (.tmp rfl .nil)))) rfl [] [⟨0, 1, 1, true⟩, ⟨1, 1, 2, false⟩] rfl rfl rfl rfl rfl ⟨_, _, _, _, rfl, rfl, rfl⟩
 ·
  obtain rfl := bF c3
  refine ts 26 rfl rfl (sk rfl (sk rfl (sk rfl (sk rfl (sv (EV.pt rfl rfl rfl) rfl (sv (EV.mv rfl) rfl (sk rfl (sk rfl (sk rfl (sv (EV.pt rfl rfl rfl) rfl (re (pr [1, 4, 8, 36] [1, 2] [1] rfl rfl rfl rfl (gt rfl rfl (gs (rg (sv (EV.ld (v := .agg #[.slice At1_0 t1_0.length ct1_0, .int .i64 t1_1, .bool t1_2]) 1 (some 3) rfl rfl rfl) rfl (so rfl (op_st (cs' := [.slice At1_0 t1_0.length ct1_0, .int .i64 t1_1, .bool t1_2]) 0 rfl rfl rfl rfl rfl rfl (sv (EV.as rfl) rfl (sv (EV.as rfl) rfl (sv (EV.as rfl) rfl (re (nil_ k49 3 dq ?_)))))))))))))))))))))))
  cases H
  exact rt Try.func34 rfl (.cell 0 (some 3) rfl rfl rfl (.tmp rfl (.tmp rfl (.tmp rfl .nil)))) rfl [] [⟨0, 1, 1, true⟩, ⟨1, 1, 2, false⟩] rfl rfl rfl rfl rfl ⟨_, _, _, _, rfl, rfl, rfl⟩
def impl_NewAggregator.f (k : Nat) (l0 : List S75) (a1 : Bool) : Option ((List S64) × Int × Bool × Bool) := (impl_AreValidRows.f k l0).bind fun t1 => (if t1 = true then ((impl_clone.f l0).bind fun t3 => (some (([(⟨t3, 0⟩ : S64)] : List S64), 0, a1, true))) else (some ([], 0, false, false)))
set_option maxHeartbeats 4000000 in
set_option maxRecDepth 100000 in
theorem impl_NewAggregator.ok (k : Nat) (l0 : List S75) (Al0 : Option Addr) (cl0 : Nat) (a1 : Bool) (r0 : List S64) (r1 : Int) (r2 : Bool) (r3 : Bool) (H : impl_NewAggregator.f k l0 a1 = some (r0, r1, r2, r3)) : Fn Try.prog 47 [.slice Al0 l0.length cl0, .bool a1] [] [.sl 0 k75 Al0 cl0 l0 0 false] (fun v bx en => ∃ A0 c0, v = .tuple #[.agg #[.slice A0 r0.length c0, .int .i64 r1, .bool r2], .bool r3] ∧ bx = [] ∧ en = [.sl 2 k64 A0 c0 r0 1 true]) := by
 refine fn_ 16 Try.func47 rfl rfl rfl (fun base T w0 => ?_)
 rw [impl_NewAggregator.f] at H
 refine gs (rg (so rfl (op_alloc (cs := [.slice none 0 0, .int .i64 0, .bool false]) (by kernel_rfl) rfl fun b4 => (sv (EV.as rfl) rfl (re (gs (gs (rg (sv (EV.mv rfl) rfl ?_)))))))))
 revert H; refine bdI ?_; rintro t1 A1 H
 refine so rfl (op_call (impl_AreValidRows.ok k l0 Al0 cl0 _ A1) [⟨0, 0, 0, false⟩] 1 rfl rfl rfl rfl rfl ?_)
 rintro _ _ _ ⟨rfl, rfl, rfl⟩
 refine sv (EV.nt rfl) rfl (re ?_)
 revert H; refine ifsI ?_ ?_ <;> intro c2 H
 ·
  subst c2
  refine gf rfl rfl (gk (gs (rg (sv (EV.mv rfl) rfl ?_))))
  revert H; refine bdI ?_; rintro t3 A3 H
  refine so rfl (op_call (impl_clone.ok l0 Al0 cl0 _ A3) [⟨0, 0, 0, false⟩] 1 rfl rfl rfl rfl rfl ?_)
  rintro _ _ _ ⟨At3, ct3, rfl, rfl, rfl⟩
  refine sv (EV.bd (v := .agg #[.slice At3 t3.length ct3, .int .i64 0]) rfl (by kernel_rfl)) rfl (so rfl (op_lit (s := 2) (by_ := 32) k64 ([(⟨t3, 0⟩ : S64)] : List S64) [[(At3, ct3)]] [1] 3 [.tmp 12] rfl rfl rfl rfl rfl rfl rfl rfl rfl rfl rfl rfl rfl dq rfl fun A13_4 c13_4 => (nmE (en := [.sl 0 k75 Al0 cl0 l0 0 false, .sl 2 k75 At3 ct3 t3 3 true, .sl 2 k64 A13_4 c13_4 ([(⟨t3, 0⟩ : S64)] : List S64) 3 true]) (by kernel_rfl) (sv (EV.mv rfl) rfl (sv (EV.bd (v := .agg #[.slice A13_4 ([(⟨t3, 0⟩ : S64)] : List S64).length c13_4, .int .i64 0, .bool a1]) rfl (by kernel_rfl)) rfl (so rfl (op_st (cs' := [.slice A13_4 ([(⟨t3, 0⟩ : S64)] : List S64).length c13_4, .int .i64 0, .bool a1]) 0 rfl rfl rfl rfl rfl rfl (sv (EV.as rfl) rfl (re (pr [4, 5] [0] [2] rfl rfl rfl rfl ?_))))))))))
  cases H
  exact rt Try.func47 rfl (.cell 0 (some 3) rfl rfl rfl (.tmp rfl .nil)) rfl [] [⟨0, 2, 1, true⟩] rfl rfl rfl rfl rfl ⟨_, _, rfl, rfl, rfl⟩
 ·
  obtain rfl := bF c2
  refine gt rfl rfl (gs (rg (sv (EV.bd (v := .agg #[.slice none 0 0, .int .i64 0, .bool false]) rfl (by kernel_rfl)) rfl (so rfl (op_st (cs' := [.slice none 0 0, .int .i64 0, .bool false]) 0 rfl rfl rfl rfl rfl rfl (sv (EV.as rfl) rfl (re (pr [4, 5] [0] [] rfl rfl rfl rfl (nil_ k64 1 dq ?_)))))))))
  cases H
  exact rt Try.func47 rfl (.cell 0 (some 3) rfl rfl rfl (.tmp rfl .nil)) rfl [] [⟨0, 2, 1, true⟩] rfl rfl rfl rfl rfl ⟨_, _, rfl, rfl, rfl⟩
def impl_areGrants.l0 : Nat → Int → Int → (List Int) → Option (Bool)
 | 0, _, _, _ => none
 | k + 1, x2_6, x2_7, l0 => if x2_7 < x2_6 then (if 0 ≤ x2_7 then (if x2_7 < (l0.length : Int) then ((impl_isGrant.f (rdOf 0 l0 x2_7)).bind fun t4 => (if t4 = true then (impl_areGrants.l0 k x2_6 (wrap64 (x2_7 + 1)) l0) else (some false))) else none) else none) else (some (decide ((l0.length : Int) > 0)))
def impl_areGrants.f (k : Nat) (l0 : List Int) : Option (Bool) := impl_areGrants.l0 k (l0.length : Int) 0 l0
set_option maxHeartbeats 4000000 in
set_option maxRecDepth 100000 in
theorem impl_areGrants.ok (k : Nat) (l0 : List Int) (Al0 : Option Addr) (cl0 : Nat) (r0 : Bool) (H : impl_areGrants.f k l0 = some r0) : Fn Try.prog 48 [.slice Al0 l0.length cl0] [] [.sl 0 (.int .i64) Al0 cl0 l0 0 false] (fun v bx en => v = .bool r0 ∧ bx = [] ∧ en = []) := by
 refine fn_ 18 Try.func48 rfl rfl rfl (fun base T w0 => ?_)
 rw [impl_areGrants.f] at H
 refine gs (rg (sv (EV.as rfl) rfl (re (gs (gs (rg (sv (EV.mv rfl) rfl (sv (EV.ln rfl) rfl (sv (EV.mv rfl) rfl (re (gb ?_)))))))))))
 refine lo (fun kk S => ∃ (x2_6 : Int) (x2_7 : Int), impl_areGrants.l0 kk x2_6 x2_7 l0 = some r0 ∧ S = ⟨[(0, .slice Al0 l0.length cl0), (5, .slice Al0 l0.length cl0), (6, .int .i64 x2_6), (7, .int .i64 x2_7)], [], [.sl 0 (.int .i64) Al0 cl0 l0 0 false]⟩) (fun S hS => ?_) (fun n0 ih0 S hS => ?_) ⟨(l0.length : Int), 0, H, rfl⟩ (fun h => wk [0, 5, 6, 7] [] [⟨0, 0, 0, false⟩] h)
 · clear H; obtain ⟨_, _, H, _⟩ := hS; rw [impl_areGrants.l0] at H; cases H
 clear H
 obtain ⟨x2_6, x2_7, H, rfl⟩ := hS
 rw [impl_areGrants.l0] at H
 refine gs (rg (sv (EV.lss rfl rfl) rfl (re (gs ?_))))
 revert H; refine ifsI ?_ ?_ <;> intro c1 H
 ·
  refine gt rfl (dT c1) (gk (gs (gb (gs (rg ?_)))))
  revert H; refine ggI ?_; intro g2 H
  revert H; refine ggI ?_; intro g3 H
  refine sv (EV.ix 0 rfl rfl rfl g2 g3 rfl) rfl (sv (EV.le (v := .int .i64 (rdOf 0 l0 x2_7)) x2_7 0 none 0 0 rfl rfl rfl g2 g3 rfl rfl rfl) rfl (sv (EV.as rfl) rfl (re (gs (rg (sv (EV.mv rfl) rfl ?_))))))
  revert H; refine bdI ?_; rintro t4 A4 H
  refine so rfl (op_call (impl_isGrant.ok (rdOf 0 l0 x2_7) _ A4) [] 1 rfl rfl rfl rfl rfl ?_)
  rintro _ _ _ ⟨rfl, rfl, rfl⟩
  refine sv (EV.nt rfl) rfl (re (pr [0, 5, 6, 7, 13] [] [0] rfl rfl rfl rfl ?_))
  revert H; refine ifsI ?_ ?_ <;> intro c5 H
  ·
   subst c5
   exact gf rfl rfl (gk (ge (rg (sv (EV.add rfl rfl) rfl (sv (EV.mv rfl) rfl (re (wk [0, 5, 6, 7] [] [⟨0, 0, 0, false⟩] (ih0 _ (by omega) _ ⟨x2_6, wrap64 (x2_7 + 1), H, rfl⟩))))))))
  ·
   obtain rfl := bF c5
   refine gt rfl rfl (gs (rg (sv (EV.as rfl) rfl (re ?_))))
   cases H
   exact rt Try.func48 rfl (.tmp rfl .nil) rfl [] [] rfl rfl rfl rfl rfl ⟨rfl, rfl, rfl⟩
 ·
  refine gf rfl (dF c1) (gx rfl (gs (rg (sv (EV.mv rfl) rfl (sv (EV.ln rfl) rfl (sv (EV.gtr rfl rfl) rfl (sv (EV.as rfl) rfl (re (pr [2] [] [] rfl rfl rfl rfl ?_)))))))))
  cases H
  exact rt Try.func48 rfl (.tmp rfl .nil) rfl [] [] rfl rfl rfl rfl rfl ⟨rfl, rfl, rfl⟩
def impl_RunGroup.l0 : Nat → (List S49) → (List S49) → Int → Int → Int → (List S64) → Int → Bool → (List S49) → Int → Int → Int → (List Int) → Option ((List S49) × Int × Int × Int × Bool)
 | 0, _, _, _, _, _, _, _, _, _, _, _, _, _ => none
 | k + 1, x4_11, x4_6_0, x4_6_1, x4_6_2, x4_6_3, x4_8_0, x4_8_1, x4_8_2, x4_10_0, x4_10_1, x4_10_2, x4_10_3, l2 => if (x4_8_0.length : Int) > 0 then (if (l2.length : Int) ≠ 0 then (if 0 ≤ (Int.tmod x4_10_1 (l2.length : Int)) then (if (Int.tmod x4_10_1 (l2.length : Int)) < (l2.length : Int) then ((impl_StepAggregator.f k x4_8_0 x4_8_1 x4_8_2 (rdOf 0 l2 (Int.tmod x4_10_1 (l2.length : Int)))).bind fun bt10 => (if bt10.2.2.2.2.2 = true then (if x4_11.length + bt10.2.2.2.1.length ≤ 3518437208883 then (impl_RunGroup.l0 k (x4_11 ++ bt10.2.2.2.1) x4_6_0 x4_6_1 x4_6_2 x4_6_3 bt10.1 bt10.2.1 bt10.2.2.1 x4_10_0 (wrap64 (x4_10_1 + 1)) (mx x4_10_2 bt10.2.2.2.2.1) x4_10_3 l2) else none) else (some ([], 0, 0, 0, false)))) else none) else none) else none) else ((impl_MergeGroups.f k x4_11).bind fun t18 => (some (t18, x4_10_1, x4_10_2, x4_8_1, true)))
def impl_RunGroup.f (k : Nat) (l0 : List S75) (a1 : Bool) (l2 : List Int) : Option ((List S49) × Int × Int × Int × Bool) := (impl_NewAggregator.f k l0 a1).bind fun bt1 => (if bt1.2.2.2 = true then ((impl_areGrants.f k l2).bind fun t3 => (if t3 = true then (impl_RunGroup.l0 k [] [] 0 0 0 bt1.1 bt1.2.1 bt1.2.2.1 [] 0 0 0 l2) else (some ([], 0, 0, 0, false)))) else (some ([], 0, 0, 0, false)))
set_option maxHeartbeats 4000000 in
set_option maxRecDepth 100000 in
theorem impl_RunGroup.ok (k : Nat) (l0 : List S75) (Al0 : Option Addr) (cl0 : Nat) (a1 : Bool) (l2 : List Int) (Al2 : Option Addr) (cl2 : Nat) (r0 : List S49) (r1 : Int) (r2 : Int) (r3 : Int) (r4 : Bool) (H : impl_RunGroup.f k l0 a1 l2 = some (r0, r1, r2, r3, r4)) : Fn Try.prog 8 [.slice Al0 l0.length cl0, .bool a1, .slice Al2 l2.length cl2] [] [.sl 0 k75 Al0 cl0 l0 0 false, .sl 0 (.int .i64) Al2 cl2 l2 0 false] (fun v bx en => ∃ A0 c0, v = .tuple #[.agg #[.slice A0 r0.length c0, .int .i64 r1, .int .i64 r2, .int .i64 r3], .bool r4] ∧ bx = [] ∧ en = [.sl 1 k49 A0 c0 r0 1 false]) := by
 refine fn_ 74 Try.func8 rfl rfl rfl (fun base T w0 => ?_)
 rw [impl_RunGroup.f] at H
 refine gs (rg (so rfl (op_alloc (cs := [.slice none 0 0, .int .i64 0, .int .i64 0, .int .i64 0]) (by kernel_rfl) rfl fun b6 => (sv (EV.as rfl) rfl (re (gs (rg (sv (EV.mv rfl) rfl (sv (EV.mv rfl) rfl ?_)))))))))
 revert H; refine bdI ?_; rintro ⟨t1_0, t1_1, t1_2, t1_3⟩ A1 H
 refine so rfl (op_call (impl_NewAggregator.ok k l0 Al0 cl0 a1 _ _ _ _ A1) [⟨0, 0, 0, false⟩] 1 rfl rfl rfl rfl rfl ?_)
 rintro _ _ _ ⟨At1_0, ct1_0, rfl, rfl, rfl⟩
 refine sv (EV.mv rfl) rfl (sv (EV.ex rfl rfl) rfl (sv (EV.ex rfl rfl) rfl (so rfl (op_alloc (cs := [.slice none 0 0, .int .i64 0, .bool false]) (by kernel_rfl) rfl fun b8 => (so rfl (op_st (cs' := [.slice At1_0 t1_0.length ct1_0, .int .i64 t1_1, .bool t1_2]) 1 rfl rfl rfl rfl rfl rfl (sv (EV.as rfl) rfl (re (pr [2, 6, 8, 9] [0, 1] [1, 2] rfl rfl rfl rfl (gs (gs (rg (sv (EV.mv rfl) rfl (sv (EV.nt rfl) rfl (sv (EV.mv rfl) rfl ?_)))))))))))))))
 revert H; refine ifsI ?_ ?_ <;> intro c2 H
 ·
  subst c2
  refine ts 24 rfl rfl (sv (EV.mv rfl) rfl ?_)
  revert H; refine bdI ?_; rintro t3 A3 H
  refine so rfl (op_call (impl_areGrants.ok k l2 Al2 cl2 _ A3) [⟨0, 0, 0, false⟩] 3 rfl rfl rfl rfl rfl ?_)
  rintro _ _ _ ⟨rfl, rfl, rfl⟩
  refine sv (EV.nt rfl) rfl (sv (EV.pf rfl rfl rfl) rfl (re (pr [2, 6, 8, 28] [0, 1] [0, 1] rfl rfl rfl rfl ?_)))
  revert H; refine ifsI ?_ ?_ <;> intro c4 H
  ·
   subst c4
   refine gf rfl rfl (gk (gs (rg (sv (EV.bd (v := .agg #[.slice none 0 0, .int .i64 0, .int .i64 0, .int .i64 0]) rfl (by kernel_rfl)) rfl (so rfl (op_lit (s := 5) (by_ := 40) k49 ([] : List S49) [] [] 3 [] rfl rfl rfl rfl rfl rfl rfl rfl rfl rfl rfl rfl rfl dq rfl fun A31_5 c31_5 => (so rfl (op_alloc (cs := [.slice none 0 0, .int .i64 0, .int .i64 0, .int .i64 0]) (by kernel_rfl) rfl fun b10 => (so rfl (op_st (cs' := [.slice none 0 0, .int .i64 0, .int .i64 0, .int .i64 0]) 2 rfl rfl rfl rfl rfl rfl (sv (EV.as rfl) rfl (re (gs (gb (nil_ k49 4 dq (nil_ k49 5 dq ?_))))))))))))))))
   refine lo (fun kk S => ∃ (x4_11 : List S49) (Ax4_11 : Option Addr) (cx4_11 : Nat) (x4_6_0 : List S49) (Ax4_6_0 : Option Addr) (cx4_6_0 : Nat) (x4_6_1 : Int) (x4_6_2 : Int) (x4_6_3 : Int) (x4_8_0 : List S64) (Ax4_8_0 : Option Addr) (cx4_8_0 : Nat) (x4_8_1 : Int) (x4_8_2 : Bool) (x4_10_0 : List S49) (Ax4_10_0 : Option Addr) (cx4_10_0 : Nat) (x4_10_1 : Int) (x4_10_2 : Int) (x4_10_3 : Int), impl_RunGroup.l0 kk x4_11 x4_6_0 x4_6_1 x4_6_2 x4_6_3 x4_8_0 x4_8_1 x4_8_2 x4_10_0 x4_10_1 x4_10_2 x4_10_3 l2 = some (r0, r1, r2, r3, r4) ∧ S = ⟨[(2, .slice Al2 l2.length cl2), (6, .pointer (some ⟨b6, 0, none⟩)), (8, .pointer (some ⟨b8, 0, none⟩)), (10, .pointer (some ⟨b10, 0, none⟩)), (11, .slice Ax4_11 x4_11.length cx4_11)], [⟨b6, 30, [.slice Ax4_6_0 x4_6_0.length cx4_6_0, .int .i64 x4_6_1, .int .i64 x4_6_2, .int .i64 x4_6_3]⟩, ⟨b8, 54, [.slice Ax4_8_0 x4_8_0.length cx4_8_0, .int .i64 x4_8_1, .bool x4_8_2]⟩, ⟨b10, 30, [.slice Ax4_10_0 x4_10_0.length cx4_10_0, .int .i64 x4_10_1, .int .i64 x4_10_2, .int .i64 x4_10_3]⟩], [.sl 2 k49 Ax4_11 cx4_11 x4_11 1 true, .sl 2 k49 Ax4_6_0 cx4_6_0 x4_6_0 2 true, .sl 1 k64 Ax4_8_0 cx4_8_0 x4_8_0 3 true, .sl 2 k49 Ax4_10_0 cx4_10_0 x4_10_0 4 true, .sl 0 (.int .i64) Al2 cl2 l2 0 false]⟩) (fun S hS => ?_) (fun n0 ih0 S hS => ?_) ⟨[], A31_5, c31_5, [], none, 0, 0, 0, 0, t1_0, At1_0, ct1_0, t1_1, t1_2, [], none, 0, 0, 0, 0, H, rfl⟩ (fun h => wk [2, 6, 8, 10, 11] [0, 1, 2] [⟨2, 2, 1, true⟩, ⟨3, 2, 2, true⟩, ⟨1, 1, 3, true⟩, ⟨4, 2, 4, true⟩, ⟨0, 0, 0, false⟩] h)
   · clear H; obtain ⟨_, _, _, _, _, _, _, _, _, _, _, _, _, _, _, _, _, _, _, _, H, _⟩ := hS; rw [impl_RunGroup.l0] at H; cases H
   clear H
   obtain ⟨x4_11, Ax4_11, cx4_11, x4_6_0, Ax4_6_0, cx4_6_0, x4_6_1, x4_6_2, x4_6_3, x4_8_0, Ax4_8_0, cx4_8_0, x4_8_1, x4_8_2, x4_10_0, Ax4_10_0, cx4_10_0, x4_10_1, x4_10_2, x4_10_3, H, rfl⟩ := hS
   rw [impl_RunGroup.l0] at H
   refine gs (gs (rg (sv (EV.fa 0 rfl) rfl (sv (EV.ld 1 none rfl rfl rfl) rfl (sv (EV.ln rfl) rfl (sv (EV.gtr rfl rfl) rfl (re ?_)))))))
   revert H; refine ifsI ?_ ?_ <;> intro c6 H
   ·
    refine gt rfl (dT c6) (gk (gb (gs ?_)))
    revert H; refine ggI ?_; intro g7 H
    refine dr [0, 1, 2] [0, 1, 2, 3, 4] [19] 20 rfl rfl rfl rfl (xv 0 [0, 1, 2] [0, 1, 2, 3, 4] rfl (EV.ld (v := .agg #[.slice Ax4_8_0 x4_8_0.length cx4_8_0, .int .i64 x4_8_1, .bool x4_8_2]) 1 (some 3) rfl rfl rfl) rfl rfl rfl rfl (xv 1 [0, 1, 2] [0, 1, 2, 3, 4] rfl (EV.mv rfl) rfl rfl rfl rfl (xv 2 [0, 1, 2] [0, 1, 2, 3, 4] rfl (EV.fa 1 rfl) rfl rfl rfl rfl (xv 3 [0, 1, 2] [0, 1, 2, 3, 4] rfl (EV.ld 2 none rfl rfl rfl) rfl rfl rfl rfl (xv 4 [0, 1, 2] [0, 1, 2, 3, 4] rfl (EV.mv rfl) rfl rfl rfl rfl (xv 5 [0, 1, 2] [0, 1, 2, 3, 4] rfl (EV.ln rfl) rfl rfl rfl rfl (xv 6 [0, 1, 2] [0, 1, 2, 3, 4] rfl (EV.rem rfl rfl g7) rfl rfl rfl rfl ?_)))))))
    revert H; refine ggI ?_; intro g8 H
    revert H; refine ggI ?_; intro g9 H
    refine xv 7 [0, 1, 2] [0, 1, 2, 3, 4] rfl (EV.ix 4 rfl rfl rfl g8 g9 rfl) rfl rfl rfl rfl (xv 8 [0, 1, 2] [0, 1, 2, 3, 4] rfl (EV.le (v := .int .i64 (rdOf 0 l2 (Int.tmod x4_10_1 (l2.length : Int)))) (Int.tmod x4_10_1 (l2.length : Int)) 0 none 4 0 rfl rfl rfl g8 g9 rfl rfl rfl) rfl rfl rfl rfl ?_)
    refine one2 9 15 rfl rfl rfl rfl ?_ ?_
    ·
     revert H; refine bdI ?_; rintro ⟨t10_0, t10_1, t10_2, t10_3, t10_4, t10_5⟩ A10 H
     refine op_call (impl_StepAggregator.ok n0 x4_8_0 Ax4_8_0 cx4_8_0 x4_8_1 x4_8_2 (rdOf 0 l2 (Int.tmod x4_10_1 (l2.length : Int))) _ _ _ _ _ _ A10) [⟨2, 0, 0, false⟩] 5 rfl rfl rfl rfl rfl ?_
     rintro _ _ _ ⟨At10_0, ct10_0, At10_3, ct10_3, rfl, rfl, rfl⟩
     refine xs [0, 1, 2] [0, 1, 2, 3, 4] rfl rfl rfl (xv 10 [0, 1, 2] [0, 1, 2, 3, 4] rfl (EV.mv rfl) rfl rfl rfl rfl (xv 11 [0, 1, 2] [0, 1, 2, 3, 4] rfl (EV.ex rfl rfl) rfl rfl rfl rfl (xv 12 [0, 1, 2] [0, 1, 2, 3, 4] rfl (EV.ex rfl rfl) rfl rfl rfl rfl (xv 13 [0, 1, 2] [0, 1, 2, 3, 4] rfl (EV.ex rfl rfl) rfl rfl rfl rfl (xv 14 [0, 1, 2] [0, 1, 2, 3, 4] rfl (EV.ex rfl rfl) rfl rfl rfl rfl (one1 15 rfl rfl (op_alloc (cs := [.slice none 0 0, .int .i64 0, .bool false]) (by kernel_rfl) rfl fun b12 => (xs [0, 1, 2] [0, 1, 2, 3, 4] rfl rfl rfl (one1 16 rfl rfl (op_st (cs' := [.slice At10_0 t10_0.length ct10_0, .int .i64 t10_1, .bool t10_2]) 3 rfl rfl rfl rfl rfl rfl (xs [0, 1, 2] [0, 1, 2, 3, 4] rfl rfl rfl (one1 17 rfl rfl (ov (EV.as rfl) rfl (xs [0, 1, 2] [0, 1, 2, 3, 4] rfl rfl rfl (one1 18 rfl rfl (ov (EV.as rfl) rfl (xs [0, 1, 2] [0, 1, 2, 3, 4] rfl rfl rfl (one1 19 rfl rfl (ov (EV.as rfl) rfl (xn rfl (xd (pr [2, 6, 8, 10, 11, 12, 13, 14, 15] [0, 1, 2, 3] [0, 1, 2, 3, 4, 5, 6] rfl rfl rfl rfl (gs (gs (rg (sv (EV.mv rfl) rfl (sv (EV.nt rfl) rfl (re ?_))))))))))))))))))))))))))))
     revert H; refine ifsI ?_ ?_ <;> intro c11 H
     ·
      subst c11
      refine gf rfl rfl (gk (gs (rg (sv (EV.ld (v := .agg #[.slice At10_0 t10_0.length ct10_0, .int .i64 t10_1, .bool t10_2]) 3 (some 3) rfl rfl rfl) rfl (so rfl (op_st (cs' := [.slice At10_0 t10_0.length ct10_0, .int .i64 t10_1, .bool t10_2]) 1 rfl rfl rfl rfl rfl rfl (re (gs (rg (sv (EV.mv rfl) rfl (sv (EV.mv rfl) rfl ?_)))))))))))
      revert H; refine ggI ?_; intro g12 H
      exact so rfl (op_app (k := k49) (s := 5) (by_ := 40) 0 6 rfl rfl rfl rfl (ap2 g12 dq) (ap2n g12 dq) (.inl rfl) true (fun _ => .inl rfl) rfl rfl fun A57_13 c57_13 => (nmE (en := [.sl 2 k49 Ax4_6_0 cx4_6_0 x4_6_0 2 true, .sl 1 k64 Ax4_8_0 cx4_8_0 x4_8_0 3 true, .sl 2 k49 Ax4_10_0 cx4_10_0 x4_10_0 4 true, .sl 0 (.int .i64) Al2 cl2 l2 0 false, .sl 1 k64 At10_0 ct10_0 t10_0 6 true, .sl 1 k49 At10_3 ct10_3 t10_3 7 false, .sl 2 k49 A57_13 c57_13 (x4_11 ++ t10_3) 1 true]) (by kernel_rfl) (sv (EV.as rfl) rfl (re (pr [2, 6, 8, 10, 11, 14] [0, 1, 2] [0, 2, 3, 4, 6] rfl rfl rfl rfl (gs (rg (sv (EV.fa 1 rfl) rfl (sv (EV.ld 2 none rfl rfl rfl) rfl (sv (EV.add rfl rfl) rfl (sv (EV.fa 1 rfl) rfl (so rfl (op_st (cs' := [.slice Ax4_10_0 x4_10_0.length cx4_10_0, .int .i64 (wrap64 (x4_10_1 + 1)), .int .i64 x4_10_2, .int .i64 x4_10_3]) 2 rfl rfl rfl rfl rfl rfl (re (rg (sv (EV.fa 2 rfl) rfl (sv (EV.ld 2 none rfl rfl rfl) rfl (sv (EV.mv rfl) rfl (sv (EV.mx rfl rfl) rfl (sv (EV.fa 2 rfl) rfl (so rfl (op_st (cs' := [.slice Ax4_10_0 x4_10_0.length cx4_10_0, .int .i64 (wrap64 (x4_10_1 + 1)), .int .i64 (mx x4_10_2 t10_4), .int .i64 x4_10_3]) 2 rfl rfl rfl rfl rfl rfl (re (pr [2, 6, 8, 10, 11] [0, 1, 2] [0, 1, 2, 3, 4] rfl rfl rfl rfl (ge (wk [2, 6, 8, 10, 11] [0, 1, 2] [⟨4, 2, 1, true⟩, ⟨0, 2, 2, true⟩, ⟨3, 1, 3, true⟩, ⟨1, 2, 4, true⟩, ⟨2, 0, 0, false⟩] (ih0 _ (by omega) _ ⟨x4_11 ++ t10_3, A57_13, c57_13, x4_6_0, Ax4_6_0, cx4_6_0, x4_6_1, x4_6_2, x4_6_3, t10_0, At10_0, ct10_0, t10_1, t10_2, x4_10_0, Ax4_10_0, cx4_10_0, wrap64 (x4_10_1 + 1), mx x4_10_2 t10_4, x4_10_3, H, rfl⟩)))))))))))))))))))))))))))
     ·
      obtain rfl := bF c11
      refine gt rfl rfl (gs (rg (sv (EV.bd (v := .agg #[.slice none 0 0, .int .i64 0, .int .i64 0, .int .i64 0]) rfl (by kernel_rfl)) rfl (so rfl (op_st (cs' := [.slice none 0 0, .int .i64 0, .int .i64 0, .int .i64 0]) 0 rfl rfl rfl rfl rfl rfl (sv (EV.as rfl) rfl (re (pr [6, 7] [0] [] rfl rfl rfl rfl (nil_ k49 1 dq ?_)))))))))
      cases H
      exact rt Try.func8 rfl (.cell 0 (some 4) rfl rfl rfl (.tmp rfl .nil)) rfl [] [⟨0, 1, 1, false⟩] rfl rfl rfl rfl rfl ⟨_, _, rfl, rfl, rfl⟩
    ·
     refine op_alloc (cs := [.slice none 0 0, .int .i64 0, .bool false]) (by kernel_rfl) rfl fun b12 => (xs [0, 1, 2] [0, 1, 2, 3, 4] rfl rfl rfl (one1 9 rfl rfl ?_))
     revert H; refine bdI ?_; rintro ⟨t14_0, t14_1, t14_2, t14_3, t14_4, t14_5⟩ A14 H
     refine op_call (impl_StepAggregator.ok n0 x4_8_0 Ax4_8_0 cx4_8_0 x4_8_1 x4_8_2 (rdOf 0 l2 (Int.tmod x4_10_1 (l2.length : Int))) _ _ _ _ _ _ A14) [⟨2, 0, 0, false⟩] 5 rfl rfl rfl rfl rfl ?_
     rintro _ _ _ ⟨At14_0, ct14_0, At14_3, ct14_3, rfl, rfl, rfl⟩
     refine xs [0, 1, 2] [0, 1, 2, 3, 4] rfl rfl rfl (xv 10 [0, 1, 2] [0, 1, 2, 3, 4] rfl (EV.mv rfl) rfl rfl rfl rfl (xv 11 [0, 1, 2] [0, 1, 2, 3, 4] rfl (EV.ex rfl rfl) rfl rfl rfl rfl (xv 12 [0, 1, 2] [0, 1, 2, 3, 4] rfl (EV.ex rfl rfl) rfl rfl rfl rfl (xv 13 [0, 1, 2] [0, 1, 2, 3, 4] rfl (EV.ex rfl rfl) rfl rfl rfl rfl (xv 14 [0, 1, 2] [0, 1, 2, 3, 4] rfl (EV.ex rfl rfl) rfl rfl rfl rfl (one1 16 rfl rfl (op_st (cs' := [.slice At14_0 t14_0.length ct14_0, .int .i64 t14_1, .bool t14_2]) 3 rfl rfl rfl rfl rfl rfl (xs [0, 1, 2] [0, 1, 2, 3, 4] rfl rfl rfl (one1 17 rfl rfl (ov (EV.as rfl) rfl (xs [0, 1, 2] [0, 1, 2, 3, 4] rfl rfl rfl (one1 18 rfl rfl (ov (EV.as rfl) rfl (xs [0, 1, 2] [0, 1, 2, 3, 4] rfl rfl rfl (one1 19 rfl rfl (ov (EV.as rfl) rfl (xn rfl (xd (pr [2, 6, 8, 10, 11, 12, 13, 14, 15] [0, 1, 2, 3] [0, 1, 2, 3, 4, 5, 6] rfl rfl rfl rfl (gs (gs (rg (sv (EV.mv rfl) rfl (sv (EV.nt rfl) rfl (re ?_)))))))))))))))))))))))))
     revert H; refine ifsI ?_ ?_ <;> intro c15 H
     ·
      subst c15
      refine gf rfl rfl (gk (gs (rg (sv (EV.ld (v := .agg #[.slice At14_0 t14_0.length ct14_0, .int .i64 t14_1, .bool t14_2]) 3 (some 3) rfl rfl rfl) rfl (so rfl (op_st (cs' := [.slice At14_0 t14_0.length ct14_0, .int .i64 t14_1, .bool t14_2]) 1 rfl rfl rfl rfl rfl rfl (re (gs (rg (sv (EV.mv rfl) rfl (sv (EV.mv rfl) rfl ?_)))))))))))
      revert H; refine ggI ?_; intro g16 H
      exact so rfl (op_app (k := k49) (s := 5) (by_ := 40) 0 6 rfl rfl rfl rfl (ap2 g16 dq) (ap2n g16 dq) (.inl rfl) true (fun _ => .inl rfl) rfl rfl fun A57_17 c57_17 => (nmE (en := [.sl 2 k49 Ax4_6_0 cx4_6_0 x4_6_0 2 true, .sl 1 k64 Ax4_8_0 cx4_8_0 x4_8_0 3 true, .sl 2 k49 Ax4_10_0 cx4_10_0 x4_10_0 4 true, .sl 0 (.int .i64) Al2 cl2 l2 0 false, .sl 1 k64 At14_0 ct14_0 t14_0 6 true, .sl 1 k49 At14_3 ct14_3 t14_3 7 false, .sl 2 k49 A57_17 c57_17 (x4_11 ++ t14_3) 1 true]) (by kernel_rfl) (sv (EV.as rfl) rfl (re (pr [2, 6, 8, 10, 11, 14] [0, 1, 2] [0, 2, 3, 4, 6] rfl rfl rfl rfl (gs (rg (sv (EV.fa 1 rfl) rfl (sv (EV.ld 2 none rfl rfl rfl) rfl (sv (EV.add rfl rfl) rfl (sv (EV.fa 1 rfl) rfl (so rfl (op_st (cs' := [.slice Ax4_10_0 x4_10_0.length cx4_10_0, .int .i64 (wrap64 (x4_10_1 + 1)), .int .i64 x4_10_2, .int .i64 x4_10_3]) 2 rfl rfl rfl rfl rfl rfl (re (rg (sv (EV.fa 2 rfl) rfl (sv (EV.ld 2 none rfl rfl rfl) rfl (sv (EV.mv rfl) rfl (sv (EV.mx rfl rfl) rfl (sv (EV.fa 2 rfl) rfl (so rfl (op_st (cs' := [.slice Ax4_10_0 x4_10_0.length cx4_10_0, .int .i64 (wrap64 (x4_10_1 + 1)), .int .i64 (mx x4_10_2 t14_4), .int .i64 x4_10_3]) 2 rfl rfl rfl rfl rfl rfl (re (pr [2, 6, 8, 10, 11] [0, 1, 2] [0, 1, 2, 3, 4] rfl rfl rfl rfl (ge (wk [2, 6, 8, 10, 11] [0, 1, 2] [⟨4, 2, 1, true⟩, ⟨0, 2, 2, true⟩, ⟨3, 1, 3, true⟩, ⟨1, 2, 4, true⟩, ⟨2, 0, 0, false⟩] (ih0 _ (by omega) _ ⟨x4_11 ++ t14_3, A57_17, c57_17, x4_6_0, Ax4_6_0, cx4_6_0, x4_6_1, x4_6_2, x4_6_3, t14_0, At14_0, ct14_0, t14_1, t14_2, x4_10_0, Ax4_10_0, cx4_10_0, wrap64 (x4_10_1 + 1), mx x4_10_2 t14_4, x4_10_3, H, rfl⟩)))))))))))))))))))))))))))
     ·
      obtain rfl := bF c15
      refine gt rfl rfl (gs (rg (sv (EV.bd (v := .agg #[.slice none 0 0, .int .i64 0, .int .i64 0, .int .i64 0]) rfl (by kernel_rfl)) rfl (so rfl (op_st (cs' := [.slice none 0 0, .int .i64 0, .int .i64 0, .int .i64 0]) 0 rfl rfl rfl rfl rfl rfl (sv (EV.as rfl) rfl (re (pr [6, 7] [0] [] rfl rfl rfl rfl (nil_ k49 1 dq ?_)))))))))
      cases H
      exact rt Try.func8 rfl (.cell 0 (some 4) rfl rfl rfl (.tmp rfl .nil)) rfl [] [⟨0, 1, 1, false⟩] rfl rfl rfl rfl rfl ⟨_, _, rfl, rfl, rfl⟩
   ·
    refine gf rfl (dF c6) (gx rfl (gs (dr [0, 1] [0, 1, 2, 3, 4] [6, 7] 8 rfl rfl rfl rfl (xv 0 [0, 1] [0, 1, 2, 3, 4] rfl (EV.mv rfl) rfl rfl rfl rfl (xv 2 [0, 1] [0, 1, 2, 3, 4] rfl (EV.fa 1 rfl) rfl rfl rfl rfl (xv 3 [0, 1] [0, 1, 2, 3, 4] rfl (EV.ld 1 none rfl rfl rfl) rfl rfl rfl rfl (one1 1 rfl rfl ?_)))))))
    revert H; refine bdI ?_; rintro t18 A18 H
    refine op_call (impl_MergeGroups.ok n0 x4_11 Ax4_11 cx4_11 _ A18) [⟨0, 0, 0, false⟩] 5 rfl rfl rfl rfl rfl ?_
    rintro _ _ _ ⟨At18, ct18, rfl, rfl, rfl⟩
    refine xs [0, 1] [0, 1, 2, 3, 4] rfl rfl rfl (xv 4 [0, 1] [0, 1, 2, 3, 4] rfl (EV.fa 0 rfl) rfl rfl rfl rfl (one1 5 rfl rfl (op_st (cs' := [.slice At18 t18.length ct18, .int .i64 x4_10_1, .int .i64 x4_10_2, .int .i64 x4_10_3]) 2 rfl rfl rfl rfl rfl rfl (xs [0, 1] [0, 1, 2, 3, 4] rfl rfl rfl (one1 6 rfl rfl (ov (EV.fa 3 rfl) rfl (xn rfl (one1 7 rfl rfl (op_st (cs' := [.slice At18 t18.length ct18, .int .i64 x4_10_1, .int .i64 x4_10_2, .int .i64 x4_8_1]) 2 rfl rfl rfl rfl rfl rfl (xn rfl (xd (pr [6, 10] [0, 2] [1, 5] rfl rfl rfl rfl (gs (rg (sv (EV.ld (v := .agg #[.slice At18 t18.length ct18, .int .i64 x4_10_1, .int .i64 x4_10_2, .int .i64 x4_8_1]) 1 (some 4) rfl rfl rfl) rfl (so rfl (op_st (cs' := [.slice At18 t18.length ct18, .int .i64 x4_10_1, .int .i64 x4_10_2, .int .i64 x4_8_1]) 0 rfl rfl rfl rfl rfl rfl (sv (EV.as rfl) rfl (re ?_)))))))))))))))))))
    cases H
    exact rt Try.func8 rfl (.cell 0 (some 4) rfl rfl rfl (.tmp rfl .nil)) rfl [] [⟨1, 1, 1, false⟩] rfl rfl rfl rfl rfl ⟨_, _, rfl, rfl, rfl⟩
  ·
   obtain rfl := bF c4
   refine gt rfl rfl (gs (rg (sv (EV.bd (v := .agg #[.slice none 0 0, .int .i64 0, .int .i64 0, .int .i64 0]) rfl (by kernel_rfl)) rfl (so rfl (op_st (cs' := [.slice none 0 0, .int .i64 0, .int .i64 0, .int .i64 0]) 0 rfl rfl rfl rfl rfl rfl (sv (EV.as rfl) rfl (re (nil_ k49 3 dq ?_))))))))
   cases H
   exact rt Try.func8 rfl (.cell 0 (some 4) rfl rfl rfl (.tmp rfl .nil)) rfl [] [⟨2, 1, 1, false⟩] rfl rfl rfl rfl rfl ⟨_, _, rfl, rfl, rfl⟩
 ·
  obtain rfl := bF c2
  refine ts 24 rfl rfl (sk rfl (sk rfl (sk rfl (sv (EV.pt rfl rfl rfl) rfl (re (pr [2, 6, 8, 28] [0, 1] [0, 1] rfl rfl rfl rfl (gt rfl rfl (gs (rg (sv (EV.bd (v := .agg #[.slice none 0 0, .int .i64 0, .int .i64 0, .int .i64 0]) rfl (by kernel_rfl)) rfl (so rfl (op_st (cs' := [.slice none 0 0, .int .i64 0, .int .i64 0, .int .i64 0]) 0 rfl rfl rfl rfl rfl rfl (sv (EV.as rfl) rfl (re (nil_ k49 3 dq ?_)))))))))))))))
  cases H
  exact rt Try.func8 rfl (.cell 0 (some 4) rfl rfl rfl (.tmp rfl .nil)) rfl [] [⟨2, 1, 1, false⟩] rfl rfl rfl rfl rfl ⟨_, _, rfl, rfl, rfl⟩
def spec_IsValidAggregator.l0 : Nat → Int → Int → Int → Bool → (List S64) → Option (Bool)
 | 0, _, _, _, _, _ => none
 | k + 1, x2_3, x2_4, x2_1_1, x2_1_2, l0_0 => if x2_4 < (l0_0.length : Int) then (if 0 ≤ x2_4 then ((spec_AreValidRows.f k ((rd_T64 l0_0 x2_4).f0)).bind fun t4 => (if t4 = true then ((spec_l1In.f ((rd_T64 l0_0 x2_4).f1) 0 4).bind fun t6 => (if t6 = true then (spec_IsValidAggregator.l0 k (wrap64 (x2_3 + (((rd_T64 l0_0 x2_4).f0).length : Int))) (wrap64 (x2_4 + 1)) x2_1_1 x2_1_2 l0_0) else (some false))) else (some false))) else none) else (if x2_3 ≤ 24 then (if (l0_0.length : Int) ≤ 40 then ((spec_l1In.f x2_1_1 0 100000).bind fun t11 => (some t11)) else (some false)) else (some false))
def spec_IsValidAggregator.f (k : Nat) (l0_0 : List S64) (a0_1 : Int) (a0_2 : Bool) : Option (Bool) := spec_IsValidAggregator.l0 k 0 0 a0_1 a0_2 l0_0
set_option maxHeartbeats 4000000 in
set_option maxRecDepth 100000 in
theorem spec_IsValidAggregator.ok (k : Nat) (l0_0 : List S64) (Al0_0 : Option Addr) (cl0_0 : Nat) (a0_1 : Int) (a0_2 : Bool) (r0 : Bool) (H : spec_IsValidAggregator.f k l0_0 a0_1 a0_2 = some r0) : Fn Try.prog 39 [.agg #[.slice Al0_0 l0_0.length cl0_0, .int .i64 a0_1, .bool a0_2]] [] [.sl 0 k64 Al0_0 cl0_0 l0_0 0 false] (fun v bx en => v = .bool r0 ∧ bx = [] ∧ en = []) := by
 refine fn_ 52 Try.func39 rfl rfl rfl (fun base T w0 => ?_)
 rw [spec_IsValidAggregator.f] at H
 refine gs (rg (so rfl (op_box (cs := [.slice Al0_0 l0_0.length cl0_0, .int .i64 a0_1, .bool a0_2]) rfl rfl rfl fun b1 => (sv (EV.as rfl) rfl (re (gs (rg (sv (EV.as rfl) rfl (re (gs (gs (rg (sv (EV.as rfl) rfl (re (gb ?_)))))))))))))))
 refine lo (fun kk S => ∃ (x2_3 : Int) (x2_4 : Int) (x2_1_1 : Int) (x2_1_2 : Bool), spec_IsValidAggregator.l0 kk x2_3 x2_4 x2_1_1 x2_1_2 l0_0 = some r0 ∧ S = ⟨[(1, .pointer (some ⟨b1, 0, none⟩)), (3, .int .i64 x2_3), (4, .int .i64 x2_4)], [⟨b1, 54, [.slice Al0_0 l0_0.length cl0_0, .int .i64 x2_1_1, .bool x2_1_2]⟩], [.sl 0 k64 Al0_0 cl0_0 l0_0 0 false]⟩) (fun S hS => ?_) (fun n0 ih0 S hS => ?_) ⟨0, 0, a0_1, a0_2, H, rfl⟩ (fun h => wk [1, 3, 4] [0] [⟨0, 0, 0, false⟩] h)
 · clear H; obtain ⟨_, _, _, _, H, _⟩ := hS; rw [spec_IsValidAggregator.l0] at H; cases H
 clear H
 obtain ⟨x2_3, x2_4, x2_1_1, x2_1_2, H, rfl⟩ := hS
 rw [spec_IsValidAggregator.l0] at H
 refine gs (gs (rg (sv (EV.mv rfl) rfl (sv (EV.fa 0 rfl) rfl (sv (EV.ld 0 none rfl rfl rfl) rfl (sv (EV.ln rfl) rfl (sv (EV.lss rfl rfl) rfl (re ?_))))))))
 revert H; refine ifsI ?_ ?_ <;> intro c1 H
 ·
  refine gt rfl (dT c1) (gk (gs (gb (gs (gs (rg (sv (EV.fa 0 rfl) rfl (sv (EV.ld 0 none rfl rfl rfl) rfl (sv (EV.mv rfl) rfl ?_)))))))))
  revert H; refine ggI ?_; intro g2 H
  refine sv (EV.ix 0 rfl rfl rfl g2 c1 rfl) rfl (sv (EV.fa 0 rfl) rfl (opn (i := x2_4) 0 z64 rfl g2 c1 fun A_3 c_3 => (sv (EV.lc (v := .slice A_3 ((rd_T64 l0_0 x2_4).f0).length c_3) 0 none 1 rfl rfl rfl rfl) rfl ?_)))
  revert H; refine bdI ?_; rintro t4 A4 H
  refine so rfl (op_call (spec_AreValidRows.ok n0 ((rd_T64 l0_0 x2_4).f0) A_3 c_3 _ A4) [⟨2, 0, 0, false⟩] 1 rfl rfl rfl rfl rfl ?_)
  rintro _ _ _ ⟨rfl, rfl, rfl⟩
  refine sv (EV.nt rfl) rfl (sv (EV.mv rfl) rfl ?_)
  revert H; refine ifsI ?_ ?_ <;> intro c5 H
  ·
   subst c5
   refine ts 20 rfl rfl (sv (EV.fa 0 rfl) rfl (sv (EV.ld 0 none rfl rfl rfl) rfl (sv (EV.mv rfl) rfl (sv (EV.ix 0 rfl rfl rfl g2 c1 rfl) rfl (sv (EV.fa 1 rfl) rfl (sv (EV.lf (v := .int .i64 ((rd_T64 l0_0 x2_4).f1)) x2_4 1 none 0 z64 rfl rfl rfl g2 c1 rfl (fun _ _ => rfl)) rfl ?_))))))
   revert H; refine bdI ?_; rintro t6 A6 H
   refine so rfl (op_call (spec_l1In.ok ((rd_T64 l0_0 x2_4).f1) 0 4 _ A6) [] 1 rfl rfl rfl rfl rfl ?_)
   rintro _ _ _ ⟨rfl, rfl, rfl⟩
   refine sv (EV.nt rfl) rfl (sv (EV.pf rfl rfl rfl) rfl (re (pr [1, 3, 4, 21, 22, 23, 24, 25, 26, 27, 28, 29] [0] [0] rfl rfl rfl rfl ?_)))
   revert H; refine ifsI ?_ ?_ <;> intro c7 H
   ·
    subst c7
    exact gf rfl rfl (gk (rg (sv (EV.mv rfl) rfl (sv (EV.fa 0 rfl) rfl (sv (EV.ld 0 none rfl rfl rfl) rfl (sv (EV.mv rfl) rfl (sv (EV.ix 0 rfl rfl rfl g2 c1 rfl) rfl (sv (EV.fa 0 rfl) rfl (opn (i := x2_4) 0 z64 rfl g2 c1 fun A_8 c_8 => (sv (EV.lc (v := .slice A_8 ((rd_T64 l0_0 x2_4).f0).length c_8) 0 none 1 rfl rfl rfl rfl) rfl (sv (EV.ln rfl) rfl (sv (EV.add rfl rfl) rfl (sv (EV.as rfl) rfl (re (pr [1, 3, 4, 21, 22, 23, 24, 25, 26, 27, 28] [0] [0] rfl rfl rfl rfl (ge (rg (sv (EV.mv rfl) rfl (sv (EV.add rfl rfl) rfl (sv (EV.as rfl) rfl (re (wk [1, 3, 4] [0] [⟨0, 0, 0, false⟩] (ih0 _ (by omega) _ ⟨wrap64 (x2_3 + (((rd_T64 l0_0 x2_4).f0).length : Int)), wrap64 (x2_4 + 1), x2_1_1, x2_1_2, H, rfl⟩)))))))))))))))))))))))
   ·
    obtain rfl := bF c7
    refine gt rfl rfl (gs (rg (sv (EV.as rfl) rfl (re (pr [2] [] [] rfl rfl rfl rfl ?_)))))
    cases H
    exact rt Try.func39 rfl (.tmp rfl .nil) rfl [] [] rfl rfl rfl rfl rfl ⟨rfl, rfl, rfl⟩
  ·
   obtain rfl := bF c5
   refine ts 20 rfl rfl (sk rfl (sk rfl (sk rfl (sk rfl (sk rfl (sk rfl (sk rfl (sk rfl (sv (EV.pt rfl rfl rfl) rfl (re (pr [1, 3, 4, 29] [0] [0] rfl rfl rfl rfl (gt rfl rfl (gs (rg (sv (EV.as rfl) rfl (re ?_))))))))))))))))
   cases H
   exact rt Try.func39 rfl (.tmp rfl .nil) rfl [] [] rfl rfl rfl rfl rfl ⟨rfl, rfl, rfl⟩
 ·
  refine gf rfl (dF c1) (gx rfl (gs (rg (sv (EV.mv rfl) rfl (sv (EV.leq rfl rfl) rfl (sv (EV.mv rfl) rfl ?_))))))
  revert H; refine ifsI ?_ ?_ <;> intro c9 H
  ·
   refine ts 41 rfl (dT c9) (sv (EV.fa 0 rfl) rfl (sv (EV.ld 0 none rfl rfl rfl) rfl (sv (EV.ln rfl) rfl (sv (EV.leq rfl rfl) rfl (sv (EV.pt rfl rfl rfl) rfl (sv (EV.mv rfl) rfl ?_))))))
   revert H; refine ifsI ?_ ?_ <;> intro c10 H
   ·
    refine ts 47 rfl (dT c10) (sv (EV.fa 1 rfl) rfl (sv (EV.ld 0 none rfl rfl rfl) rfl ?_))
    revert H; refine bdI ?_; rintro t11 A11 H
    refine so rfl (op_call (spec_l1In.ok x2_1_1 0 100000 _ A11) [] 1 rfl rfl rfl rfl rfl ?_)
    rintro _ _ _ ⟨rfl, rfl, rfl⟩
    refine sv (EV.pt rfl rfl rfl) rfl (sv (EV.as rfl) rfl (re (pr [2] [] [] rfl rfl rfl rfl ?_)))
    cases H
    exact rt Try.func39 rfl (.tmp rfl .nil) rfl [] [] rfl rfl rfl rfl rfl ⟨rfl, rfl, rfl⟩
   ·
    refine ts 47 rfl (dF c10) (sk rfl (sk rfl (sk rfl (sv (EV.pf rfl rfl rfl) rfl (sv (EV.as rfl) rfl (re (pr [2] [] [] rfl rfl rfl rfl ?_)))))))
    cases H
    exact rt Try.func39 rfl (.tmp rfl .nil) rfl [] [] rfl rfl rfl rfl rfl ⟨rfl, rfl, rfl⟩
  ·
   refine ts 41 rfl (dF c9) (sk rfl (sk rfl (sk rfl (sk rfl (sv (EV.pf rfl rfl rfl) rfl (sv (EV.mv rfl) rfl (sk rfl (sk rfl (sk rfl (sv (EV.pf rfl rfl rfl) rfl (sv (EV.as rfl) rfl (re (pr [2] [] [] rfl rfl rfl rfl ?_)))))))))))))
   cases H
   exact rt Try.func39 rfl (.tmp rfl .nil) rfl [] [] rfl rfl rfl rfl rfl ⟨rfl, rfl, rfl⟩
def spec_l22Copy.l0 : Nat → Int → Int → Bool → (List S64) → Int → Bool → (List S64) → Int → Bool → (List S64) → Option ((List S64) × Int × Bool)
 | 0, _, _, _, _, _, _, _, _, _, _ => none
 | k + 1, x2_4, x2_1_1, x2_1_2, x2_2_0, x2_2_1, x2_2_2, x2_3_0, x2_3_1, x2_3_2, l0_0 => if x2_4 < (l0_0.length : Int) then (if 0 ≤ x2_4 then (if ((rd_T64 l0_0 x2_4).f0).length ≤ 5864062014805 then (if x2_3_0.length < 4398046511104 then (spec_l22Copy.l0 k (wrap64 (x2_4 + 1)) x2_1_1 x2_1_2 x2_2_0 x2_2_1 x2_2_2 (x2_3_0 ++ ([(⟨(rd_T64 l0_0 x2_4).f0, (rd_T64 l0_0 x2_4).f1⟩ : S64)] : List S64)) x2_3_1 x2_3_2 l0_0) else none) else none) else none) else (some (x2_3_0, x2_3_1, x2_3_2))
def spec_l22Copy.f (k : Nat) (l0_0 : List S64) (a0_1 : Int) (a0_2 : Bool) : Option ((List S64) × Int × Bool) := spec_l22Copy.l0 k 0 a0_1 a0_2 [] 0 false [] a0_1 a0_2 l0_0
set_option maxHeartbeats 4000000 in
set_option maxRecDepth 100000 in
theorem spec_l22Copy.ok (k : Nat) (l0_0 : List S64) (Al0_0 : Option Addr) (cl0_0 : Nat) (a0_1 : Int) (a0_2 : Bool) (r0 : List S64) (r1 : Int) (r2 : Bool) (H : spec_l22Copy.f k l0_0 a0_1 a0_2 = some (r0, r1, r2)) : Fn Try.prog 70 [.agg #[.slice Al0_0 l0_0.length cl0_0, .int .i64 a0_1, .bool a0_2]] [] [.sl 0 k64 Al0_0 cl0_0 l0_0 0 false] (fun v bx en => ∃ A0 c0, v = .agg #[.slice A0 r0.length c0, .int .i64 r1, .bool r2] ∧ bx = [] ∧ en = [.sl 2 k64 A0 c0 r0 1 true]) := by
 refine fn_ 38 Try.func70 rfl rfl rfl (fun base T w0 => ?_)
 rw [spec_l22Copy.f] at H
 refine gs (rg (so rfl (op_box (cs := [.slice Al0_0 l0_0.length cl0_0, .int .i64 a0_1, .bool a0_2]) rfl rfl rfl fun b1 => (so rfl (op_alloc (cs := [.slice none 0 0, .int .i64 0, .bool false]) (by kernel_rfl) rfl fun b2 => (re (gs (rg (sv (EV.fa 1 rfl) rfl (sv (EV.ld 0 none rfl rfl rfl) rfl (sv (EV.fa 2 rfl) rfl (sv (EV.ld 0 none rfl rfl rfl) rfl (sv (EV.bd (v := .agg #[.slice none 0 0, .int .i64 a0_1, .bool a0_2]) rfl (by kernel_rfl)) rfl (so rfl (op_alloc (cs := [.slice none 0 0, .int .i64 0, .bool false]) (by kernel_rfl) rfl fun b3 => (so rfl (op_st (cs' := [.slice none 0 0, .int .i64 a0_1, .bool a0_2]) 2 rfl rfl rfl rfl rfl rfl (re (pr [1, 2, 3] [0, 1, 2] [0] rfl rfl rfl rfl (gs (gs (rg (sv (EV.as rfl) rfl (re (gb (nil_ k64 1 dq (nil_ k64 2 dq ?_)))))))))))))))))))))))))))
 refine lo (fun kk S => ∃ (x2_4 : Int) (x2_1_1 : Int) (x2_1_2 : Bool) (x2_2_0 : List S64) (Ax2_2_0 : Option Addr) (cx2_2_0 : Nat) (x2_2_1 : Int) (x2_2_2 : Bool) (x2_3_0 : List S64) (Ax2_3_0 : Option Addr) (cx2_3_0 : Nat) (x2_3_1 : Int) (x2_3_2 : Bool), spec_l22Copy.l0 kk x2_4 x2_1_1 x2_1_2 x2_2_0 x2_2_1 x2_2_2 x2_3_0 x2_3_1 x2_3_2 l0_0 = some (r0, r1, r2) ∧ S = ⟨[(1, .pointer (some ⟨b1, 0, none⟩)), (2, .pointer (some ⟨b2, 0, none⟩)), (3, .pointer (some ⟨b3, 0, none⟩)), (4, .int .i64 x2_4)], [⟨b1, 54, [.slice Al0_0 l0_0.length cl0_0, .int .i64 x2_1_1, .bool x2_1_2]⟩, ⟨b2, 54, [.slice Ax2_2_0 x2_2_0.length cx2_2_0, .int .i64 x2_2_1, .bool x2_2_2]⟩, ⟨b3, 54, [.slice Ax2_3_0 x2_3_0.length cx2_3_0, .int .i64 x2_3_1, .bool x2_3_2]⟩], [.sl 2 k64 Ax2_2_0 cx2_2_0 x2_2_0 1 true, .sl 2 k64 Ax2_3_0 cx2_3_0 x2_3_0 2 true, .sl 0 k64 Al0_0 cl0_0 l0_0 0 false]⟩) (fun S hS => ?_) (fun n0 ih0 S hS => ?_) ⟨0, a0_1, a0_2, [], none, 0, 0, false, [], none, 0, a0_1, a0_2, H, rfl⟩ (fun h => wk [1, 2, 3, 4] [0, 1, 2] [⟨1, 2, 1, true⟩, ⟨2, 2, 2, true⟩, ⟨0, 0, 0, false⟩] h)
 · clear H; obtain ⟨_, _, _, _, _, _, _, _, _, _, _, _, _, H, _⟩ := hS; rw [spec_l22Copy.l0] at H; cases H
 clear H
 obtain ⟨x2_4, x2_1_1, x2_1_2, x2_2_0, Ax2_2_0, cx2_2_0, x2_2_1, x2_2_2, x2_3_0, Ax2_3_0, cx2_3_0, x2_3_1, x2_3_2, H, rfl⟩ := hS
 rw [spec_l22Copy.l0] at H
 refine gs (gs (rg (sv (EV.mv rfl) rfl (sv (EV.fa 0 rfl) rfl (sv (EV.ld 0 none rfl rfl rfl) rfl (sv (EV.ln rfl) rfl (sv (EV.lss rfl rfl) rfl (re ?_))))))))
 revert H; refine ifsI ?_ ?_ <;> intro c1 H
 ·
  refine gt rfl (dT c1) (gk (gs (gb ?_)))
  revert H; refine ggI ?_; intro g2 H
  refine opn (i := x2_4) 2 z64 rfl g2 c1 fun A_3 c_3 => ?_
  revert H; refine ggI ?_; intro g4 H
  revert H; refine ggI ?_; intro g5 H
  refine dr [0, 1, 2] [0, 2, 3, 4] [19, 20] 21 rfl rfl rfl rfl (xv 0 [0, 1, 2] [0, 2, 3, 4] rfl (EV.fa 0 rfl) rfl rfl rfl rfl (xv 1 [0, 1, 2] [0, 2, 3, 4] rfl (EV.ld 2 none rfl rfl rfl) rfl rfl rfl rfl (xv 3 [0, 1, 2] [0, 2, 3, 4] rfl (EV.fa 0 rfl) rfl rfl rfl rfl (xv 4 [0, 1, 2] [0, 2, 3, 4] rfl (EV.ld 0 none rfl rfl rfl) rfl rfl rfl rfl (xv 5 [0, 1, 2] [0, 2, 3, 4] rfl (EV.mv rfl) rfl rfl rfl rfl (xv 6 [0, 1, 2] [0, 2, 3, 4] rfl (EV.ix 1 rfl rfl rfl g2 c1 rfl) rfl rfl rfl rfl (xv 7 [0, 1, 2] [0, 2, 3, 4] rfl (EV.fa 0 rfl) rfl rfl rfl rfl (xv 8 [0, 1, 2] [0, 2, 3, 4] rfl (EV.lc (v := .slice A_3 ((rd_T64 l0_0 x2_4).f0).length c_3) 0 none 2 rfl rfl rfl rfl) rfl rfl rfl rfl (xv 10 [0, 1, 2] [0, 2, 3, 4] rfl (EV.fa 0 rfl) rfl rfl rfl rfl (xv 11 [0, 1, 2] [0, 2, 3, 4] rfl (EV.ld 0 none rfl rfl rfl) rfl rfl rfl rfl (xv 12 [0, 1, 2] [0, 2, 3, 4] rfl (EV.mv rfl) rfl rfl rfl rfl (xv 13 [0, 1, 2] [0, 2, 3, 4] rfl (EV.ix 1 rfl rfl rfl g2 c1 rfl) rfl rfl rfl rfl (xv 14 [0, 1, 2] [0, 2, 3, 4] rfl (EV.fa 1 rfl) rfl rfl rfl rfl (xv 15 [0, 1, 2] [0, 2, 3, 4] rfl (EV.lf (v := .int .i64 ((rd_T64 l0_0 x2_4).f1)) x2_4 1 none 1 z64 rfl rfl rfl g2 c1 rfl (fun _ _ => rfl)) rfl rfl rfl rfl (one1 2 rfl rfl (op_lit (s := 3) (by_ := 24) k75 ([] : List S75) [] [] 3 [] rfl rfl rfl rfl rfl rfl rfl rfl rfl rfl rfl rfl rfl dq rfl fun A19_6 c19_6 => (xs [0, 1, 2] [0, 2, 3, 4] rfl rfl rfl (one1 9 rfl rfl (op_app (k := k75) (s := 3) (by_ := 24) 5 4 rfl rfl rfl rfl (ap0 g4 dq) (ap0n g4 dq) (.inl rfl) true (fun _ => .inl rfl) rfl rfl fun A26_7 c26_7 => (nmE (en := [.sl 2 k64 Ax2_2_0 cx2_2_0 x2_2_0 1 true, .sl 2 k64 Ax2_3_0 cx2_3_0 x2_3_0 2 true, .sl 0 k64 Al0_0 cl0_0 l0_0 0 false, celE Al0_0 (x2_4.toNat * 2) [.slice A_3 ((rd_T64 l0_0 x2_4).f0).length c_3, .int .i64 ((rd_T64 l0_0 x2_4).f1)] 0, .sl 0 k75 A_3 c_3 ((rd_T64 l0_0 x2_4).f0) 0 false, .sl 2 k75 A26_7 c26_7 ((rd_T64 l0_0 x2_4).f0) 3 true]) (by kernel_rfl) (xs [0, 1, 2] [0, 2, 3, 4] rfl rfl rfl (one1 16 rfl rfl (ov (EV.bd (v := .agg #[.slice A26_7 ((rd_T64 l0_0 x2_4).f0).length c26_7, .int .i64 ((rd_T64 l0_0 x2_4).f1)]) rfl (by kernel_rfl)) rfl (xs [0, 1, 2] [0, 2, 3, 4] rfl rfl rfl (one1 17 rfl rfl (op_lit (s := 2) (by_ := 32) k64 ([(⟨(rd_T64 l0_0 x2_4).f0, (rd_T64 l0_0 x2_4).f1⟩ : S64)] : List S64) [[(A26_7, c26_7)]] [5] 4 [.tmp 33] rfl rfl rfl rfl rfl rfl rfl rfl rfl rfl rfl rfl rfl dq rfl fun A34_8 c34_8 => (nmE (en := [.sl 2 k64 Ax2_2_0 cx2_2_0 x2_2_0 1 true, .sl 2 k64 Ax2_3_0 cx2_3_0 x2_3_0 2 true, .sl 0 k64 Al0_0 cl0_0 l0_0 0 false, celE Al0_0 (x2_4.toNat * 2) [.slice A_3 ((rd_T64 l0_0 x2_4).f0).length c_3, .int .i64 ((rd_T64 l0_0 x2_4).f1)] 0, .sl 0 k75 A_3 c_3 ((rd_T64 l0_0 x2_4).f0) 0 false, .sl 2 k75 A26_7 c26_7 ((rd_T64 l0_0 x2_4).f0) 4 true, .sl 2 k64 A34_8 c34_8 ([(⟨(rd_T64 l0_0 x2_4).f0, (rd_T64 l0_0 x2_4).f1⟩ : S64)] : List S64) 4 true]) (by kernel_rfl) (xs [0, 1, 2] [0, 2, 3, 4] rfl rfl rfl (one1 18 rfl rfl ?_)))))))))))))))))))))))))))))
  exact op_app (k := k64) (s := 2) (by_ := 32) 1 6 rfl rfl rfl rfl (ap1 g5 dq) (ap1n g5 dq) (.inr ⟨dq, dq, rfl, dq⟩) true (fun _ => .inr ⟨rfl, rfl, dq⟩) rfl rfl fun A35_9 c35_9 => (nmE (en := [.sl 2 k64 Ax2_2_0 cx2_2_0 x2_2_0 1 true, .sl 0 k64 Al0_0 cl0_0 l0_0 0 false, celE Al0_0 (x2_4.toNat * 2) [.slice A_3 ((rd_T64 l0_0 x2_4).f0).length c_3, .int .i64 ((rd_T64 l0_0 x2_4).f1)] 0, .sl 0 k75 A_3 c_3 ((rd_T64 l0_0 x2_4).f0) 0 false, .sl 2 k75 A26_7 c26_7 ((rd_T64 l0_0 x2_4).f0) 2 true, .sl 2 k64 A34_8 c34_8 ([(⟨(rd_T64 l0_0 x2_4).f0, (rd_T64 l0_0 x2_4).f1⟩ : S64)] : List S64) 2 true, .sl 2 k64 A35_9 c35_9 (x2_3_0 ++ ([(⟨(rd_T64 l0_0 x2_4).f0, (rd_T64 l0_0 x2_4).f1⟩ : S64)] : List S64)) 2 true]) (by kernel_rfl) (xs [0, 1, 2] [0, 1, 2, 3] rfl rfl rfl (one1 19 rfl rfl (ov (EV.fa 0 rfl) rfl (xn rfl (one1 20 rfl rfl (op_st (cs' := [.slice A35_9 (x2_3_0 ++ ([(⟨(rd_T64 l0_0 x2_4).f0, (rd_T64 l0_0 x2_4).f1⟩ : S64)] : List S64)).length c35_9, .int .i64 x2_3_1, .bool x2_3_2]) 2 rfl rfl rfl rfl rfl rfl (xn rfl (xd (pr [1, 2, 3, 4] [0, 1, 2] [0, 1, 6] rfl rfl rfl rfl (ge (rg (sv (EV.mv rfl) rfl (sv (EV.add rfl rfl) rfl (sv (EV.as rfl) rfl (re (wk [1, 2, 3, 4] [0, 1, 2] [⟨0, 2, 1, true⟩, ⟨2, 2, 2, true⟩, ⟨1, 0, 0, false⟩] (ih0 _ (by omega) _ ⟨wrap64 (x2_4 + 1), x2_1_1, x2_1_2, x2_2_0, Ax2_2_0, cx2_2_0, x2_2_1, x2_2_2, x2_3_0 ++ ([(⟨(rd_T64 l0_0 x2_4).f0, (rd_T64 l0_0 x2_4).f1⟩ : S64)] : List S64), A35_9, c35_9, x2_3_1, x2_3_2, H, rfl⟩))))))))))))))))))
 ·
  refine gf rfl (dF c1) (gx rfl (gs (rg (sv (EV.ld (v := .agg #[.slice Ax2_3_0 x2_3_0.length cx2_3_0, .int .i64 x2_3_1, .bool x2_3_2]) 2 (some 3) rfl rfl rfl) rfl (so rfl (op_st (cs' := [.slice Ax2_3_0 x2_3_0.length cx2_3_0, .int .i64 x2_3_1, .bool x2_3_2]) 1 rfl rfl rfl rfl rfl rfl (re (pr [2] [1] [1] rfl rfl rfl rfl ?_))))))))
  cases H
  exact rt Try.func70 rfl (.cell 0 (some 3) rfl rfl rfl .nil) rfl [] [⟨0, 2, 1, true⟩] rfl rfl rfl rfl rfl ⟨_, _, rfl, rfl, rfl⟩
mutual
def spec_l22Early.j1 : Nat → Int → (List S49) → (List S64) → Int → Bool → (List S64) → Int → Bool → Option ((List S64) × Int × Bool × (List S49) × Int × Bool)
 | 0, _, _, _, _, _, _, _, _ => none
 | k + 1, x3_13, x3_14, x3_4_0, x3_4_1, x3_4_2, x3_8_0, x3_8_1, x3_8_2 => some (x3_4_0, x3_4_1, x3_4_2, x3_14, wrap64 (x3_13 * 3), true)
def spec_l22Early.j0 : Nat → (List S64) → Int → Int → Bool → (List S75) → Int → (List S64) → Int → Bool → Option ((List S64) × Int × Bool × (List S49) × Int × Bool)
 | 0, _, _, _, _, _, _, _, _, _ => none
 | k + 1, x2_2, x2_12, x2_4_1, x2_4_2, x2_5_0, x2_5_1, x2_8_0, x2_8_1, x2_8_2 => if 0 ≤ x2_12 then (if x2_12 ≤ (x2_5_0.length : Int) then ((spec_DistinctKeys.f k (x2_5_0.take x2_12.toNat)).bind fun t4 => ((spec_ReferenceGroups.f k (x2_5_0.take x2_12.toNat)).bind fun t5 => (if x2_12 < (x2_5_0.length : Int) then (if ([(⟨x2_5_0.drop x2_12.toNat, x2_5_1⟩ : S64)] : List S64).length + x2_2.length ≤ 4398046511104 then (spec_l22Early.j1 k (t4.length : Int) t5 (([(⟨x2_5_0.drop x2_12.toNat, x2_5_1⟩ : S64)] : List S64) ++ x2_2) x2_4_1 x2_4_2 x2_8_0 x2_8_1 x2_8_2) else none) else (spec_l22Early.j1 k (t4.length : Int) t5 x2_2 x2_4_1 x2_4_2 x2_8_0 x2_8_1 x2_8_2)))) else none) else none
def spec_l22Early.l0 : Nat → (List S64) → Int → Int → Int → Bool → (List S75) → Int → (List S64) → Int → Bool → Option ((List S64) × Int × Bool × (List S49) × Int × Bool)
 | 0, _, _, _, _, _, _, _, _, _, _ => none
 | k + 1, x4_2, x4_3, x4_12, x4_4_1, x4_4_2, x4_5_0, x4_5_1, x4_8_0, x4_8_1, x4_8_2 => if x4_12 < (x4_5_0.length : Int) then (if 0 ≤ (wrap64 (x4_12 + 1)) then (if (wrap64 (x4_12 + 1)) ≤ (x4_5_0.length : Int) then ((spec_DistinctKeys.f k (x4_5_0.take (wrap64 (x4_12 + 1)).toNat)).bind fun t14 => (if (t14.length : Int) ≤ x4_3 then (spec_l22Early.l0 k x4_2 x4_3 (wrap64 (x4_12 + 1)) x4_4_1 x4_4_2 x4_5_0 x4_5_1 x4_8_0 x4_8_1 x4_8_2) else (spec_l22Early.j0 k x4_2 x4_12 x4_4_1 x4_4_2 x4_5_0 x4_5_1 x4_8_0 x4_8_1 x4_8_2))) else none) else none) else (spec_l22Early.j0 k x4_2 x4_12 x4_4_1 x4_4_2 x4_5_0 x4_5_1 x4_8_0 x4_8_1 x4_8_2)
end
def spec_l22Early.f (k : Nat) (l0_0 : List S64) (a0_1 : Int) (a0_2 : Bool) (l1_0 : List S75) (a1_1 : Int) (l2 : List S64) (a3 : Int) : Option ((List S64) × Int × Bool × (List S49) × Int × Bool) := spec_l22Early.l0 k l2 a3 0 a0_1 a0_2 l1_0 a1_1 [] 0 false
set_option maxHeartbeats 4000000 in
set_option maxRecDepth 100000 in
theorem spec_l22Early.ok (k : Nat) (l0_0 : List S64) (Al0_0 : Option Addr) (cl0_0 : Nat) (a0_1 : Int) (a0_2 : Bool) (l1_0 : List S75) (Al1_0 : Option Addr) (cl1_0 : Nat) (a1_1 : Int) (l2 : List S64) (Al2 : Option Addr) (cl2 : Nat) (a3 : Int) (r0 : List S64) (r1 : Int) (r2 : Bool) (r3 : List S49) (r4 : Int) (r5 : Bool) (H : spec_l22Early.f k l0_0 a0_1 a0_2 l1_0 a1_1 l2 a3 = some (r0, r1, r2, r3, r4, r5)) : Fn Try.prog 72 [.agg #[.slice Al0_0 l0_0.length cl0_0, .int .i64 a0_1, .bool a0_2], .agg #[.slice Al1_0 l1_0.length cl1_0, .int .i64 a1_1], .slice Al2 l2.length cl2, .int .i64 a3] [] [.sl 1 k75 Al1_0 cl1_0 l1_0 1 true, .sl 1 k64 Al2 cl2 l2 2 true] (fun v bx en => ∃ A0 c0 A3 c3, v = .tuple #[.agg #[.slice A0 r0.length c0, .int .i64 r1, .bool r2], .slice A3 r3.length c3, .int .i64 r4, .bool r5] ∧ bx = [] ∧ en = [.sl 1 k64 A0 c0 r0 1 true, .sl 2 k49 A3 c3 r3 2 true]) := by
 refine fn_ 66 Try.func72 rfl rfl rfl (fun base T w0 => ?_)
 rw [spec_l22Early.f] at H
 refine gs (rg (so rfl (op_box (cs := [.slice Al0_0 l0_0.length cl0_0, .int .i64 a0_1, .bool a0_2]) rfl rfl rfl fun b4 => (so rfl (op_box (cs := [.slice Al1_0 l1_0.length cl1_0, .int .i64 a1_1]) rfl rfl rfl fun b5 => (so rfl (op_alloc (cs := [.slice none 0 0, .int .i64 0, .bool false]) (by kernel_rfl) rfl fun b8 => (sv (EV.as rfl) rfl (sv (EV.as rfl) rfl (sv (EV.as rfl) rfl (re (gs (rg (sv (EV.as rfl) rfl (re ?_)))))))))))))))
 refine jo (fun S => ∃ (m : Nat) (x2_2 : List S64) (Ax2_2 : Option Addr) (cx2_2 : Nat) (x2_12 : Int) (x2_4_1 : Int) (x2_4_2 : Bool) (x2_5_0 : List S75) (Ax2_5_0 : Option Addr) (cx2_5_0 : Nat) (x2_5_1 : Int) (x2_8_0 : List S64) (Ax2_8_0 : Option Addr) (cx2_8_0 : Nat) (x2_8_1 : Int) (x2_8_2 : Bool), spec_l22Early.j0 m x2_2 x2_12 x2_4_1 x2_4_2 x2_5_0 x2_5_1 x2_8_0 x2_8_1 x2_8_2 = some (r0, r1, r2, r3, r4, r5) ∧ S = ⟨[(2, .slice Ax2_2 x2_2.length cx2_2), (4, .pointer (some ⟨b4, 0, none⟩)), (5, .pointer (some ⟨b5, 0, none⟩)), (8, .pointer (some ⟨b8, 0, none⟩)), (12, .int .i64 x2_12)], [⟨b4, 54, [.slice Al0_0 l0_0.length cl0_0, .int .i64 x2_4_1, .bool x2_4_2]⟩, ⟨b5, 64, [.slice Ax2_5_0 x2_5_0.length cx2_5_0, .int .i64 x2_5_1]⟩, ⟨b8, 54, [.slice Ax2_8_0 x2_8_0.length cx2_8_0, .int .i64 x2_8_1, .bool x2_8_2]⟩], [.sl 1 k64 Ax2_2 cx2_2 x2_2 1 true, .sl 1 k75 Ax2_5_0 cx2_5_0 x2_5_0 2 true, .sl 2 k64 Ax2_8_0 cx2_8_0 x2_8_0 3 true]⟩) (fun S hS => ?_) (fun jh0 => ?_)
 ·
  clear H
  obtain ⟨m1, x2_2, Ax2_2, cx2_2, x2_12, x2_4_1, x2_4_2, x2_5_0, Ax2_5_0, cx2_5_0, x2_5_1, x2_8_0, Ax2_8_0, cx2_8_0, x2_8_1, x2_8_2, H, rfl⟩ := hS
  rcases m1 with _ | m1
  · rw [spec_l22Early.j0] at H; cases H
  rw [spec_l22Early.j0] at H
  refine gs (rg (sv (EV.fa 0 rfl) rfl (sv (EV.ld 1 none rfl rfl rfl) rfl (sv (EV.mv rfl) rfl ?_))))
  revert H; refine ggI ?_; intro g2 H
  revert H; refine ggI ?_; intro g3 H
  refine cutp (l' := x2_5_0.take x2_12.toNat) 0 x2_12 1 rfl (Int.le_refl 0) g2 g3 rfl 1 dq (.inr rfl) rfl (sv (EV.ct 0 x2_12 1 rfl rfl rfl rfl (Int.le_refl 0) g2 g3 rfl rfl ctnh) rfl ?_)
  revert H; refine bdI ?_; rintro t4 A4 H
  refine so rfl (op_call (spec_DistinctKeys.ok m1 (x2_5_0.take x2_12.toNat) (cutA Ax2_5_0 cx2_5_0 (0 : Int).toNat 3) (cx2_5_0 - (0 : Int).toNat) _ A4) [⟨3, 0, 0, false⟩] 4 rfl rfl rfl rfl rfl ?_)
  rintro _ _ _ ⟨At4, ct4, rfl, rfl, rfl⟩
  refine sv (EV.ln rfl) rfl (sv (EV.as rfl) rfl (re (pr [2, 4, 5, 8, 12, 13] [0, 1, 2] [0, 1, 2] rfl rfl rfl rfl (gs (rg (sv (EV.fa 0 rfl) rfl (sv (EV.ld 1 none rfl rfl rfl) rfl (sv (EV.mv rfl) rfl (cutp (l' := x2_5_0.take x2_12.toNat) 0 x2_12 1 rfl (Int.le_refl 0) g2 g3 rfl 1 dq (.inr rfl) rfl (sv (EV.ct 0 x2_12 1 rfl rfl rfl rfl (Int.le_refl 0) g2 g3 rfl rfl ctnh) rfl ?_))))))))))
  revert H; refine bdI ?_; rintro t5 A5 H
  refine so rfl (op_call (spec_ReferenceGroups.ok m1 (x2_5_0.take x2_12.toNat) (cutA Ax2_5_0 cx2_5_0 (0 : Int).toNat 3) (cx2_5_0 - (0 : Int).toNat) _ A5) [⟨3, 0, 0, false⟩] 4 rfl rfl rfl rfl rfl ?_)
  rintro _ _ _ ⟨At5, ct5, rfl, rfl, rfl⟩
  refine sv (EV.as rfl) rfl (re (gs (rg (sv (EV.mv rfl) rfl (sv (EV.fa 0 rfl) rfl (so rfl (op_st (cs' := [.slice Ax2_2 x2_2.length cx2_2, .int .i64 x2_4_1, .bool x2_4_2]) 0 rfl rfl rfl rfl rfl rfl (re (pr [2, 4, 5, 8, 12, 13, 14] [0, 1, 2] [0, 1, 2, 4] rfl rfl rfl rfl ?_)))))))))
  refine jo (fun S => ∃ (m : Nat) (x3_13 : Int) (x3_14 : List S49) (Ax3_14 : Option Addr) (cx3_14 : Nat) (x3_4_0 : List S64) (Ax3_4_0 : Option Addr) (cx3_4_0 : Nat) (x3_4_1 : Int) (x3_4_2 : Bool) (x3_8_0 : List S64) (Ax3_8_0 : Option Addr) (cx3_8_0 : Nat) (x3_8_1 : Int) (x3_8_2 : Bool), m ≤ m1 ∧ spec_l22Early.j1 m x3_13 x3_14 x3_4_0 x3_4_1 x3_4_2 x3_8_0 x3_8_1 x3_8_2 = some (r0, r1, r2, r3, r4, r5) ∧ S = ⟨[(4, .pointer (some ⟨b4, 0, none⟩)), (8, .pointer (some ⟨b8, 0, none⟩)), (13, .int .i64 x3_13), (14, .slice Ax3_14 x3_14.length cx3_14)], [⟨b4, 54, [.slice Ax3_4_0 x3_4_0.length cx3_4_0, .int .i64 x3_4_1, .bool x3_4_2]⟩, ⟨b8, 54, [.slice Ax3_8_0 x3_8_0.length cx3_8_0, .int .i64 x3_8_1, .bool x3_8_2]⟩], [.sl 2 k49 Ax3_14 cx3_14 x3_14 1 true, .sl 1 k64 Ax3_4_0 cx3_4_0 x3_4_0 2 true, .sl 2 k64 Ax3_8_0 cx3_8_0 x3_8_0 3 true]⟩) (fun S hS => ?_) (fun jh1 => ?_)
  ·
   clear H
   obtain ⟨m6, x3_13, x3_14, Ax3_14, cx3_14, x3_4_0, Ax3_4_0, cx3_4_0, x3_4_1, x3_4_2, x3_8_0, Ax3_8_0, cx3_8_0, x3_8_1, x3_8_2, lm6, H, rfl⟩ := hS
   rcases m6 with _ | m6
   · rw [spec_l22Early.j1] at H; cases H
   rw [spec_l22Early.j1] at H
   refine gs (rg (sv (EV.ld (v := .agg #[.slice Ax3_4_0 x3_4_0.length cx3_4_0, .int .i64 x3_4_1, .bool x3_4_2]) 0 (some 3) rfl rfl rfl) rfl (sv (EV.mv rfl) rfl (sv (EV.mv rfl) rfl (sv (EV.mul rfl rfl) rfl (so rfl (op_st (cs' := [.slice Ax3_4_0 x3_4_0.length cx3_4_0, .int .i64 x3_4_1, .bool x3_4_2]) 1 rfl rfl rfl rfl rfl rfl (sv (EV.as rfl) rfl (sv (EV.as rfl) rfl (sv (EV.as rfl) rfl (re (pr [8, 9, 10, 11] [1] [0, 1] rfl rfl rfl rfl ?_))))))))))))
   cases H
   exact rt Try.func72 rfl (.cell 0 (some 3) rfl rfl rfl (.tmp rfl (.tmp rfl (.tmp rfl .nil)))) rfl [] [⟨1, 1, 1, true⟩, ⟨0, 2, 2, true⟩] rfl rfl rfl rfl rfl ⟨_, _, _, _, rfl, rfl, rfl⟩
  ·
   refine gs (rg (sv (EV.mv rfl) rfl (sv (EV.fa 0 rfl) rfl (sv (EV.ld 1 none rfl rfl rfl) rfl (sv (EV.ln rfl) rfl (sv (EV.lss rfl rfl) rfl (re ?_)))))))
   revert H; refine ifsI ?_ ?_ <;> intro c7 H
   ·
    refine gt rfl (dT c7) (dr [0, 1, 2] [2, 3] [10, 11] 12 rfl rfl rfl rfl (xv 0 [0, 1, 2] [2, 3] rfl (EV.fa 0 rfl) rfl rfl rfl rfl (xv 1 [0, 1, 2] [2, 3] rfl (EV.ld 1 none rfl rfl rfl) rfl rfl rfl rfl (xv 2 [0, 1, 2] [2, 3] rfl (EV.mv rfl) rfl rfl rfl rfl (xv 4 [0, 1, 2] [2, 3] rfl (EV.fa 1 rfl) rfl rfl rfl rfl (xv 5 [0, 1, 2] [2, 3] rfl (EV.ld 1 none rfl rfl rfl) rfl rfl rfl rfl (xv 8 [0, 1, 2] [2, 3] rfl (EV.mv rfl) rfl rfl rfl rfl (one1 3 rfl rfl (cutp (l' := x2_5_0.drop x2_12.toNat) x2_12 (x2_5_0.length : Int) 1 rfl g2 g3 (Int.le_refl _) rfl 1 dq (.inl dq) ctl (ov (EV.ct x2_12 (x2_5_0.length : Int) 1 rfl rfl rfl rfl g2 g3 (Int.le_refl _) rfl rfl ctnl) rfl (xs [0, 1, 2] [2, 3] rfl rfl rfl (xv 6 [0, 1, 2] [2, 3] rfl (EV.bd (v := .agg #[.slice (cutA Ax2_5_0 cx2_5_0 x2_12.toNat 3) (x2_5_0.drop x2_12.toNat).length (cx2_5_0 - x2_12.toNat), .int .i64 x2_5_1]) rfl (by kernel_rfl)) rfl rfl rfl rfl (one1 7 rfl rfl (op_lit (s := 2) (by_ := 32) k64 ([(⟨x2_5_0.drop x2_12.toNat, x2_5_1⟩ : S64)] : List S64) [[((cutA Ax2_5_0 cx2_5_0 x2_12.toNat 3), (cx2_5_0 - x2_12.toNat))]] [4] 6 [.tmp 57] rfl rfl rfl rfl rfl rfl rfl rfl rfl rfl rfl rfl rfl dq rfl fun A58_8 c58_8 => (nmE (en := [.sl 1 k64 Ax2_2 cx2_2 x2_2 1 true, .sl 1 k75 Ax2_5_0 cx2_5_0 x2_5_0 6 true, .sl 2 k64 Ax2_8_0 cx2_8_0 x2_8_0 3 true, .sl 2 k49 At5 ct5 t5 5 true, .sl 1 k75 (cutA Ax2_5_0 cx2_5_0 x2_12.toNat 3) (cx2_5_0 - x2_12.toNat) (x2_5_0.drop x2_12.toNat) 6 true, .sl 2 k64 A58_8 c58_8 ([(⟨x2_5_0.drop x2_12.toNat, x2_5_1⟩ : S64)] : List S64) 6 true]) (by kernel_rfl) (xs [0, 1, 2] [2, 3] rfl rfl rfl (one1 9 rfl rfl ?_)))))))))))))))))
    revert H; refine ggI ?_; intro g9 H
    exact op_app (k := k64) (s := 2) (by_ := 32) 5 0 rfl rfl rfl rfl (ap2 g9 dq) (ap2n g9 dq) (.inr ⟨dq, dq, rfl, dq⟩) true (fun _ => .inr ⟨rfl, rfl, dq⟩) rfl rfl fun A60_10 c60_10 => (nmE (en := [.sl 1 k64 Ax2_2 cx2_2 x2_2 6 true, .sl 2 k64 Ax2_8_0 cx2_8_0 x2_8_0 3 true, .sl 2 k49 At5 ct5 t5 5 true, .sl 2 k64 A60_10 c60_10 (([(⟨x2_5_0.drop x2_12.toNat, x2_5_1⟩ : S64)] : List S64) ++ x2_2) 6 true]) (by kernel_rfl) (xs [0, 1, 2] [1, 2] rfl rfl rfl (one1 10 rfl rfl (ov (EV.fa 0 rfl) rfl (xn rfl (one1 11 rfl rfl (op_st (cs' := [.slice A60_10 (([(⟨x2_5_0.drop x2_12.toNat, x2_5_1⟩ : S64)] : List S64) ++ x2_2).length c60_10, .int .i64 x2_4_1, .bool x2_4_2]) 0 rfl rfl rfl rfl rfl rfl (xn rfl (xd (pr [4, 8, 13, 14] [0, 2] [1, 2, 3] rfl rfl rfl rfl (wk [4, 8, 13, 14] [0, 1] [⟨1, 2, 1, true⟩, ⟨2, 1, 2, true⟩, ⟨0, 2, 3, true⟩] (jh1 _ ⟨_, (t4.length : Int), t5, At5, ct5, ([(⟨x2_5_0.drop x2_12.toNat, x2_5_1⟩ : S64)] : List S64) ++ x2_2, A60_10, c60_10, x2_4_1, x2_4_2, x2_8_0, Ax2_8_0, cx2_8_0, x2_8_1, x2_8_2, by omega, H, rfl⟩))))))))))))
   ·
    exact gf rfl (dF c7) (gk (wk [4, 8, 13, 14] [0, 2] [⟨3, 2, 1, true⟩, ⟨0, 1, 2, true⟩, ⟨2, 2, 3, true⟩] (jh1 _ ⟨_, (t4.length : Int), t5, At5, ct5, x2_2, Ax2_2, cx2_2, x2_4_1, x2_4_2, x2_8_0, Ax2_8_0, cx2_8_0, x2_8_1, x2_8_2, by omega, H, rfl⟩)))
 ·
  refine gb (nil_ k64 3 dq ?_)
  refine lo (fun kk S => ∃ (x4_2 : List S64) (Ax4_2 : Option Addr) (cx4_2 : Nat) (x4_3 : Int) (x4_12 : Int) (x4_4_1 : Int) (x4_4_2 : Bool) (x4_5_0 : List S75) (Ax4_5_0 : Option Addr) (cx4_5_0 : Nat) (x4_5_1 : Int) (x4_8_0 : List S64) (Ax4_8_0 : Option Addr) (cx4_8_0 : Nat) (x4_8_1 : Int) (x4_8_2 : Bool), spec_l22Early.l0 kk x4_2 x4_3 x4_12 x4_4_1 x4_4_2 x4_5_0 x4_5_1 x4_8_0 x4_8_1 x4_8_2 = some (r0, r1, r2, r3, r4, r5) ∧ S = ⟨[(2, .slice Ax4_2 x4_2.length cx4_2), (3, .int .i64 x4_3), (4, .pointer (some ⟨b4, 0, none⟩)), (5, .pointer (some ⟨b5, 0, none⟩)), (8, .pointer (some ⟨b8, 0, none⟩)), (12, .int .i64 x4_12)], [⟨b4, 54, [.slice Al0_0 l0_0.length cl0_0, .int .i64 x4_4_1, .bool x4_4_2]⟩, ⟨b5, 64, [.slice Ax4_5_0 x4_5_0.length cx4_5_0, .int .i64 x4_5_1]⟩, ⟨b8, 54, [.slice Ax4_8_0 x4_8_0.length cx4_8_0, .int .i64 x4_8_1, .bool x4_8_2]⟩], [.sl 1 k64 Ax4_2 cx4_2 x4_2 1 true, .sl 1 k75 Ax4_5_0 cx4_5_0 x4_5_0 2 true, .sl 2 k64 Ax4_8_0 cx4_8_0 x4_8_0 3 true]⟩) (fun S hS => ?_) (fun n0 ih0 S hS => ?_) ⟨l2, Al2, cl2, a3, 0, a0_1, a0_2, l1_0, Al1_0, cl1_0, a1_1, [], none, 0, 0, false, H, rfl⟩ (fun h => wk [2, 3, 4, 5, 8, 12] [0, 1, 2] [⟨1, 1, 1, true⟩, ⟨0, 1, 2, true⟩, ⟨2, 2, 3, true⟩] h)
  · clear H; obtain ⟨_, _, _, _, _, _, _, _, _, _, _, _, _, _, _, _, H, _⟩ := hS; rw [spec_l22Early.l0] at H; cases H
  clear H
  obtain ⟨x4_2, Ax4_2, cx4_2, x4_3, x4_12, x4_4_1, x4_4_2, x4_5_0, Ax4_5_0, cx4_5_0, x4_5_1, x4_8_0, Ax4_8_0, cx4_8_0, x4_8_1, x4_8_2, H, rfl⟩ := hS
  rw [spec_l22Early.l0] at H
  refine gs (gs (rg (sv (EV.mv rfl) rfl (sv (EV.fa 0 rfl) rfl (sv (EV.ld 1 none rfl rfl rfl) rfl (sv (EV.ln rfl) rfl (sv (EV.lss rfl rfl) rfl (sv (EV.mv rfl) rfl ?_))))))))
  revert H; refine ifsI ?_ ?_ <;> intro c11 H
  ·
   refine ts 20 rfl (dT c11) (sv (EV.fa 0 rfl) rfl (sv (EV.ld 1 none rfl rfl rfl) rfl (sv (EV.mv rfl) rfl (sv (EV.add rfl rfl) rfl ?_))))
   revert H; refine ggI ?_; intro g12 H
   revert H; refine ggI ?_; intro g13 H
   refine cutp (l' := x4_5_0.take (wrap64 (x4_12 + 1)).toNat) 0 (wrap64 (x4_12 + 1)) 1 rfl (Int.le_refl 0) g12 g13 rfl 1 dq (.inr rfl) rfl (sv (EV.ct 0 (wrap64 (x4_12 + 1)) 1 rfl rfl rfl rfl (Int.le_refl 0) g12 g13 rfl rfl ctnh) rfl ?_)
   revert H; refine bdI ?_; rintro t14 A14 H
   refine so rfl (op_call (spec_DistinctKeys.ok n0 (x4_5_0.take (wrap64 (x4_12 + 1)).toNat) (cutA Ax4_5_0 cx4_5_0 (0 : Int).toNat 3) (cx4_5_0 - (0 : Int).toNat) _ A14) [⟨3, 0, 0, false⟩] 4 rfl rfl rfl rfl rfl ?_)
   rintro _ _ _ ⟨At14, ct14, rfl, rfl, rfl⟩
   refine sv (EV.ln rfl) rfl (sv (EV.mv rfl) rfl (sv (EV.leq rfl rfl) rfl (sv (EV.pt rfl rfl rfl) rfl (re (pr [2, 3, 4, 5, 8, 12, 21, 22, 23, 24, 25, 26, 27, 28, 29, 30] [0, 1, 2] [0, 1, 2, 3, 4] rfl rfl rfl rfl ?_)))))
   revert H; refine ifsI ?_ ?_ <;> intro c15 H
   ·
    exact gt rfl (dT c15) (gk (gb (rg (sv (EV.mv rfl) rfl (sv (EV.add rfl rfl) rfl (sv (EV.as rfl) rfl (re (ge (wk [2, 3, 4, 5, 8, 12] [0, 1, 2] [⟨0, 1, 1, true⟩, ⟨1, 1, 2, true⟩, ⟨2, 2, 3, true⟩] (ih0 _ (by omega) _ ⟨x4_2, Ax4_2, cx4_2, x4_3, wrap64 (x4_12 + 1), x4_4_1, x4_4_2, x4_5_0, Ax4_5_0, cx4_5_0, x4_5_1, x4_8_0, Ax4_8_0, cx4_8_0, x4_8_1, x4_8_2, H, rfl⟩))))))))))
   ·
    exact gf rfl (dF c15) (gx rfl (wk [2, 4, 5, 8, 12] [0, 1, 2] [⟨0, 1, 1, true⟩, ⟨1, 1, 2, true⟩, ⟨2, 2, 3, true⟩] (jh0 _ ⟨_, x4_2, Ax4_2, cx4_2, x4_12, x4_4_1, x4_4_2, x4_5_0, Ax4_5_0, cx4_5_0, x4_5_1, x4_8_0, Ax4_8_0, cx4_8_0, x4_8_1, x4_8_2, H, rfl⟩)))
  ·
   exact ts 20 rfl (dF c11) (sk rfl (sk rfl (sk rfl (sk rfl (sk rfl (sk rfl (sk rfl (sk rfl (sk rfl (sv (EV.pf rfl rfl rfl) rfl (re (pr [2, 3, 4, 5, 8, 12, 30] [0, 1, 2] [0, 1, 2] rfl rfl rfl rfl (gf rfl rfl (gx rfl (wk [2, 4, 5, 8, 12] [0, 1, 2] [⟨0, 1, 1, true⟩, ⟨1, 1, 2, true⟩, ⟨2, 2, 3, true⟩] (jh0 _ ⟨_, x4_2, Ax4_2, cx4_2, x4_12, x4_4_1, x4_4_2, x4_5_0, Ax4_5_0, cx4_5_0, x4_5_1, x4_8_0, Ax4_8_0, cx4_8_0, x4_8_1, x4_8_2, H, rfl⟩))))))))))))))))
def spec_HashBit.f (a0 : Int) (a1 : Int) : Option (Int) := (spec_l1In.f a1 0 3).bind fun t1 => (if t1 = true then ((spec_l1In.f a0 0 9).bind fun t3 => (if t3 = true then (if 0 ≤ a1 then (some (andI (shrI (Int.tmod (wrap64 (a0 * 7)) 16) a1) 1)) else none) else (some 0))) else (some 0))
set_option maxHeartbeats 4000000 in
set_option maxRecDepth 100000 in
theorem spec_HashBit.ok (a0 : Int) (a1 : Int) (r0 : Int) (H : spec_HashBit.f a0 a1 = some r0) : Fn Try.prog 91 [.int .i64 a0, .int .i64 a1] [] [] (fun v bx en => v = .int .i64 r0 ∧ bx = [] ∧ en = []) := by
 refine fn_ 19 Try.func91 rfl rfl rfl (fun base T w0 => ?_)
 rw [spec_HashBit.f] at H
 refine gs (rg (sv (EV.as rfl) rfl (re (gs (gs (rg (sv (EV.mv rfl) rfl ?_)))))))
 revert H; refine bdI ?_; rintro t1 A1 H
 refine so rfl (op_call (spec_l1In.ok a1 0 3 _ A1) [] 1 rfl rfl rfl rfl rfl ?_)
 rintro _ _ _ ⟨rfl, rfl, rfl⟩
 refine sv (EV.nt rfl) rfl (sv (EV.mv rfl) rfl ?_)
 revert H; refine ifsI ?_ ?_ <;> intro c2 H
 ·
  subst c2
  refine ts 8 rfl rfl (sv (EV.mv rfl) rfl ?_)
  revert H; refine bdI ?_; rintro t3 A3 H
  refine so rfl (op_call (spec_l1In.ok a0 0 9 _ A3) [] 1 rfl rfl rfl rfl rfl ?_)
  rintro _ _ _ ⟨rfl, rfl, rfl⟩
  refine sv (EV.nt rfl) rfl (sv (EV.pf rfl rfl rfl) rfl (re (pr [0, 1, 12] [] [] rfl rfl rfl rfl ?_)))
  revert H; refine ifsI ?_ ?_ <;> intro c4 H
  ·
   subst c4
   refine gf rfl rfl (gk (gs (rg (sv (EV.mv rfl) rfl (sv (EV.mul rfl rfl) rfl (sv (EV.rem rfl rfl dq) rfl (sv (EV.mv rfl) rfl ?_)))))))
   revert H; refine ggI ?_; intro g5 H
   refine sv (EV.shr rfl rfl g5) rfl (sv (EV.andI rfl rfl) rfl (sv (EV.as rfl) rfl (re (pr [4] [] [] rfl rfl rfl rfl ?_))))
   cases H
   exact rt Try.func91 rfl (.tmp rfl .nil) rfl [] [] rfl rfl rfl rfl rfl ⟨rfl, rfl, rfl⟩
  ·
   obtain rfl := bF c4
   refine gt rfl rfl (gs (rg (sv (EV.as rfl) rfl (re ?_))))
   cases H
   exact rt Try.func91 rfl (.tmp rfl .nil) rfl [] [] rfl rfl rfl rfl rfl ⟨rfl, rfl, rfl⟩
 ·
  obtain rfl := bF c2
  refine ts 8 rfl rfl (sk rfl (sk rfl (sk rfl (sv (EV.pt rfl rfl rfl) rfl (re (pr [0, 1, 12] [] [] rfl rfl rfl rfl (gt rfl rfl (gs (rg (sv (EV.as rfl) rfl (re ?_)))))))))))
  cases H
  exact rt Try.func91 rfl (.tmp rfl .nil) rfl [] [] rfl rfl rfl rfl rfl ⟨rfl, rfl, rfl⟩
def spec_SplitByHashBit.l0 : Nat → Int → (List S75) → (List S75) → Int → (List S75) → Option ((List S75) × (List S75))
 | 0, _, _, _, _, _ => none
 | k + 1, x2_1, x2_6, x2_7, x2_8, l0 => if x2_8 < (l0.length : Int) then (if 0 ≤ x2_8 then ((spec_HashBit.f ((rd_T75 l0 x2_8).f0) x2_1).bind fun t5 => (if t5 = 0 then (if x2_6.length < 5864062014805 then (spec_SplitByHashBit.l0 k x2_1 (x2_6 ++ ([(⟨(rd_T75 l0 x2_8).f0, (rd_T75 l0 x2_8).f1, (rd_T75 l0 x2_8).f2⟩ : S75)] : List S75)) x2_7 (wrap64 (x2_8 + 1)) l0) else none) else (if x2_7.length < 5864062014805 then (spec_SplitByHashBit.l0 k x2_1 x2_6 (x2_7 ++ ([(⟨(rd_T75 l0 x2_8).f0, (rd_T75 l0 x2_8).f1, (rd_T75 l0 x2_8).f2⟩ : S75)] : List S75)) (wrap64 (x2_8 + 1)) l0) else none))) else none) else (some (x2_6, x2_7))
def spec_SplitByHashBit.f (k : Nat) (l0 : List S75) (a1 : Int) : Option ((List S75) × (List S75)) := spec_SplitByHashBit.l0 k a1 [] [] 0 l0
set_option maxHeartbeats 4000000 in
set_option maxRecDepth 100000 in
theorem spec_SplitByHashBit.ok (k : Nat) (l0 : List S75) (Al0 : Option Addr) (cl0 : Nat) (a1 : Int) (r0 : List S75) (r1 : List S75) (H : spec_SplitByHashBit.f k l0 a1 = some (r0, r1)) : Fn Try.prog 73 [.slice Al0 l0.length cl0, .int .i64 a1] [] [.sl 0 k75 Al0 cl0 l0 0 false] (fun v bx en => ∃ A0 c0 A1 c1, v = .tuple #[.slice A0 r0.length c0, .slice A1 r1.length c1] ∧ bx = [] ∧ en = [.sl 2 k75 A0 c0 r0 1 true, .sl 2 k75 A1 c1 r1 2 true]) := by
 refine fn_ 41 Try.func73 rfl rfl rfl (fun base T w0 => ?_)
 rw [spec_SplitByHashBit.f] at H
 refine gs (rg (sv (EV.as rfl) rfl (sv (EV.as rfl) rfl (re (gs (rg (so rfl (op_lit (s := 3) (by_ := 24) k75 ([] : List S75) [] [] 1 [] rfl rfl rfl rfl rfl rfl rfl rfl rfl rfl rfl rfl rfl dq rfl fun A9_1 c9_1 => (sv (EV.as rfl) rfl (re (gs (rg (so rfl (op_lit (s := 3) (by_ := 24) k75 ([] : List S75) [] [] 2 [] rfl rfl rfl rfl rfl rfl rfl rfl rfl rfl rfl rfl rfl dq rfl fun A10_2 c10_2 => (sv (EV.as rfl) rfl (re (gs (gs (rg (sv (EV.as rfl) rfl (re (gb ?_))))))))))))))))))))))
 refine lo (fun kk S => ∃ (x2_1 : Int) (x2_6 : List S75) (Ax2_6 : Option Addr) (cx2_6 : Nat) (x2_7 : List S75) (Ax2_7 : Option Addr) (cx2_7 : Nat) (x2_8 : Int), spec_SplitByHashBit.l0 kk x2_1 x2_6 x2_7 x2_8 l0 = some (r0, r1) ∧ S = ⟨[(0, .slice Al0 l0.length cl0), (1, .int .i64 x2_1), (6, .slice Ax2_6 x2_6.length cx2_6), (7, .slice Ax2_7 x2_7.length cx2_7), (8, .int .i64 x2_8)], [], [.sl 2 k75 Ax2_6 cx2_6 x2_6 1 true, .sl 2 k75 Ax2_7 cx2_7 x2_7 2 true, .sl 0 k75 Al0 cl0 l0 0 false]⟩) (fun S hS => ?_) (fun n0 ih0 S hS => ?_) ⟨a1, [], A9_1, c9_1, [], A10_2, c10_2, 0, H, rfl⟩ (fun h => wk [0, 1, 6, 7, 8] [] [⟨1, 2, 1, true⟩, ⟨2, 2, 2, true⟩, ⟨0, 0, 0, false⟩] h)
 · clear H; obtain ⟨_, _, _, _, _, _, _, _, H, _⟩ := hS; rw [spec_SplitByHashBit.l0] at H; cases H
 clear H
 obtain ⟨x2_1, x2_6, Ax2_6, cx2_6, x2_7, Ax2_7, cx2_7, x2_8, H, rfl⟩ := hS
 rw [spec_SplitByHashBit.l0] at H
 refine gs (gs (rg (sv (EV.mv rfl) rfl (sv (EV.mv rfl) rfl (sv (EV.ln rfl) rfl (sv (EV.lss rfl rfl) rfl (re ?_)))))))
 revert H; refine ifsI ?_ ?_ <;> intro c3 H
 ·
  refine gt rfl (dT c3) (gk (gs (gb (gs (rg (sv (EV.mv rfl) rfl (sv (EV.mv rfl) rfl ?_)))))))
  revert H; refine ggI ?_; intro g4 H
  refine sv (EV.ix 2 rfl rfl rfl g4 c3 rfl) rfl (sv (EV.fa 0 rfl) rfl (sv (EV.le (v := .int .i64 ((rd_T75 l0 x2_8).f0)) x2_8 0 none 2 z75 rfl rfl rfl g4 c3 rfl rfl rfl) rfl (sv (EV.mv rfl) rfl ?_)))
  revert H; refine bdI ?_; rintro t5 A5 H
  refine so rfl (op_call (spec_HashBit.ok ((rd_T75 l0 x2_8).f0) x2_1 _ A5) [] 3 rfl rfl rfl rfl rfl ?_)
  rintro _ _ _ ⟨rfl, rfl, rfl⟩
  refine sv (EV.eql rfl rfl) rfl (re (pr [0, 1, 6, 7, 8, 24] [] [0, 1, 2] rfl rfl rfl rfl ?_))
  revert H; refine ifsI ?_ ?_ <;> intro c6 H
  ·
   refine gt rfl (dT c6) (rg (sv (EV.mv rfl) rfl (sv (EV.mv rfl) rfl (sv (EV.mv rfl) rfl (sv (EV.ix 2 rfl rfl rfl g4 c3 rfl) rfl (sv (EV.le (v := .agg #[.int .i64 ((rd_T75 l0 x2_8).f0), .int .i64 ((rd_T75 l0 x2_8).f1), .int .i64 ((rd_T75 l0 x2_8).f2)]) x2_8 0 (some 3) 2 z75 rfl rfl rfl g4 c3 rfl rfl rfl) rfl (so rfl (op_lit (s := 3) (by_ := 24) k75 ([(⟨(rd_T75 l0 x2_8).f0, (rd_T75 l0 x2_8).f1, (rd_T75 l0 x2_8).f2⟩ : S75)] : List S75) [[]] [] 3 [.tmp 29] rfl rfl rfl rfl rfl rfl rfl rfl rfl rfl rfl rfl rfl dq rfl fun A30_7 c30_7 => ?_))))))))
   revert H; refine ggI ?_; intro g8 H
   exact so rfl (op_app (k := k75) (s := 3) (by_ := 24) 0 3 rfl rfl rfl rfl (ap1 g8 dq) (ap1n g8 dq) (.inl rfl) true (fun _ => .inl rfl) rfl rfl fun A31_9 c31_9 => (nmE (en := [.sl 2 k75 Ax2_7 cx2_7 x2_7 2 true, .sl 0 k75 Al0 cl0 l0 0 false, .sl 2 k75 A30_7 c30_7 ([(⟨(rd_T75 l0 x2_8).f0, (rd_T75 l0 x2_8).f1, (rd_T75 l0 x2_8).f2⟩ : S75)] : List S75) 3 true, .sl 2 k75 A31_9 c31_9 (x2_6 ++ ([(⟨(rd_T75 l0 x2_8).f0, (rd_T75 l0 x2_8).f1, (rd_T75 l0 x2_8).f2⟩ : S75)] : List S75)) 1 true]) (by kernel_rfl) (sv (EV.as rfl) rfl (re (pr [0, 1, 6, 7, 8] [] [0, 1, 3] rfl rfl rfl rfl (ge (rg (sv (EV.mv rfl) rfl (sv (EV.add rfl rfl) rfl (sv (EV.as rfl) rfl (re (wk [0, 1, 6, 7, 8] [] [⟨2, 2, 1, true⟩, ⟨0, 2, 2, true⟩, ⟨1, 0, 0, false⟩] (ih0 _ (by omega) _ ⟨x2_1, x2_6 ++ ([(⟨(rd_T75 l0 x2_8).f0, (rd_T75 l0 x2_8).f1, (rd_T75 l0 x2_8).f2⟩ : S75)] : List S75), A31_9, c31_9, x2_7, Ax2_7, cx2_7, wrap64 (x2_8 + 1), H, rfl⟩)))))))))))))
  ·
   refine gf rfl (dF c6) (rg (sv (EV.mv rfl) rfl (sv (EV.mv rfl) rfl (sv (EV.mv rfl) rfl (sv (EV.ix 2 rfl rfl rfl g4 c3 rfl) rfl (sv (EV.le (v := .agg #[.int .i64 ((rd_T75 l0 x2_8).f0), .int .i64 ((rd_T75 l0 x2_8).f1), .int .i64 ((rd_T75 l0 x2_8).f2)]) x2_8 0 (some 3) 2 z75 rfl rfl rfl g4 c3 rfl rfl rfl) rfl (so rfl (op_lit (s := 3) (by_ := 24) k75 ([(⟨(rd_T75 l0 x2_8).f0, (rd_T75 l0 x2_8).f1, (rd_T75 l0 x2_8).f2⟩ : S75)] : List S75) [[]] [] 3 [.tmp 36] rfl rfl rfl rfl rfl rfl rfl rfl rfl rfl rfl rfl rfl dq rfl fun A37_10 c37_10 => ?_))))))))
   revert H; refine ggI ?_; intro g11 H
   exact so rfl (op_app (k := k75) (s := 3) (by_ := 24) 1 3 rfl rfl rfl rfl (ap1 g11 dq) (ap1n g11 dq) (.inl rfl) true (fun _ => .inl rfl) rfl rfl fun A38_12 c38_12 => (nmE (en := [.sl 2 k75 Ax2_6 cx2_6 x2_6 1 true, .sl 0 k75 Al0 cl0 l0 0 false, .sl 2 k75 A37_10 c37_10 ([(⟨(rd_T75 l0 x2_8).f0, (rd_T75 l0 x2_8).f1, (rd_T75 l0 x2_8).f2⟩ : S75)] : List S75) 3 true, .sl 2 k75 A38_12 c38_12 (x2_7 ++ ([(⟨(rd_T75 l0 x2_8).f0, (rd_T75 l0 x2_8).f1, (rd_T75 l0 x2_8).f2⟩ : S75)] : List S75)) 2 true]) (by kernel_rfl) (sv (EV.as rfl) rfl (re (pr [0, 1, 6, 7, 8] [] [0, 1, 3] rfl rfl rfl rfl (ge (rg (sv (EV.mv rfl) rfl (sv (EV.add rfl rfl) rfl (sv (EV.as rfl) rfl (re (wk [0, 1, 6, 7, 8] [] [⟨0, 2, 1, true⟩, ⟨2, 2, 2, true⟩, ⟨1, 0, 0, false⟩] (ih0 _ (by omega) _ ⟨x2_1, x2_6, Ax2_6, cx2_6, x2_7 ++ ([(⟨(rd_T75 l0 x2_8).f0, (rd_T75 l0 x2_8).f1, (rd_T75 l0 x2_8).f2⟩ : S75)] : List S75), A38_12, c38_12, wrap64 (x2_8 + 1), H, rfl⟩)))))))))))))
 ·
  refine gf rfl (dF c3) (gx rfl (gs (rg (sv (EV.mv rfl) rfl (sv (EV.mv rfl) rfl (sv (EV.as rfl) rfl (sv (EV.as rfl) rfl (re (pr [4, 5] [] [0, 1] rfl rfl rfl rfl ?_)))))))))
  cases H
  exact rt Try.func73 rfl (.tmp rfl (.tmp rfl .nil)) rfl [] [⟨0, 2, 1, true⟩, ⟨1, 2, 2, true⟩] rfl rfl rfl rfl rfl ⟨_, _, _, _, rfl, rfl, rfl⟩
mutual
def spec_StepAggregator.l1 : Nat → (List S64) → (List Int) → Int → (List S75) → (List S75) → Int → Bool → Int → Int → Bool → (List S64) → Int → Bool → (List S64) → Int → Bool → (List S75) → Int → (List S64) → Option ((List S64) × Int × Bool × (List S49) × Int × Bool)
 | 0, _, _, _, _, _, _, _, _, _, _, _, _, _, _, _, _, _, _, _ => none
 | k + 1, x21_10, x21_12, x21_13, x21_14, x21_15, x21_16, x21_17, x21_18, x21_2_1, x21_2_2, x21_4_0, x21_4_1, x21_4_2, x21_8_0, x21_8_1, x21_8_2, x21_9_0, x21_9_1, l0_0 => if x21_18 < x21_13 then (if x21_17 = true then (spec_StepAggregator.l1 k x21_10 x21_12 x21_13 x21_14 x21_15 x21_16 true (wrap64 (x21_18 + 1)) x21_2_1 x21_2_2 x21_4_0 x21_4_1 x21_4_2 x21_8_0 x21_8_1 x21_8_2 x21_9_0 x21_9_1 l0_0) else (if 0 ≤ x21_18 then (if x21_18 < (x21_12.length : Int) then (if 0 ≤ x21_16 then (if x21_16 < (x21_9_0.length : Int) then (spec_StepAggregator.l1 k x21_10 x21_12 x21_13 x21_14 x21_15 x21_16 (decide ((rdOf 0 x21_12 x21_18) = ((rd_T75 x21_9_0 x21_16).f0))) (wrap64 (x21_18 + 1)) x21_2_1 x21_2_2 x21_4_0 x21_4_1 x21_4_2 x21_8_0 x21_8_1 x21_8_2 x21_9_0 x21_9_1 l0_0) else none) else none) else none) else none)) else (if x21_17 = true then (if 0 ≤ x21_16 then (if x21_16 < (x21_9_0.length : Int) then (if x21_14.length < 5864062014805 then (spec_StepAggregator.l0 k x21_10 x21_12 x21_13 (x21_14 ++ ([(⟨(rd_T75 x21_9_0 x21_16).f0, (rd_T75 x21_9_0 x21_16).f1, (rd_T75 x21_9_0 x21_16).f2⟩ : S75)] : List S75)) x21_15 (wrap64 (x21_16 + 1)) x21_2_1 x21_2_2 x21_4_0 x21_4_1 x21_4_2 x21_8_0 x21_8_1 x21_8_2 x21_9_0 x21_9_1 l0_0) else none) else none) else none) else (if 0 ≤ x21_16 then (if x21_16 < (x21_9_0.length : Int) then (if x21_15.length < 5864062014805 then (spec_StepAggregator.l0 k x21_10 x21_12 x21_13 x21_14 (x21_15 ++ ([(⟨(rd_T75 x21_9_0 x21_16).f0, (rd_T75 x21_9_0 x21_16).f1, (rd_T75 x21_9_0 x21_16).f2⟩ : S75)] : List S75)) (wrap64 (x21_16 + 1)) x21_2_1 x21_2_2 x21_4_0 x21_4_1 x21_4_2 x21_8_0 x21_8_1 x21_8_2 x21_9_0 x21_9_1 l0_0) else none) else none) else none))
def spec_StepAggregator.j0 : Nat → Int → (List S75) → (List S64) → Int → Bool → (List S64) → Int → Bool → Option ((List S64) × Int × Bool × (List S49) × Int × Bool)
 | 0, _, _, _, _, _, _, _, _ => none
 | k + 1, x23_13, x23_14, x23_4_0, x23_4_1, x23_4_2, x23_8_0, x23_8_1, x23_8_2 => (spec_ReferenceGroups.f k x23_14).bind fun t35 => (some (x23_8_0, x23_8_1, x23_8_2, t35, wrap64 (x23_13 * 3), true))
def spec_StepAggregator.j1 : Nat → (List S64) → Int → (List S75) → (List S64) → (List S64) → Int → Bool → (List S64) → Int → Bool → Option ((List S64) × Int × Bool × (List S49) × Int × Bool)
 | 0, _, _, _, _, _, _, _, _, _, _ => none
 | k + 1, x24_10, x24_13, x24_14, x24_19, x24_4_0, x24_4_1, x24_4_2, x24_8_0, x24_8_1, x24_8_2 => if x24_19.length + x24_10.length ≤ 4398046511104 then (spec_StepAggregator.j0 k x24_13 x24_14 x24_4_0 x24_4_1 x24_4_2 (x24_19 ++ x24_10) x24_8_1 x24_8_2) else none
def spec_StepAggregator.l0 : Nat → (List S64) → (List Int) → Int → (List S75) → (List S75) → Int → Int → Bool → (List S64) → Int → Bool → (List S64) → Int → Bool → (List S75) → Int → (List S64) → Option ((List S64) × Int × Bool × (List S49) × Int × Bool)
 | 0, _, _, _, _, _, _, _, _, _, _, _, _, _, _, _, _, _ => none
 | k + 1, x10_10, x10_12, x10_13, x10_14, x10_15, x10_16, x10_2_1, x10_2_2, x10_4_0, x10_4_1, x10_4_2, x10_8_0, x10_8_1, x10_8_2, x10_9_0, x10_9_1, l0_0 => if x10_16 < (x10_9_0.length : Int) then (spec_StepAggregator.l1 k x10_10 x10_12 x10_13 x10_14 x10_15 x10_16 false 0 x10_2_1 x10_2_2 x10_4_0 x10_4_1 x10_4_2 x10_8_0 x10_8_1 x10_8_2 x10_9_0 x10_9_1 l0_0) else (if (x10_15.length : Int) > 0 then ((spec_TotalCost.f k x10_15).bind fun t37 => (if x10_9_1 < 4 then ((spec_SplitByHashBit.f k x10_15 x10_9_1).bind fun bt43 => (spec_StepAggregator.j1 k x10_10 x10_13 x10_14 ([(⟨bt43.1, wrap64 (x10_9_1 + 1)⟩ : S64), (⟨bt43.2, wrap64 (x10_9_1 + 1)⟩ : S64)] : List S64) x10_4_0 x10_4_1 x10_4_2 x10_10 (wrap64 (x10_2_1 + t37)) x10_8_2)) else (spec_StepAggregator.j1 k x10_10 x10_13 x10_14 ([(⟨x10_15, x10_9_1⟩ : S64)] : List S64) x10_4_0 x10_4_1 x10_4_2 x10_10 (wrap64 (x10_2_1 + t37)) x10_8_2))) else (spec_StepAggregator.j0 k x10_13 x10_14 x10_4_0 x10_4_1 x10_4_2 x10_10 x10_8_1 x10_8_2))
end
def spec_StepAggregator.f (k : Nat) (l0_0 : List S64) (a0_1 : Int) (a0_2 : Bool) (a1 : Int) : Option ((List S64) × Int × Bool × (List S49) × Int × Bool) := (spec_l22Copy.f k l0_0 a0_1 a0_2).bind fun bt1 => ((spec_IsValidAggregator.f k l0_0 a0_1 a0_2).bind fun t2 => (if t2 = true then (if (l0_0.length : Int) = 0 then (some (bt1.1, bt1.2.1, bt1.2.2, [], 0, false)) else ((spec_l1In.f a1 8 60).bind fun t6 => (if t6 = true then (if 0 < (bt1.1.length : Int) then (if 1 ≤ (bt1.1.length : Int) then (if a0_2 = true then ((spec_l22Early.f k bt1.1 bt1.2.1 bt1.2.2 ((rd_T64 bt1.1 0).f0) ((rd_T64 bt1.1 0).f1) (bt1.1.drop (1 : Int).toNat) (wrap64 (Int.tdiv a1 3))).bind fun bt12 => (some (bt12.1, bt12.2.1, bt12.2.2.1, bt12.2.2.2.1, bt12.2.2.2.2.1, bt12.2.2.2.2.2))) else ((spec_DistinctKeys.f k ((rd_T64 bt1.1 0).f0)).bind fun t13 => (spec_StepAggregator.l0 k (bt1.1.drop (1 : Int).toNat) t13 (mn (wrap64 (Int.tdiv a1 3)) (t13.length : Int)) [] [] 0 a0_1 false [] 0 false bt1.1 bt1.2.1 bt1.2.2 ((rd_T64 bt1.1 0).f0) ((rd_T64 bt1.1 0).f1) l0_0))) else none) else none) else (some (bt1.1, bt1.2.1, bt1.2.2, [], 0, false))))) else (some (bt1.1, bt1.2.1, bt1.2.2, [], 0, false))))
set_option maxHeartbeats 4000000 in
set_option maxRecDepth 100000 in
theorem spec_StepAggregator.ok (k : Nat) (l0_0 : List S64) (Al0_0 : Option Addr) (cl0_0 : Nat) (a0_1 : Int) (a0_2 : Bool) (a1 : Int) (r0 : List S64) (r1 : Int) (r2 : Bool) (r3 : List S49) (r4 : Int) (r5 : Bool) (H : spec_StepAggregator.f k l0_0 a0_1 a0_2 a1 = some (r0, r1, r2, r3, r4, r5)) : Fn Try.prog 35 [.agg #[.slice Al0_0 l0_0.length cl0_0, .int .i64 a0_1, .bool a0_2], .int .i64 a1] [] [.sl 0 k64 Al0_0 cl0_0 l0_0 0 false] (fun v bx en => ∃ A0 c0 A3 c3, v = .tuple #[.agg #[.slice A0 r0.length c0, .int .i64 r1, .bool r2], .slice A3 r3.length c3, .int .i64 r4, .bool r5] ∧ bx = [] ∧ en = [.sl 1 k64 A0 c0 r0 1 true, .sl 2 k49 A3 c3 r3 2 true]) := by
 refine fn_ 158 Try.func35 rfl rfl rfl (fun base T w0 => ?_)
 rw [spec_StepAggregator.f] at H
 refine gs (rg (so rfl (op_box (cs := [.slice Al0_0 l0_0.length cl0_0, .int .i64 a0_1, .bool a0_2]) rfl rfl rfl fun b2 => (so rfl (op_alloc (cs := [.slice none 0 0, .int .i64 0, .bool false]) (by kernel_rfl) rfl fun b4 => (sv (EV.as rfl) rfl (sv (EV.as rfl) rfl (sv (EV.as rfl) rfl (re (gs (rg (sv (EV.ld (v := .agg #[.slice Al0_0 l0_0.length cl0_0, .int .i64 a0_1, .bool a0_2]) 0 (some 3) rfl rfl rfl) rfl ?_))))))))))))
 revert H; refine bdI ?_; rintro ⟨t1_0, t1_1, t1_2⟩ A1 H
 refine so rfl (op_call (spec_l22Copy.ok k l0_0 Al0_0 cl0_0 a0_1 a0_2 _ _ _ A1) [⟨0, 0, 0, false⟩] 1 rfl rfl rfl rfl rfl ?_)
 rintro _ _ _ ⟨At1_0, ct1_0, rfl, rfl, rfl⟩
 refine so rfl (op_alloc (cs := [.slice none 0 0, .int .i64 0, .bool false]) (by kernel_rfl) rfl fun b8 => (so rfl (op_st (cs' := [.slice At1_0 t1_0.length ct1_0, .int .i64 t1_1, .bool t1_2]) 2 rfl rfl rfl rfl rfl rfl (re (pr [1, 2, 4, 8] [0, 1, 2] [0, 1] rfl rfl rfl rfl (gs (gs (rg (sv (EV.ld (v := .agg #[.slice Al0_0 l0_0.length cl0_0, .int .i64 a0_1, .bool a0_2]) 0 (some 3) rfl rfl rfl) rfl ?_)))))))))
 revert H; refine bdI ?_; rintro t2 A2 H
 refine so rfl (op_call (spec_IsValidAggregator.ok k l0_0 Al0_0 cl0_0 a0_1 a0_2 _ A2) [⟨0, 0, 0, false⟩] 3 rfl rfl rfl rfl rfl ?_)
 rintro _ _ _ ⟨rfl, rfl, rfl⟩
 refine sv (EV.nt rfl) rfl (sv (EV.mv rfl) rfl ?_)
 revert H; refine ifsI ?_ ?_ <;> intro c3 H
 ·
  subst c3
  refine ts 27 rfl rfl (sv (EV.fa 0 rfl) rfl (sv (EV.ld 0 none rfl rfl rfl) rfl (sv (EV.ln rfl) rfl (sv (EV.eql rfl rfl) rfl (sv (EV.pf rfl rfl rfl) rfl (sv (EV.mv rfl) rfl ?_))))))
  revert H; refine ifsI ?_ ?_ <;> intro c4 H
  ·
   refine ts 33 rfl (dT c4) (sk rfl (sk rfl (sk rfl (sv (EV.pt rfl rfl rfl) rfl (re (pr [1, 2, 4, 8, 37] [0, 1, 2] [0, 1] rfl rfl rfl rfl (gt rfl rfl (gs (rg (sv (EV.ld (v := .agg #[.slice At1_0 t1_0.length ct1_0, .int .i64 t1_1, .bool t1_2]) 2 (some 3) rfl rfl rfl) rfl (so rfl (op_lit (s := 5) (by_ := 40) k49 ([] : List S49) [] [] 3 [] rfl rfl rfl rfl rfl rfl rfl rfl rfl rfl rfl rfl rfl dq rfl fun A39_5 c39_5 => (so rfl (op_st (cs' := [.slice At1_0 t1_0.length ct1_0, .int .i64 t1_1, .bool t1_2]) 1 rfl rfl rfl rfl rfl rfl (sv (EV.as rfl) rfl (sv (EV.as rfl) rfl (sv (EV.as rfl) rfl (re (pr [4, 5, 6, 7] [1] [1, 2] rfl rfl rfl rfl ?_)))))))))))))))))))
   cases H
   exact rt Try.func35 rfl (.cell 0 (some 3) rfl rfl rfl (.tmp rfl (.tmp rfl (.tmp rfl .nil)))) rfl [] [⟨0, 1, 1, true⟩, ⟨1, 2, 2, true⟩] rfl rfl rfl rfl rfl ⟨_, _, _, _, rfl, rfl, rfl⟩
  ·
   refine ts 33 rfl (dF c4) (sv (EV.mv rfl) rfl ?_)
   revert H; refine bdI ?_; rintro t6 A6 H
   refine so rfl (op_call (spec_l1In.ok a1 8 60 _ A6) [] 3 rfl rfl rfl rfl rfl ?_)
   rintro _ _ _ ⟨rfl, rfl, rfl⟩
   refine sv (EV.nt rfl) rfl (sv (EV.pf rfl rfl rfl) rfl (re (pr [1, 2, 4, 8, 37] [0, 1, 2] [0, 1] rfl rfl rfl rfl ?_)))
   revert H; refine ifsI ?_ ?_ <;> intro c7 H
   ·
    subst c7
    refine gf rfl rfl (gk (gs (rg (sv (EV.fa 0 rfl) rfl (sv (EV.ld 2 none rfl rfl rfl) rfl ?_)))))
    revert H; refine ggI ?_; intro g8 H
    refine sv (EV.ix 1 rfl rfl rfl dq g8 rfl) rfl (opn (i := 0) 1 z64 rfl dq g8 fun A_9 c_9 => (sv (EV.lc (v := .agg #[.slice A_9 ((rd_T64 t1_0 0).f0).length c_9, .int .i64 ((rd_T64 t1_0 0).f1)]) 0 (some 2) 2 rfl rfl rfl rfl) rfl (so rfl (op_alloc (cs := [.slice none 0 0, .int .i64 0]) (by kernel_rfl) rfl fun b9 => (so rfl (op_st (cs' := [.slice A_9 ((rd_T64 t1_0 0).f0).length c_9, .int .i64 ((rd_T64 t1_0 0).f1)]) 3 rfl rfl rfl rfl rfl rfl (re (gs (rg (sv (EV.fa 0 rfl) rfl (sv (EV.ld 2 none rfl rfl rfl) rfl ?_)))))))))))
    revert H; refine ggI ?_; intro g10 H
    refine cutp (l' := t1_0.drop (1 : Int).toNat) 1 (t1_0.length : Int) 1 rfl dq g10 (Int.le_refl _) rfl 1 dq (.inl dq) ctl (sv (EV.ct 1 (t1_0.length : Int) 1 rfl rfl rfl rfl dq g10 (Int.le_refl _) rfl rfl ctnl) rfl (sv (EV.as rfl) rfl (re (pr [1, 2, 4, 8, 9, 10] [0, 1, 2, 3] [0, 1, 2, 3, 4] rfl rfl rfl rfl (gs (rg (sv (EV.mv rfl) rfl (sv (EV.quo rfl rfl dq) rfl (sv (EV.as rfl) rfl (re (gs (gs (rg (sv (EV.fa 2 rfl) rfl (sv (EV.ld 0 none rfl rfl rfl) rfl (re ?_))))))))))))))))
    revert H; refine ifsI ?_ ?_ <;> intro c11 H
    ·
     subst c11
     refine gt rfl rfl (gs (rg (sv (EV.ld (v := .agg #[.slice At1_0 t1_0.length ct1_0, .int .i64 t1_1, .bool t1_2]) 2 (some 3) rfl rfl rfl) rfl (sv (EV.ld (v := .agg #[.slice A_9 ((rd_T64 t1_0 0).f0).length c_9, .int .i64 ((rd_T64 t1_0 0).f1)]) 3 (some 2) rfl rfl rfl) rfl (sv (EV.mv rfl) rfl (sv (EV.mv rfl) rfl (opnH (i := 0) (s := 2) (cls' := 2) [(A_9, c_9)] 1 2 3 z64 rfl rfl (by kernel_rfl) dq g8 dq rfl rfl (nmE (en := [.sl 0 k64 Al0_0 cl0_0 l0_0 0 false, holE k64 2 At1_0 ct1_0 t1_0 (0 : Int).toNat [.slice A_9 ((rd_T64 t1_0 0).f0).length c_9, .int .i64 ((rd_T64 t1_0 0).f1)] 3, .sl 1 k75 A_9 c_9 ((rd_T64 t1_0 0).f0) 4 true]) (by kernel_rfl) (holR 1 rfl rfl (nmE (en := [.sl 0 k64 Al0_0 cl0_0 l0_0 0 false, .sl 1 k75 A_9 c_9 ((rd_T64 t1_0 0).f0) 4 true, .sl 1 k64 (cutA At1_0 ct1_0 (1 : Int).toNat 2) (ct1_0 - (1 : Int).toNat) (t1_0.drop (1 : Int).toNat) 3 true]) (by kernel_rfl) ?_))))))))))
     revert H; refine bdI ?_; rintro ⟨t12_0, t12_1, t12_2, t12_3, t12_4, t12_5⟩ A12 H
     refine so rfl (op_callM (spec_l22Early.ok k t1_0 At1_0 ct1_0 t1_1 t1_2 ((rd_T64 t1_0 0).f0) A_9 c_9 ((rd_T64 t1_0 0).f1) (t1_0.drop (1 : Int).toNat) (cutA At1_0 ct1_0 (1 : Int).toNat 2) (ct1_0 - (1 : Int).toNat) (wrap64 (Int.tdiv a1 3)) _ _ _ _ _ _ A12) [⟨1, 1, 1, true⟩, ⟨2, 1, 2, true⟩] [] [0, 1, 2, 3] 5 rfl rfl rfl rfl rfl rfl rfl rfl ?_)
     rintro _ _ _ ⟨At12_0, ct12_0, At12_3, ct12_3, rfl, rfl, rfl⟩
     refine nmE (en := [.sl 0 k64 Al0_0 cl0_0 l0_0 0 false, .sl 1 k64 At12_0 ct12_0 t12_0 6 true, .sl 2 k49 At12_3 ct12_3 t12_3 7 true]) (by kernel_rfl) (sv (EV.ex rfl rfl) rfl (sv (EV.ex rfl rfl) rfl (sv (EV.ex rfl rfl) rfl (sv (EV.ex rfl rfl) rfl (so rfl (op_st (cs' := [.slice At12_0 t12_0.length ct12_0, .int .i64 t12_1, .bool t12_2]) 1 rfl rfl rfl rfl rfl rfl (sv (EV.as rfl) rfl (sv (EV.as rfl) rfl (sv (EV.as rfl) rfl (re (pr [4, 5, 6, 7] [1] [1, 2] rfl rfl rfl rfl ?_)))))))))))
     cases H
     exact rt Try.func35 rfl (.cell 0 (some 3) rfl rfl rfl (.tmp rfl (.tmp rfl (.tmp rfl .nil)))) rfl [] [⟨0, 1, 1, true⟩, ⟨1, 2, 2, true⟩] rfl rfl rfl rfl rfl ⟨_, _, _, _, rfl, rfl, rfl⟩
    ·
     obtain rfl := bF c11
     refine gf rfl rfl (gk (gs (rg (sv (EV.fa 0 rfl) rfl (sv (EV.ld 3 none rfl rfl rfl) rfl ?_)))))
     revert H; refine bdI ?_; rintro t13 A13 H
     refine so rfl (op_call (spec_DistinctKeys.ok k ((rd_T64 t1_0 0).f0) A_9 c_9 _ A13) [⟨3, 0, 0, false⟩] 3 rfl rfl rfl rfl rfl ?_)
     rintro _ _ _ ⟨At13, ct13, rfl, rfl, rfl⟩
     refine sv (EV.as rfl) rfl (re (pr [2, 4, 8, 9, 10, 11, 12] [0, 1, 2, 3] [0, 1, 2, 3, 4, 5] rfl rfl rfl rfl (gs (rg (sv (EV.mv rfl) rfl (sv (EV.mv rfl) rfl (sv (EV.ln rfl) rfl (sv (EV.mn rfl rfl) rfl (sv (EV.as rfl) rfl (re (gs (rg (so rfl (op_lit (s := 3) (by_ := 24) k75 ([] : List S75) [] [] 5 [] rfl rfl rfl rfl rfl rfl rfl rfl rfl rfl rfl rfl rfl dq rfl fun A67_14 c67_14 => (sv (EV.as rfl) rfl (re (pr [2, 4, 8, 9, 10, 12, 13, 14] [0, 1, 2, 3] [0, 1, 2, 3, 4, 5, 6] rfl rfl rfl rfl (gs (rg (so rfl (op_lit (s := 3) (by_ := 24) k75 ([] : List S75) [] [] 6 [] rfl rfl rfl rfl rfl rfl rfl rfl rfl rfl rfl rfl rfl dq rfl fun A68_15 c68_15 => (sv (EV.as rfl) rfl (re (gs (gs (rg (sv (EV.as rfl) rfl (re (gb ?_)))))))))))))))))))))))))))))
     refine nil_ k64 7 dq ?_
     refine lo (fun kk S => ∃ (x10_10 : List S64) (Ax10_10 : Option Addr) (cx10_10 : Nat) (x10_12 : List Int) (Ax10_12 : Option Addr) (cx10_12 : Nat) (x10_13 : Int) (x10_14 : List S75) (Ax10_14 : Option Addr) (cx10_14 : Nat) (x10_15 : List S75) (Ax10_15 : Option Addr) (cx10_15 : Nat) (x10_16 : Int) (x10_2_1 : Int) (x10_2_2 : Bool) (x10_4_0 : List S64) (Ax10_4_0 : Option Addr) (cx10_4_0 : Nat) (x10_4_1 : Int) (x10_4_2 : Bool) (x10_8_0 : List S64) (Ax10_8_0 : Option Addr) (cx10_8_0 : Nat) (x10_8_1 : Int) (x10_8_2 : Bool) (x10_9_0 : List S75) (Ax10_9_0 : Option Addr) (cx10_9_0 : Nat) (x10_9_1 : Int), spec_StepAggregator.l0 kk x10_10 x10_12 x10_13 x10_14 x10_15 x10_16 x10_2_1 x10_2_2 x10_4_0 x10_4_1 x10_4_2 x10_8_0 x10_8_1 x10_8_2 x10_9_0 x10_9_1 l0_0 = some (r0, r1, r2, r3, r4, r5) ∧ S = ⟨[(2, .pointer (some ⟨b2, 0, none⟩)), (4, .pointer (some ⟨b4, 0, none⟩)), (8, .pointer (some ⟨b8, 0, none⟩)), (9, .pointer (some ⟨b9, 0, none⟩)), (10, .slice Ax10_10 x10_10.length cx10_10), (12, .slice Ax10_12 x10_12.length cx10_12), (13, .int .i64 x10_13), (14, .slice Ax10_14 x10_14.length cx10_14), (15, .slice Ax10_15 x10_15.length cx10_15), (16, .int .i64 x10_16)], [⟨b2, 54, [.slice Al0_0 l0_0.length cl0_0, .int .i64 x10_2_1, .bool x10_2_2]⟩, ⟨b4, 54, [.slice Ax10_4_0 x10_4_0.length cx10_4_0, .int .i64 x10_4_1, .bool x10_4_2]⟩, ⟨b8, 54, [.slice Ax10_8_0 x10_8_0.length cx10_8_0, .int .i64 x10_8_1, .bool x10_8_2]⟩, ⟨b9, 64, [.slice Ax10_9_0 x10_9_0.length cx10_9_0, .int .i64 x10_9_1]⟩], [.sl 1 k64 Ax10_10 cx10_10 x10_10 1 true, .sl 2 (.int .i64) Ax10_12 cx10_12 x10_12 2 true, .sl 2 k75 Ax10_14 cx10_14 x10_14 3 true, .sl 2 k75 Ax10_15 cx10_15 x10_15 4 true, .sl 2 k64 Ax10_4_0 cx10_4_0 x10_4_0 5 true, .sl 2 k64 Ax10_8_0 cx10_8_0 x10_8_0 1 true, .sl 1 k75 Ax10_9_0 cx10_9_0 x10_9_0 1 true, .sl 0 k64 Al0_0 cl0_0 l0_0 0 false]⟩) (fun S hS => ?_) (fun n0 ih0 S hS => ?_) ⟨t1_0.drop (1 : Int).toNat, (cutA At1_0 ct1_0 (1 : Int).toNat 2), (ct1_0 - (1 : Int).toNat), t13, At13, ct13, mn (wrap64 (Int.tdiv a1 3)) (t13.length : Int), [], A67_14, c67_14, [], A68_15, c68_15, 0, a0_1, false, [], none, 0, 0, false, t1_0, At1_0, ct1_0, t1_1, t1_2, (rd_T64 t1_0 0).f0, A_9, c_9, (rd_T64 t1_0 0).f1, H, rfl⟩ (fun h => wk [2, 4, 8, 9, 10, 12, 13, 14, 15, 16] [0, 1, 2, 3] [⟨4, 1, 1, true⟩, ⟨5, 2, 2, true⟩, ⟨6, 2, 3, true⟩, ⟨7, 2, 4, true⟩, ⟨8, 2, 5, true⟩, ⟨1, 2, 1, true⟩, ⟨3, 1, 1, true⟩, ⟨0, 0, 0, false⟩] h)
     · clear H; obtain ⟨_, _, _, _, _, _, _, _, _, _, _, _, _, _, _, _, _, _, _, _, _, _, _, _, _, _, _, _, _, _, H, _⟩ := hS; rw [spec_StepAggregator.l0] at H; cases H
     clear H
     obtain ⟨x10_10, Ax10_10, cx10_10, x10_12, Ax10_12, cx10_12, x10_13, x10_14, Ax10_14, cx10_14, x10_15, Ax10_15, cx10_15, x10_16, x10_2_1, x10_2_2, x10_4_0, Ax10_4_0, cx10_4_0, x10_4_1, x10_4_2, x10_8_0, Ax10_8_0, cx10_8_0, x10_8_1, x10_8_2, x10_9_0, Ax10_9_0, cx10_9_0, x10_9_1, H, rfl⟩ := hS
     rw [spec_StepAggregator.l0] at H
     refine gs (gs (rg (sv (EV.mv rfl) rfl (sv (EV.fa 0 rfl) rfl (sv (EV.ld 3 none rfl rfl rfl) rfl (sv (EV.ln rfl) rfl (sv (EV.lss rfl rfl) rfl (re ?_))))))))
     revert H; refine ifsI ?_ ?_ <;> intro c16 H
     ·
      refine gt rfl (dT c16) (gk (gs (gb (gs (rg (sv (EV.as rfl) rfl (re (gs (gs (rg (sv (EV.as rfl) rfl (re (gb ?_)))))))))))))
      refine lo (fun kk S => ∃ (x21_10 : List S64) (Ax21_10 : Option Addr) (cx21_10 : Nat) (x21_12 : List Int) (Ax21_12 : Option Addr) (cx21_12 : Nat) (x21_13 : Int) (x21_14 : List S75) (Ax21_14 : Option Addr) (cx21_14 : Nat) (x21_15 : List S75) (Ax21_15 : Option Addr) (cx21_15 : Nat) (x21_16 : Int) (x21_17 : Bool) (x21_18 : Int) (x21_2_1 : Int) (x21_2_2 : Bool) (x21_4_0 : List S64) (Ax21_4_0 : Option Addr) (cx21_4_0 : Nat) (x21_4_1 : Int) (x21_4_2 : Bool) (x21_8_0 : List S64) (Ax21_8_0 : Option Addr) (cx21_8_0 : Nat) (x21_8_1 : Int) (x21_8_2 : Bool) (x21_9_0 : List S75) (Ax21_9_0 : Option Addr) (cx21_9_0 : Nat) (x21_9_1 : Int), kk ≤ n0 ∧ spec_StepAggregator.l1 kk x21_10 x21_12 x21_13 x21_14 x21_15 x21_16 x21_17 x21_18 x21_2_1 x21_2_2 x21_4_0 x21_4_1 x21_4_2 x21_8_0 x21_8_1 x21_8_2 x21_9_0 x21_9_1 l0_0 = some (r0, r1, r2, r3, r4, r5) ∧ S = ⟨[(2, .pointer (some ⟨b2, 0, none⟩)), (4, .pointer (some ⟨b4, 0, none⟩)), (8, .pointer (some ⟨b8, 0, none⟩)), (9, .pointer (some ⟨b9, 0, none⟩)), (10, .slice Ax21_10 x21_10.length cx21_10), (12, .slice Ax21_12 x21_12.length cx21_12), (13, .int .i64 x21_13), (14, .slice Ax21_14 x21_14.length cx21_14), (15, .slice Ax21_15 x21_15.length cx21_15), (16, .int .i64 x21_16), (17, .bool x21_17), (18, .int .i64 x21_18)], [⟨b2, 54, [.slice Al0_0 l0_0.length cl0_0, .int .i64 x21_2_1, .bool x21_2_2]⟩, ⟨b4, 54, [.slice Ax21_4_0 x21_4_0.length cx21_4_0, .int .i64 x21_4_1, .bool x21_4_2]⟩, ⟨b8, 54, [.slice Ax21_8_0 x21_8_0.length cx21_8_0, .int .i64 x21_8_1, .bool x21_8_2]⟩, ⟨b9, 64, [.slice Ax21_9_0 x21_9_0.length cx21_9_0, .int .i64 x21_9_1]⟩], [.sl 1 k64 Ax21_10 cx21_10 x21_10 1 true, .sl 2 (.int .i64) Ax21_12 cx21_12 x21_12 2 true, .sl 2 k75 Ax21_14 cx21_14 x21_14 3 true, .sl 2 k75 Ax21_15 cx21_15 x21_15 4 true, .sl 2 k64 Ax21_4_0 cx21_4_0 x21_4_0 5 true, .sl 2 k64 Ax21_8_0 cx21_8_0 x21_8_0 1 true, .sl 1 k75 Ax21_9_0 cx21_9_0 x21_9_0 1 true, .sl 0 k64 Al0_0 cl0_0 l0_0 0 false]⟩) (fun S hS => ?_) (fun n1 ih1 S hS => ?_) ⟨x10_10, Ax10_10, cx10_10, x10_12, Ax10_12, cx10_12, x10_13, x10_14, Ax10_14, cx10_14, x10_15, Ax10_15, cx10_15, x10_16, false, 0, x10_2_1, x10_2_2, x10_4_0, Ax10_4_0, cx10_4_0, x10_4_1, x10_4_2, x10_8_0, Ax10_8_0, cx10_8_0, x10_8_1, x10_8_2, x10_9_0, Ax10_9_0, cx10_9_0, x10_9_1, by omega, H, rfl⟩ (fun h => wk [2, 4, 8, 9, 10, 12, 13, 14, 15, 16, 17, 18] [0, 1, 2, 3] [⟨0, 1, 1, true⟩, ⟨1, 2, 2, true⟩, ⟨2, 2, 3, true⟩, ⟨3, 2, 4, true⟩, ⟨4, 2, 5, true⟩, ⟨5, 2, 1, true⟩, ⟨6, 1, 1, true⟩, ⟨7, 0, 0, false⟩] h)
      · clear H; obtain ⟨_, _, _, _, _, _, _, _, _, _, _, _, _, _, _, _, _, _, _, _, _, _, _, _, _, _, _, _, _, _, _, _, _, H, _⟩ := hS; rw [spec_StepAggregator.l1] at H; cases H
      clear H
      obtain ⟨x21_10, Ax21_10, cx21_10, x21_12, Ax21_12, cx21_12, x21_13, x21_14, Ax21_14, cx21_14, x21_15, Ax21_15, cx21_15, x21_16, x21_17, x21_18, x21_2_1, x21_2_2, x21_4_0, Ax21_4_0, cx21_4_0, x21_4_1, x21_4_2, x21_8_0, Ax21_8_0, cx21_8_0, x21_8_1, x21_8_2, x21_9_0, Ax21_9_0, cx21_9_0, x21_9_1, lk1, H, rfl⟩ := hS
      rw [spec_StepAggregator.l1] at H
      refine gs (gs (rg (sv (EV.mv rfl) rfl (sv (EV.mv rfl) rfl (sv (EV.lss rfl rfl) rfl (re ?_))))))
      revert H; refine ifsI ?_ ?_ <;> intro c17 H
      ·
       refine gt rfl (dT c17) (gk (gs (gb (dr [0, 1, 2, 3] [0, 1, 2, 3, 4, 5, 6, 7] [] 15 rfl rfl rfl rfl (xv 0 [0, 1, 2, 3] [0, 1, 2, 3, 4, 5, 6, 7] rfl (EV.mv rfl) rfl rfl rfl rfl (xv 1 [0, 1, 2, 3] [0, 1, 2, 3, 4, 5, 6, 7] rfl (EV.mv rfl) rfl rfl rfl rfl ?_))))))
       revert H; refine ifsI ?_ ?_ <;> intro c18 H
       ·
        subst c18
        exact ts 82 rfl rfl (xk 2 [0, 1, 2, 3] [0, 1, 2, 3, 4, 5, 6, 7] rfl rfl rfl rfl rfl (xk 3 [0, 1, 2, 3] [0, 1, 2, 3, 4, 5, 6, 7] rfl rfl rfl rfl rfl (xk 4 [0, 1, 2, 3] [0, 1, 2, 3, 4, 5, 6, 7] rfl rfl rfl rfl rfl (xk 5 [0, 1, 2, 3] [0, 1, 2, 3, 4, 5, 6, 7] rfl rfl rfl rfl rfl (xk 6 [0, 1, 2, 3] [0, 1, 2, 3, 4, 5, 6, 7] rfl rfl rfl rfl rfl (xk 7 [0, 1, 2, 3] [0, 1, 2, 3, 4, 5, 6, 7] rfl rfl rfl rfl rfl (xk 8 [0, 1, 2, 3] [0, 1, 2, 3, 4, 5, 6, 7] rfl rfl rfl rfl rfl (xk 9 [0, 1, 2, 3] [0, 1, 2, 3, 4, 5, 6, 7] rfl rfl rfl rfl rfl (xk 10 [0, 1, 2, 3] [0, 1, 2, 3, 4, 5, 6, 7] rfl rfl rfl rfl rfl (xk 11 [0, 1, 2, 3] [0, 1, 2, 3, 4, 5, 6, 7] rfl rfl rfl rfl rfl (xk 12 [0, 1, 2, 3] [0, 1, 2, 3, 4, 5, 6, 7] rfl rfl rfl rfl rfl (xv 13 [0, 1, 2, 3] [0, 1, 2, 3, 4, 5, 6, 7] rfl (EV.pt rfl rfl rfl) rfl rfl rfl rfl (xv 14 [0, 1, 2, 3] [0, 1, 2, 3, 4, 5, 6, 7] rfl (EV.as rfl) rfl rfl rfl rfl (xd (pr [2, 4, 8, 9, 10, 12, 13, 14, 15, 16, 17, 18] [0, 1, 2, 3] [0, 1, 2, 3, 4, 5, 6, 7] rfl rfl rfl rfl (ge (rg (sv (EV.mv rfl) rfl (sv (EV.add rfl rfl) rfl (sv (EV.as rfl) rfl (re (wk [2, 4, 8, 9, 10, 12, 13, 14, 15, 16, 17, 18] [0, 1, 2, 3] [⟨0, 1, 1, true⟩, ⟨1, 2, 2, true⟩, ⟨2, 2, 3, true⟩, ⟨3, 2, 4, true⟩, ⟨4, 2, 5, true⟩, ⟨5, 2, 1, true⟩, ⟨6, 1, 1, true⟩, ⟨7, 0, 0, false⟩] (ih1 _ (by omega) _ ⟨x21_10, Ax21_10, cx21_10, x21_12, Ax21_12, cx21_12, x21_13, x21_14, Ax21_14, cx21_14, x21_15, Ax21_15, cx21_15, x21_16, true, wrap64 (x21_18 + 1), x21_2_1, x21_2_2, x21_4_0, Ax21_4_0, cx21_4_0, x21_4_1, x21_4_2, x21_8_0, Ax21_8_0, cx21_8_0, x21_8_1, x21_8_2, x21_9_0, Ax21_9_0, cx21_9_0, x21_9_1, by omega, H, rfl⟩)))))))))))))))))))))))
       ·
        obtain rfl := bF c18
        refine ts 82 rfl rfl (xv 2 [0, 1, 2, 3] [0, 1, 2, 3, 4, 5, 6, 7] rfl (EV.mv rfl) rfl rfl rfl rfl (xv 3 [0, 1, 2, 3] [0, 1, 2, 3, 4, 5, 6, 7] rfl (EV.mv rfl) rfl rfl rfl rfl ?_))
        revert H; refine ggI ?_; intro g19 H
        revert H; refine ggI ?_; intro g20 H
        refine xv 4 [0, 1, 2, 3] [0, 1, 2, 3, 4, 5, 6, 7] rfl (EV.ix 1 rfl rfl rfl g19 g20 rfl) rfl rfl rfl rfl (xv 5 [0, 1, 2, 3] [0, 1, 2, 3, 4, 5, 6, 7] rfl (EV.le (v := .int .i64 (rdOf 0 x21_12 x21_18)) x21_18 0 none 1 0 rfl rfl rfl g19 g20 rfl rfl rfl) rfl rfl rfl rfl (xv 6 [0, 1, 2, 3] [0, 1, 2, 3, 4, 5, 6, 7] rfl (EV.fa 0 rfl) rfl rfl rfl rfl (xv 7 [0, 1, 2, 3] [0, 1, 2, 3, 4, 5, 6, 7] rfl (EV.ld 3 none rfl rfl rfl) rfl rfl rfl rfl (xv 8 [0, 1, 2, 3] [0, 1, 2, 3, 4, 5, 6, 7] rfl (EV.mv rfl) rfl rfl rfl rfl ?_))))
        revert H; refine ggI ?_; intro g21 H
        revert H; refine ggI ?_; intro g22 H
        exact xv 9 [0, 1, 2, 3] [0, 1, 2, 3, 4, 5, 6, 7] rfl (EV.ix 6 rfl rfl rfl g21 g22 rfl) rfl rfl rfl rfl (xv 10 [0, 1, 2, 3] [0, 1, 2, 3, 4, 5, 6, 7] rfl (EV.fa 0 rfl) rfl rfl rfl rfl (xv 11 [0, 1, 2, 3] [0, 1, 2, 3, 4, 5, 6, 7] rfl (EV.le (v := .int .i64 ((rd_T75 x21_9_0 x21_16).f0)) x21_16 0 none 6 z75 rfl rfl rfl g21 g22 rfl rfl rfl) rfl rfl rfl rfl (xv 12 [0, 1, 2, 3] [0, 1, 2, 3, 4, 5, 6, 7] rfl (EV.eql rfl rfl) rfl rfl rfl rfl (xv 13 [0, 1, 2, 3] [0, 1, 2, 3, 4, 5, 6, 7] rfl (EV.pf rfl rfl rfl) rfl rfl rfl rfl (xv 14 [0, 1, 2, 3] [0, 1, 2, 3, 4, 5, 6, 7] rfl (EV.as rfl) rfl rfl rfl rfl (xd (pr [2, 4, 8, 9, 10, 12, 13, 14, 15, 16, 17, 18, 83, 84, 85, 86, 87, 88, 89, 90, 91, 92, 93] [0, 1, 2, 3] [0, 1, 2, 3, 4, 5, 6, 7] rfl rfl rfl rfl (ge (rg (sv (EV.mv rfl) rfl (sv (EV.add rfl rfl) rfl (sv (EV.as rfl) rfl (re (wk [2, 4, 8, 9, 10, 12, 13, 14, 15, 16, 17, 18] [0, 1, 2, 3] [⟨0, 1, 1, true⟩, ⟨1, 2, 2, true⟩, ⟨2, 2, 3, true⟩, ⟨3, 2, 4, true⟩, ⟨4, 2, 5, true⟩, ⟨5, 2, 1, true⟩, ⟨6, 1, 1, true⟩, ⟨7, 0, 0, false⟩] (ih1 _ (by omega) _ ⟨x21_10, Ax21_10, cx21_10, x21_12, Ax21_12, cx21_12, x21_13, x21_14, Ax21_14, cx21_14, x21_15, Ax21_15, cx21_15, x21_16, decide ((rdOf 0 x21_12 x21_18) = ((rd_T75 x21_9_0 x21_16).f0)), wrap64 (x21_18 + 1), x21_2_1, x21_2_2, x21_4_0, Ax21_4_0, cx21_4_0, x21_4_1, x21_4_2, x21_8_0, Ax21_8_0, cx21_8_0, x21_8_1, x21_8_2, x21_9_0, Ax21_9_0, cx21_9_0, x21_9_1, by omega, H, rfl⟩)))))))))))))))
      ·
       refine gf rfl (dF c17) (gx rfl (gs (rg (sv (EV.mv rfl) rfl (re ?_)))))
       revert H; refine ifsI ?_ ?_ <;> intro c23 H
       ·
        subst c23
        refine gt rfl rfl (rg (sv (EV.mv rfl) rfl (sv (EV.fa 0 rfl) rfl (sv (EV.ld 3 none rfl rfl rfl) rfl (sv (EV.mv rfl) rfl ?_)))))
        revert H; refine ggI ?_; intro g24 H
        revert H; refine ggI ?_; intro g25 H
        refine sv (EV.ix 6 rfl rfl rfl g24 g25 rfl) rfl (sv (EV.le (v := .agg #[.int .i64 ((rd_T75 x21_9_0 x21_16).f0), .int .i64 ((rd_T75 x21_9_0 x21_16).f1), .int .i64 ((rd_T75 x21_9_0 x21_16).f2)]) x21_16 0 (some 3) 6 z75 rfl rfl rfl g24 g25 rfl rfl rfl) rfl (so rfl (op_lit (s := 3) (by_ := 24) k75 ([(⟨(rd_T75 x21_9_0 x21_16).f0, (rd_T75 x21_9_0 x21_16).f1, (rd_T75 x21_9_0 x21_16).f2⟩ : S75)] : List S75) [[]] [] 6 [.tmp 101] rfl rfl rfl rfl rfl rfl rfl rfl rfl rfl rfl rfl rfl dq rfl fun A102_26 c102_26 => ?_)))
        revert H; refine ggI ?_; intro g27 H
        exact so rfl (op_app (k := k75) (s := 3) (by_ := 24) 2 8 rfl rfl rfl rfl (ap1 g27 dq) (ap1n g27 dq) (.inl rfl) true (fun _ => .inl rfl) rfl rfl fun A103_28 c103_28 => (nmE (en := [.sl 1 k64 Ax21_10 cx21_10 x21_10 1 true, .sl 2 (.int .i64) Ax21_12 cx21_12 x21_12 2 true, .sl 2 k75 Ax21_15 cx21_15 x21_15 4 true, .sl 2 k64 Ax21_4_0 cx21_4_0 x21_4_0 5 true, .sl 2 k64 Ax21_8_0 cx21_8_0 x21_8_0 1 true, .sl 1 k75 Ax21_9_0 cx21_9_0 x21_9_0 1 true, .sl 0 k64 Al0_0 cl0_0 l0_0 0 false, .sl 2 k75 A102_26 c102_26 ([(⟨(rd_T75 x21_9_0 x21_16).f0, (rd_T75 x21_9_0 x21_16).f1, (rd_T75 x21_9_0 x21_16).f2⟩ : S75)] : List S75) 6 true, .sl 2 k75 A103_28 c103_28 (x21_14 ++ ([(⟨(rd_T75 x21_9_0 x21_16).f0, (rd_T75 x21_9_0 x21_16).f1, (rd_T75 x21_9_0 x21_16).f2⟩ : S75)] : List S75)) 3 true]) (by kernel_rfl) (sv (EV.as rfl) rfl (re (pr [2, 4, 8, 9, 10, 12, 13, 14, 15, 16] [0, 1, 2, 3] [0, 1, 2, 3, 4, 5, 6, 8] rfl rfl rfl rfl (ge (rg (sv (EV.mv rfl) rfl (sv (EV.add rfl rfl) rfl (sv (EV.as rfl) rfl (re (wk [2, 4, 8, 9, 10, 12, 13, 14, 15, 16] [0, 1, 2, 3] [⟨0, 1, 1, true⟩, ⟨1, 2, 2, true⟩, ⟨7, 2, 3, true⟩, ⟨2, 2, 4, true⟩, ⟨3, 2, 5, true⟩, ⟨4, 2, 1, true⟩, ⟨5, 1, 1, true⟩, ⟨6, 0, 0, false⟩] (ih0 _ (by omega) _ ⟨x21_10, Ax21_10, cx21_10, x21_12, Ax21_12, cx21_12, x21_13, x21_14 ++ ([(⟨(rd_T75 x21_9_0 x21_16).f0, (rd_T75 x21_9_0 x21_16).f1, (rd_T75 x21_9_0 x21_16).f2⟩ : S75)] : List S75), A103_28, c103_28, x21_15, Ax21_15, cx21_15, wrap64 (x21_16 + 1), x21_2_1, x21_2_2, x21_4_0, Ax21_4_0, cx21_4_0, x21_4_1, x21_4_2, x21_8_0, Ax21_8_0, cx21_8_0, x21_8_1, x21_8_2, x21_9_0, Ax21_9_0, cx21_9_0, x21_9_1, H, rfl⟩)))))))))))))
       ·
        obtain rfl := bF c23
        refine gf rfl rfl (rg (sv (EV.mv rfl) rfl (sv (EV.fa 0 rfl) rfl (sv (EV.ld 3 none rfl rfl rfl) rfl (sv (EV.mv rfl) rfl ?_)))))
        revert H; refine ggI ?_; intro g29 H
        revert H; refine ggI ?_; intro g30 H
        refine sv (EV.ix 6 rfl rfl rfl g29 g30 rfl) rfl (sv (EV.le (v := .agg #[.int .i64 ((rd_T75 x21_9_0 x21_16).f0), .int .i64 ((rd_T75 x21_9_0 x21_16).f1), .int .i64 ((rd_T75 x21_9_0 x21_16).f2)]) x21_16 0 (some 3) 6 z75 rfl rfl rfl g29 g30 rfl rfl rfl) rfl (so rfl (op_lit (s := 3) (by_ := 24) k75 ([(⟨(rd_T75 x21_9_0 x21_16).f0, (rd_T75 x21_9_0 x21_16).f1, (rd_T75 x21_9_0 x21_16).f2⟩ : S75)] : List S75) [[]] [] 6 [.tmp 109] rfl rfl rfl rfl rfl rfl rfl rfl rfl rfl rfl rfl rfl dq rfl fun A110_31 c110_31 => ?_)))
        revert H; refine ggI ?_; intro g32 H
        exact so rfl (op_app (k := k75) (s := 3) (by_ := 24) 3 8 rfl rfl rfl rfl (ap1 g32 dq) (ap1n g32 dq) (.inl rfl) true (fun _ => .inl rfl) rfl rfl fun A111_33 c111_33 => (nmE (en := [.sl 1 k64 Ax21_10 cx21_10 x21_10 1 true, .sl 2 (.int .i64) Ax21_12 cx21_12 x21_12 2 true, .sl 2 k75 Ax21_14 cx21_14 x21_14 3 true, .sl 2 k64 Ax21_4_0 cx21_4_0 x21_4_0 5 true, .sl 2 k64 Ax21_8_0 cx21_8_0 x21_8_0 1 true, .sl 1 k75 Ax21_9_0 cx21_9_0 x21_9_0 1 true, .sl 0 k64 Al0_0 cl0_0 l0_0 0 false, .sl 2 k75 A110_31 c110_31 ([(⟨(rd_T75 x21_9_0 x21_16).f0, (rd_T75 x21_9_0 x21_16).f1, (rd_T75 x21_9_0 x21_16).f2⟩ : S75)] : List S75) 6 true, .sl 2 k75 A111_33 c111_33 (x21_15 ++ ([(⟨(rd_T75 x21_9_0 x21_16).f0, (rd_T75 x21_9_0 x21_16).f1, (rd_T75 x21_9_0 x21_16).f2⟩ : S75)] : List S75)) 4 true]) (by kernel_rfl) (sv (EV.as rfl) rfl (re (pr [2, 4, 8, 9, 10, 12, 13, 14, 15, 16] [0, 1, 2, 3] [0, 1, 2, 3, 4, 5, 6, 8] rfl rfl rfl rfl (ge (rg (sv (EV.mv rfl) rfl (sv (EV.add rfl rfl) rfl (sv (EV.as rfl) rfl (re (wk [2, 4, 8, 9, 10, 12, 13, 14, 15, 16] [0, 1, 2, 3] [⟨0, 1, 1, true⟩, ⟨1, 2, 2, true⟩, ⟨2, 2, 3, true⟩, ⟨7, 2, 4, true⟩, ⟨3, 2, 5, true⟩, ⟨4, 2, 1, true⟩, ⟨5, 1, 1, true⟩, ⟨6, 0, 0, false⟩] (ih0 _ (by omega) _ ⟨x21_10, Ax21_10, cx21_10, x21_12, Ax21_12, cx21_12, x21_13, x21_14, Ax21_14, cx21_14, x21_15 ++ ([(⟨(rd_T75 x21_9_0 x21_16).f0, (rd_T75 x21_9_0 x21_16).f1, (rd_T75 x21_9_0 x21_16).f2⟩ : S75)] : List S75), A111_33, c111_33, wrap64 (x21_16 + 1), x21_2_1, x21_2_2, x21_4_0, Ax21_4_0, cx21_4_0, x21_4_1, x21_4_2, x21_8_0, Ax21_8_0, cx21_8_0, x21_8_1, x21_8_2, x21_9_0, Ax21_9_0, cx21_9_0, x21_9_1, H, rfl⟩)))))))))))))
     ·
      refine gf rfl (dF c16) (gx rfl (gs (rg (sv (EV.mv rfl) rfl (sv (EV.fa 0 rfl) rfl (so rfl (op_st (cs' := [.slice Ax10_10 x10_10.length cx10_10, .int .i64 x10_8_1, .bool x10_8_2]) 2 rfl rfl rfl rfl rfl rfl (re (pr [2, 4, 8, 9, 10, 13, 14, 15] [0, 1, 2, 3] [0, 2, 3, 4, 6, 7] rfl rfl rfl rfl ?_)))))))))
      refine jo (fun S => ∃ (m : Nat) (x23_13 : Int) (x23_14 : List S75) (Ax23_14 : Option Addr) (cx23_14 : Nat) (x23_4_0 : List S64) (Ax23_4_0 : Option Addr) (cx23_4_0 : Nat) (x23_4_1 : Int) (x23_4_2 : Bool) (x23_8_0 : List S64) (Ax23_8_0 : Option Addr) (cx23_8_0 : Nat) (x23_8_1 : Int) (x23_8_2 : Bool), m ≤ n0 ∧ spec_StepAggregator.j0 m x23_13 x23_14 x23_4_0 x23_4_1 x23_4_2 x23_8_0 x23_8_1 x23_8_2 = some (r0, r1, r2, r3, r4, r5) ∧ S = ⟨[(4, .pointer (some ⟨b4, 0, none⟩)), (8, .pointer (some ⟨b8, 0, none⟩)), (13, .int .i64 x23_13), (14, .slice Ax23_14 x23_14.length cx23_14)], [⟨b4, 54, [.slice Ax23_4_0 x23_4_0.length cx23_4_0, .int .i64 x23_4_1, .bool x23_4_2]⟩, ⟨b8, 54, [.slice Ax23_8_0 x23_8_0.length cx23_8_0, .int .i64 x23_8_1, .bool x23_8_2]⟩], [.sl 2 k75 Ax23_14 cx23_14 x23_14 1 true, .sl 2 k64 Ax23_4_0 cx23_4_0 x23_4_0 2 true, .sl 1 k64 Ax23_8_0 cx23_8_0 x23_8_0 3 true]⟩) (fun S hS => ?_) (fun jh0 => ?_)
      ·
       clear H
       obtain ⟨m34, x23_13, x23_14, Ax23_14, cx23_14, x23_4_0, Ax23_4_0, cx23_4_0, x23_4_1, x23_4_2, x23_8_0, Ax23_8_0, cx23_8_0, x23_8_1, x23_8_2, lm34, H, rfl⟩ := hS
       rcases m34 with _ | m34
       · rw [spec_StepAggregator.j0] at H; cases H
       rw [spec_StepAggregator.j0] at H
       refine gs (dr [1] [0, 1, 2] [7, 8] 9 rfl rfl rfl rfl (xv 0 [1] [0, 1, 2] rfl (EV.ld (v := .agg #[.slice Ax23_8_0 x23_8_0.length cx23_8_0, .int .i64 x23_8_1, .bool x23_8_2]) 0 (some 3) rfl rfl rfl) rfl rfl rfl rfl (xv 1 [1] [0, 1, 2] rfl (EV.mv rfl) rfl rfl rfl rfl (xv 3 [1] [0, 1, 2] rfl (EV.mv rfl) rfl rfl rfl rfl (xv 4 [1] [0, 1, 2] rfl (EV.mul rfl rfl) rfl rfl rfl rfl (one1 2 rfl rfl ?_))))))
       revert H; refine bdI ?_; rintro t35 A35 H
       refine op_call (spec_ReferenceGroups.ok m34 x23_14 Ax23_14 cx23_14 _ A35) [⟨0, 0, 0, false⟩] 4 rfl rfl rfl rfl rfl ?_
       rintro _ _ _ ⟨At35, ct35, rfl, rfl, rfl⟩
       refine xs [1] [0, 1, 2] rfl rfl rfl (one1 5 rfl rfl (op_st (cs' := [.slice Ax23_8_0 x23_8_0.length cx23_8_0, .int .i64 x23_8_1, .bool x23_8_2]) 0 rfl rfl rfl rfl rfl rfl (xs [1] [0, 1, 2] rfl rfl rfl (one1 6 rfl rfl (ov (EV.as rfl) rfl (xs [1] [0, 1, 2] rfl rfl rfl (one1 7 rfl rfl (ov (EV.as rfl) rfl (xn rfl (one1 8 rfl rfl (ov (EV.as rfl) rfl (xn rfl (xd (pr [4, 5, 6, 7] [0] [2, 3] rfl rfl rfl rfl ?_))))))))))))))
       cases H
       exact rt Try.func35 rfl (.cell 0 (some 3) rfl rfl rfl (.tmp rfl (.tmp rfl (.tmp rfl .nil)))) rfl [] [⟨0, 1, 1, true⟩, ⟨1, 2, 2, true⟩] rfl rfl rfl rfl rfl ⟨_, _, _, _, rfl, rfl, rfl⟩
      ·
       refine gs (rg (sv (EV.mv rfl) rfl (sv (EV.ln rfl) rfl (sv (EV.gtr rfl rfl) rfl (re ?_)))))
       revert H; refine ifsI ?_ ?_ <;> intro c36 H
       ·
        refine gt rfl (dT c36) (gs (dr [0, 1, 2, 3] [0, 1, 2, 3, 4, 5] [6] 7 rfl rfl rfl rfl (xv 0 [0, 1, 2, 3] [0, 1, 2, 3, 4, 5] rfl (EV.fa 1 rfl) rfl rfl rfl rfl (xv 1 [0, 1, 2, 3] [0, 1, 2, 3, 4, 5] rfl (EV.ld 0 none rfl rfl rfl) rfl rfl rfl rfl (xv 2 [0, 1, 2, 3] [0, 1, 2, 3, 4, 5] rfl (EV.mv rfl) rfl rfl rfl rfl (one1 3 rfl rfl ?_))))))
        revert H; refine bdI ?_; rintro t37 A37 H
        refine op_call (spec_TotalCost.ok n0 x10_15 Ax10_15 cx10_15 _ A37) [⟨2, 0, 0, false⟩] 6 rfl rfl rfl rfl rfl ?_
        rintro _ _ _ ⟨rfl, rfl, rfl⟩
        refine xs [0, 1, 2, 3] [0, 1, 2, 3, 4, 5] rfl rfl rfl (xv 4 [0, 1, 2, 3] [0, 1, 2, 3, 4, 5] rfl (EV.add rfl rfl) rfl rfl rfl rfl (xv 5 [0, 1, 2, 3] [0, 1, 2, 3, 4, 5] rfl (EV.fa 1 rfl) rfl rfl rfl rfl (one1 6 rfl rfl (op_st (cs' := [.slice Ax10_10 x10_10.length cx10_10, .int .i64 (wrap64 (x10_2_1 + t37)), .bool x10_8_2]) 2 rfl rfl rfl rfl rfl rfl (xn rfl (xd (pr [4, 8, 9, 10, 13, 14, 15] [1, 2, 3] [0, 1, 2, 3, 4] rfl rfl rfl rfl (gs (rg (sv (EV.mv rfl) rfl (sv (EV.fa 1 rfl) rfl (sv (EV.ld 2 none rfl rfl rfl) rfl (sv (EV.bd (v := .agg #[.slice Ax10_15 x10_15.length cx10_15, .int .i64 x10_9_1]) rfl (by kernel_rfl)) rfl (so rfl (op_lit (s := 2) (by_ := 32) k64 ([(⟨x10_15, x10_9_1⟩ : S64)] : List S64) [[(Ax10_15, cx10_15)]] [2] 6 [.tmp 126] rfl rfl rfl rfl rfl rfl rfl rfl rfl rfl rfl rfl rfl dq rfl fun A127_38 c127_38 => (nmE (en := [.sl 1 k64 Ax10_10 cx10_10 x10_10 1 true, .sl 2 k75 Ax10_14 cx10_14 x10_14 3 true, .sl 2 k75 Ax10_15 cx10_15 x10_15 6 true, .sl 2 k64 Ax10_4_0 cx10_4_0 x10_4_0 5 true, .sl 1 k75 Ax10_9_0 cx10_9_0 x10_9_0 1 true, .sl 2 k64 A127_38 c127_38 ([(⟨x10_15, x10_9_1⟩ : S64)] : List S64) 6 true]) (by kernel_rfl) (sv (EV.as rfl) rfl (re ?_))))))))))))))))))
        refine jo (fun S => ∃ (m : Nat) (x24_10 : List S64) (Ax24_10 : Option Addr) (cx24_10 : Nat) (x24_13 : Int) (x24_14 : List S75) (Ax24_14 : Option Addr) (cx24_14 : Nat) (x24_19 : List S64) (Ax24_19 : Option Addr) (cx24_19 : Nat) (x24_4_0 : List S64) (Ax24_4_0 : Option Addr) (cx24_4_0 : Nat) (x24_4_1 : Int) (x24_4_2 : Bool) (x24_8_0 : List S64) (Ax24_8_0 : Option Addr) (cx24_8_0 : Nat) (x24_8_1 : Int) (x24_8_2 : Bool), m ≤ n0 ∧ spec_StepAggregator.j1 m x24_10 x24_13 x24_14 x24_19 x24_4_0 x24_4_1 x24_4_2 x24_8_0 x24_8_1 x24_8_2 = some (r0, r1, r2, r3, r4, r5) ∧ S = ⟨[(4, .pointer (some ⟨b4, 0, none⟩)), (8, .pointer (some ⟨b8, 0, none⟩)), (10, .slice Ax24_10 x24_10.length cx24_10), (13, .int .i64 x24_13), (14, .slice Ax24_14 x24_14.length cx24_14), (19, .slice Ax24_19 x24_19.length cx24_19)], [⟨b4, 54, [.slice Ax24_4_0 x24_4_0.length cx24_4_0, .int .i64 x24_4_1, .bool x24_4_2]⟩, ⟨b8, 54, [.slice Ax24_8_0 x24_8_0.length cx24_8_0, .int .i64 x24_8_1, .bool x24_8_2]⟩], [.sl 1 k64 Ax24_10 cx24_10 x24_10 1 true, .sl 2 k75 Ax24_14 cx24_14 x24_14 2 true, .sl 2 k64 Ax24_19 cx24_19 x24_19 3 true, .sl 2 k64 Ax24_4_0 cx24_4_0 x24_4_0 4 true, .sl 1 k64 Ax24_8_0 cx24_8_0 x24_8_0 1 true]⟩) (fun S hS => ?_) (fun jh1 => ?_)
        ·
         clear H
         obtain ⟨m39, x24_10, Ax24_10, cx24_10, x24_13, x24_14, Ax24_14, cx24_14, x24_19, Ax24_19, cx24_19, x24_4_0, Ax24_4_0, cx24_4_0, x24_4_1, x24_4_2, x24_8_0, Ax24_8_0, cx24_8_0, x24_8_1, x24_8_2, lm39, H, rfl⟩ := hS
         rcases m39 with _ | m39
         · rw [spec_StepAggregator.j1] at H; cases H
         rw [spec_StepAggregator.j1] at H
         refine rg (sv (EV.mv rfl) rfl (sv (EV.mv rfl) rfl ?_))
         revert H; refine ggI ?_; intro g40 H
         exact so rfl (op_app (k := k64) (s := 2) (by_ := 32) 2 0 rfl rfl rfl rfl (ap2 g40 dq) (ap2n g40 dq) (.inr ⟨dq, dq, rfl, dq⟩) true (fun _ => .inr ⟨rfl, rfl, dq⟩) rfl rfl fun A151_41 c151_41 => (nmE (en := [.sl 1 k64 Ax24_10 cx24_10 x24_10 3 true, .sl 2 k75 Ax24_14 cx24_14 x24_14 2 true, .sl 2 k64 Ax24_4_0 cx24_4_0 x24_4_0 4 true, .sl 1 k64 Ax24_8_0 cx24_8_0 x24_8_0 3 true, .sl 2 k64 A151_41 c151_41 (x24_19 ++ x24_10) 3 true]) (by kernel_rfl) (sv (EV.fa 0 rfl) rfl (so rfl (op_st (cs' := [.slice A151_41 (x24_19 ++ x24_10).length c151_41, .int .i64 x24_8_1, .bool x24_8_2]) 1 rfl rfl rfl rfl rfl rfl (re (pr [4, 8, 13, 14] [0, 1] [1, 2, 4] rfl rfl rfl rfl (wk [4, 8, 13, 14] [0, 1] [⟨0, 2, 1, true⟩, ⟨1, 2, 2, true⟩, ⟨2, 1, 3, true⟩] (jh0 _ ⟨_, x24_13, x24_14, Ax24_14, cx24_14, x24_4_0, Ax24_4_0, cx24_4_0, x24_4_1, x24_4_2, x24_19 ++ x24_10, A151_41, c151_41, x24_8_1, x24_8_2, by omega, H, rfl⟩)))))))))
        ·
         refine gs (rg (sv (EV.fa 1 rfl) rfl (sv (EV.ld 2 none rfl rfl rfl) rfl (sv (EV.lss rfl rfl) rfl (re (pr [4, 8, 9, 10, 13, 14, 15, 19, 130] [0, 1, 2] [0, 1, 2, 3, 4, 5] rfl rfl rfl rfl ?_))))))
         revert H; refine ifsI ?_ ?_ <;> intro c42 H
         ·
          refine gt rfl (dT c42) (gs (rg (sv (EV.mv rfl) rfl (sv (EV.fa 1 rfl) rfl (sv (EV.ld 2 none rfl rfl rfl) rfl ?_)))))
          revert H; refine bdI ?_; rintro ⟨t43_0, t43_1⟩ A43 H
          refine so rfl (op_call (spec_SplitByHashBit.ok n0 x10_15 Ax10_15 cx10_15 x10_9_1 _ _ A43) [⟨2, 0, 0, false⟩] 7 rfl rfl rfl rfl rfl ?_)
          rintro _ _ _ ⟨At43_0, ct43_0, At43_1, ct43_1, rfl, rfl, rfl⟩
          exact sv (EV.mv rfl) rfl (sv (EV.ex rfl rfl) rfl (sv (EV.ex rfl rfl) rfl (sv (EV.as rfl) rfl (sv (EV.as rfl) rfl (re (pr [4, 8, 9, 10, 13, 14, 20, 21] [0, 1, 2] [0, 1, 3, 4, 6, 7] rfl rfl rfl rfl (rg (sv (EV.mv rfl) rfl (sv (EV.fa 1 rfl) rfl (sv (EV.ld 2 none rfl rfl rfl) rfl (sv (EV.add rfl rfl) rfl (sv (EV.bd (v := .agg #[.slice At43_0 t43_0.length ct43_0, .int .i64 (wrap64 (x10_9_1 + 1))]) rfl (by kernel_rfl)) rfl (sv (EV.mv rfl) rfl (sv (EV.fa 1 rfl) rfl (sv (EV.ld 2 none rfl rfl rfl) rfl (sv (EV.add rfl rfl) rfl (sv (EV.bd (v := .agg #[.slice At43_1 t43_1.length ct43_1, .int .i64 (wrap64 (x10_9_1 + 1))]) rfl (by kernel_rfl)) rfl (so rfl (op_lit (s := 2) (by_ := 32) k64 ([(⟨t43_0, wrap64 (x10_9_1 + 1)⟩ : S64), (⟨t43_1, wrap64 (x10_9_1 + 1)⟩ : S64)] : List S64) [[(At43_0, ct43_0)], [(At43_1, ct43_1)]] [4, 5] 10 [.tmp 142, .tmp 147] rfl rfl rfl rfl rfl rfl rfl rfl rfl rfl rfl rfl rfl dq rfl fun A148_44 c148_44 => (nmE (en := [.sl 1 k64 Ax10_10 cx10_10 x10_10 1 true, .sl 2 k75 Ax10_14 cx10_14 x10_14 3 true, .sl 2 k64 Ax10_4_0 cx10_4_0 x10_4_0 5 true, .sl 1 k75 Ax10_9_0 cx10_9_0 x10_9_0 1 true, .sl 2 k75 At43_0 ct43_0 t43_0 10 true, .sl 2 k75 At43_1 ct43_1 t43_1 10 true, .sl 2 k64 A148_44 c148_44 ([(⟨t43_0, wrap64 (x10_9_1 + 1)⟩ : S64), (⟨t43_1, wrap64 (x10_9_1 + 1)⟩ : S64)] : List S64) 10 true]) (by kernel_rfl) (sv (EV.as rfl) rfl (re (pr [4, 8, 10, 13, 14, 19] [0, 1] [0, 1, 2, 6] rfl rfl rfl rfl (wk [4, 8, 10, 13, 14, 19] [0, 1] [⟨0, 1, 1, true⟩, ⟨1, 2, 2, true⟩, ⟨3, 2, 3, true⟩, ⟨2, 2, 4, true⟩, ⟨0, 1, 1, true⟩] (jh1 _ ⟨_, x10_10, Ax10_10, cx10_10, x10_13, x10_14, Ax10_14, cx10_14, ([(⟨t43_0, wrap64 (x10_9_1 + 1)⟩ : S64), (⟨t43_1, wrap64 (x10_9_1 + 1)⟩ : S64)] : List S64), A148_44, c148_44, x10_4_0, Ax10_4_0, cx10_4_0, x10_4_1, x10_4_2, x10_10, Ax10_10, cx10_10, wrap64 (x10_2_1 + t37), x10_8_2, by omega, H, rfl⟩)))))))))))))))))))))))))
         ·
          exact gf rfl (dF c42) (gk (wk [4, 8, 10, 13, 14, 19] [0, 1] [⟨0, 1, 1, true⟩, ⟨1, 2, 2, true⟩, ⟨5, 2, 3, true⟩, ⟨3, 2, 4, true⟩, ⟨0, 1, 1, true⟩] (jh1 _ ⟨_, x10_10, Ax10_10, cx10_10, x10_13, x10_14, Ax10_14, cx10_14, ([(⟨x10_15, x10_9_1⟩ : S64)] : List S64), A127_38, c127_38, x10_4_0, Ax10_4_0, cx10_4_0, x10_4_1, x10_4_2, x10_10, Ax10_10, cx10_10, wrap64 (x10_2_1 + t37), x10_8_2, by omega, H, rfl⟩)))
       ·
        exact gf rfl (dF c36) (gk (wk [4, 8, 13, 14] [1, 2] [⟨1, 2, 1, true⟩, ⟨3, 2, 2, true⟩, ⟨0, 1, 3, true⟩] (jh0 _ ⟨_, x10_13, x10_14, Ax10_14, cx10_14, x10_4_0, Ax10_4_0, cx10_4_0, x10_4_1, x10_4_2, x10_10, Ax10_10, cx10_10, x10_8_1, x10_8_2, by omega, H, rfl⟩)))
   ·
    obtain rfl := bF c7
    refine gt rfl rfl (gs (rg (sv (EV.ld (v := .agg #[.slice At1_0 t1_0.length ct1_0, .int .i64 t1_1, .bool t1_2]) 2 (some 3) rfl rfl rfl) rfl (so rfl (op_lit (s := 5) (by_ := 40) k49 ([] : List S49) [] [] 3 [] rfl rfl rfl rfl rfl rfl rfl rfl rfl rfl rfl rfl rfl dq rfl fun A39_45 c39_45 => (so rfl (op_st (cs' := [.slice At1_0 t1_0.length ct1_0, .int .i64 t1_1, .bool t1_2]) 1 rfl rfl rfl rfl rfl rfl (sv (EV.as rfl) rfl (sv (EV.as rfl) rfl (sv (EV.as rfl) rfl (re (pr [4, 5, 6, 7] [1] [1, 2] rfl rfl rfl rfl ?_))))))))))))
    cases H
    exact rt Try.func35 rfl (.cell 0 (some 3) rfl rfl rfl (.tmp rfl (.tmp rfl (.tmp rfl .nil)))) rfl [] [⟨0, 1, 1, true⟩, ⟨1, 2, 2, true⟩] rfl rfl rfl rfl rfl ⟨_, _, _, _, rfl, rfl, rfl⟩
 ·
  obtain rfl := bF c3
  refine ts 27 rfl rfl (sk rfl (sk rfl (sk rfl (sk rfl (sv (EV.pt rfl rfl rfl) rfl (sv (EV.mv rfl) rfl (sk rfl (sk rfl (sk rfl (sv (EV.pt rfl rfl rfl) rfl (re (pr [1, 2, 4, 8, 37] [0, 1, 2] [0, 1] rfl rfl rfl rfl (gt rfl rfl (gs (rg (sv (EV.ld (v := .agg #[.slice At1_0 t1_0.length ct1_0, .int .i64 t1_1, .bool t1_2]) 2 (some 3) rfl rfl rfl) rfl (so rfl (op_lit (s := 5) (by_ := 40) k49 ([] : List S49) [] [] 3 [] rfl rfl rfl rfl rfl rfl rfl rfl rfl rfl rfl rfl rfl dq rfl fun A39_46 c39_46 => (so rfl (op_st (cs' := [.slice At1_0 t1_0.length ct1_0, .int .i64 t1_1, .bool t1_2]) 1 rfl rfl rfl rfl rfl rfl (sv (EV.as rfl) rfl (sv (EV.as rfl) rfl (sv (EV.as rfl) rfl (re (pr [4, 5, 6, 7] [1] [1, 2] rfl rfl rfl rfl ?_)))))))))))))))))))))))))
  cases H
  exact rt Try.func35 rfl (.cell 0 (some 3) rfl rfl rfl (.tmp rfl (.tmp rfl (.tmp rfl .nil)))) rfl [] [⟨0, 1, 1, true⟩, ⟨1, 2, 2, true⟩] rfl rfl rfl rfl rfl ⟨_, _, _, _, rfl, rfl, rfl⟩
def spec_NewAggregator.f (k : Nat) (l0 : List S75) (a1 : Bool) : Option ((List S64) × Int × Bool × Bool) := (spec_AreValidRows.f k l0).bind fun t1 => (if t1 = true then (if l0.length ≤ 5864062014805 then (some (([(⟨l0, 0⟩ : S64)] : List S64), 0, a1, true)) else none) else (some ([], 0, false, false)))
set_option maxHeartbeats 4000000 in
set_option maxRecDepth 100000 in
theorem spec_NewAggregator.ok (k : Nat) (l0 : List S75) (Al0 : Option Addr) (cl0 : Nat) (a1 : Bool) (r0 : List S64) (r1 : Int) (r2 : Bool) (r3 : Bool) (H : spec_NewAggregator.f k l0 a1 = some (r0, r1, r2, r3)) : Fn Try.prog 50 [.slice Al0 l0.length cl0, .bool a1] [] [.sl 0 k75 Al0 cl0 l0 0 false] (fun v bx en => ∃ A0 c0, v = .tuple #[.agg #[.slice A0 r0.length c0, .int .i64 r1, .bool r2], .bool r3] ∧ bx = [] ∧ en = [.sl 2 k64 A0 c0 r0 1 true]) := by
 refine fn_ 17 Try.func50 rfl rfl rfl (fun base T w0 => ?_)
 rw [spec_NewAggregator.f] at H
 refine gs (rg (so rfl (op_alloc (cs := [.slice none 0 0, .int .i64 0, .bool false]) (by kernel_rfl) rfl fun b4 => (sv (EV.as rfl) rfl (re (gs (gs (rg (sv (EV.mv rfl) rfl ?_)))))))))
 revert H; refine bdI ?_; rintro t1 A1 H
 refine so rfl (op_call (spec_AreValidRows.ok k l0 Al0 cl0 _ A1) [⟨0, 0, 0, false⟩] 1 rfl rfl rfl rfl rfl ?_)
 rintro _ _ _ ⟨rfl, rfl, rfl⟩
 refine sv (EV.nt rfl) rfl (re ?_)
 revert H; refine ifsI ?_ ?_ <;> intro c2 H
 ·
  subst c2
  refine gf rfl rfl (gk (gs (rg (so rfl (op_lit (s := 3) (by_ := 24) k75 ([] : List S75) [] [] 1 [] rfl rfl rfl rfl rfl rfl rfl rfl rfl rfl rfl rfl rfl dq rfl fun A10_3 c10_3 => (sv (EV.mv rfl) rfl ?_))))))
  revert H; refine ggI ?_; intro g4 H
  refine so rfl (op_app (k := k75) (s := 3) (by_ := 24) 1 0 rfl rfl rfl rfl (ap0 g4 dq) (ap0n g4 dq) (.inl rfl) true (fun _ => .inl rfl) rfl rfl fun A12_5 c12_5 => (nmE (en := [.sl 0 k75 Al0 cl0 l0 0 false, .sl 2 k75 A12_5 c12_5 l0 1 true]) (by kernel_rfl) (sv (EV.bd (v := .agg #[.slice A12_5 l0.length c12_5, .int .i64 0]) rfl (by kernel_rfl)) rfl (so rfl (op_lit (s := 2) (by_ := 32) k64 ([(⟨l0, 0⟩ : S64)] : List S64) [[(A12_5, c12_5)]] [1] 2 [.tmp 13] rfl rfl rfl rfl rfl rfl rfl rfl rfl rfl rfl rfl rfl dq rfl fun A14_6 c14_6 => (nmE (en := [.sl 0 k75 Al0 cl0 l0 0 false, .sl 2 k75 A12_5 c12_5 l0 2 true, .sl 2 k64 A14_6 c14_6 ([(⟨l0, 0⟩ : S64)] : List S64) 2 true]) (by kernel_rfl) (sv (EV.mv rfl) rfl (sv (EV.bd (v := .agg #[.slice A14_6 ([(⟨l0, 0⟩ : S64)] : List S64).length c14_6, .int .i64 0, .bool a1]) rfl (by kernel_rfl)) rfl (so rfl (op_st (cs' := [.slice A14_6 ([(⟨l0, 0⟩ : S64)] : List S64).length c14_6, .int .i64 0, .bool a1]) 0 rfl rfl rfl rfl rfl rfl (sv (EV.as rfl) rfl (re (pr [4, 5] [0] [2] rfl rfl rfl rfl ?_)))))))))))))
  cases H
  exact rt Try.func50 rfl (.cell 0 (some 3) rfl rfl rfl (.tmp rfl .nil)) rfl [] [⟨0, 2, 1, true⟩] rfl rfl rfl rfl rfl ⟨_, _, rfl, rfl, rfl⟩
 ·
  obtain rfl := bF c2
  refine gt rfl rfl (gs (rg (sv (EV.bd (v := .agg #[.slice none 0 0, .int .i64 0, .bool false]) rfl (by kernel_rfl)) rfl (so rfl (op_st (cs' := [.slice none 0 0, .int .i64 0, .bool false]) 0 rfl rfl rfl rfl rfl rfl (sv (EV.as rfl) rfl (re (pr [4, 5] [0] [] rfl rfl rfl rfl (nil_ k64 1 dq ?_)))))))))
  cases H
  exact rt Try.func50 rfl (.cell 0 (some 3) rfl rfl rfl (.tmp rfl .nil)) rfl [] [⟨0, 2, 1, true⟩] rfl rfl rfl rfl rfl ⟨_, _, rfl, rfl, rfl⟩
def spec_l14Grants.l0 : Nat → Int → (List Int) → Option (Bool)
 | 0, _, _ => none
 | k + 1, x2_3, l0 => if x2_3 < (l0.length : Int) then (if 0 ≤ x2_3 then ((spec_l1In.f (rdOf 0 l0 x2_3) 8 60).bind fun t3 => (if t3 = true then (spec_l14Grants.l0 k (wrap64 (x2_3 + 1)) l0) else (some false))) else none) else (some (decide ((l0.length : Int) > 0)))
def spec_l14Grants.f (k : Nat) (l0 : List Int) : Option (Bool) := spec_l14Grants.l0 k 0 l0
set_option maxHeartbeats 4000000 in
set_option maxRecDepth 100000 in
theorem spec_l14Grants.ok (k : Nat) (l0 : List Int) (Al0 : Option Addr) (cl0 : Nat) (r0 : Bool) (H : spec_l14Grants.f k l0 = some r0) : Fn Try.prog 51 [.slice Al0 l0.length cl0] [] [.sl 0 (.int .i64) Al0 cl0 l0 0 false] (fun v bx en => v = .bool r0 ∧ bx = [] ∧ en = []) := by
 refine fn_ 19 Try.func51 rfl rfl rfl (fun base T w0 => ?_)
 rw [spec_l14Grants.f] at H
 refine gs (rg (sv (EV.as rfl) rfl (re (gs (gs (rg (sv (EV.as rfl) rfl (re (gb ?_)))))))))
 refine lo (fun kk S => ∃ (x2_3 : Int), spec_l14Grants.l0 kk x2_3 l0 = some r0 ∧ S = ⟨[(0, .slice Al0 l0.length cl0), (3, .int .i64 x2_3)], [], [.sl 0 (.int .i64) Al0 cl0 l0 0 false]⟩) (fun S hS => ?_) (fun n0 ih0 S hS => ?_) ⟨0, H, rfl⟩ (fun h => wk [0, 3] [] [⟨0, 0, 0, false⟩] h)
 · clear H; obtain ⟨_, H, _⟩ := hS; rw [spec_l14Grants.l0] at H; cases H
 clear H
 obtain ⟨x2_3, H, rfl⟩ := hS
 rw [spec_l14Grants.l0] at H
 refine gs (gs (rg (sv (EV.mv rfl) rfl (sv (EV.mv rfl) rfl (sv (EV.ln rfl) rfl (sv (EV.lss rfl rfl) rfl (re ?_)))))))
 revert H; refine ifsI ?_ ?_ <;> intro c1 H
 ·
  refine gt rfl (dT c1) (gk (gs (gb (gs (rg (sv (EV.mv rfl) rfl (sv (EV.mv rfl) rfl ?_)))))))
  revert H; refine ggI ?_; intro g2 H
  refine sv (EV.ix 0 rfl rfl rfl g2 c1 rfl) rfl (sv (EV.le (v := .int .i64 (rdOf 0 l0 x2_3)) x2_3 0 none 0 0 rfl rfl rfl g2 c1 rfl rfl rfl) rfl ?_)
  revert H; refine bdI ?_; rintro t3 A3 H
  refine so rfl (op_call (spec_l1In.ok (rdOf 0 l0 x2_3) 8 60 _ A3) [] 1 rfl rfl rfl rfl rfl ?_)
  rintro _ _ _ ⟨rfl, rfl, rfl⟩
  refine sv (EV.nt rfl) rfl (re (pr [0, 3, 15] [] [0] rfl rfl rfl rfl ?_))
  revert H; refine ifsI ?_ ?_ <;> intro c4 H
  ·
   subst c4
   exact gf rfl rfl (gk (ge (rg (sv (EV.mv rfl) rfl (sv (EV.add rfl rfl) rfl (sv (EV.as rfl) rfl (re (wk [0, 3] [] [⟨0, 0, 0, false⟩] (ih0 _ (by omega) _ ⟨wrap64 (x2_3 + 1), H, rfl⟩)))))))))
  ·
   obtain rfl := bF c4
   refine gt rfl rfl (gs (rg (sv (EV.as rfl) rfl (re ?_))))
   cases H
   exact rt Try.func51 rfl (.tmp rfl .nil) rfl [] [] rfl rfl rfl rfl rfl ⟨rfl, rfl, rfl⟩
 ·
  refine gf rfl (dF c1) (gx rfl (gs (rg (sv (EV.mv rfl) rfl (sv (EV.ln rfl) rfl (sv (EV.gtr rfl rfl) rfl (sv (EV.as rfl) rfl (re (pr [2] [] [] rfl rfl rfl rfl ?_)))))))))
  cases H
  exact rt Try.func51 rfl (.tmp rfl .nil) rfl [] [] rfl rfl rfl rfl rfl ⟨rfl, rfl, rfl⟩
def spec_RunGroup.l0 : Nat → (List S49) → (List S49) → Int → Int → Int → (List S64) → Int → Bool → (List S49) → Int → Int → Int → (List Int) → Option ((List S49) × Int × Int × Int × Bool)
 | 0, _, _, _, _, _, _, _, _, _, _, _, _, _ => none
 | k + 1, x4_11, x4_6_0, x4_6_1, x4_6_2, x4_6_3, x4_8_0, x4_8_1, x4_8_2, x4_10_0, x4_10_1, x4_10_2, x4_10_3, l2 => if (x4_8_0.length : Int) > 0 then (if (l2.length : Int) ≠ 0 then (if 0 ≤ (Int.tmod x4_10_1 (l2.length : Int)) then (if (Int.tmod x4_10_1 (l2.length : Int)) < (l2.length : Int) then ((spec_StepAggregator.f k x4_8_0 x4_8_1 x4_8_2 (rdOf 0 l2 (Int.tmod x4_10_1 (l2.length : Int)))).bind fun bt10 => (if x4_11.length + bt10.2.2.2.1.length ≤ 3518437208883 then (spec_RunGroup.l0 k (x4_11 ++ bt10.2.2.2.1) x4_6_0 x4_6_1 x4_6_2 x4_6_3 bt10.1 bt10.2.1 bt10.2.2.1 x4_10_0 (wrap64 (x4_10_1 + 1)) (mx x4_10_2 bt10.2.2.2.2.1) x4_10_3 l2) else none)) else none) else none) else none) else ((spec_MergeGroups.f k x4_11).bind fun t16 => (some (t16, x4_10_1, x4_10_2, x4_8_1, true)))
def spec_RunGroup.f (k : Nat) (l0 : List S75) (a1 : Bool) (l2 : List Int) : Option ((List S49) × Int × Int × Int × Bool) := (spec_NewAggregator.f k l0 a1).bind fun bt1 => (if bt1.2.2.2 = true then ((spec_l14Grants.f k l2).bind fun t3 => (if t3 = true then (spec_RunGroup.l0 k [] [] 0 0 0 bt1.1 bt1.2.1 bt1.2.2.1 [] 0 0 0 l2) else (some ([], 0, 0, 0, false)))) else (some ([], 0, 0, 0, false)))
set_option maxHeartbeats 4000000 in
set_option maxRecDepth 100000 in
theorem spec_RunGroup.ok (k : Nat) (l0 : List S75) (Al0 : Option Addr) (cl0 : Nat) (a1 : Bool) (l2 : List Int) (Al2 : Option Addr) (cl2 : Nat) (r0 : List S49) (r1 : Int) (r2 : Int) (r3 : Int) (r4 : Bool) (H : spec_RunGroup.f k l0 a1 l2 = some (r0, r1, r2, r3, r4)) : Fn Try.prog 9 [.slice Al0 l0.length cl0, .bool a1, .slice Al2 l2.length cl2] [] [.sl 0 k75 Al0 cl0 l0 0 false, .sl 0 (.int .i64) Al2 cl2 l2 0 false] (fun v bx en => ∃ A0 c0, v = .tuple #[.agg #[.slice A0 r0.length c0, .int .i64 r1, .int .i64 r2, .int .i64 r3], .bool r4] ∧ bx = [] ∧ en = [.sl 2 k49 A0 c0 r0 1 true]) := by
 refine fn_ 71 Try.func9 rfl rfl rfl (fun base T w0 => ?_)
 rw [spec_RunGroup.f] at H
 refine gs (rg (so rfl (op_alloc (cs := [.slice none 0 0, .int .i64 0, .int .i64 0, .int .i64 0]) (by kernel_rfl) rfl fun b6 => (sv (EV.as rfl) rfl (re (gs (rg (sv (EV.mv rfl) rfl (sv (EV.mv rfl) rfl ?_)))))))))
 revert H; refine bdI ?_; rintro ⟨t1_0, t1_1, t1_2, t1_3⟩ A1 H
 refine so rfl (op_call (spec_NewAggregator.ok k l0 Al0 cl0 a1 _ _ _ _ A1) [⟨0, 0, 0, false⟩] 1 rfl rfl rfl rfl rfl ?_)
 rintro _ _ _ ⟨At1_0, ct1_0, rfl, rfl, rfl⟩
 refine sv (EV.mv rfl) rfl (sv (EV.ex rfl rfl) rfl (sv (EV.ex rfl rfl) rfl (so rfl (op_alloc (cs := [.slice none 0 0, .int .i64 0, .bool false]) (by kernel_rfl) rfl fun b8 => (so rfl (op_st (cs' := [.slice At1_0 t1_0.length ct1_0, .int .i64 t1_1, .bool t1_2]) 1 rfl rfl rfl rfl rfl rfl (sv (EV.as rfl) rfl (re (pr [2, 6, 8, 9] [0, 1] [1, 2] rfl rfl rfl rfl (gs (gs (rg (sv (EV.mv rfl) rfl (sv (EV.nt rfl) rfl (sv (EV.mv rfl) rfl ?_)))))))))))))))
 revert H; refine ifsI ?_ ?_ <;> intro c2 H
 ·
  subst c2
  refine ts 24 rfl rfl (sv (EV.mv rfl) rfl ?_)
  revert H; refine bdI ?_; rintro t3 A3 H
  refine so rfl (op_call (spec_l14Grants.ok k l2 Al2 cl2 _ A3) [⟨0, 0, 0, false⟩] 3 rfl rfl rfl rfl rfl ?_)
  rintro _ _ _ ⟨rfl, rfl, rfl⟩
  refine sv (EV.nt rfl) rfl (sv (EV.pf rfl rfl rfl) rfl (re (pr [2, 6, 8, 28] [0, 1] [0, 1] rfl rfl rfl rfl ?_)))
  revert H; refine ifsI ?_ ?_ <;> intro c4 H
  ·
   subst c4
   refine gf rfl rfl (gk (gs (rg (sv (EV.bd (v := .agg #[.slice none 0 0, .int .i64 0, .int .i64 0, .int .i64 0]) rfl (by kernel_rfl)) rfl (so rfl (op_alloc (cs := [.slice none 0 0, .int .i64 0, .int .i64 0, .int .i64 0]) (by kernel_rfl) rfl fun b10 => (so rfl (op_st (cs' := [.slice none 0 0, .int .i64 0, .int .i64 0, .int .i64 0]) 2 rfl rfl rfl rfl rfl rfl (re (gs (rg (so rfl (op_lit (s := 5) (by_ := 40) k49 ([] : List S49) [] [] 3 [] rfl rfl rfl rfl rfl rfl rfl rfl rfl rfl rfl rfl rfl dq rfl fun A31_5 c31_5 => (sv (EV.as rfl) rfl (re (gs (gb (nil_ k49 4 dq (nil_ k49 5 dq ?_)))))))))))))))))))
   refine lo (fun kk S => ∃ (x4_11 : List S49) (Ax4_11 : Option Addr) (cx4_11 : Nat) (x4_6_0 : List S49) (Ax4_6_0 : Option Addr) (cx4_6_0 : Nat) (x4_6_1 : Int) (x4_6_2 : Int) (x4_6_3 : Int) (x4_8_0 : List S64) (Ax4_8_0 : Option Addr) (cx4_8_0 : Nat) (x4_8_1 : Int) (x4_8_2 : Bool) (x4_10_0 : List S49) (Ax4_10_0 : Option Addr) (cx4_10_0 : Nat) (x4_10_1 : Int) (x4_10_2 : Int) (x4_10_3 : Int), spec_RunGroup.l0 kk x4_11 x4_6_0 x4_6_1 x4_6_2 x4_6_3 x4_8_0 x4_8_1 x4_8_2 x4_10_0 x4_10_1 x4_10_2 x4_10_3 l2 = some (r0, r1, r2, r3, r4) ∧ S = ⟨[(2, .slice Al2 l2.length cl2), (6, .pointer (some ⟨b6, 0, none⟩)), (8, .pointer (some ⟨b8, 0, none⟩)), (10, .pointer (some ⟨b10, 0, none⟩)), (11, .slice Ax4_11 x4_11.length cx4_11)], [⟨b6, 30, [.slice Ax4_6_0 x4_6_0.length cx4_6_0, .int .i64 x4_6_1, .int .i64 x4_6_2, .int .i64 x4_6_3]⟩, ⟨b8, 54, [.slice Ax4_8_0 x4_8_0.length cx4_8_0, .int .i64 x4_8_1, .bool x4_8_2]⟩, ⟨b10, 30, [.slice Ax4_10_0 x4_10_0.length cx4_10_0, .int .i64 x4_10_1, .int .i64 x4_10_2, .int .i64 x4_10_3]⟩], [.sl 2 k49 Ax4_11 cx4_11 x4_11 1 true, .sl 2 k49 Ax4_6_0 cx4_6_0 x4_6_0 2 true, .sl 1 k64 Ax4_8_0 cx4_8_0 x4_8_0 3 true, .sl 2 k49 Ax4_10_0 cx4_10_0 x4_10_0 4 true, .sl 0 (.int .i64) Al2 cl2 l2 0 false]⟩) (fun S hS => ?_) (fun n0 ih0 S hS => ?_) ⟨[], A31_5, c31_5, [], none, 0, 0, 0, 0, t1_0, At1_0, ct1_0, t1_1, t1_2, [], none, 0, 0, 0, 0, H, rfl⟩ (fun h => wk [2, 6, 8, 10, 11] [0, 1, 2] [⟨2, 2, 1, true⟩, ⟨3, 2, 2, true⟩, ⟨1, 1, 3, true⟩, ⟨4, 2, 4, true⟩, ⟨0, 0, 0, false⟩] h)
   · clear H; obtain ⟨_, _, _, _, _, _, _, _, _, _, _, _, _, _, _, _, _, _, _, _, H, _⟩ := hS; rw [spec_RunGroup.l0] at H; cases H
   clear H
   obtain ⟨x4_11, Ax4_11, cx4_11, x4_6_0, Ax4_6_0, cx4_6_0, x4_6_1, x4_6_2, x4_6_3, x4_8_0, Ax4_8_0, cx4_8_0, x4_8_1, x4_8_2, x4_10_0, Ax4_10_0, cx4_10_0, x4_10_1, x4_10_2, x4_10_3, H, rfl⟩ := hS
   rw [spec_RunGroup.l0] at H
   refine gs (gs (rg (sv (EV.fa 0 rfl) rfl (sv (EV.ld 1 none rfl rfl rfl) rfl (sv (EV.ln rfl) rfl (sv (EV.gtr rfl rfl) rfl (re ?_)))))))
   revert H; refine ifsI ?_ ?_ <;> intro c6 H
   ·
    refine gt rfl (dT c6) (gk (gb (gs ?_)))
    revert H; refine ggI ?_; intro g7 H
    refine dr [0, 1, 2] [0, 1, 2, 3, 4] [19] 20 rfl rfl rfl rfl (xv 0 [0, 1, 2] [0, 1, 2, 3, 4] rfl (EV.ld (v := .agg #[.slice Ax4_8_0 x4_8_0.length cx4_8_0, .int .i64 x4_8_1, .bool x4_8_2]) 1 (some 3) rfl rfl rfl) rfl rfl rfl rfl (xv 1 [0, 1, 2] [0, 1, 2, 3, 4] rfl (EV.mv rfl) rfl rfl rfl rfl (xv 2 [0, 1, 2] [0, 1, 2, 3, 4] rfl (EV.fa 1 rfl) rfl rfl rfl rfl (xv 3 [0, 1, 2] [0, 1, 2, 3, 4] rfl (EV.ld 2 none rfl rfl rfl) rfl rfl rfl rfl (xv 4 [0, 1, 2] [0, 1, 2, 3, 4] rfl (EV.mv rfl) rfl rfl rfl rfl (xv 5 [0, 1, 2] [0, 1, 2, 3, 4] rfl (EV.ln rfl) rfl rfl rfl rfl (xv 6 [0, 1, 2] [0, 1, 2, 3, 4] rfl (EV.rem rfl rfl g7) rfl rfl rfl rfl ?_)))))))
    revert H; refine ggI ?_; intro g8 H
    revert H; refine ggI ?_; intro g9 H
    refine xv 7 [0, 1, 2] [0, 1, 2, 3, 4] rfl (EV.ix 4 rfl rfl rfl g8 g9 rfl) rfl rfl rfl rfl (xv 8 [0, 1, 2] [0, 1, 2, 3, 4] rfl (EV.le (v := .int .i64 (rdOf 0 l2 (Int.tmod x4_10_1 (l2.length : Int)))) (Int.tmod x4_10_1 (l2.length : Int)) 0 none 4 0 rfl rfl rfl g8 g9 rfl rfl rfl) rfl rfl rfl rfl ?_)
    refine one2 9 15 rfl rfl rfl rfl ?_ ?_
    ·
     revert H; refine bdI ?_; rintro ⟨t10_0, t10_1, t10_2, t10_3, t10_4, t10_5⟩ A10 H
     refine op_call (spec_StepAggregator.ok n0 x4_8_0 Ax4_8_0 cx4_8_0 x4_8_1 x4_8_2 (rdOf 0 l2 (Int.tmod x4_10_1 (l2.length : Int))) _ _ _ _ _ _ A10) [⟨2, 0, 0, false⟩] 5 rfl rfl rfl rfl rfl ?_
     rintro _ _ _ ⟨At10_0, ct10_0, At10_3, ct10_3, rfl, rfl, rfl⟩
     refine xs [0, 1, 2] [0, 1, 2, 3, 4] rfl rfl rfl (xv 10 [0, 1, 2] [0, 1, 2, 3, 4] rfl (EV.mv rfl) rfl rfl rfl rfl (xv 11 [0, 1, 2] [0, 1, 2, 3, 4] rfl (EV.ex rfl rfl) rfl rfl rfl rfl (xv 12 [0, 1, 2] [0, 1, 2, 3, 4] rfl (EV.ex rfl rfl) rfl rfl rfl rfl (xv 13 [0, 1, 2] [0, 1, 2, 3, 4] rfl (EV.ex rfl rfl) rfl rfl rfl rfl (xv 14 [0, 1, 2] [0, 1, 2, 3, 4] rfl (EV.ex rfl rfl) rfl rfl rfl rfl (one1 15 rfl rfl (op_alloc (cs := [.slice none 0 0, .int .i64 0, .bool false]) (by kernel_rfl) rfl fun b12 => (xs [0, 1, 2] [0, 1, 2, 3, 4] rfl rfl rfl (one1 16 rfl rfl (op_st (cs' := [.slice At10_0 t10_0.length ct10_0, .int .i64 t10_1, .bool t10_2]) 3 rfl rfl rfl rfl rfl rfl (xs [0, 1, 2] [0, 1, 2, 3, 4] rfl rfl rfl (one1 17 rfl rfl (ov (EV.as rfl) rfl (xs [0, 1, 2] [0, 1, 2, 3, 4] rfl rfl rfl (one1 18 rfl rfl (ov (EV.as rfl) rfl (xs [0, 1, 2] [0, 1, 2, 3, 4] rfl rfl rfl (one1 19 rfl rfl (ov (EV.as rfl) rfl (xn rfl (xd (pr [2, 6, 8, 10, 11, 12, 13, 14] [0, 1, 2, 3] [0, 1, 2, 3, 4, 5, 6] rfl rfl rfl rfl (gs (rg (sv (EV.fa 1 rfl) rfl (sv (EV.ld 2 none rfl rfl rfl) rfl (sv (EV.add rfl rfl) rfl (sv (EV.fa 1 rfl) rfl (so rfl ?_)))))))))))))))))))))))))))))
     refine op_st (cs' := [.slice Ax4_10_0 x4_10_0.length cx4_10_0, .int .i64 (wrap64 (x4_10_1 + 1)), .int .i64 x4_10_2, .int .i64 x4_10_3]) 2 rfl rfl rfl rfl rfl rfl (re (gs (rg (sv (EV.fa 2 rfl) rfl (sv (EV.ld 2 none rfl rfl rfl) rfl (sv (EV.mv rfl) rfl (sv (EV.mx rfl rfl) rfl (sv (EV.fa 2 rfl) rfl (so rfl (op_st (cs' := [.slice Ax4_10_0 x4_10_0.length cx4_10_0, .int .i64 (wrap64 (x4_10_1 + 1)), .int .i64 (mx x4_10_2 t10_4), .int .i64 x4_10_3]) 2 rfl rfl rfl rfl rfl rfl (re (pr [2, 6, 8, 10, 11, 12, 13] [0, 1, 2, 3] [0, 1, 2, 3, 4, 5, 6] rfl rfl rfl rfl (gs (rg (sv (EV.mv rfl) rfl (sv (EV.mv rfl) rfl ?_))))))))))))))))
     revert H; refine ggI ?_; intro g11 H
     exact so rfl (op_app (k := k49) (s := 5) (by_ := 40) 0 6 rfl rfl rfl rfl (ap2 g11 dq) (ap2n g11 dq) (.inl rfl) true (fun _ => .inl rfl) rfl rfl fun A62_12 c62_12 => (nmE (en := [.sl 2 k49 Ax4_6_0 cx4_6_0 x4_6_0 2 true, .sl 1 k64 Ax4_8_0 cx4_8_0 x4_8_0 3 true, .sl 2 k49 Ax4_10_0 cx4_10_0 x4_10_0 4 true, .sl 0 (.int .i64) Al2 cl2 l2 0 false, .sl 1 k64 At10_0 ct10_0 t10_0 6 true, .sl 2 k49 At10_3 ct10_3 t10_3 7 true, .sl 2 k49 A62_12 c62_12 (x4_11 ++ t10_3) 1 true]) (by kernel_rfl) (sv (EV.as rfl) rfl (re (rg (sv (EV.ld (v := .agg #[.slice At10_0 t10_0.length ct10_0, .int .i64 t10_1, .bool t10_2]) 3 (some 3) rfl rfl rfl) rfl (so rfl (op_st (cs' := [.slice At10_0 t10_0.length ct10_0, .int .i64 t10_1, .bool t10_2]) 1 rfl rfl rfl rfl rfl rfl (re (pr [2, 6, 8, 10, 11] [0, 1, 2] [0, 2, 3, 4, 6] rfl rfl rfl rfl (ge (wk [2, 6, 8, 10, 11] [0, 1, 2] [⟨4, 2, 1, true⟩, ⟨0, 2, 2, true⟩, ⟨3, 1, 3, true⟩, ⟨1, 2, 4, true⟩, ⟨2, 0, 0, false⟩] (ih0 _ (by omega) _ ⟨x4_11 ++ t10_3, A62_12, c62_12, x4_6_0, Ax4_6_0, cx4_6_0, x4_6_1, x4_6_2, x4_6_3, t10_0, At10_0, ct10_0, t10_1, t10_2, x4_10_0, Ax4_10_0, cx4_10_0, wrap64 (x4_10_1 + 1), mx x4_10_2 t10_4, x4_10_3, H, rfl⟩)))))))))))))
    ·
     refine op_alloc (cs := [.slice none 0 0, .int .i64 0, .bool false]) (by kernel_rfl) rfl fun b12 => (xs [0, 1, 2] [0, 1, 2, 3, 4] rfl rfl rfl (one1 9 rfl rfl ?_))
     revert H; refine bdI ?_; rintro ⟨t13_0, t13_1, t13_2, t13_3, t13_4, t13_5⟩ A13 H
     refine op_call (spec_StepAggregator.ok n0 x4_8_0 Ax4_8_0 cx4_8_0 x4_8_1 x4_8_2 (rdOf 0 l2 (Int.tmod x4_10_1 (l2.length : Int))) _ _ _ _ _ _ A13) [⟨2, 0, 0, false⟩] 5 rfl rfl rfl rfl rfl ?_
     rintro _ _ _ ⟨At13_0, ct13_0, At13_3, ct13_3, rfl, rfl, rfl⟩
     refine xs [0, 1, 2] [0, 1, 2, 3, 4] rfl rfl rfl (xv 10 [0, 1, 2] [0, 1, 2, 3, 4] rfl (EV.mv rfl) rfl rfl rfl rfl (xv 11 [0, 1, 2] [0, 1, 2, 3, 4] rfl (EV.ex rfl rfl) rfl rfl rfl rfl (xv 12 [0, 1, 2] [0, 1, 2, 3, 4] rfl (EV.ex rfl rfl) rfl rfl rfl rfl (xv 13 [0, 1, 2] [0, 1, 2, 3, 4] rfl (EV.ex rfl rfl) rfl rfl rfl rfl (xv 14 [0, 1, 2] [0, 1, 2, 3, 4] rfl (EV.ex rfl rfl) rfl rfl rfl rfl (one1 16 rfl rfl (op_st (cs' := [.slice At13_0 t13_0.length ct13_0, .int .i64 t13_1, .bool t13_2]) 3 rfl rfl rfl rfl rfl rfl (xs [0, 1, 2] [0, 1, 2, 3, 4] rfl rfl rfl (one1 17 rfl rfl (ov (EV.as rfl) rfl (xs [0, 1, 2] [0, 1, 2, 3, 4] rfl rfl rfl (one1 18 rfl rfl (ov (EV.as rfl) rfl (xs [0, 1, 2] [0, 1, 2, 3, 4] rfl rfl rfl (one1 19 rfl rfl (ov (EV.as rfl) rfl (xn rfl (xd (pr [2, 6, 8, 10, 11, 12, 13, 14] [0, 1, 2, 3] [0, 1, 2, 3, 4, 5, 6] rfl rfl rfl rfl (gs (rg (sv (EV.fa 1 rfl) rfl (sv (EV.ld 2 none rfl rfl rfl) rfl (sv (EV.add rfl rfl) rfl (sv (EV.fa 1 rfl) rfl (so rfl (op_st (cs' := [.slice Ax4_10_0 x4_10_0.length cx4_10_0, .int .i64 (wrap64 (x4_10_1 + 1)), .int .i64 x4_10_2, .int .i64 x4_10_3]) 2 rfl rfl rfl rfl rfl rfl (re (gs ?_)))))))))))))))))))))))))))))
     refine rg (sv (EV.fa 2 rfl) rfl (sv (EV.ld 2 none rfl rfl rfl) rfl (sv (EV.mv rfl) rfl (sv (EV.mx rfl rfl) rfl (sv (EV.fa 2 rfl) rfl (so rfl (op_st (cs' := [.slice Ax4_10_0 x4_10_0.length cx4_10_0, .int .i64 (wrap64 (x4_10_1 + 1)), .int .i64 (mx x4_10_2 t13_4), .int .i64 x4_10_3]) 2 rfl rfl rfl rfl rfl rfl (re (pr [2, 6, 8, 10, 11, 12, 13] [0, 1, 2, 3] [0, 1, 2, 3, 4, 5, 6] rfl rfl rfl rfl (gs (rg (sv (EV.mv rfl) rfl (sv (EV.mv rfl) rfl ?_)))))))))))))
     revert H; refine ggI ?_; intro g14 H
     exact so rfl (op_app (k := k49) (s := 5) (by_ := 40) 0 6 rfl rfl rfl rfl (ap2 g14 dq) (ap2n g14 dq) (.inl rfl) true (fun _ => .inl rfl) rfl rfl fun A62_15 c62_15 => (nmE (en := [.sl 2 k49 Ax4_6_0 cx4_6_0 x4_6_0 2 true, .sl 1 k64 Ax4_8_0 cx4_8_0 x4_8_0 3 true, .sl 2 k49 Ax4_10_0 cx4_10_0 x4_10_0 4 true, .sl 0 (.int .i64) Al2 cl2 l2 0 false, .sl 1 k64 At13_0 ct13_0 t13_0 6 true, .sl 2 k49 At13_3 ct13_3 t13_3 7 true, .sl 2 k49 A62_15 c62_15 (x4_11 ++ t13_3) 1 true]) (by kernel_rfl) (sv (EV.as rfl) rfl (re (rg (sv (EV.ld (v := .agg #[.slice At13_0 t13_0.length ct13_0, .int .i64 t13_1, .bool t13_2]) 3 (some 3) rfl rfl rfl) rfl (so rfl (op_st (cs' := [.slice At13_0 t13_0.length ct13_0, .int .i64 t13_1, .bool t13_2]) 1 rfl rfl rfl rfl rfl rfl (re (pr [2, 6, 8, 10, 11] [0, 1, 2] [0, 2, 3, 4, 6] rfl rfl rfl rfl (ge (wk [2, 6, 8, 10, 11] [0, 1, 2] [⟨4, 2, 1, true⟩, ⟨0, 2, 2, true⟩, ⟨3, 1, 3, true⟩, ⟨1, 2, 4, true⟩, ⟨2, 0, 0, false⟩] (ih0 _ (by omega) _ ⟨x4_11 ++ t13_3, A62_15, c62_15, x4_6_0, Ax4_6_0, cx4_6_0, x4_6_1, x4_6_2, x4_6_3, t13_0, At13_0, ct13_0, t13_1, t13_2, x4_10_0, Ax4_10_0, cx4_10_0, wrap64 (x4_10_1 + 1), mx x4_10_2 t13_4, x4_10_3, H, rfl⟩)))))))))))))
   ·
    refine gf rfl (dF c6) (gx rfl (gs (rg (sv (EV.mv rfl) rfl ?_))))
    revert H; refine bdI ?_; rintro t16 A16 H
    refine so rfl (op_call (spec_MergeGroups.ok n0 x4_11 Ax4_11 cx4_11 _ A16) [⟨0, 0, 0, false⟩] 5 rfl rfl rfl rfl rfl ?_)
    rintro _ _ _ ⟨At16, ct16, rfl, rfl, rfl⟩
    refine sv (EV.fa 0 rfl) rfl (so rfl (op_st (cs' := [.slice At16 t16.length ct16, .int .i64 x4_10_1, .int .i64 x4_10_2, .int .i64 x4_10_3]) 2 rfl rfl rfl rfl rfl rfl (re (pr [6, 8, 10] [0, 1, 2] [1, 2, 5] rfl rfl rfl rfl (gs (rg (sv (EV.fa 1 rfl) rfl (sv (EV.ld 1 none rfl rfl rfl) rfl (sv (EV.fa 3 rfl) rfl (so rfl (op_st (cs' := [.slice At16 t16.length ct16, .int .i64 x4_10_1, .int .i64 x4_10_2, .int .i64 x4_8_1]) 2 rfl rfl rfl rfl rfl rfl (re (gs (rg (sv (EV.ld (v := .agg #[.slice At16 t16.length ct16, .int .i64 x4_10_1, .int .i64 x4_10_2, .int .i64 x4_8_1]) 2 (some 4) rfl rfl rfl) rfl (so rfl (op_st (cs' := [.slice At16 t16.length ct16, .int .i64 x4_10_1, .int .i64 x4_10_2, .int .i64 x4_8_1]) 0 rfl rfl rfl rfl rfl rfl (sv (EV.as rfl) rfl (re (pr [6, 7] [0] [2] rfl rfl rfl rfl ?_))))))))))))))))))))
    cases H
    exact rt Try.func9 rfl (.cell 0 (some 4) rfl rfl rfl (.tmp rfl .nil)) rfl [] [⟨0, 2, 1, true⟩] rfl rfl rfl rfl rfl ⟨_, _, rfl, rfl, rfl⟩
  ·
   obtain rfl := bF c4
   refine gt rfl rfl (gs (rg (sv (EV.bd (v := .agg #[.slice none 0 0, .int .i64 0, .int .i64 0, .int .i64 0]) rfl (by kernel_rfl)) rfl (so rfl (op_st (cs' := [.slice none 0 0, .int .i64 0, .int .i64 0, .int .i64 0]) 0 rfl rfl rfl rfl rfl rfl (sv (EV.as rfl) rfl (re (nil_ k49 3 dq ?_))))))))
   cases H
   exact rt Try.func9 rfl (.cell 0 (some 4) rfl rfl rfl (.tmp rfl .nil)) rfl [] [⟨2, 2, 1, true⟩] rfl rfl rfl rfl rfl ⟨_, _, rfl, rfl, rfl⟩
 ·
  obtain rfl := bF c2
  refine ts 24 rfl rfl (sk rfl (sk rfl (sk rfl (sv (EV.pt rfl rfl rfl) rfl (re (pr [2, 6, 8, 28] [0, 1] [0, 1] rfl rfl rfl rfl (gt rfl rfl (gs (rg (sv (EV.bd (v := .agg #[.slice none 0 0, .int .i64 0, .int .i64 0, .int .i64 0]) rfl (by kernel_rfl)) rfl (so rfl (op_st (cs' := [.slice none 0 0, .int .i64 0, .int .i64 0, .int .i64 0]) 0 rfl rfl rfl rfl rfl rfl (sv (EV.as rfl) rfl (re (nil_ k49 3 dq ?_)))))))))))))))
  cases H
  exact rt Try.func9 rfl (.cell 0 (some 4) rfl rfl rfl (.tmp rfl .nil)) rfl [] [⟨2, 2, 1, true⟩] rfl rfl rfl rfl rfl ⟨_, _, rfl, rfl, rfl⟩
end Go.Proofs.Ytgpencaijhbolaa.K
