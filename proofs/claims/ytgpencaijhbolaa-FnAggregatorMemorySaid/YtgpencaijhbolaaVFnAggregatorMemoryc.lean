/- Walks: what the functions compute. Printed by gen.py; no condition. -/
import Derived.Test.YtgpencaijhbolaaVFnAggregatorMemoryb
namespace Go.Proofs.Ytgpencaijhbolaa.K
open Go Go.RowKit
set_option linter.unusedVariables false
set_option linter.unusedSimpArgs false
def impl_IsValidAggregator.l0 : Nat → Int → Int → Int → Int → Bool → (List S64) → Option (Bool)
 | 0, _, _, _, _, _, _ => none
 | k + 1, x2_3, x2_8, x2_9, x2_1_1, x2_1_2, l0_0 => if x2_9 < x2_8 then (if 0 ≤ x2_9 then (if x2_9 < (l0_0.length : Int) then ((impl_AreValidRows.f k ((rd_T64 l0_0 x2_9).f0)).bind fun t5 => (if t5 = true then ((impl_within.f ((rd_T64 l0_0 x2_9).f1) 0 4).bind fun t7 => (if t7 = true then (impl_IsValidAggregator.l0 k (wrap64 (x2_3 + (((rd_T64 l0_0 x2_9).f0).length : Int))) x2_8 (wrap64 (x2_9 + 1)) x2_1_1 x2_1_2 l0_0) else (some false))) else (some false))) else none) else none) else (if (l0_0.length : Int) ≤ 40 then (if x2_3 ≤ 24 then ((impl_within.f x2_1_1 0 100000).bind fun t11 => (some t11)) else (some false)) else (some false))
def impl_IsValidAggregator.f (k : Nat) (l0_0 : List S64) (a0_1 : Int) (a0_2 : Bool) : Option (Bool) := impl_IsValidAggregator.l0 k 0 (l0_0.length : Int) 0 a0_1 a0_2 l0_0
set_option maxHeartbeats 4000000 in
set_option maxRecDepth 100000 in
theorem impl_IsValidAggregator.ok (k : Nat) (l0_0 : List S64) (Al0_0 : Option Addr) (cl0_0 : Nat) (a0_1 : Int) (a0_2 : Bool) (r0 : Bool) (H : impl_IsValidAggregator.f k l0_0 a0_1 a0_2 = some r0) : Fn Try.prog 38 [.agg #[.slice Al0_0 l0_0.length cl0_0, .int .i64 a0_1, .bool a0_2]] [] [.sl 0 k64 Al0_0 cl0_0 l0_0 0 false] (fun v bx en => v = .bool r0 ∧ bx = [] ∧ en = []) := by
 refine fn_ 42 Try.func38 rfl rfl rfl (fun base T w0 => ?_)
 rw [impl_IsValidAggregator.f] at H
 refine gs (rg (so rfl (op_box (cs := [.slice Al0_0 l0_0.length cl0_0, .int .i64 a0_1, .bool a0_2]) rfl rfl rfl fun b1 => (sv (EV.as rfl) rfl (re (gs (rg (sv (EV.as rfl) rfl (re (gs (gs (rg (sv (EV.fa 0 rfl) rfl (sv (EV.ld 0 none rfl rfl rfl) rfl (sv (EV.ln rfl) rfl (sv (EV.mv rfl) rfl (re (gb ?_))))))))))))))))))
 refine lo (fun kk S => ∃ (x2_3 : Int) (x2_8 : Int) (x2_9 : Int) (x2_1_1 : Int) (x2_1_2 : Bool), impl_IsValidAggregator.l0 kk x2_3 x2_8 x2_9 x2_1_1 x2_1_2 l0_0 = some r0 ∧ S = ⟨[(1, .pointer (some ⟨b1, 0, none⟩)), (3, .int .i64 x2_3), (7, .slice Al0_0 l0_0.length cl0_0), (8, .int .i64 x2_8), (9, .int .i64 x2_9)], [⟨b1, 54, [.slice Al0_0 l0_0.length cl0_0, .int .i64 x2_1_1, .bool x2_1_2]⟩], [.sl 0 k64 Al0_0 cl0_0 l0_0 0 false]⟩) (fun S hS => ?_) (fun n0 ih0 S hS => ?_) ⟨0, (l0_0.length : Int), 0, a0_1, a0_2, H, rfl⟩ (fun h => wk [1, 3, 7, 8, 9] [0] [⟨0, 0, 0, false⟩] h)
 · clear H; obtain ⟨_, _, _, _, _, H, _⟩ := hS; rw [impl_IsValidAggregator.l0] at H; cases H
 clear H
 obtain ⟨x2_3, x2_8, x2_9, x2_1_1, x2_1_2, H, rfl⟩ := hS
 rw [impl_IsValidAggregator.l0] at H
 refine gs (rg (sv (EV.lss rfl rfl) rfl (re (gs ?_))))
 revert H; refine ifsI ?_ ?_ <;> intro c1 H
 ·
  refine gt rfl (dT c1) (gk (gs (gb (gs (rg ?_)))))
  revert H; refine ggI ?_; intro g2 H
  revert H; refine ggI ?_; intro g3 H
  refine sv (EV.ix 0 rfl rfl rfl g2 g3 rfl) rfl (opn (i := x2_9) 0 z64 rfl g2 g3 fun A_4 c_4 => (sv (EV.lc (v := .agg #[.slice A_4 ((rd_T64 l0_0 x2_9).f0).length c_4, .int .i64 ((rd_T64 l0_0 x2_9).f1)]) 0 (some 2) 1 rfl rfl rfl rfl) rfl (so rfl (op_alloc (cs := [.slice none 0 0, .int .i64 0]) (by kernel_rfl) rfl fun b5 => (so rfl (op_st (cs' := [.slice A_4 ((rd_T64 l0_0 x2_9).f0).length c_4, .int .i64 ((rd_T64 l0_0 x2_9).f1)]) 1 rfl rfl rfl rfl rfl rfl (re (gs (gs (rg (sv (EV.fa 0 rfl) rfl (sv (EV.ld 1 none rfl rfl rfl) rfl ?_))))))))))))
  revert H; refine bdI ?_; rintro t5 A5 H
  refine so rfl (op_call (impl_AreValidRows.ok n0 ((rd_T64 l0_0 x2_9).f0) A_4 c_4 _ A5) [⟨2, 0, 0, false⟩] 1 rfl rfl rfl rfl rfl ?_)
  rintro _ _ _ ⟨rfl, rfl, rfl⟩
  refine sv (EV.nt rfl) rfl (sv (EV.mv rfl) rfl ?_)
  revert H; refine ifsI ?_ ?_ <;> intro c6 H
  ·
   subst c6
   refine ts 17 rfl rfl (sv (EV.fa 1 rfl) rfl (sv (EV.ld 1 none rfl rfl rfl) rfl ?_))
   revert H; refine bdI ?_; rintro t7 A7 H
   refine so rfl (op_call (impl_within.ok ((rd_T64 l0_0 x2_9).f1) 0 4 _ A7) [] 1 rfl rfl rfl rfl rfl ?_)
   rintro _ _ _ ⟨rfl, rfl, rfl⟩
   refine sv (EV.nt rfl) rfl (sv (EV.pf rfl rfl rfl) rfl (re (pr [1, 3, 5, 7, 8, 9, 18, 19, 20, 21, 22] [0, 1] [0, 1, 2] rfl rfl rfl rfl ?_)))
   revert H; refine ifsI ?_ ?_ <;> intro c8 H
   ·
    subst c8
    exact gf rfl rfl (gk (rg (sv (EV.mv rfl) rfl (sv (EV.fa 0 rfl) rfl (sv (EV.ld 1 none rfl rfl rfl) rfl (sv (EV.ln rfl) rfl (sv (EV.add rfl rfl) rfl (sv (EV.as rfl) rfl (re (pr [1, 3, 7, 8, 9, 18, 19, 20, 21] [0, 1] [0, 1, 2] rfl rfl rfl rfl (ge (rg (sv (EV.add rfl rfl) rfl (sv (EV.mv rfl) rfl (re (wk [1, 3, 7, 8, 9] [0] [⟨0, 0, 0, false⟩] (ih0 _ (by omega) _ ⟨wrap64 (x2_3 + (((rd_T64 l0_0 x2_9).f0).length : Int)), x2_8, wrap64 (x2_9 + 1), x2_1_1, x2_1_2, H, rfl⟩)))))))))))))))))
   ·
    obtain rfl := bF c8
    refine gt rfl rfl (gs (rg (sv (EV.as rfl) rfl (re (pr [2] [] [] rfl rfl rfl rfl ?_)))))
    cases H
    exact rt Try.func38 rfl (.tmp rfl .nil) rfl [] [] rfl rfl rfl rfl rfl ⟨rfl, rfl, rfl⟩
  ·
   obtain rfl := bF c6
   refine ts 17 rfl rfl (sk rfl (sk rfl (sk rfl (sk rfl (sv (EV.pt rfl rfl rfl) rfl (re (pr [1, 3, 5, 7, 8, 9, 22] [0, 1] [0, 1, 2] rfl rfl rfl rfl (gt rfl rfl (gs (rg (sv (EV.as rfl) rfl (re (pr [2] [] [] rfl rfl rfl rfl ?_)))))))))))))
   cases H
   exact rt Try.func38 rfl (.tmp rfl .nil) rfl [] [] rfl rfl rfl rfl rfl ⟨rfl, rfl, rfl⟩
 ·
  refine gf rfl (dF c1) (gx rfl (gs (rg (sv (EV.fa 0 rfl) rfl (sv (EV.ld 0 none rfl rfl rfl) rfl (sv (EV.ln rfl) rfl (sv (EV.leq rfl rfl) rfl (sv (EV.mv rfl) rfl ?_))))))))
  revert H; refine ifsI ?_ ?_ <;> intro c9 H
  ·
   refine ts 33 rfl (dT c9) (sv (EV.mv rfl) rfl (sv (EV.leq rfl rfl) rfl (sv (EV.pt rfl rfl rfl) rfl (sv (EV.mv rfl) rfl ?_))))
   revert H; refine ifsI ?_ ?_ <;> intro c10 H
   ·
    refine ts 37 rfl (dT c10) (sv (EV.fa 1 rfl) rfl (sv (EV.ld 0 none rfl rfl rfl) rfl ?_))
    revert H; refine bdI ?_; rintro t11 A11 H
    refine so rfl (op_call (impl_within.ok x2_1_1 0 100000 _ A11) [] 1 rfl rfl rfl rfl rfl ?_)
    rintro _ _ _ ⟨rfl, rfl, rfl⟩
    refine sv (EV.pt rfl rfl rfl) rfl (sv (EV.as rfl) rfl (re (pr [2] [] [] rfl rfl rfl rfl ?_)))
    cases H
    exact rt Try.func38 rfl (.tmp rfl .nil) rfl [] [] rfl rfl rfl rfl rfl ⟨rfl, rfl, rfl⟩
   ·
    refine ts 37 rfl (dF c10) (sk rfl (sk rfl (sk rfl (sv (EV.pf rfl rfl rfl) rfl (sv (EV.as rfl) rfl (re (pr [2] [] [] rfl rfl rfl rfl ?_)))))))
    cases H
    exact rt Try.func38 rfl (.tmp rfl .nil) rfl [] [] rfl rfl rfl rfl rfl ⟨rfl, rfl, rfl⟩
  ·
   refine ts 33 rfl (dF c9) (sk rfl (sk rfl (sv (EV.pf rfl rfl rfl) rfl (sv (EV.mv rfl) rfl (sk rfl (sk rfl (sk rfl (sv (EV.pf rfl rfl rfl) rfl (sv (EV.as rfl) rfl (re (pr [2] [] [] rfl rfl rfl rfl ?_)))))))))))
   cases H
   exact rt Try.func38 rfl (.tmp rfl .nil) rfl [] [] rfl rfl rfl rfl rfl ⟨rfl, rfl, rfl⟩
def impl_RowCost.f (a0_0 : Int) (a0_1 : Int) (a0_2 : Int) : Option (Int) := (impl_IsValidRow.f a0_0 a0_1 a0_2).bind fun t1 => (if t1 = true then (some (wrap64 (1 + a0_2))) else (some 0))
set_option maxHeartbeats 4000000 in
set_option maxRecDepth 100000 in
theorem impl_RowCost.ok (a0_0 : Int) (a0_1 : Int) (a0_2 : Int) (r0 : Int) (H : impl_RowCost.f a0_0 a0_1 a0_2 = some r0) : Fn Try.prog 86 [.agg #[.int .i64 a0_0, .int .i64 a0_1, .int .i64 a0_2]] [] [] (fun v bx en => v = .int .i64 r0 ∧ bx = [] ∧ en = []) := by
 refine fn_ 9 Try.func86 rfl rfl rfl (fun base T w0 => ?_)
 rw [impl_RowCost.f] at H
 refine gs (rg (so rfl (op_box (cs := [.int .i64 a0_0, .int .i64 a0_1, .int .i64 a0_2]) rfl rfl rfl fun b1 => (sv (EV.as rfl) rfl (re (gs (gs (rg (sv (EV.ld (v := .agg #[.int .i64 a0_0, .int .i64 a0_1, .int .i64 a0_2]) 0 (some 3) rfl rfl rfl) rfl ?_)))))))))
 revert H; refine bdI ?_; rintro t1 A1 H
 refine so rfl (op_call (impl_IsValidRow.ok a0_0 a0_1 a0_2 _ A1) [] 1 rfl rfl rfl rfl rfl ?_)
 rintro _ _ _ ⟨rfl, rfl, rfl⟩
 refine sv (EV.nt rfl) rfl (re ?_)
 revert H; refine ifsI ?_ ?_ <;> intro c2 H
 ·
  subst c2
  refine gf rfl rfl (gk (gs (rg (sv (EV.fa 2 rfl) rfl (sv (EV.ld 0 none rfl rfl rfl) rfl (sv (EV.add rfl rfl) rfl (sv (EV.as rfl) rfl (re (pr [2] [] [] rfl rfl rfl rfl ?_)))))))))
  cases H
  exact rt Try.func86 rfl (.tmp rfl .nil) rfl [] [] rfl rfl rfl rfl rfl ⟨rfl, rfl, rfl⟩
 ·
  obtain rfl := bF c2
  refine gt rfl rfl (gs (rg (sv (EV.as rfl) rfl (re ?_))))
  cases H
  exact rt Try.func86 rfl (.tmp rfl .nil) rfl [] [] rfl rfl rfl rfl rfl ⟨rfl, rfl, rfl⟩
def impl_TotalCost.l0 : Nat → Int → Int → Int → (List S75) → Option (Int)
 | 0, _, _, _, _ => none
 | k + 1, x2_3, x2_7, x2_8, l0 => if x2_8 < x2_7 then (if 0 ≤ x2_8 then (if x2_8 < (l0.length : Int) then ((impl_RowCost.f ((rd_T75 l0 x2_8).f0) ((rd_T75 l0 x2_8).f1) ((rd_T75 l0 x2_8).f2)).bind fun t4 => (impl_TotalCost.l0 k (wrap64 (x2_3 + t4)) x2_7 (wrap64 (x2_8 + 1)) l0)) else none) else none) else (some x2_3)
def impl_TotalCost.f (k : Nat) (l0 : List S75) : Option (Int) := impl_TotalCost.l0 k 0 (l0.length : Int) 0 l0
set_option maxHeartbeats 4000000 in
set_option maxRecDepth 100000 in
theorem impl_TotalCost.ok (k : Nat) (l0 : List S75) (Al0 : Option Addr) (cl0 : Nat) (r0 : Int) (H : impl_TotalCost.f k l0 = some r0) : Fn Try.prog 55 [.slice Al0 l0.length cl0] [] [.sl 0 k75 Al0 cl0 l0 0 false] (fun v bx en => v = .int .i64 r0 ∧ bx = [] ∧ en = []) := by
 refine fn_ 18 Try.func55 rfl rfl rfl (fun base T w0 => ?_)
 rw [impl_TotalCost.f] at H
 refine gs (rg (sv (EV.as rfl) rfl (re (gs (rg (sv (EV.as rfl) rfl (re (gs (gs (rg (sv (EV.mv rfl) rfl (sv (EV.ln rfl) rfl (sv (EV.mv rfl) rfl (re (gb ?_)))))))))))))))
 refine lo (fun kk S => ∃ (x2_3 : Int) (x2_7 : Int) (x2_8 : Int), impl_TotalCost.l0 kk x2_3 x2_7 x2_8 l0 = some r0 ∧ S = ⟨[(3, .int .i64 x2_3), (6, .slice Al0 l0.length cl0), (7, .int .i64 x2_7), (8, .int .i64 x2_8)], [], [.sl 0 k75 Al0 cl0 l0 0 false]⟩) (fun S hS => ?_) (fun n0 ih0 S hS => ?_) ⟨0, (l0.length : Int), 0, H, rfl⟩ (fun h => wk [3, 6, 7, 8] [] [⟨0, 0, 0, false⟩] h)
 · clear H; obtain ⟨_, _, _, H, _⟩ := hS; rw [impl_TotalCost.l0] at H; cases H
 clear H
 obtain ⟨x2_3, x2_7, x2_8, H, rfl⟩ := hS
 rw [impl_TotalCost.l0] at H
 refine gs (rg (sv (EV.lss rfl rfl) rfl (re (gs ?_))))
 revert H; refine ifsI ?_ ?_ <;> intro c1 H
 ·
  refine gt rfl (dT c1) (gk (gs (gb (gs (rg ?_)))))
  revert H; refine ggI ?_; intro g2 H
  revert H; refine ggI ?_; intro g3 H
  refine sv (EV.ix 0 rfl rfl rfl g2 g3 rfl) rfl (sv (EV.le (v := .agg #[.int .i64 ((rd_T75 l0 x2_8).f0), .int .i64 ((rd_T75 l0 x2_8).f1), .int .i64 ((rd_T75 l0 x2_8).f2)]) x2_8 0 (some 3) 0 z75 rfl rfl rfl g2 g3 rfl rfl rfl) rfl (so rfl (op_alloc (cs := [.int .i64 0, .int .i64 0, .int .i64 0]) (by kernel_rfl) rfl fun b5 => (so rfl (op_st (cs' := [.int .i64 ((rd_T75 l0 x2_8).f0), .int .i64 ((rd_T75 l0 x2_8).f1), .int .i64 ((rd_T75 l0 x2_8).f2)]) 0 rfl rfl rfl rfl rfl rfl (re (rg (sv (EV.mv rfl) rfl (sv (EV.ld (v := .agg #[.int .i64 ((rd_T75 l0 x2_8).f0), .int .i64 ((rd_T75 l0 x2_8).f1), .int .i64 ((rd_T75 l0 x2_8).f2)]) 0 (some 3) rfl rfl rfl) rfl ?_)))))))))
  revert H; refine bdI ?_; rintro t4 A4 H
  refine so rfl (op_call (impl_RowCost.ok ((rd_T75 l0 x2_8).f0) ((rd_T75 l0 x2_8).f1) ((rd_T75 l0 x2_8).f2) _ A4) [] 1 rfl rfl rfl rfl rfl ?_)
  rintro _ _ _ ⟨rfl, rfl, rfl⟩
  exact sv (EV.add rfl rfl) rfl (sv (EV.as rfl) rfl (re (pr [3, 6, 7, 8] [] [0] rfl rfl rfl rfl (ge (rg (sv (EV.add rfl rfl) rfl (sv (EV.mv rfl) rfl (re (wk [3, 6, 7, 8] [] [⟨0, 0, 0, false⟩] (ih0 _ (by omega) _ ⟨wrap64 (x2_3 + t4), x2_7, wrap64 (x2_8 + 1), H, rfl⟩))))))))))
 ·
  refine gf rfl (dF c1) (gx rfl (gs (rg (sv (EV.mv rfl) rfl (sv (EV.as rfl) rfl (re (pr [2] [] [] rfl rfl rfl rfl ?_)))))))
  cases H
  exact rt Try.func55 rfl (.tmp rfl .nil) rfl [] [] rfl rfl rfl rfl rfl ⟨rfl, rfl, rfl⟩
def impl_clone.f (l0 : List S75) : Option ((List S75)) := if l0.length ≤ 5864062014805 then (some l0) else none
set_option maxHeartbeats 4000000 in
set_option maxRecDepth 100000 in
theorem impl_clone.ok (l0 : List S75) (Al0 : Option Addr) (cl0 : Nat) (r0 : List S75) (H : impl_clone.f l0 = some r0) : Fn Try.prog 80 [.slice Al0 l0.length cl0] [] [.sl 0 k75 Al0 cl0 l0 0 false] (fun v bx en => ∃ A0 c0, v = .slice A0 r0.length c0 ∧ bx = [] ∧ en = [.sl 2 k75 A0 c0 r0 1 true]) := by
 refine fn_ 5 Try.func80 rfl rfl rfl (fun base T w0 => ?_)
 rw [impl_clone.f] at H
 refine gs (rg (sv (EV.as rfl) rfl (re (gs (rg (sv (EV.mv rfl) rfl (nil_ k75 1 dq ?_)))))))
 revert H; refine ggI ?_; intro g1 H
 refine so rfl (op_app (k := k75) (s := 3) (by_ := 24) 1 0 rfl rfl rfl rfl (ap0 g1 dq) (ap0n g1 dq) (.inl rfl) true (fun _ => .inl rfl) rfl rfl fun A4_2 c4_2 => (nmE (en := [.sl 0 k75 Al0 cl0 l0 0 false, .sl 2 k75 A4_2 c4_2 l0 1 true]) (by kernel_rfl) (sv (EV.as rfl) rfl (re ?_))))
 cases H
 exact rt Try.func80 rfl (.tmp rfl .nil) rfl [] [⟨1, 2, 1, true⟩] rfl rfl rfl rfl rfl ⟨_, _, rfl, rfl, rfl⟩
def impl_cloneAggregator.l0 : Nat → (List S64) → Int → Int → Int → Bool → (List S64) → Int → Bool → (List S64) → Option ((List S64) × Int × Bool)
 | 0, _, _, _, _, _, _, _, _, _ => none
 | k + 1, x2_3, x2_8, x2_9, x2_1_1, x2_1_2, x2_2_0, x2_2_1, x2_2_2, l0_0 => if x2_9 < x2_8 then (if 0 ≤ x2_9 then (if x2_9 < (l0_0.length : Int) then (if x2_3.length < 4398046511104 then ((impl_clone.f ((rd_T64 l0_0 x2_9).f0)).bind fun t6 => (impl_cloneAggregator.l0 k (x2_3 ++ ([(⟨t6, (rd_T64 l0_0 x2_9).f1⟩ : S64)] : List S64)) x2_8 (wrap64 (x2_9 + 1)) x2_1_1 x2_1_2 x2_2_0 x2_2_1 x2_2_2 l0_0)) else none) else none) else none) else (some (x2_3, x2_1_1, x2_1_2))
def impl_cloneAggregator.f (k : Nat) (l0_0 : List S64) (a0_1 : Int) (a0_2 : Bool) : Option ((List S64) × Int × Bool) := impl_cloneAggregator.l0 k [] (l0_0.length : Int) 0 a0_1 a0_2 [] 0 false l0_0
set_option maxHeartbeats 4000000 in
set_option maxRecDepth 100000 in
theorem impl_cloneAggregator.ok (k : Nat) (l0_0 : List S64) (Al0_0 : Option Addr) (cl0_0 : Nat) (a0_1 : Int) (a0_2 : Bool) (r0 : List S64) (r1 : Int) (r2 : Bool) (H : impl_cloneAggregator.f k l0_0 a0_1 a0_2 = some (r0, r1, r2)) : Fn Try.prog 67 [.agg #[.slice Al0_0 l0_0.length cl0_0, .int .i64 a0_1, .bool a0_2]] [] [.sl 0 k64 Al0_0 cl0_0 l0_0 0 false] (fun v bx en => ∃ A0 c0, v = .agg #[.slice A0 r0.length c0, .int .i64 r1, .bool r2] ∧ bx = [] ∧ en = [.sl 2 k64 A0 c0 r0 1 true]) := by
 refine fn_ 26 Try.func67 rfl rfl rfl (fun base T w0 => ?_)
 rw [impl_cloneAggregator.f] at H
 refine gs (rg (so rfl (op_box (cs := [.slice Al0_0 l0_0.length cl0_0, .int .i64 a0_1, .bool a0_2]) rfl rfl rfl fun b1 => (so rfl (op_alloc (cs := [.slice none 0 0, .int .i64 0, .bool false]) (by kernel_rfl) rfl fun b2 => (re (gs (rg (sv (EV.as rfl) rfl (re (gs (gs (rg (sv (EV.fa 0 rfl) rfl (sv (EV.ld 0 none rfl rfl rfl) rfl (sv (EV.ln rfl) rfl (sv (EV.mv rfl) rfl (re (gb (nil_ k64 1 dq (nil_ k64 2 dq ?_)))))))))))))))))))))
 refine lo (fun kk S => ∃ (x2_3 : List S64) (Ax2_3 : Option Addr) (cx2_3 : Nat) (x2_8 : Int) (x2_9 : Int) (x2_1_1 : Int) (x2_1_2 : Bool) (x2_2_0 : List S64) (Ax2_2_0 : Option Addr) (cx2_2_0 : Nat) (x2_2_1 : Int) (x2_2_2 : Bool), impl_cloneAggregator.l0 kk x2_3 x2_8 x2_9 x2_1_1 x2_1_2 x2_2_0 x2_2_1 x2_2_2 l0_0 = some (r0, r1, r2) ∧ S = ⟨[(1, .pointer (some ⟨b1, 0, none⟩)), (2, .pointer (some ⟨b2, 0, none⟩)), (3, .slice Ax2_3 x2_3.length cx2_3), (7, .slice Al0_0 l0_0.length cl0_0), (8, .int .i64 x2_8), (9, .int .i64 x2_9)], [⟨b1, 54, [.slice Al0_0 l0_0.length cl0_0, .int .i64 x2_1_1, .bool x2_1_2]⟩, ⟨b2, 54, [.slice Ax2_2_0 x2_2_0.length cx2_2_0, .int .i64 x2_2_1, .bool x2_2_2]⟩], [.sl 2 k64 Ax2_3 cx2_3 x2_3 1 true, .sl 2 k64 Ax2_2_0 cx2_2_0 x2_2_0 2 true, .sl 0 k64 Al0_0 cl0_0 l0_0 0 false]⟩) (fun S hS => ?_) (fun n0 ih0 S hS => ?_) ⟨[], none, 0, (l0_0.length : Int), 0, a0_1, a0_2, [], none, 0, 0, false, H, rfl⟩ (fun h => wk [1, 2, 3, 7, 8, 9] [0, 1] [⟨1, 2, 1, true⟩, ⟨2, 2, 2, true⟩, ⟨0, 0, 0, false⟩] h)
 · clear H; obtain ⟨_, _, _, _, _, _, _, _, _, _, _, _, H, _⟩ := hS; rw [impl_cloneAggregator.l0] at H; cases H
 clear H
 obtain ⟨x2_3, Ax2_3, cx2_3, x2_8, x2_9, x2_1_1, x2_1_2, x2_2_0, Ax2_2_0, cx2_2_0, x2_2_1, x2_2_2, H, rfl⟩ := hS
 rw [impl_cloneAggregator.l0] at H
 refine gs (rg (sv (EV.lss rfl rfl) rfl (re (gs ?_))))
 revert H; refine ifsI ?_ ?_ <;> intro c1 H
 ·
  refine gt rfl (dT c1) (gk (gs (gb (gs (rg ?_)))))
  revert H; refine ggI ?_; intro g2 H
  revert H; refine ggI ?_; intro g3 H
  refine sv (EV.ix 2 rfl rfl rfl g2 g3 rfl) rfl (opn (i := x2_9) 2 z64 rfl g2 g3 fun A_4 c_4 => (sv (EV.lc (v := .agg #[.slice A_4 ((rd_T64 l0_0 x2_9).f0).length c_4, .int .i64 ((rd_T64 l0_0 x2_9).f1)]) 0 (some 2) 3 rfl rfl rfl rfl) rfl (so rfl (op_alloc (cs := [.slice none 0 0, .int .i64 0]) (by kernel_rfl) rfl fun b5 => (so rfl (op_st (cs' := [.slice A_4 ((rd_T64 l0_0 x2_9).f0).length c_4, .int .i64 ((rd_T64 l0_0 x2_9).f1)]) 2 rfl rfl rfl rfl rfl rfl (re ?_)))))))
  revert H; refine ggI ?_; intro g5 H
  refine dr [0, 1, 2] [1, 2, 3, 4] [9] 10 rfl rfl rfl rfl (xv 0 [0, 1, 2] [1, 2, 3, 4] rfl (EV.mv rfl) rfl rfl rfl rfl (xv 1 [0, 1, 2] [1, 2, 3, 4] rfl (EV.fa 0 rfl) rfl rfl rfl rfl (xv 2 [0, 1, 2] [1, 2, 3, 4] rfl (EV.ld 2 none rfl rfl rfl) rfl rfl rfl rfl (xv 4 [0, 1, 2] [1, 2, 3, 4] rfl (EV.fa 1 rfl) rfl rfl rfl rfl (xv 5 [0, 1, 2] [1, 2, 3, 4] rfl (EV.ld 2 none rfl rfl rfl) rfl rfl rfl rfl (one1 3 rfl rfl ?_))))))
  revert H; refine bdI ?_; rintro t6 A6 H
  refine op_call (impl_clone.ok ((rd_T64 l0_0 x2_9).f0) A_4 c_4 _ A6) [⟨4, 0, 0, false⟩] 3 rfl rfl rfl rfl rfl ?_
  rintro _ _ _ ⟨At6, ct6, rfl, rfl, rfl⟩
  exact xs [0, 1, 2] [1, 2, 3, 4] rfl rfl rfl (xv 6 [0, 1, 2] [1, 2, 3, 4] rfl (EV.bd (v := .agg #[.slice At6 t6.length ct6, .int .i64 ((rd_T64 l0_0 x2_9).f1)]) rfl (by kernel_rfl)) rfl rfl rfl rfl (one1 7 rfl rfl (op_lit (s := 2) (by_ := 32) k64 ([(⟨t6, (rd_T64 l0_0 x2_9).f1⟩ : S64)] : List S64) [[(At6, ct6)]] [5] 5 [.tmp 19] rfl rfl rfl rfl rfl rfl rfl rfl rfl rfl rfl rfl rfl dq rfl fun A20_7 c20_7 => (nmE (en := [.sl 2 k64 Ax2_3 cx2_3 x2_3 1 true, .sl 2 k64 Ax2_2_0 cx2_2_0 x2_2_0 2 true, .sl 0 k64 Al0_0 cl0_0 l0_0 0 false, celE Al0_0 (x2_9.toNat * 2) [.slice A_4 ((rd_T64 l0_0 x2_9).f0).length c_4, .int .i64 ((rd_T64 l0_0 x2_9).f1)] 0, .sl 0 k75 A_4 c_4 ((rd_T64 l0_0 x2_9).f0) 0 false, .sl 2 k75 At6 ct6 t6 5 true, .sl 2 k64 A20_7 c20_7 ([(⟨t6, (rd_T64 l0_0 x2_9).f1⟩ : S64)] : List S64) 5 true]) (by kernel_rfl) (xs [0, 1, 2] [1, 2, 3, 4] rfl rfl rfl (one1 8 rfl rfl (op_app (k := k64) (s := 2) (by_ := 32) 0 6 rfl rfl rfl rfl (ap1 g5 dq) (ap1n g5 dq) (.inr ⟨dq, dq, rfl, dq⟩) true (fun _ => .inr ⟨rfl, rfl, dq⟩) rfl rfl fun A21_8 c21_8 => (nmE (en := [.sl 2 k64 Ax2_2_0 cx2_2_0 x2_2_0 2 true, .sl 0 k64 Al0_0 cl0_0 l0_0 0 false, celE Al0_0 (x2_9.toNat * 2) [.slice A_4 ((rd_T64 l0_0 x2_9).f0).length c_4, .int .i64 ((rd_T64 l0_0 x2_9).f1)] 0, .sl 0 k75 A_4 c_4 ((rd_T64 l0_0 x2_9).f0) 0 false, .sl 2 k75 At6 ct6 t6 1 true, .sl 2 k64 A20_7 c20_7 ([(⟨t6, (rd_T64 l0_0 x2_9).f1⟩ : S64)] : List S64) 1 true, .sl 2 k64 A21_8 c21_8 (x2_3 ++ ([(⟨t6, (rd_T64 l0_0 x2_9).f1⟩ : S64)] : List S64)) 1 true]) (by kernel_rfl) (xs [0, 1, 2] [0, 1, 2, 3] rfl rfl rfl (one1 9 rfl rfl (ov (EV.as rfl) rfl (xn rfl (xd (pr [1, 2, 3, 7, 8, 9] [0, 1] [0, 1, 6] rfl rfl rfl rfl (ge (rg (sv (EV.add rfl rfl) rfl (sv (EV.mv rfl) rfl (re (wk [1, 2, 3, 7, 8, 9] [0, 1] [⟨2, 2, 1, true⟩, ⟨0, 2, 2, true⟩, ⟨1, 0, 0, false⟩] (ih0 _ (by omega) _ ⟨x2_3 ++ ([(⟨t6, (rd_T64 l0_0 x2_9).f1⟩ : S64)] : List S64), A21_8, c21_8, x2_8, wrap64 (x2_9 + 1), x2_1_1, x2_1_2, x2_2_0, Ax2_2_0, cx2_2_0, x2_2_1, x2_2_2, H, rfl⟩)))))))))))))))))))))
 ·
  refine gf rfl (dF c1) (gx rfl (gs (rg (sv (EV.mv rfl) rfl (sv (EV.fa 0 rfl) rfl (so rfl (op_st (cs' := [.slice Ax2_3 x2_3.length cx2_3, .int .i64 x2_1_1, .bool x2_1_2]) 0 rfl rfl rfl rfl rfl rfl (re (pr [1, 2] [0, 1] [0, 1] rfl rfl rfl rfl (gs (rg (sv (EV.ld (v := .agg #[.slice Ax2_3 x2_3.length cx2_3, .int .i64 x2_1_1, .bool x2_1_2]) 0 (some 3) rfl rfl rfl) rfl (so rfl (op_st (cs' := [.slice Ax2_3 x2_3.length cx2_3, .int .i64 x2_1_1, .bool x2_1_2]) 1 rfl rfl rfl rfl rfl rfl (re ?_)))))))))))))))
  cases H
  exact rt Try.func67 rfl (.cell 1 (some 3) rfl rfl rfl .nil) rfl [] [⟨0, 2, 1, true⟩] rfl rfl rfl rfl rfl ⟨_, _, rfl, rfl, rfl⟩
def impl_isGrant.f (a0 : Int) : Option (Bool) := (impl_within.f a0 8 60).bind fun t1 => (some t1)
set_option maxHeartbeats 4000000 in
set_option maxRecDepth 100000 in
theorem impl_isGrant.ok (a0 : Int) (r0 : Bool) (H : impl_isGrant.f a0 = some r0) : Fn Try.prog 68 [.int .i64 a0] [] [] (fun v bx en => v = .bool r0 ∧ bx = [] ∧ en = []) := by
 refine fn_ 5 Try.func68 rfl rfl rfl (fun base T w0 => ?_)
 rw [impl_isGrant.f] at H
 refine gs (rg (sv (EV.as rfl) rfl (re (gs (rg (sv (EV.mv rfl) rfl ?_))))))
 revert H; refine bdI ?_; rintro t1 A1 H
 refine so rfl (op_call (impl_within.ok a0 8 60 _ A1) [] 1 rfl rfl rfl rfl rfl ?_)
 rintro _ _ _ ⟨rfl, rfl, rfl⟩
 refine sv (EV.as rfl) rfl (re ?_)
 cases H
 exact rt Try.func68 rfl (.tmp rfl .nil) rfl [] [] rfl rfl rfl rfl rfl ⟨rfl, rfl, rfl⟩
def impl_HashBit.f (a0 : Int) (a1 : Int) : Option (Int) := (impl_within.f a1 0 3).bind fun t1 => (if t1 = true then ((impl_within.f a0 0 9).bind fun t3 => (if t3 = true then (if 0 ≤ a1 then (some (andI (shrI (Int.tmod (wrap64 (7 * a0)) 16) a1) 1)) else none) else (some 0))) else (some 0))
set_option maxHeartbeats 4000000 in
set_option maxRecDepth 100000 in
theorem impl_HashBit.ok (a0 : Int) (a1 : Int) (r0 : Int) (H : impl_HashBit.f a0 a1 = some r0) : Fn Try.prog 90 [.int .i64 a0, .int .i64 a1] [] [] (fun v bx en => v = .int .i64 r0 ∧ bx = [] ∧ en = []) := by
 refine fn_ 19 Try.func90 rfl rfl rfl (fun base T w0 => ?_)
 rw [impl_HashBit.f] at H
 refine gs (rg (sv (EV.as rfl) rfl (re (gs (gs (rg (sv (EV.mv rfl) rfl ?_)))))))
 revert H; refine bdI ?_; rintro t1 A1 H
 refine so rfl (op_call (impl_within.ok a1 0 3 _ A1) [] 1 rfl rfl rfl rfl rfl ?_)
 rintro _ _ _ ⟨rfl, rfl, rfl⟩
 refine sv (EV.nt rfl) rfl (sv (EV.mv rfl) rfl ?_)
 revert H; refine ifsI ?_ ?_ <;> intro c2 H
 ·
  subst c2
  refine ts 8 rfl rfl (sv (EV.mv rfl) rfl ?_)
  revert H; refine bdI ?_; rintro t3 A3 H
  refine so rfl (op_call (impl_within.ok a0 0 9 _ A3) [] 1 rfl rfl rfl rfl rfl ?_)
  rintro _ _ _ ⟨rfl, rfl, rfl⟩
  refine sv (EV.nt rfl) rfl (sv (EV.pf rfl rfl rfl) rfl (re (pr [0, 1, 12] [] [] rfl rfl rfl rfl ?_)))
  revert H; refine ifsI ?_ ?_ <;> intro c4 H
  ·
   subst c4
   refine gf rfl rfl (gk (gs (rg (sv (EV.mv rfl) rfl (sv (EV.mul rfl rfl) rfl (sv (EV.rem rfl rfl dq) rfl (sv (EV.mv rfl) rfl ?_)))))))
   revert H; refine ggI ?_; intro g5 H
   refine sv (EV.shr rfl rfl g5) rfl (sv (EV.andI rfl rfl) rfl (sv (EV.as rfl) rfl (re (pr [4] [] [] rfl rfl rfl rfl ?_))))
   cases H
   exact rt Try.func90 rfl (.tmp rfl .nil) rfl [] [] rfl rfl rfl rfl rfl ⟨rfl, rfl, rfl⟩
  ·
   obtain rfl := bF c4
   refine gt rfl rfl (gs (rg (sv (EV.as rfl) rfl (re ?_))))
   cases H
   exact rt Try.func90 rfl (.tmp rfl .nil) rfl [] [] rfl rfl rfl rfl rfl ⟨rfl, rfl, rfl⟩
 ·
  obtain rfl := bF c2
  refine ts 8 rfl rfl (sk rfl (sk rfl (sk rfl (sv (EV.pt rfl rfl rfl) rfl (re (pr [0, 1, 12] [] [] rfl rfl rfl rfl (gt rfl rfl (gs (rg (sv (EV.as rfl) rfl (re ?_)))))))))))
  cases H
  exact rt Try.func90 rfl (.tmp rfl .nil) rfl [] [] rfl rfl rfl rfl rfl ⟨rfl, rfl, rfl⟩
def impl_SplitByHashBit.l0 : Nat → Int → (List S75) → (List S75) → Int → Int → (List S75) → Option ((List S75) × (List S75))
 | 0, _, _, _, _, _, _ => none
 | k + 1, x2_1, x2_6, x2_7, x2_13, x2_14, l0 => if x2_14 < x2_13 then (if 0 ≤ x2_14 then (if x2_14 < (l0.length : Int) then ((impl_HashBit.f ((rd_T75 l0 x2_14).f0) x2_1).bind fun t6 => (if t6 = 0 then (if x2_6.length < 5864062014805 then (impl_SplitByHashBit.l0 k x2_1 (x2_6 ++ ([(⟨(rd_T75 l0 x2_14).f0, (rd_T75 l0 x2_14).f1, (rd_T75 l0 x2_14).f2⟩ : S75)] : List S75)) x2_7 x2_13 (wrap64 (x2_14 + 1)) l0) else none) else (if x2_7.length < 5864062014805 then (impl_SplitByHashBit.l0 k x2_1 x2_6 (x2_7 ++ ([(⟨(rd_T75 l0 x2_14).f0, (rd_T75 l0 x2_14).f1, (rd_T75 l0 x2_14).f2⟩ : S75)] : List S75)) x2_13 (wrap64 (x2_14 + 1)) l0) else none))) else none) else none) else (some (x2_6, x2_7))
def impl_SplitByHashBit.f (k : Nat) (l0 : List S75) (a1 : Int) : Option ((List S75) × (List S75)) := impl_SplitByHashBit.l0 k a1 [] [] (l0.length : Int) 0 l0
set_option maxHeartbeats 4000000 in
set_option maxRecDepth 100000 in
theorem impl_SplitByHashBit.ok (k : Nat) (l0 : List S75) (Al0 : Option Addr) (cl0 : Nat) (a1 : Int) (r0 : List S75) (r1 : List S75) (H : impl_SplitByHashBit.f k l0 a1 = some (r0, r1)) : Fn Try.prog 69 [.slice Al0 l0.length cl0, .int .i64 a1] [] [.sl 0 k75 Al0 cl0 l0 0 false] (fun v bx en => ∃ A0 c0 A1 c1, v = .tuple #[.slice A0 r0.length c0, .slice A1 r1.length c1] ∧ bx = [] ∧ en = [.sl 2 k75 A0 c0 r0 1 true, .sl 2 k75 A1 c1 r1 2 true]) := by
 refine fn_ 34 Try.func69 rfl rfl rfl (fun base T w0 => ?_)
 rw [impl_SplitByHashBit.f] at H
 refine gs (rg (sv (EV.as rfl) rfl (sv (EV.as rfl) rfl (re (gs (rg (so rfl (op_lit (s := 3) (by_ := 24) k75 ([] : List S75) [] [] 1 [] rfl rfl rfl rfl rfl rfl rfl rfl rfl rfl rfl rfl rfl dq rfl fun A10_1 c10_1 => (so rfl (op_lit (s := 3) (by_ := 24) k75 ([] : List S75) [] [] 2 [] rfl rfl rfl rfl rfl rfl rfl rfl rfl rfl rfl rfl rfl dq rfl fun A11_2 c11_2 => (sv (EV.as rfl) rfl (sv (EV.as rfl) rfl (re (gs (gs (rg (sv (EV.mv rfl) rfl (sv (EV.ln rfl) rfl (sv (EV.mv rfl) rfl (re (gb ?_)))))))))))))))))))))
 refine lo (fun kk S => ∃ (x2_1 : Int) (x2_6 : List S75) (Ax2_6 : Option Addr) (cx2_6 : Nat) (x2_7 : List S75) (Ax2_7 : Option Addr) (cx2_7 : Nat) (x2_13 : Int) (x2_14 : Int), impl_SplitByHashBit.l0 kk x2_1 x2_6 x2_7 x2_13 x2_14 l0 = some (r0, r1) ∧ S = ⟨[(1, .int .i64 x2_1), (6, .slice Ax2_6 x2_6.length cx2_6), (7, .slice Ax2_7 x2_7.length cx2_7), (12, .slice Al0 l0.length cl0), (13, .int .i64 x2_13), (14, .int .i64 x2_14)], [], [.sl 2 k75 Ax2_6 cx2_6 x2_6 1 true, .sl 2 k75 Ax2_7 cx2_7 x2_7 2 true, .sl 0 k75 Al0 cl0 l0 0 false]⟩) (fun S hS => ?_) (fun n0 ih0 S hS => ?_) ⟨a1, [], A10_1, c10_1, [], A11_2, c11_2, (l0.length : Int), 0, H, rfl⟩ (fun h => wk [1, 6, 7, 12, 13, 14] [] [⟨1, 2, 1, true⟩, ⟨2, 2, 2, true⟩, ⟨0, 0, 0, false⟩] h)
 · clear H; obtain ⟨_, _, _, _, _, _, _, _, _, H, _⟩ := hS; rw [impl_SplitByHashBit.l0] at H; cases H
 clear H
 obtain ⟨x2_1, x2_6, Ax2_6, cx2_6, x2_7, Ax2_7, cx2_7, x2_13, x2_14, H, rfl⟩ := hS
 rw [impl_SplitByHashBit.l0] at H
 refine gs (rg (sv (EV.lss rfl rfl) rfl (re (gs ?_))))
 revert H; refine ifsI ?_ ?_ <;> intro c3 H
 ·
  refine gt rfl (dT c3) (gk (gs (gb (gs (rg ?_)))))
  revert H; refine ggI ?_; intro g4 H
  revert H; refine ggI ?_; intro g5 H
  refine sv (EV.ix 2 rfl rfl rfl g4 g5 rfl) rfl (sv (EV.le (v := .agg #[.int .i64 ((rd_T75 l0 x2_14).f0), .int .i64 ((rd_T75 l0 x2_14).f1), .int .i64 ((rd_T75 l0 x2_14).f2)]) x2_14 0 (some 3) 2 z75 rfl rfl rfl g4 g5 rfl rfl rfl) rfl (so rfl (op_alloc (cs := [.int .i64 0, .int .i64 0, .int .i64 0]) (by kernel_rfl) rfl fun b9 => (so rfl (op_st (cs' := [.int .i64 ((rd_T75 l0 x2_14).f0), .int .i64 ((rd_T75 l0 x2_14).f1), .int .i64 ((rd_T75 l0 x2_14).f2)]) 0 rfl rfl rfl rfl rfl rfl (re (gs (rg (sv (EV.fa 0 rfl) rfl (sv (EV.ld 0 none rfl rfl rfl) rfl (sv (EV.mv rfl) rfl ?_)))))))))))
  revert H; refine bdI ?_; rintro t6 A6 H
  refine so rfl (op_call (impl_HashBit.ok ((rd_T75 l0 x2_14).f0) x2_1 _ A6) [] 3 rfl rfl rfl rfl rfl ?_)
  rintro _ _ _ ⟨rfl, rfl, rfl⟩
  refine sv (EV.eql rfl rfl) rfl (re (pr [1, 6, 7, 9, 12, 13, 14, 22] [0] [0, 1, 2] rfl rfl rfl rfl ?_))
  revert H; refine ifsI ?_ ?_ <;> intro c7 H
  ·
   refine gt rfl (dT c7) (rg (sv (EV.mv rfl) rfl (sv (EV.ld (v := .agg #[.int .i64 ((rd_T75 l0 x2_14).f0), .int .i64 ((rd_T75 l0 x2_14).f1), .int .i64 ((rd_T75 l0 x2_14).f2)]) 0 (some 3) rfl rfl rfl) rfl (so rfl (op_lit (s := 3) (by_ := 24) k75 ([(⟨(rd_T75 l0 x2_14).f0, (rd_T75 l0 x2_14).f1, (rd_T75 l0 x2_14).f2⟩ : S75)] : List S75) [[]] [] 3 [.tmp 24] rfl rfl rfl rfl rfl rfl rfl rfl rfl rfl rfl rfl rfl dq rfl fun A25_8 c25_8 => ?_)))))
   revert H; refine ggI ?_; intro g9 H
   exact so rfl (op_app (k := k75) (s := 3) (by_ := 24) 0 3 rfl rfl rfl rfl (ap1 g9 dq) (ap1n g9 dq) (.inl rfl) true (fun _ => .inl rfl) rfl rfl fun A26_10 c26_10 => (nmE (en := [.sl 2 k75 Ax2_7 cx2_7 x2_7 2 true, .sl 0 k75 Al0 cl0 l0 0 false, .sl 2 k75 A25_8 c25_8 ([(⟨(rd_T75 l0 x2_14).f0, (rd_T75 l0 x2_14).f1, (rd_T75 l0 x2_14).f2⟩ : S75)] : List S75) 3 true, .sl 2 k75 A26_10 c26_10 (x2_6 ++ ([(⟨(rd_T75 l0 x2_14).f0, (rd_T75 l0 x2_14).f1, (rd_T75 l0 x2_14).f2⟩ : S75)] : List S75)) 1 true]) (by kernel_rfl) (sv (EV.as rfl) rfl (re (pr [1, 6, 7, 12, 13, 14] [] [0, 1, 3] rfl rfl rfl rfl (ge (rg (sv (EV.add rfl rfl) rfl (sv (EV.mv rfl) rfl (re (wk [1, 6, 7, 12, 13, 14] [] [⟨2, 2, 1, true⟩, ⟨0, 2, 2, true⟩, ⟨1, 0, 0, false⟩] (ih0 _ (by omega) _ ⟨x2_1, x2_6 ++ ([(⟨(rd_T75 l0 x2_14).f0, (rd_T75 l0 x2_14).f1, (rd_T75 l0 x2_14).f2⟩ : S75)] : List S75), A26_10, c26_10, x2_7, Ax2_7, cx2_7, x2_13, wrap64 (x2_14 + 1), H, rfl⟩))))))))))))
  ·
   refine gf rfl (dF c7) (rg (sv (EV.mv rfl) rfl (sv (EV.ld (v := .agg #[.int .i64 ((rd_T75 l0 x2_14).f0), .int .i64 ((rd_T75 l0 x2_14).f1), .int .i64 ((rd_T75 l0 x2_14).f2)]) 0 (some 3) rfl rfl rfl) rfl (so rfl (op_lit (s := 3) (by_ := 24) k75 ([(⟨(rd_T75 l0 x2_14).f0, (rd_T75 l0 x2_14).f1, (rd_T75 l0 x2_14).f2⟩ : S75)] : List S75) [[]] [] 3 [.tmp 28] rfl rfl rfl rfl rfl rfl rfl rfl rfl rfl rfl rfl rfl dq rfl fun A29_11 c29_11 => ?_)))))
   revert H; refine ggI ?_; intro g12 H
   exact so rfl (op_app (k := k75) (s := 3) (by_ := 24) 1 3 rfl rfl rfl rfl (ap1 g12 dq) (ap1n g12 dq) (.inl rfl) true (fun _ => .inl rfl) rfl rfl fun A30_13 c30_13 => (nmE (en := [.sl 2 k75 Ax2_6 cx2_6 x2_6 1 true, .sl 0 k75 Al0 cl0 l0 0 false, .sl 2 k75 A29_11 c29_11 ([(⟨(rd_T75 l0 x2_14).f0, (rd_T75 l0 x2_14).f1, (rd_T75 l0 x2_14).f2⟩ : S75)] : List S75) 3 true, .sl 2 k75 A30_13 c30_13 (x2_7 ++ ([(⟨(rd_T75 l0 x2_14).f0, (rd_T75 l0 x2_14).f1, (rd_T75 l0 x2_14).f2⟩ : S75)] : List S75)) 2 true]) (by kernel_rfl) (sv (EV.as rfl) rfl (re (pr [1, 6, 7, 12, 13, 14] [] [0, 1, 3] rfl rfl rfl rfl (ge (rg (sv (EV.add rfl rfl) rfl (sv (EV.mv rfl) rfl (re (wk [1, 6, 7, 12, 13, 14] [] [⟨0, 2, 1, true⟩, ⟨2, 2, 2, true⟩, ⟨1, 0, 0, false⟩] (ih0 _ (by omega) _ ⟨x2_1, x2_6, Ax2_6, cx2_6, x2_7 ++ ([(⟨(rd_T75 l0 x2_14).f0, (rd_T75 l0 x2_14).f1, (rd_T75 l0 x2_14).f2⟩ : S75)] : List S75), A30_13, c30_13, x2_13, wrap64 (x2_14 + 1), H, rfl⟩))))))))))))
 ·
  refine gf rfl (dF c3) (gx rfl (gs (rg (sv (EV.mv rfl) rfl (sv (EV.mv rfl) rfl (sv (EV.as rfl) rfl (sv (EV.as rfl) rfl (re (pr [4, 5] [] [0, 1] rfl rfl rfl rfl ?_)))))))))
  cases H
  exact rt Try.func69 rfl (.tmp rfl (.tmp rfl .nil)) rfl [] [⟨0, 2, 1, true⟩, ⟨1, 2, 2, true⟩] rfl rfl rfl rfl rfl ⟨_, _, _, _, rfl, rfl, rfl⟩
mutual
def impl_StepAggregator.j1 : Nat → Int → (List (Int × Bool)) → (List S75) → (List S75) → (List S75) → Int → Int → (List S64) → Int → Bool → (List S64) → Int → Bool → (List S75) → Int → Int → Int → Int → Option ((List S64) × Int × Bool × (List S49) × Int × Bool)
 | 0, _, _, _, _, _, _, _, _, _, _, _, _, _, _, _, _, _, _ => none
 | k + 1, x21_10, x21_11, x21_12, x21_13, x21_52, x21_53, x21_54, x21_4_0, x21_4_1, x21_4_2, x21_8_0, x21_8_1, x21_8_2, x21_9_0, x21_9_1, x21_16_0, x21_16_1, x21_16_2 => if x21_12.length < 5864062014805 then (impl_StepAggregator.l0 k x21_10 x21_11 (x21_12 ++ ([(⟨x21_16_0, x21_16_1, x21_16_2⟩ : S75)] : List S75)) x21_13 (!x21_8_2) x21_52 x21_53 (wrap64 (x21_54 + 1)) x21_4_0 x21_4_1 x21_4_2 x21_8_0 x21_8_1 x21_8_2 x21_9_0 x21_9_1) else none
def impl_StepAggregator.j0 : Nat → Int → (List (Int × Bool)) → (List S75) → (List S75) → Bool → (List S75) → Int → Int → (List S64) → Int → Bool → (List S64) → Int → Bool → (List S75) → Int → Int → Int → Int → Option ((List S64) × Int × Bool × (List S49) × Int × Bool)
 | 0, _, _, _, _, _, _, _, _, _, _, _, _, _, _, _, _, _, _, _ => none
 | k + 1, x20_10, x20_11, x20_12, x20_13, x20_14, x20_52, x20_53, x20_54, x20_4_0, x20_4_1, x20_4_2, x20_8_0, x20_8_1, x20_8_2, x20_9_0, x20_9_1, x20_16_0, x20_16_1, x20_16_2 => if x20_14 = true then (if ((mGet x20_11 x20_16_0).getD false) = true then (if x20_13.length < 5864062014805 then (impl_StepAggregator.l0 k x20_10 x20_11 x20_12 (x20_13 ++ ([(⟨x20_16_0, x20_16_1, x20_16_2⟩ : S75)] : List S75)) true x20_52 x20_53 (wrap64 (x20_54 + 1)) x20_4_0 x20_4_1 x20_4_2 x20_8_0 x20_8_1 x20_8_2 x20_9_0 x20_9_1) else none) else (impl_StepAggregator.j1 k x20_10 x20_11 x20_12 x20_13 x20_52 x20_53 x20_54 x20_4_0 x20_4_1 x20_4_2 x20_8_0 x20_8_1 x20_8_2 x20_9_0 x20_9_1 x20_16_0 x20_16_1 x20_16_2)) else (impl_StepAggregator.j1 k x20_10 x20_11 x20_12 x20_13 x20_52 x20_53 x20_54 x20_4_0 x20_4_1 x20_4_2 x20_8_0 x20_8_1 x20_8_2 x20_9_0 x20_9_1 x20_16_0 x20_16_1 x20_16_2)
def impl_StepAggregator.j2 : Nat → (List S49) → (List S64) → Int → Bool → (List S64) → Int → Bool → Option ((List S64) × Int × Bool × (List S49) × Int × Bool)
 | 0, _, _, _, _, _, _, _ => none
 | k + 1, x23_17, x23_4_0, x23_4_1, x23_4_2, x23_8_0, x23_8_1, x23_8_2 => some (x23_8_0, x23_8_1, x23_8_2, x23_17, wrap64 (3 * (x23_17.length : Int)), true)
def impl_StepAggregator.j3 : Nat → (List S49) → (List S64) → (List S64) → Int → Bool → (List S64) → Int → Bool → Option ((List S64) × Int × Bool × (List S49) × Int × Bool)
 | 0, _, _, _, _, _, _, _, _ => none
 | k + 1, x24_17, x24_18, x24_4_0, x24_4_1, x24_4_2, x24_8_0, x24_8_1, x24_8_2 => if x24_18.length + x24_8_0.length ≤ 4398046511104 then (impl_StepAggregator.j2 k x24_17 x24_4_0 x24_4_1 x24_4_2 (x24_18 ++ x24_8_0) x24_8_1 x24_8_2) else none
def impl_StepAggregator.l0 : Nat → Int → (List (Int × Bool)) → (List S75) → (List S75) → Bool → (List S75) → Int → Int → (List S64) → Int → Bool → (List S64) → Int → Bool → (List S75) → Int → Option ((List S64) × Int × Bool × (List S49) × Int × Bool)
 | 0, _, _, _, _, _, _, _, _, _, _, _, _, _, _, _, _ => none
 | k + 1, x10_10, x10_11, x10_12, x10_13, x10_14, x10_52, x10_53, x10_54, x10_4_0, x10_4_1, x10_4_2, x10_8_0, x10_8_1, x10_8_2, x10_9_0, x10_9_1 => if x10_54 < x10_53 then (if 0 ≤ x10_54 then (if x10_54 < (x10_52.length : Int) then (if x10_14 = true then (if ((mGet x10_11 ((rd_T75 x10_52 x10_54).f0)).getD false) = true then (impl_StepAggregator.j0 k x10_10 x10_11 x10_12 x10_13 true x10_52 x10_53 x10_54 x10_4_0 x10_4_1 x10_4_2 x10_8_0 x10_8_1 x10_8_2 x10_9_0 x10_9_1 ((rd_T75 x10_52 x10_54).f0) ((rd_T75 x10_52 x10_54).f1) ((rd_T75 x10_52 x10_54).f2)) else (if (x10_11.length : Int) < x10_10 then (impl_StepAggregator.j0 k x10_10 (mSet x10_11 ((rd_T75 x10_52 x10_54).f0) true) x10_12 x10_13 true x10_52 x10_53 x10_54 x10_4_0 x10_4_1 x10_4_2 x10_8_0 x10_8_1 x10_8_2 x10_9_0 x10_9_1 ((rd_T75 x10_52 x10_54).f0) ((rd_T75 x10_52 x10_54).f1) ((rd_T75 x10_52 x10_54).f2)) else (impl_StepAggregator.j0 k x10_10 x10_11 x10_12 x10_13 true x10_52 x10_53 x10_54 x10_4_0 x10_4_1 x10_4_2 x10_8_0 x10_8_1 x10_8_2 x10_9_0 x10_9_1 ((rd_T75 x10_52 x10_54).f0) ((rd_T75 x10_52 x10_54).f1) ((rd_T75 x10_52 x10_54).f2)))) else (impl_StepAggregator.j0 k x10_10 x10_11 x10_12 x10_13 false x10_52 x10_53 x10_54 x10_4_0 x10_4_1 x10_4_2 x10_8_0 x10_8_1 x10_8_2 x10_9_0 x10_9_1 ((rd_T75 x10_52 x10_54).f0) ((rd_T75 x10_52 x10_54).f1) ((rd_T75 x10_52 x10_54).f2))) else none) else none) else ((impl_ReferenceGroups.f k x10_13).bind fun t29 => (if (x10_12.length : Int) > 0 then (if x10_8_2 = true then (impl_StepAggregator.j3 k t29 ([(⟨x10_12, x10_9_1⟩ : S64)] : List S64) x10_4_0 x10_4_1 x10_4_2 x10_8_0 x10_8_1 true) else ((impl_TotalCost.f k x10_12).bind fun t37 => (if x10_9_1 < 4 then ((impl_SplitByHashBit.f k x10_12 x10_9_1).bind fun bt39 => (impl_StepAggregator.j3 k t29 ([(⟨bt39.1, wrap64 (x10_9_1 + 1)⟩ : S64), (⟨bt39.2, wrap64 (x10_9_1 + 1)⟩ : S64)] : List S64) x10_4_0 x10_4_1 x10_4_2 x10_8_0 (wrap64 (x10_8_1 + t37)) false)) else (impl_StepAggregator.j3 k t29 ([(⟨x10_12, x10_9_1⟩ : S64)] : List S64) x10_4_0 x10_4_1 x10_4_2 x10_8_0 (wrap64 (x10_8_1 + t37)) false)))) else (impl_StepAggregator.j2 k t29 x10_4_0 x10_4_1 x10_4_2 x10_8_0 x10_8_1 x10_8_2)))
end
def impl_StepAggregator.f (k : Nat) (l0_0 : List S64) (a0_1 : Int) (a0_2 : Bool) (a1 : Int) : Option ((List S64) × Int × Bool × (List S49) × Int × Bool) := (impl_cloneAggregator.f k l0_0 a0_1 a0_2).bind fun bt1 => ((impl_IsValidAggregator.f k l0_0 a0_1 a0_2).bind fun t2 => (if t2 = true then (if (l0_0.length : Int) = 0 then (some (bt1.1, bt1.2.1, bt1.2.2, [], 0, false)) else ((impl_isGrant.f a1).bind fun t5 => (if t5 = true then (if 0 < (bt1.1.length : Int) then (if 1 ≤ (bt1.1.length : Int) then (impl_StepAggregator.l0 k (wrap64 (Int.tdiv a1 3)) ([] : List (Int × Bool)) [] [] true ((rd_T64 bt1.1 0).f0) (((rd_T64 bt1.1 0).f0).length : Int) 0 [] 0 false (bt1.1.drop (1 : Int).toNat) bt1.2.1 bt1.2.2 ((rd_T64 bt1.1 0).f0) ((rd_T64 bt1.1 0).f1)) else none) else none) else (some (bt1.1, bt1.2.1, bt1.2.2, [], 0, false))))) else (some (bt1.1, bt1.2.1, bt1.2.2, [], 0, false))))
set_option maxHeartbeats 4000000 in
set_option maxRecDepth 100000 in
theorem impl_StepAggregator.ok (k : Nat) (l0_0 : List S64) (Al0_0 : Option Addr) (cl0_0 : Nat) (a0_1 : Int) (a0_2 : Bool) (a1 : Int) (r0 : List S64) (r1 : Int) (r2 : Bool) (r3 : List S49) (r4 : Int) (r5 : Bool) (H : impl_StepAggregator.f k l0_0 a0_1 a0_2 a1 = some (r0, r1, r2, r3, r4, r5)) : Fn Try.prog 34 [.agg #[.slice Al0_0 l0_0.length cl0_0, .int .i64 a0_1, .bool a0_2], .int .i64 a1] [] [.sl 0 k64 Al0_0 cl0_0 l0_0 0 false] (fun v bx en => ∃ A0 c0 A3 c3, v = .tuple #[.agg #[.slice A0 r0.length c0, .int .i64 r1, .bool r2], .slice A3 r3.length c3, .int .i64 r4, .bool r5] ∧ bx = [] ∧ en = [.sl 1 k64 A0 c0 r0 1 true, .sl 1 k49 A3 c3 r3 2 false]) := by
 refine fn_ 144 Try.func34 rfl rfl rfl (fun base T w0 => ?_)
 rw [impl_StepAggregator.f] at H
 refine gs (rg (so rfl (op_box (cs := [.slice Al0_0 l0_0.length cl0_0, .int .i64 a0_1, .bool a0_2]) rfl rfl rfl fun b2 => (so rfl (op_alloc (cs := [.slice none 0 0, .int .i64 0, .bool false]) (by kernel_rfl) rfl fun b4 => (sv (EV.as rfl) rfl (sv (EV.as rfl) rfl (sv (EV.as rfl) rfl (re (gs (rg (sv (EV.ld (v := .agg #[.slice Al0_0 l0_0.length cl0_0, .int .i64 a0_1, .bool a0_2]) 0 (some 3) rfl rfl rfl) rfl ?_))))))))))))
 revert H; refine bdI ?_; rintro ⟨t1_0, t1_1, t1_2⟩ A1 H
 refine so rfl (op_call (impl_cloneAggregator.ok k l0_0 Al0_0 cl0_0 a0_1 a0_2 _ _ _ A1) [⟨0, 0, 0, false⟩] 1 rfl rfl rfl rfl rfl ?_)
 rintro _ _ _ ⟨At1_0, ct1_0, rfl, rfl, rfl⟩
 refine so rfl (op_alloc (cs := [.slice none 0 0, .int .i64 0, .bool false]) (by kernel_rfl) rfl fun b8 => (so rfl (op_st (cs' := [.slice At1_0 t1_0.length ct1_0, .int .i64 t1_1, .bool t1_2]) 2 rfl rfl rfl rfl rfl rfl (re (pr [1, 2, 4, 8] [0, 1, 2] [0, 1] rfl rfl rfl rfl (gs (gs (rg (sv (EV.ld (v := .agg #[.slice Al0_0 l0_0.length cl0_0, .int .i64 a0_1, .bool a0_2]) 0 (some 3) rfl rfl rfl) rfl ?_)))))))))
 revert H; refine bdI ?_; rintro t2 A2 H
 refine so rfl (op_call (impl_IsValidAggregator.ok k l0_0 Al0_0 cl0_0 a0_1 a0_2 _ A2) [⟨0, 0, 0, false⟩] 3 rfl rfl rfl rfl rfl ?_)
 rintro _ _ _ ⟨rfl, rfl, rfl⟩
 refine sv (EV.nt rfl) rfl (sv (EV.mv rfl) rfl ?_)
 revert H; refine ifsI ?_ ?_ <;> intro c3 H
 ·
  subst c3
  refine ts 26 rfl rfl (sv (EV.fa 0 rfl) rfl (sv (EV.ld 0 none rfl rfl rfl) rfl (sv (EV.ln rfl) rfl (sv (EV.eql rfl rfl) rfl (sv (EV.pf rfl rfl rfl) rfl (sv (EV.mv rfl) rfl ?_))))))
  revert H; refine ifsI ?_ ?_ <;> intro c4 H
  ·
   refine ts 32 rfl (dT c4) (sk rfl (sk rfl (sk rfl (sv (EV.pt rfl rfl rfl) rfl (re (pr [1, 4, 8, 36] [1, 2] [1] rfl rfl rfl rfl (gt rfl rfl (gs (rg (sv (EV.ld (v := .agg #[.slice At1_0 t1_0.length ct1_0, .int .i64 t1_1, .bool t1_2]) 1 (some 3) rfl rfl rfl) rfl (so rfl (op_st (cs' := [.slice At1_0 t1_0.length ct1_0, .int .i64 t1_1, .bool t1_2]) 0 rfl rfl rfl rfl rfl rfl (sv (EV.as rfl) rfl (sv (EV.as rfl) rfl (sv (EV.as rfl) rfl (re (nil_ k49 3 dq ?_)))))))))))))))))
   cases H
   exact rt Try.func34 rfl (.cell 0 (some 3) rfl rfl rfl (.tmp rfl (.tmp rfl (.tmp rfl .nil)))) rfl [] [⟨0, 1, 1, true⟩, ⟨1, 1, 2, false⟩] rfl rfl rfl rfl rfl ⟨_, _, _, _, rfl, rfl, rfl⟩
  ·
   refine ts 32 rfl (dF c4) (sv (EV.mv rfl) rfl ?_)
   revert H; refine bdI ?_; rintro t5 A5 H
   refine so rfl (op_call (impl_isGrant.ok a1 _ A5) [] 3 rfl rfl rfl rfl rfl ?_)
   rintro _ _ _ ⟨rfl, rfl, rfl⟩
   refine sv (EV.nt rfl) rfl (sv (EV.pf rfl rfl rfl) rfl (re (pr [1, 4, 8, 36] [1, 2] [1] rfl rfl rfl rfl ?_)))
   revert H; refine ifsI ?_ ?_ <;> intro c6 H
   ·
    subst c6
    refine gf rfl rfl (gk (gs (rg (sv (EV.fa 0 rfl) rfl (sv (EV.ld 1 none rfl rfl rfl) rfl ?_)))))
    revert H; refine ggI ?_; intro g7 H
    refine sv (EV.ix 0 rfl rfl rfl dq g7 rfl) rfl (opn (i := 0) 0 z64 rfl dq g7 fun A_8 c_8 => (sv (EV.lc (v := .agg #[.slice A_8 ((rd_T64 t1_0 0).f0).length c_8, .int .i64 ((rd_T64 t1_0 0).f1)]) 0 (some 2) 1 rfl rfl rfl rfl) rfl (sv (EV.mv rfl) rfl (sv (EV.quo rfl rfl dq) rfl (so rfl (op_alloc (cs := [.slice none 0 0, .int .i64 0]) (by kernel_rfl) rfl fun b9 => (so rfl (op_st (cs' := [.slice A_8 ((rd_T64 t1_0 0).f0).length c_8, .int .i64 ((rd_T64 t1_0 0).f1)]) 2 rfl rfl rfl rfl rfl rfl (sv (EV.as rfl) rfl (re (pr [4, 8, 9, 10] [0, 1, 2] [0, 1, 2] rfl rfl rfl rfl (gs (rg (sv (EV.fa 0 rfl) rfl (sv (EV.ld 1 none rfl rfl rfl) rfl ?_)))))))))))))))
    revert H; refine ggI ?_; intro g9 H
    refine cutp (l' := t1_0.drop (1 : Int).toNat) 1 (t1_0.length : Int) 0 rfl dq g9 (Int.le_refl _) rfl 1 dq (.inl dq) ctl (sv (EV.ct 1 (t1_0.length : Int) 0 rfl rfl rfl rfl dq g9 (Int.le_refl _) rfl rfl ctnl) rfl (sv (EV.fa 0 rfl) rfl (so rfl (op_st (cs' := [.slice (cutA At1_0 ct1_0 (1 : Int).toNat 2) (t1_0.drop (1 : Int).toNat).length (ct1_0 - (1 : Int).toNat), .int .i64 t1_1, .bool t1_2]) 1 rfl rfl rfl rfl rfl rfl (re (gs (rg (so rfl (op_mkm (β := Bool) .i64 Value.bool 3 rfl dq rfl fun r48_10 => (so rfl (op_lit (s := 3) (by_ := 24) k75 ([] : List S75) [] [] 4 [] rfl rfl rfl rfl rfl rfl rfl rfl rfl rfl rfl rfl rfl dq rfl fun A49_11 c49_11 => (sv (EV.as rfl) rfl (sv (EV.as rfl) rfl (re (pr [4, 8, 9, 10, 11, 12] [0, 1, 2] [2, 3, 4, 5] rfl rfl rfl rfl (gs (rg (so rfl (op_lit (s := 3) (by_ := 24) k75 ([] : List S75) [] [] 5 [] rfl rfl rfl rfl rfl rfl rfl rfl rfl rfl rfl rfl rfl dq rfl fun A50_12 c50_12 => (sv (EV.as rfl) rfl (sv (EV.as rfl) rfl (re (gs (gs (rg (sv (EV.fa 0 rfl) rfl (sv (EV.ld 2 none rfl rfl rfl) rfl (sv (EV.ln rfl) rfl (sv (EV.mv rfl) rfl ?_)))))))))))))))))))))))))))))
    refine re (gb (nil_ k64 6 dq ?_))
    refine lo (fun kk S => ∃ (x10_10 : Int) (x10_11 : List (Int × Bool)) (rx10_11 : Nat) (x10_12 : List S75) (Ax10_12 : Option Addr) (cx10_12 : Nat) (x10_13 : List S75) (Ax10_13 : Option Addr) (cx10_13 : Nat) (x10_14 : Bool) (x10_52 : List S75) (Ax10_52 : Option Addr) (cx10_52 : Nat) (x10_53 : Int) (x10_54 : Int) (x10_4_0 : List S64) (Ax10_4_0 : Option Addr) (cx10_4_0 : Nat) (x10_4_1 : Int) (x10_4_2 : Bool) (x10_8_0 : List S64) (Ax10_8_0 : Option Addr) (cx10_8_0 : Nat) (x10_8_1 : Int) (x10_8_2 : Bool) (x10_9_0 : List S75) (Ax10_9_0 : Option Addr) (cx10_9_0 : Nat) (x10_9_1 : Int), impl_StepAggregator.l0 kk x10_10 x10_11 x10_12 x10_13 x10_14 x10_52 x10_53 x10_54 x10_4_0 x10_4_1 x10_4_2 x10_8_0 x10_8_1 x10_8_2 x10_9_0 x10_9_1 = some (r0, r1, r2, r3, r4, r5) ∧ S = ⟨[(4, .pointer (some ⟨b4, 0, none⟩)), (8, .pointer (some ⟨b8, 0, none⟩)), (9, .pointer (some ⟨b9, 0, none⟩)), (10, .int .i64 x10_10), (11, .map (some rx10_11)), (12, .slice Ax10_12 x10_12.length cx10_12), (13, .slice Ax10_13 x10_13.length cx10_13), (14, .bool x10_14), (52, .slice Ax10_52 x10_52.length cx10_52), (53, .int .i64 x10_53), (54, .int .i64 x10_54)], [⟨b4, 54, [.slice Ax10_4_0 x10_4_0.length cx10_4_0, .int .i64 x10_4_1, .bool x10_4_2]⟩, ⟨b8, 54, [.slice Ax10_8_0 x10_8_0.length cx10_8_0, .int .i64 x10_8_1, .bool x10_8_2]⟩, ⟨b9, 64, [.slice Ax10_9_0 x10_9_0.length cx10_9_0, .int .i64 x10_9_1]⟩], [mapE .i64 Value.bool rx10_11 x10_11 1, .sl 2 k75 Ax10_12 cx10_12 x10_12 2 true, .sl 2 k75 Ax10_13 cx10_13 x10_13 3 true, .sl 1 k75 Ax10_52 cx10_52 x10_52 4 true, .sl 2 k64 Ax10_4_0 cx10_4_0 x10_4_0 5 true, .sl 1 k64 Ax10_8_0 cx10_8_0 x10_8_0 4 true, .sl 1 k75 Ax10_9_0 cx10_9_0 x10_9_0 4 true]⟩) (fun S hS => ?_) (fun n0 ih0 S hS => ?_) ⟨wrap64 (Int.tdiv a1 3), ([] : List (Int × Bool)), r48_10, [], A49_11, c49_11, [], A50_12, c50_12, true, (rd_T64 t1_0 0).f0, A_8, c_8, (((rd_T64 t1_0 0).f0).length : Int), 0, [], none, 0, 0, false, t1_0.drop (1 : Int).toNat, (cutA At1_0 ct1_0 (1 : Int).toNat 2), (ct1_0 - (1 : Int).toNat), t1_1, t1_2, (rd_T64 t1_0 0).f0, A_8, c_8, (rd_T64 t1_0 0).f1, H, rfl⟩ (fun h => wk [4, 8, 9, 10, 11, 12, 13, 14, 52, 53, 54] [0, 1, 2] [⟨2, 1, 1, false⟩, ⟨3, 2, 2, true⟩, ⟨4, 2, 3, true⟩, ⟨0, 1, 4, true⟩, ⟨5, 2, 5, true⟩, ⟨1, 1, 4, true⟩, ⟨0, 1, 4, true⟩] h)
    · clear H; obtain ⟨_, _, _, _, _, _, _, _, _, _, _, _, _, _, _, _, _, _, _, _, _, _, _, _, _, _, _, _, _, H, _⟩ := hS; rw [impl_StepAggregator.l0] at H; cases H
    clear H
    obtain ⟨x10_10, x10_11, rx10_11, x10_12, Ax10_12, cx10_12, x10_13, Ax10_13, cx10_13, x10_14, x10_52, Ax10_52, cx10_52, x10_53, x10_54, x10_4_0, Ax10_4_0, cx10_4_0, x10_4_1, x10_4_2, x10_8_0, Ax10_8_0, cx10_8_0, x10_8_1, x10_8_2, x10_9_0, Ax10_9_0, cx10_9_0, x10_9_1, H, rfl⟩ := hS
    rw [impl_StepAggregator.l0] at H
    refine gs (rg (sv (EV.lss rfl rfl) rfl (re (gs ?_))))
    revert H; refine ifsI ?_ ?_ <;> intro c13 H
    ·
     refine gt rfl (dT c13) (gk (gs (gb (gs (rg ?_)))))
     revert H; refine ggI ?_; intro g14 H
     revert H; refine ggI ?_; intro g15 H
     refine sv (EV.ix 3 rfl rfl rfl g14 g15 rfl) rfl (sv (EV.le (v := .agg #[.int .i64 ((rd_T75 x10_52 x10_54).f0), .int .i64 ((rd_T75 x10_52 x10_54).f1), .int .i64 ((rd_T75 x10_52 x10_54).f2)]) x10_54 0 (some 3) 3 z75 rfl rfl rfl g14 g15 rfl rfl rfl) rfl (so rfl (op_alloc (cs := [.int .i64 0, .int .i64 0, .int .i64 0]) (by kernel_rfl) rfl fun b16 => (so rfl (op_st (cs' := [.int .i64 ((rd_T75 x10_52 x10_54).f0), .int .i64 ((rd_T75 x10_52 x10_54).f1), .int .i64 ((rd_T75 x10_52 x10_54).f2)]) 3 rfl rfl rfl rfl rfl rfl (re ?_))))))
     refine jo (fun S => ∃ (m : Nat) (x20_10 : Int) (x20_11 : List (Int × Bool)) (rx20_11 : Nat) (x20_12 : List S75) (Ax20_12 : Option Addr) (cx20_12 : Nat) (x20_13 : List S75) (Ax20_13 : Option Addr) (cx20_13 : Nat) (x20_14 : Bool) (x20_52 : List S75) (Ax20_52 : Option Addr) (cx20_52 : Nat) (x20_53 : Int) (x20_54 : Int) (x20_4_0 : List S64) (Ax20_4_0 : Option Addr) (cx20_4_0 : Nat) (x20_4_1 : Int) (x20_4_2 : Bool) (x20_8_0 : List S64) (Ax20_8_0 : Option Addr) (cx20_8_0 : Nat) (x20_8_1 : Int) (x20_8_2 : Bool) (x20_9_0 : List S75) (Ax20_9_0 : Option Addr) (cx20_9_0 : Nat) (x20_9_1 : Int) (x20_16_0 : Int) (x20_16_1 : Int) (x20_16_2 : Int), m ≤ n0 ∧ impl_StepAggregator.j0 m x20_10 x20_11 x20_12 x20_13 x20_14 x20_52 x20_53 x20_54 x20_4_0 x20_4_1 x20_4_2 x20_8_0 x20_8_1 x20_8_2 x20_9_0 x20_9_1 x20_16_0 x20_16_1 x20_16_2 = some (r0, r1, r2, r3, r4, r5) ∧ S = ⟨[(4, .pointer (some ⟨b4, 0, none⟩)), (8, .pointer (some ⟨b8, 0, none⟩)), (9, .pointer (some ⟨b9, 0, none⟩)), (10, .int .i64 x20_10), (11, .map (some rx20_11)), (12, .slice Ax20_12 x20_12.length cx20_12), (13, .slice Ax20_13 x20_13.length cx20_13), (14, .bool x20_14), (16, .pointer (some ⟨b16, 0, none⟩)), (52, .slice Ax20_52 x20_52.length cx20_52), (53, .int .i64 x20_53), (54, .int .i64 x20_54)], [⟨b4, 54, [.slice Ax20_4_0 x20_4_0.length cx20_4_0, .int .i64 x20_4_1, .bool x20_4_2]⟩, ⟨b8, 54, [.slice Ax20_8_0 x20_8_0.length cx20_8_0, .int .i64 x20_8_1, .bool x20_8_2]⟩, ⟨b9, 64, [.slice Ax20_9_0 x20_9_0.length cx20_9_0, .int .i64 x20_9_1]⟩, ⟨b16, 75, [.int .i64 x20_16_0, .int .i64 x20_16_1, .int .i64 x20_16_2]⟩], [mapE .i64 Value.bool rx20_11 x20_11 1, .sl 2 k75 Ax20_12 cx20_12 x20_12 2 true, .sl 2 k75 Ax20_13 cx20_13 x20_13 3 true, .sl 1 k75 Ax20_52 cx20_52 x20_52 4 true, .sl 2 k64 Ax20_4_0 cx20_4_0 x20_4_0 5 true, .sl 1 k64 Ax20_8_0 cx20_8_0 x20_8_0 4 true, .sl 1 k75 Ax20_9_0 cx20_9_0 x20_9_0 4 true]⟩) (fun S hS => ?_) (fun jh0 => ?_)
     ·
      clear H
      obtain ⟨m16, x20_10, x20_11, rx20_11, x20_12, Ax20_12, cx20_12, x20_13, Ax20_13, cx20_13, x20_14, x20_52, Ax20_52, cx20_52, x20_53, x20_54, x20_4_0, Ax20_4_0, cx20_4_0, x20_4_1, x20_4_2, x20_8_0, Ax20_8_0, cx20_8_0, x20_8_1, x20_8_2, x20_9_0, Ax20_9_0, cx20_9_0, x20_9_1, x20_16_0, x20_16_1, x20_16_2, lm16, H, rfl⟩ := hS
      rcases m16 with _ | m16
      · rw [impl_StepAggregator.j0] at H; cases H
      rw [impl_StepAggregator.j0] at H
      refine jo (fun S => ∃ (m : Nat) (x21_10 : Int) (x21_11 : List (Int × Bool)) (rx21_11 : Nat) (x21_12 : List S75) (Ax21_12 : Option Addr) (cx21_12 : Nat) (x21_13 : List S75) (Ax21_13 : Option Addr) (cx21_13 : Nat) (x21_52 : List S75) (Ax21_52 : Option Addr) (cx21_52 : Nat) (x21_53 : Int) (x21_54 : Int) (x21_4_0 : List S64) (Ax21_4_0 : Option Addr) (cx21_4_0 : Nat) (x21_4_1 : Int) (x21_4_2 : Bool) (x21_8_0 : List S64) (Ax21_8_0 : Option Addr) (cx21_8_0 : Nat) (x21_8_1 : Int) (x21_8_2 : Bool) (x21_9_0 : List S75) (Ax21_9_0 : Option Addr) (cx21_9_0 : Nat) (x21_9_1 : Int) (x21_16_0 : Int) (x21_16_1 : Int) (x21_16_2 : Int), m ≤ m16 ∧ impl_StepAggregator.j1 m x21_10 x21_11 x21_12 x21_13 x21_52 x21_53 x21_54 x21_4_0 x21_4_1 x21_4_2 x21_8_0 x21_8_1 x21_8_2 x21_9_0 x21_9_1 x21_16_0 x21_16_1 x21_16_2 = some (r0, r1, r2, r3, r4, r5) ∧ S = ⟨[(4, .pointer (some ⟨b4, 0, none⟩)), (8, .pointer (some ⟨b8, 0, none⟩)), (9, .pointer (some ⟨b9, 0, none⟩)), (10, .int .i64 x21_10), (11, .map (some rx21_11)), (12, .slice Ax21_12 x21_12.length cx21_12), (13, .slice Ax21_13 x21_13.length cx21_13), (16, .pointer (some ⟨b16, 0, none⟩)), (52, .slice Ax21_52 x21_52.length cx21_52), (53, .int .i64 x21_53), (54, .int .i64 x21_54)], [⟨b4, 54, [.slice Ax21_4_0 x21_4_0.length cx21_4_0, .int .i64 x21_4_1, .bool x21_4_2]⟩, ⟨b8, 54, [.slice Ax21_8_0 x21_8_0.length cx21_8_0, .int .i64 x21_8_1, .bool x21_8_2]⟩, ⟨b9, 64, [.slice Ax21_9_0 x21_9_0.length cx21_9_0, .int .i64 x21_9_1]⟩, ⟨b16, 75, [.int .i64 x21_16_0, .int .i64 x21_16_1, .int .i64 x21_16_2]⟩], [mapE .i64 Value.bool rx21_11 x21_11 1, .sl 2 k75 Ax21_12 cx21_12 x21_12 2 true, .sl 2 k75 Ax21_13 cx21_13 x21_13 3 true, .sl 1 k75 Ax21_52 cx21_52 x21_52 4 true, .sl 2 k64 Ax21_4_0 cx21_4_0 x21_4_0 5 true, .sl 1 k64 Ax21_8_0 cx21_8_0 x21_8_0 4 true, .sl 1 k75 Ax21_9_0 cx21_9_0 x21_9_0 4 true]⟩) (fun S hS => ?_) (fun jh1 => ?_)
      ·
       clear H
       obtain ⟨m17, x21_10, x21_11, rx21_11, x21_12, Ax21_12, cx21_12, x21_13, Ax21_13, cx21_13, x21_52, Ax21_52, cx21_52, x21_53, x21_54, x21_4_0, Ax21_4_0, cx21_4_0, x21_4_1, x21_4_2, x21_8_0, Ax21_8_0, cx21_8_0, x21_8_1, x21_8_2, x21_9_0, Ax21_9_0, cx21_9_0, x21_9_1, x21_16_0, x21_16_1, x21_16_2, lm17, H, rfl⟩ := hS
       rcases m17 with _ | m17
       · rw [impl_StepAggregator.j1] at H; cases H
       rw [impl_StepAggregator.j1] at H
       refine gs (rg (sv (EV.mv rfl) rfl (sv (EV.ld (v := .agg #[.int .i64 x21_16_0, .int .i64 x21_16_1, .int .i64 x21_16_2]) 3 (some 3) rfl rfl rfl) rfl (so rfl (op_lit (s := 3) (by_ := 24) k75 ([(⟨x21_16_0, x21_16_1, x21_16_2⟩ : S75)] : List S75) [[]] [] 6 [.tmp 87] rfl rfl rfl rfl rfl rfl rfl rfl rfl rfl rfl rfl rfl dq rfl fun A88_18 c88_18 => ?_)))))
       revert H; refine ggI ?_; intro g19 H
       exact so rfl (op_app (k := k75) (s := 3) (by_ := 24) 1 7 rfl rfl rfl rfl (ap1 g19 dq) (ap1n g19 dq) (.inl rfl) true (fun _ => .inl rfl) rfl rfl fun A89_20 c89_20 => (nmE (en := [mapE .i64 Value.bool rx21_11 x21_11 1, .sl 2 k75 Ax21_13 cx21_13 x21_13 3 true, .sl 1 k75 Ax21_52 cx21_52 x21_52 4 true, .sl 2 k64 Ax21_4_0 cx21_4_0 x21_4_0 5 true, .sl 1 k64 Ax21_8_0 cx21_8_0 x21_8_0 4 true, .sl 1 k75 Ax21_9_0 cx21_9_0 x21_9_0 4 true, .sl 2 k75 A88_18 c88_18 ([(⟨x21_16_0, x21_16_1, x21_16_2⟩ : S75)] : List S75) 6 true, .sl 2 k75 A89_20 c89_20 (x21_12 ++ ([(⟨x21_16_0, x21_16_1, x21_16_2⟩ : S75)] : List S75)) 2 true]) (by kernel_rfl) (sv (EV.as rfl) rfl (re (rg (sv (EV.fa 2 rfl) rfl (sv (EV.ld 1 none rfl rfl rfl) rfl (sv (EV.nt rfl) rfl (sv (EV.as rfl) rfl (re (pr [4, 8, 9, 10, 11, 12, 13, 14, 52, 53, 54] [0, 1, 2] [0, 1, 2, 3, 4, 5, 7] rfl rfl rfl rfl (ge (rg (sv (EV.add rfl rfl) rfl (sv (EV.mv rfl) rfl (re (wk [4, 8, 9, 10, 11, 12, 13, 14, 52, 53, 54] [0, 1, 2] [⟨0, 1, 1, false⟩, ⟨6, 2, 2, true⟩, ⟨1, 2, 3, true⟩, ⟨2, 1, 4, true⟩, ⟨3, 2, 5, true⟩, ⟨4, 1, 4, true⟩, ⟨5, 1, 4, true⟩] (ih0 _ (by omega) _ ⟨x21_10, x21_11, rx21_11, x21_12 ++ ([(⟨x21_16_0, x21_16_1, x21_16_2⟩ : S75)] : List S75), A89_20, c89_20, x21_13, Ax21_13, cx21_13, !x21_8_2, x21_52, Ax21_52, cx21_52, x21_53, wrap64 (x21_54 + 1), x21_4_0, Ax21_4_0, cx21_4_0, x21_4_1, x21_4_2, x21_8_0, Ax21_8_0, cx21_8_0, x21_8_1, x21_8_2, x21_9_0, Ax21_9_0, cx21_9_0, x21_9_1, H, rfl⟩))))))))))))))))))
      ·
       refine gs (rg (sv (EV.mv rfl) rfl (sv (EV.mv rfl) rfl ?_)))
       revert H; refine ifsI ?_ ?_ <;> intro c21 H
       ·
        subst c21
        refine ts 76 rfl rfl (sv (EV.mv rfl) rfl (sv (EV.fa 0 rfl) rfl (sv (EV.ld 3 none rfl rfl rfl) rfl (sv (EV.lk (vf := Value.bool) (zz := false) 0 rfl rfl rfl) rfl (sv (EV.pt rfl rfl rfl) rfl (re ?_))))))
        revert H; refine ifsI ?_ ?_ <;> intro c22 H
        ·
         refine gt rfl (c22) (gs (rg (sv (EV.mv rfl) rfl (sv (EV.ld (v := .agg #[.int .i64 x20_16_0, .int .i64 x20_16_1, .int .i64 x20_16_2]) 3 (some 3) rfl rfl rfl) rfl (so rfl (op_lit (s := 3) (by_ := 24) k75 ([(⟨x20_16_0, x20_16_1, x20_16_2⟩ : S75)] : List S75) [[]] [] 6 [.tmp 83] rfl rfl rfl rfl rfl rfl rfl rfl rfl rfl rfl rfl rfl dq rfl fun A84_23 c84_23 => ?_))))))
         revert H; refine ggI ?_; intro g24 H
         exact so rfl (op_app (k := k75) (s := 3) (by_ := 24) 2 7 rfl rfl rfl rfl (ap1 g24 dq) (ap1n g24 dq) (.inl rfl) true (fun _ => .inl rfl) rfl rfl fun A85_25 c85_25 => (nmE (en := [mapE .i64 Value.bool rx20_11 x20_11 1, .sl 2 k75 Ax20_12 cx20_12 x20_12 2 true, .sl 1 k75 Ax20_52 cx20_52 x20_52 4 true, .sl 2 k64 Ax20_4_0 cx20_4_0 x20_4_0 5 true, .sl 1 k64 Ax20_8_0 cx20_8_0 x20_8_0 4 true, .sl 1 k75 Ax20_9_0 cx20_9_0 x20_9_0 4 true, .sl 2 k75 A84_23 c84_23 ([(⟨x20_16_0, x20_16_1, x20_16_2⟩ : S75)] : List S75) 6 true, .sl 2 k75 A85_25 c85_25 (x20_13 ++ ([(⟨x20_16_0, x20_16_1, x20_16_2⟩ : S75)] : List S75)) 3 true]) (by kernel_rfl) (sv (EV.as rfl) rfl (re (pr [4, 8, 9, 10, 11, 12, 13, 14, 52, 53, 54, 77, 78, 79, 80] [0, 1, 2, 3] [0, 1, 2, 3, 4, 5, 7] rfl rfl rfl rfl (gx rfl (rg (sv (EV.add rfl rfl) rfl (sv (EV.mv rfl) rfl (re (wk [4, 8, 9, 10, 11, 12, 13, 14, 52, 53, 54] [0, 1, 2] [⟨0, 1, 1, false⟩, ⟨1, 2, 2, true⟩, ⟨6, 2, 3, true⟩, ⟨2, 1, 4, true⟩, ⟨3, 2, 5, true⟩, ⟨4, 1, 4, true⟩, ⟨5, 1, 4, true⟩] (ih0 _ (by omega) _ ⟨x20_10, x20_11, rx20_11, x20_12, Ax20_12, cx20_12, x20_13 ++ ([(⟨x20_16_0, x20_16_1, x20_16_2⟩ : S75)] : List S75), A85_25, c85_25, true, x20_52, Ax20_52, cx20_52, x20_53, wrap64 (x20_54 + 1), x20_4_0, Ax20_4_0, cx20_4_0, x20_4_1, x20_4_2, x20_8_0, Ax20_8_0, cx20_8_0, x20_8_1, x20_8_2, x20_9_0, Ax20_9_0, cx20_9_0, x20_9_1, H, rfl⟩))))))))))))
        ·
         exact gf rfl (bF c22) (gk (wk [4, 8, 9, 10, 11, 12, 13, 16, 52, 53, 54] [0, 1, 2, 3] [⟨0, 1, 1, false⟩, ⟨1, 2, 2, true⟩, ⟨2, 2, 3, true⟩, ⟨3, 1, 4, true⟩, ⟨4, 2, 5, true⟩, ⟨5, 1, 4, true⟩, ⟨6, 1, 4, true⟩] (jh1 _ ⟨_, x20_10, x20_11, rx20_11, x20_12, Ax20_12, cx20_12, x20_13, Ax20_13, cx20_13, x20_52, Ax20_52, cx20_52, x20_53, x20_54, x20_4_0, Ax20_4_0, cx20_4_0, x20_4_1, x20_4_2, x20_8_0, Ax20_8_0, cx20_8_0, x20_8_1, x20_8_2, x20_9_0, Ax20_9_0, cx20_9_0, x20_9_1, x20_16_0, x20_16_1, x20_16_2, by omega, H, rfl⟩)))
       ·
        obtain rfl := bF c21
        exact ts 76 rfl rfl (sk rfl (sk rfl (sk rfl (sk rfl (sv (EV.pf rfl rfl rfl) rfl (re (pr [4, 8, 9, 10, 11, 12, 13, 14, 16, 52, 53, 54, 81] [0, 1, 2, 3] [0, 1, 2, 3, 4, 5, 6] rfl rfl rfl rfl (gf rfl rfl (gk (wk [4, 8, 9, 10, 11, 12, 13, 16, 52, 53, 54] [0, 1, 2, 3] [⟨0, 1, 1, false⟩, ⟨1, 2, 2, true⟩, ⟨2, 2, 3, true⟩, ⟨3, 1, 4, true⟩, ⟨4, 2, 5, true⟩, ⟨5, 1, 4, true⟩, ⟨6, 1, 4, true⟩] (jh1 _ ⟨_, x20_10, x20_11, rx20_11, x20_12, Ax20_12, cx20_12, x20_13, Ax20_13, cx20_13, x20_52, Ax20_52, cx20_52, x20_53, x20_54, x20_4_0, Ax20_4_0, cx20_4_0, x20_4_1, x20_4_2, x20_8_0, Ax20_8_0, cx20_8_0, x20_8_1, x20_8_2, x20_9_0, Ax20_9_0, cx20_9_0, x20_9_1, x20_16_0, x20_16_1, x20_16_2, by omega, H, rfl⟩)))))))))))
     ·
      refine gs (rg (sv (EV.mv rfl) rfl (sv (EV.mv rfl) rfl ?_)))
      revert H; refine ifsI ?_ ?_ <;> intro c26 H
      ·
       subst c26
       refine ts 59 rfl rfl (sv (EV.mv rfl) rfl (sv (EV.fa 0 rfl) rfl (sv (EV.ld 3 none rfl rfl rfl) rfl (sv (EV.lk (vf := Value.bool) (zz := false) 0 rfl rfl rfl) rfl (sv (EV.nt rfl) rfl (sv (EV.pt rfl rfl rfl) rfl (sv (EV.mv rfl) rfl ?_)))))))
       revert H; refine ifsI ?_ ?_ <;> intro c27 H
       ·
        exact ts 66 rfl (bN c27) (sk rfl (sk rfl (sk rfl (sk rfl (sv (EV.pf rfl rfl rfl) rfl (re (pr [4, 8, 9, 10, 11, 12, 13, 14, 16, 52, 53, 54, 60, 61, 62, 63, 64, 71] [0, 1, 2, 3] [0, 1, 2, 3, 4, 5, 6] rfl rfl rfl rfl (gf rfl rfl (gk (wk [4, 8, 9, 10, 11, 12, 13, 14, 16, 52, 53, 54] [0, 1, 2, 3] [⟨0, 1, 1, false⟩, ⟨1, 2, 2, true⟩, ⟨2, 2, 3, true⟩, ⟨3, 1, 4, true⟩, ⟨4, 2, 5, true⟩, ⟨5, 1, 4, true⟩, ⟨6, 1, 4, true⟩] (jh0 _ ⟨_, x10_10, x10_11, rx10_11, x10_12, Ax10_12, cx10_12, x10_13, Ax10_13, cx10_13, true, x10_52, Ax10_52, cx10_52, x10_53, x10_54, x10_4_0, Ax10_4_0, cx10_4_0, x10_4_1, x10_4_2, x10_8_0, Ax10_8_0, cx10_8_0, x10_8_1, x10_8_2, x10_9_0, Ax10_9_0, cx10_9_0, x10_9_1, (rd_T75 x10_52 x10_54).f0, (rd_T75 x10_52 x10_54).f1, (rd_T75 x10_52 x10_54).f2, by omega, H, rfl⟩)))))))))))
       ·
        refine ts 66 rfl (bM c27) (sv (EV.mv rfl) rfl (sv (EV.lm 0 rfl rfl) rfl (sv (EV.mv rfl) rfl (sv (EV.lss rfl rfl) rfl (sv (EV.pt rfl rfl rfl) rfl (re (pr [4, 8, 9, 10, 11, 12, 13, 14, 16, 52, 53, 54, 60, 61, 62, 63, 64, 67, 68, 69, 70, 71] [0, 1, 2, 3] [0, 1, 2, 3, 4, 5, 6] rfl rfl rfl rfl ?_)))))))
        revert H; refine ifsI ?_ ?_ <;> intro c28 H
        ·
         exact gt rfl (dT c28) (rg (sv (EV.mv rfl) rfl (sv (EV.fa 0 rfl) rfl (sv (EV.ld 3 none rfl rfl rfl) rfl (so rfl (op_mu 0 true rfl rfl rfl rfl rfl (nmE (en := [.sl 2 k75 Ax10_12 cx10_12 x10_12 2 true, .sl 2 k75 Ax10_13 cx10_13 x10_13 3 true, .sl 1 k75 Ax10_52 cx10_52 x10_52 4 true, .sl 2 k64 Ax10_4_0 cx10_4_0 x10_4_0 5 true, .sl 1 k64 Ax10_8_0 cx10_8_0 x10_8_0 4 true, .sl 1 k75 Ax10_9_0 cx10_9_0 x10_9_0 4 true, mapE .i64 Value.bool rx10_11 (mSet x10_11 ((rd_T75 x10_52 x10_54).f0) true) 1]) (by kernel_rfl) (re (wk [4, 8, 9, 10, 11, 12, 13, 14, 16, 52, 53, 54] [0, 1, 2, 3] [⟨6, 1, 1, false⟩, ⟨0, 2, 2, true⟩, ⟨1, 2, 3, true⟩, ⟨2, 1, 4, true⟩, ⟨3, 2, 5, true⟩, ⟨4, 1, 4, true⟩, ⟨5, 1, 4, true⟩] (jh0 _ ⟨_, x10_10, mSet x10_11 ((rd_T75 x10_52 x10_54).f0) true, rx10_11, x10_12, Ax10_12, cx10_12, x10_13, Ax10_13, cx10_13, true, x10_52, Ax10_52, cx10_52, x10_53, x10_54, x10_4_0, Ax10_4_0, cx10_4_0, x10_4_1, x10_4_2, x10_8_0, Ax10_8_0, cx10_8_0, x10_8_1, x10_8_2, x10_9_0, Ax10_9_0, cx10_9_0, x10_9_1, (rd_T75 x10_52 x10_54).f0, (rd_T75 x10_52 x10_54).f1, (rd_T75 x10_52 x10_54).f2, by omega, H, rfl⟩))))))))))
        ·
         exact gf rfl (dF c28) (gk (wk [4, 8, 9, 10, 11, 12, 13, 14, 16, 52, 53, 54] [0, 1, 2, 3] [⟨0, 1, 1, false⟩, ⟨1, 2, 2, true⟩, ⟨2, 2, 3, true⟩, ⟨3, 1, 4, true⟩, ⟨4, 2, 5, true⟩, ⟨5, 1, 4, true⟩, ⟨6, 1, 4, true⟩] (jh0 _ ⟨_, x10_10, x10_11, rx10_11, x10_12, Ax10_12, cx10_12, x10_13, Ax10_13, cx10_13, true, x10_52, Ax10_52, cx10_52, x10_53, x10_54, x10_4_0, Ax10_4_0, cx10_4_0, x10_4_1, x10_4_2, x10_8_0, Ax10_8_0, cx10_8_0, x10_8_1, x10_8_2, x10_9_0, Ax10_9_0, cx10_9_0, x10_9_1, (rd_T75 x10_52 x10_54).f0, (rd_T75 x10_52 x10_54).f1, (rd_T75 x10_52 x10_54).f2, by omega, H, rfl⟩)))
      ·
       obtain rfl := bF c26
       exact ts 59 rfl rfl (sk rfl (sk rfl (sk rfl (sk rfl (sk rfl (sv (EV.pf rfl rfl rfl) rfl (sv (EV.mv rfl) rfl (sk rfl (sk rfl (sk rfl (sk rfl (sv (EV.pf rfl rfl rfl) rfl (re (pr [4, 8, 9, 10, 11, 12, 13, 14, 16, 52, 53, 54, 71] [0, 1, 2, 3] [0, 1, 2, 3, 4, 5, 6] rfl rfl rfl rfl (gf rfl rfl (gk (wk [4, 8, 9, 10, 11, 12, 13, 14, 16, 52, 53, 54] [0, 1, 2, 3] [⟨0, 1, 1, false⟩, ⟨1, 2, 2, true⟩, ⟨2, 2, 3, true⟩, ⟨3, 1, 4, true⟩, ⟨4, 2, 5, true⟩, ⟨5, 1, 4, true⟩, ⟨6, 1, 4, true⟩] (jh0 _ ⟨_, x10_10, x10_11, rx10_11, x10_12, Ax10_12, cx10_12, x10_13, Ax10_13, cx10_13, false, x10_52, Ax10_52, cx10_52, x10_53, x10_54, x10_4_0, Ax10_4_0, cx10_4_0, x10_4_1, x10_4_2, x10_8_0, Ax10_8_0, cx10_8_0, x10_8_1, x10_8_2, x10_9_0, Ax10_9_0, cx10_9_0, x10_9_1, (rd_T75 x10_52 x10_54).f0, (rd_T75 x10_52 x10_54).f1, (rd_T75 x10_52 x10_54).f2, by omega, H, rfl⟩))))))))))))))))))
    ·
     refine gf rfl (dF c13) (gx rfl (gs (rg (sv (EV.mv rfl) rfl ?_))))
     revert H; refine bdI ?_; rintro t29 A29 H
     refine so rfl (op_call (impl_ReferenceGroups.ok n0 x10_13 Ax10_13 cx10_13 _ A29) [⟨2, 0, 0, false⟩] 6 rfl rfl rfl rfl rfl ?_)
     rintro _ _ _ ⟨At29, ct29, rfl, rfl, rfl⟩
     refine sv (EV.as rfl) rfl (re (pr [4, 8, 9, 12, 17] [0, 1, 2] [1, 4, 5, 6, 7] rfl rfl rfl rfl ?_))
     refine jo (fun S => ∃ (m : Nat) (x23_17 : List S49) (Ax23_17 : Option Addr) (cx23_17 : Nat) (x23_4_0 : List S64) (Ax23_4_0 : Option Addr) (cx23_4_0 : Nat) (x23_4_1 : Int) (x23_4_2 : Bool) (x23_8_0 : List S64) (Ax23_8_0 : Option Addr) (cx23_8_0 : Nat) (x23_8_1 : Int) (x23_8_2 : Bool), m ≤ n0 ∧ impl_StepAggregator.j2 m x23_17 x23_4_0 x23_4_1 x23_4_2 x23_8_0 x23_8_1 x23_8_2 = some (r0, r1, r2, r3, r4, r5) ∧ S = ⟨[(4, .pointer (some ⟨b4, 0, none⟩)), (8, .pointer (some ⟨b8, 0, none⟩)), (17, .slice Ax23_17 x23_17.length cx23_17)], [⟨b4, 54, [.slice Ax23_4_0 x23_4_0.length cx23_4_0, .int .i64 x23_4_1, .bool x23_4_2]⟩, ⟨b8, 54, [.slice Ax23_8_0 x23_8_0.length cx23_8_0, .int .i64 x23_8_1, .bool x23_8_2]⟩], [.sl 1 k49 Ax23_17 cx23_17 x23_17 1 false, .sl 2 k64 Ax23_4_0 cx23_4_0 x23_4_0 2 true, .sl 1 k64 Ax23_8_0 cx23_8_0 x23_8_0 3 true]⟩) (fun S hS => ?_) (fun jh2 => ?_)
     ·
      clear H
      obtain ⟨m30, x23_17, Ax23_17, cx23_17, x23_4_0, Ax23_4_0, cx23_4_0, x23_4_1, x23_4_2, x23_8_0, Ax23_8_0, cx23_8_0, x23_8_1, x23_8_2, lm30, H, rfl⟩ := hS
      rcases m30 with _ | m30
      · rw [impl_StepAggregator.j2] at H; cases H
      rw [impl_StepAggregator.j2] at H
      refine gs (rg (sv (EV.ld (v := .agg #[.slice Ax23_8_0 x23_8_0.length cx23_8_0, .int .i64 x23_8_1, .bool x23_8_2]) 1 (some 3) rfl rfl rfl) rfl (sv (EV.mv rfl) rfl (sv (EV.mv rfl) rfl (sv (EV.ln rfl) rfl (sv (EV.mul rfl rfl) rfl (so rfl (op_st (cs' := [.slice Ax23_8_0 x23_8_0.length cx23_8_0, .int .i64 x23_8_1, .bool x23_8_2]) 0 rfl rfl rfl rfl rfl rfl (sv (EV.as rfl) rfl (sv (EV.as rfl) rfl (sv (EV.as rfl) rfl (re (pr [4, 5, 6, 7] [0] [0, 2] rfl rfl rfl rfl ?_)))))))))))))
      cases H
      exact rt Try.func34 rfl (.cell 0 (some 3) rfl rfl rfl (.tmp rfl (.tmp rfl (.tmp rfl .nil)))) rfl [] [⟨1, 1, 1, true⟩, ⟨0, 1, 2, false⟩] rfl rfl rfl rfl rfl ⟨_, _, _, _, rfl, rfl, rfl⟩
     ·
      refine gs (rg (sv (EV.mv rfl) rfl (sv (EV.ln rfl) rfl (sv (EV.gtr rfl rfl) rfl (re ?_)))))
      revert H; refine ifsI ?_ ?_ <;> intro c31 H
      ·
       refine gt rfl (dT c31) (gs (rg (sv (EV.mv rfl) rfl (sv (EV.fa 1 rfl) rfl (sv (EV.ld 2 none rfl rfl rfl) rfl (sv (EV.bd (v := .agg #[.slice Ax10_12 x10_12.length cx10_12, .int .i64 x10_9_1]) rfl (by kernel_rfl)) rfl (so rfl (op_lit (s := 2) (by_ := 32) k64 ([(⟨x10_12, x10_9_1⟩ : S64)] : List S64) [[(Ax10_12, cx10_12)]] [0] 8 [.tmp 102] rfl rfl rfl rfl rfl rfl rfl rfl rfl rfl rfl rfl rfl dq rfl fun A103_32 c103_32 => (nmE (en := [.sl 2 k75 Ax10_12 cx10_12 x10_12 8 true, .sl 2 k64 Ax10_4_0 cx10_4_0 x10_4_0 5 true, .sl 1 k64 Ax10_8_0 cx10_8_0 x10_8_0 4 true, .sl 1 k75 Ax10_9_0 cx10_9_0 x10_9_0 4 true, .sl 1 k49 At29 ct29 t29 7 false, .sl 2 k64 A103_32 c103_32 ([(⟨x10_12, x10_9_1⟩ : S64)] : List S64) 8 true]) (by kernel_rfl) (sv (EV.as rfl) rfl (re (pr [4, 8, 9, 12, 17, 18] [0, 1, 2] [0, 1, 2, 3, 4, 5] rfl rfl rfl rfl ?_))))))))))))
       refine jo (fun S => ∃ (m : Nat) (x24_17 : List S49) (Ax24_17 : Option Addr) (cx24_17 : Nat) (x24_18 : List S64) (Ax24_18 : Option Addr) (cx24_18 : Nat) (x24_4_0 : List S64) (Ax24_4_0 : Option Addr) (cx24_4_0 : Nat) (x24_4_1 : Int) (x24_4_2 : Bool) (x24_8_0 : List S64) (Ax24_8_0 : Option Addr) (cx24_8_0 : Nat) (x24_8_1 : Int) (x24_8_2 : Bool), m ≤ n0 ∧ impl_StepAggregator.j3 m x24_17 x24_18 x24_4_0 x24_4_1 x24_4_2 x24_8_0 x24_8_1 x24_8_2 = some (r0, r1, r2, r3, r4, r5) ∧ S = ⟨[(4, .pointer (some ⟨b4, 0, none⟩)), (8, .pointer (some ⟨b8, 0, none⟩)), (17, .slice Ax24_17 x24_17.length cx24_17), (18, .slice Ax24_18 x24_18.length cx24_18)], [⟨b4, 54, [.slice Ax24_4_0 x24_4_0.length cx24_4_0, .int .i64 x24_4_1, .bool x24_4_2]⟩, ⟨b8, 54, [.slice Ax24_8_0 x24_8_0.length cx24_8_0, .int .i64 x24_8_1, .bool x24_8_2]⟩], [.sl 1 k49 Ax24_17 cx24_17 x24_17 1 false, .sl 2 k64 Ax24_18 cx24_18 x24_18 2 true, .sl 2 k64 Ax24_4_0 cx24_4_0 x24_4_0 3 true, .sl 1 k64 Ax24_8_0 cx24_8_0 x24_8_0 4 true]⟩) (fun S hS => ?_) (fun jh3 => ?_)
       ·
        clear H
        obtain ⟨m33, x24_17, Ax24_17, cx24_17, x24_18, Ax24_18, cx24_18, x24_4_0, Ax24_4_0, cx24_4_0, x24_4_1, x24_4_2, x24_8_0, Ax24_8_0, cx24_8_0, x24_8_1, x24_8_2, lm33, H, rfl⟩ := hS
        rcases m33 with _ | m33
        · rw [impl_StepAggregator.j3] at H; cases H
        rw [impl_StepAggregator.j3] at H
        refine rg (sv (EV.mv rfl) rfl (sv (EV.fa 0 rfl) rfl (sv (EV.ld 1 none rfl rfl rfl) rfl ?_)))
        revert H; refine ggI ?_; intro g34 H
        exact so rfl (op_app (k := k64) (s := 2) (by_ := 32) 1 3 rfl rfl rfl rfl (ap2 g34 dq) (ap2n g34 dq) (.inr ⟨dq, dq, rfl, dq⟩) true (fun _ => .inr ⟨rfl, rfl, dq⟩) rfl rfl fun A137_35 c137_35 => (nmE (en := [.sl 1 k49 Ax24_17 cx24_17 x24_17 1 false, .sl 2 k64 Ax24_4_0 cx24_4_0 x24_4_0 3 true, .sl 1 k64 Ax24_8_0 cx24_8_0 x24_8_0 2 true, .sl 2 k64 A137_35 c137_35 (x24_18 ++ x24_8_0) 2 true]) (by kernel_rfl) (sv (EV.fa 0 rfl) rfl (so rfl (op_st (cs' := [.slice A137_35 (x24_18 ++ x24_8_0).length c137_35, .int .i64 x24_8_1, .bool x24_8_2]) 1 rfl rfl rfl rfl rfl rfl (re (pr [4, 8, 17] [0, 1] [0, 1, 3] rfl rfl rfl rfl (wk [4, 8, 17] [0, 1] [⟨0, 1, 1, false⟩, ⟨1, 2, 2, true⟩, ⟨2, 1, 3, true⟩] (jh2 _ ⟨_, x24_17, Ax24_17, cx24_17, x24_4_0, Ax24_4_0, cx24_4_0, x24_4_1, x24_4_2, x24_18 ++ x24_8_0, A137_35, c137_35, x24_8_1, x24_8_2, by omega, H, rfl⟩)))))))))
       ·
        refine gs (rg (sv (EV.fa 2 rfl) rfl (sv (EV.ld 1 none rfl rfl rfl) rfl (sv (EV.nt rfl) rfl (re ?_)))))
        revert H; refine ifsI ?_ ?_ <;> intro c36 H
        ·
         subst c36
         exact gf rfl rfl (gk (wk [4, 8, 17, 18] [0, 1] [⟨4, 1, 1, false⟩, ⟨5, 2, 2, true⟩, ⟨1, 2, 3, true⟩, ⟨2, 1, 4, true⟩] (jh3 _ ⟨_, t29, At29, ct29, ([(⟨x10_12, x10_9_1⟩ : S64)] : List S64), A103_32, c103_32, x10_4_0, Ax10_4_0, cx10_4_0, x10_4_1, x10_4_2, x10_8_0, Ax10_8_0, cx10_8_0, x10_8_1, true, by omega, H, rfl⟩)))
        ·
         obtain rfl := bF c36
         refine gt rfl rfl (gs (dr [0, 1, 2] [0, 1, 2, 3, 4, 5] [6] 7 rfl rfl rfl rfl (xv 0 [0, 1, 2] [0, 1, 2, 3, 4, 5] rfl (EV.fa 1 rfl) rfl rfl rfl rfl (xv 1 [0, 1, 2] [0, 1, 2, 3, 4, 5] rfl (EV.ld 1 none rfl rfl rfl) rfl rfl rfl rfl (xv 2 [0, 1, 2] [0, 1, 2, 3, 4, 5] rfl (EV.mv rfl) rfl rfl rfl rfl (one1 3 rfl rfl ?_))))))
         revert H; refine bdI ?_; rintro t37 A37 H
         refine op_call (impl_TotalCost.ok n0 x10_12 Ax10_12 cx10_12 _ A37) [⟨0, 0, 0, false⟩] 9 rfl rfl rfl rfl rfl ?_
         rintro _ _ _ ⟨rfl, rfl, rfl⟩
         refine xs [0, 1, 2] [0, 1, 2, 3, 4, 5] rfl rfl rfl (xv 4 [0, 1, 2] [0, 1, 2, 3, 4, 5] rfl (EV.add rfl rfl) rfl rfl rfl rfl (xv 5 [0, 1, 2] [0, 1, 2, 3, 4, 5] rfl (EV.fa 1 rfl) rfl rfl rfl rfl (one1 6 rfl rfl (op_st (cs' := [.slice Ax10_8_0 x10_8_0.length cx10_8_0, .int .i64 (wrap64 (x10_8_1 + t37)), .bool false]) 1 rfl rfl rfl rfl rfl rfl (xn rfl (xd (pr [4, 8, 9, 12, 17, 18] [0, 1, 2] [0, 1, 2, 3, 4, 5] rfl rfl rfl rfl (gs (rg (sv (EV.fa 1 rfl) rfl (sv (EV.ld 2 none rfl rfl rfl) rfl (sv (EV.lss rfl rfl) rfl (re ?_)))))))))))))
         revert H; refine ifsI ?_ ?_ <;> intro c38 H
         ·
          refine gt rfl (dT c38) (gs (rg (sv (EV.mv rfl) rfl (sv (EV.fa 1 rfl) rfl (sv (EV.ld 2 none rfl rfl rfl) rfl ?_)))))
          revert H; refine bdI ?_; rintro ⟨t39_0, t39_1⟩ A39 H
          refine so rfl (op_call (impl_SplitByHashBit.ok n0 x10_12 Ax10_12 cx10_12 x10_9_1 _ _ A39) [⟨0, 0, 0, false⟩] 9 rfl rfl rfl rfl rfl ?_)
          rintro _ _ _ ⟨At39_0, ct39_0, At39_1, ct39_1, rfl, rfl, rfl⟩
          exact sv (EV.mv rfl) rfl (sv (EV.ex rfl rfl) rfl (sv (EV.ex rfl rfl) rfl (sv (EV.as rfl) rfl (sv (EV.as rfl) rfl (re (pr [4, 8, 9, 17, 19, 20] [0, 1, 2] [1, 2, 3, 4, 6, 7] rfl rfl rfl rfl (rg (sv (EV.mv rfl) rfl (sv (EV.fa 1 rfl) rfl (sv (EV.ld 2 none rfl rfl rfl) rfl (sv (EV.add rfl rfl) rfl (sv (EV.bd (v := .agg #[.slice At39_0 t39_0.length ct39_0, .int .i64 (wrap64 (x10_9_1 + 1))]) rfl (by kernel_rfl)) rfl (sv (EV.mv rfl) rfl (sv (EV.fa 1 rfl) rfl (sv (EV.ld 2 none rfl rfl rfl) rfl (sv (EV.add rfl rfl) rfl (sv (EV.bd (v := .agg #[.slice At39_1 t39_1.length ct39_1, .int .i64 (wrap64 (x10_9_1 + 1))]) rfl (by kernel_rfl)) rfl (so rfl (op_lit (s := 2) (by_ := 32) k64 ([(⟨t39_0, wrap64 (x10_9_1 + 1)⟩ : S64), (⟨t39_1, wrap64 (x10_9_1 + 1)⟩ : S64)] : List S64) [[(At39_0, ct39_0)], [(At39_1, ct39_1)]] [4, 5] 12 [.tmp 127, .tmp 132] rfl rfl rfl rfl rfl rfl rfl rfl rfl rfl rfl rfl rfl dq rfl fun A133_40 c133_40 => (nmE (en := [.sl 2 k64 Ax10_4_0 cx10_4_0 x10_4_0 5 true, .sl 1 k64 Ax10_8_0 cx10_8_0 x10_8_0 4 true, .sl 1 k75 Ax10_9_0 cx10_9_0 x10_9_0 4 true, .sl 1 k49 At29 ct29 t29 7 false, .sl 2 k75 At39_0 ct39_0 t39_0 12 true, .sl 2 k75 At39_1 ct39_1 t39_1 12 true, .sl 2 k64 A133_40 c133_40 ([(⟨t39_0, wrap64 (x10_9_1 + 1)⟩ : S64), (⟨t39_1, wrap64 (x10_9_1 + 1)⟩ : S64)] : List S64) 12 true]) (by kernel_rfl) (sv (EV.as rfl) rfl (re (pr [4, 8, 17, 18] [0, 1] [0, 1, 3, 6] rfl rfl rfl rfl (wk [4, 8, 17, 18] [0, 1] [⟨2, 1, 1, false⟩, ⟨3, 2, 2, true⟩, ⟨0, 2, 3, true⟩, ⟨1, 1, 4, true⟩] (jh3 _ ⟨_, t29, At29, ct29, ([(⟨t39_0, wrap64 (x10_9_1 + 1)⟩ : S64), (⟨t39_1, wrap64 (x10_9_1 + 1)⟩ : S64)] : List S64), A133_40, c133_40, x10_4_0, Ax10_4_0, cx10_4_0, x10_4_1, x10_4_2, x10_8_0, Ax10_8_0, cx10_8_0, wrap64 (x10_8_1 + t37), false, by omega, H, rfl⟩)))))))))))))))))))))))))
         ·
          exact gf rfl (dF c38) (gk (wk [4, 8, 17, 18] [0, 1] [⟨4, 1, 1, false⟩, ⟨5, 2, 2, true⟩, ⟨1, 2, 3, true⟩, ⟨2, 1, 4, true⟩] (jh3 _ ⟨_, t29, At29, ct29, ([(⟨x10_12, x10_9_1⟩ : S64)] : List S64), A103_32, c103_32, x10_4_0, Ax10_4_0, cx10_4_0, x10_4_1, x10_4_2, x10_8_0, Ax10_8_0, cx10_8_0, wrap64 (x10_8_1 + t37), false, by omega, H, rfl⟩)))
      ·
       exact gf rfl (dF c31) (gk (wk [4, 8, 17] [0, 1] [⟨4, 1, 1, false⟩, ⟨1, 2, 2, true⟩, ⟨2, 1, 3, true⟩] (jh2 _ ⟨_, t29, At29, ct29, x10_4_0, Ax10_4_0, cx10_4_0, x10_4_1, x10_4_2, x10_8_0, Ax10_8_0, cx10_8_0, x10_8_1, x10_8_2, by omega, H, rfl⟩)))
   ·
    obtain rfl := bF c6
    refine gt rfl rfl (gs (rg (sv (EV.ld (v := .agg #[.slice At1_0 t1_0.length ct1_0, .int .i64 t1_1, .bool t1_2]) 1 (some 3) rfl rfl rfl) rfl (so rfl (op_st (cs' := [.slice At1_0 t1_0.length ct1_0, .int .i64 t1_1, .bool t1_2]) 0 rfl rfl rfl rfl rfl rfl (sv (EV.as rfl) rfl (sv (EV.as rfl) rfl (sv (EV.as rfl) rfl (re (nil_ k49 3 dq ?_))))))))))
    cases H
    exact rt Try.func34 rfl (.cell 0 (some 3) rfl rfl rfl (.tmp rfl (.tmp rfl (.tmp rfl .nil)))) rfl [] [⟨0, 1, 1, true⟩, ⟨1, 1, 2, false⟩] rfl rfl rfl rfl rfl ⟨_, _, _, _, rfl, rfl, rfl⟩
 ·
  obtain rfl := bF c3
  refine ts 26 rfl rfl (sk rfl (sk rfl (sk rfl (sk rfl (sv (EV.pt rfl rfl rfl) rfl (sv (EV.mv rfl) rfl (sk rfl (sk rfl (sk rfl (sv (EV.pt rfl rfl rfl) rfl (re (pr [1, 4, 8, 36] [1, 2] [1] rfl rfl rfl rfl (gt rfl rfl (gs (rg (sv (EV.ld (v := .agg #[.slice At1_0 t1_0.length ct1_0, .int .i64 t1_1, .bool t1_2]) 1 (some 3) rfl rfl rfl) rfl (so rfl (op_st (cs' := [.slice At1_0 t1_0.length ct1_0, .int .i64 t1_1, .bool t1_2]) 0 rfl rfl rfl rfl rfl rfl (sv (EV.as rfl) rfl (sv (EV.as rfl) rfl (sv (EV.as rfl) rfl (re (nil_ k49 3 dq ?_)))))))))))))))))))))))
  cases H
  exact rt Try.func34 rfl (.cell 0 (some 3) rfl rfl rfl (.tmp rfl (.tmp rfl (.tmp rfl .nil)))) rfl [] [⟨0, 1, 1, true⟩, ⟨1, 1, 2, false⟩] rfl rfl rfl rfl rfl ⟨_, _, _, _, rfl, rfl, rfl⟩
def spec_DrawDistinctKeys.f (k : Nat) (l0 : List Int) : Option ((List S75)) := (spec_l1New.f k l0).bind fun bt1 => ((spec_l2Bent.f k l0 bt1.1 bt1.2 10).bind fun bt2 => (some bt2.1))
set_option maxHeartbeats 4000000 in
set_option maxRecDepth 100000 in
theorem spec_DrawDistinctKeys.ok (k : Nat) (l0 : List Int) (Al0 : Option Addr) (cl0 : Nat) (r0 : List S75) (H : spec_DrawDistinctKeys.f k l0 = some r0) : Fn Try.prog 36 [.slice Al0 l0.length cl0] [] [.sl 0 (.int .u8) Al0 cl0 l0 0 false] (fun v bx en => ∃ A0 c0, v = .slice A0 r0.length c0 ∧ bx = [] ∧ en = [.sl 2 k75 A0 c0 r0 1 true]) := by
 refine fn_ 6 Try.func36 rfl rfl rfl (fun base T w0 => ?_)
 rw [spec_DrawDistinctKeys.f] at H
 refine gs (rg (sv (EV.as rfl) rfl (re (gs (rg (sv (EV.mv rfl) rfl ?_))))))
 revert H; refine bdI ?_; rintro ⟨t1_0, t1_1⟩ A1 H
 refine so rfl (op_callM (spec_l1New.ok k l0 Al0 cl0 _ _ A1) [⟨0, 0, 0, false⟩] [] [] 1 rfl rfl rfl rfl rfl rfl rfl rfl ?_)
 rintro _ _ _ ⟨b2001, rfl, rfl, rfl⟩
 refine nmE (en := [.sl 0 (.int .u8) Al0 cl0 l0 0 false]) (by kernel_rfl) ?_
 revert H; refine bdI ?_; rintro ⟨t2_0, t2_1, t2_2⟩ A2 H
 refine so rfl (op_callM (spec_l2Bent.ok k b2001 l0 Al0 cl0 t1_0 t1_1 10 _ _ _ A2) [⟨0, 0, 0, false⟩] [0] [] 1 rfl rfl rfl rfl rfl rfl rfl rfl ?_)
 rintro _ _ _ ⟨At2_0, ct2_0, rfl, rfl, rfl⟩
 refine nmE (en := [.sl 0 (.int .u8) Al0 cl0 l0 0 false, .sl 2 k75 At2_0 ct2_0 t2_0 2 true]) (by kernel_rfl) (sv (EV.as rfl) rfl (re ?_))
 cases H
 exact rt Try.func36 rfl (.tmp rfl .nil) rfl [] [⟨1, 2, 1, true⟩] rfl rfl rfl rfl rfl ⟨_, _, rfl, rfl, rfl⟩
def spec_l6Rows.l0 : Nat → Int → (List S75) → (List S75) → Option (Bool)
 | 0, _, _, _ => none
 | k + 1, x2_5, l0, l1 => if x2_5 < (l0.length : Int) then (if 0 ≤ x2_5 then (if x2_5 < (l1.length : Int) then (if (((rd_T75 l0 x2_5).f0) == ((rd_T75 l1 x2_5).f0) && (((rd_T75 l0 x2_5).f1) == ((rd_T75 l1 x2_5).f1) && (((rd_T75 l0 x2_5).f2) == ((rd_T75 l1 x2_5).f2)))) = true then (spec_l6Rows.l0 k (wrap64 (x2_5 + 1)) l0 l1) else (some false)) else none) else none) else (some true)
def spec_l6Rows.f (k : Nat) (l0 : List S75) (l1 : List S75) : Option (Bool) := if (l0.length : Int) = (l1.length : Int) then (spec_l6Rows.l0 k 0 l0 l1) else (some false)
set_option maxHeartbeats 4000000 in
set_option maxRecDepth 100000 in
theorem spec_l6Rows.ok (k : Nat) (l0 : List S75) (Al0 : Option Addr) (cl0 : Nat) (l1 : List S75) (Al1 : Option Addr) (cl1 : Nat) (r0 : Bool) (H : spec_l6Rows.f k l0 l1 = some r0) : Fn Try.prog 74 [.slice Al0 l0.length cl0, .slice Al1 l1.length cl1] [] [.sl 0 k75 Al0 cl0 l0 0 false, .sl 0 k75 Al1 cl1 l1 0 false] (fun v bx en => v = .bool r0 ∧ bx = [] ∧ en = []) := by
 refine fn_ 26 Try.func74 rfl rfl rfl (fun base T w0 => ?_)
 rw [spec_l6Rows.f] at H
 refine gs (rg (sv (EV.as rfl) rfl (re (gs (gs (rg (sv (EV.mv rfl) rfl (sv (EV.ln rfl) rfl (sv (EV.mv rfl) rfl (sv (EV.ln rfl) rfl (sv (EV.neq rfl rfl) rfl (re ?_))))))))))))
 revert H; refine ifsI ?_ ?_ <;> intro c1 H
 ·
  refine gf rfl (nF c1) (gk (gs (gs (rg (sv (EV.as rfl) rfl (re (pr [0, 1, 5] [] [0, 1] rfl rfl rfl rfl (gb ?_))))))))
  refine lo (fun kk S => ∃ (x2_5 : Int), spec_l6Rows.l0 kk x2_5 l0 l1 = some r0 ∧ S = ⟨[(0, .slice Al0 l0.length cl0), (1, .slice Al1 l1.length cl1), (5, .int .i64 x2_5)], [], [.sl 0 k75 Al0 cl0 l0 0 false, .sl 0 k75 Al1 cl1 l1 0 false]⟩) (fun S hS => ?_) (fun n0 ih0 S hS => ?_) ⟨0, H, rfl⟩ (fun h => wk [0, 1, 5] [] [⟨0, 0, 0, false⟩, ⟨1, 0, 0, false⟩] h)
  · clear H; obtain ⟨_, H, _⟩ := hS; rw [spec_l6Rows.l0] at H; cases H
  clear H
  obtain ⟨x2_5, H, rfl⟩ := hS
  rw [spec_l6Rows.l0] at H
  refine gs (gs (rg (sv (EV.mv rfl) rfl (sv (EV.mv rfl) rfl (sv (EV.ln rfl) rfl (sv (EV.lss rfl rfl) rfl (re ?_)))))))
  revert H; refine ifsI ?_ ?_ <;> intro c2 H
  ·
   refine gt rfl (dT c2) (gk (gs (gb (gs ?_))))
   revert H; refine ggI ?_; intro g3 H
   revert H; refine ggI ?_; intro g4 H
   refine dr [] [0, 1] [] 9 rfl rfl rfl rfl (xv 0 [] [0, 1] rfl (EV.mv rfl) rfl rfl rfl rfl (xv 1 [] [0, 1] rfl (EV.mv rfl) rfl rfl rfl rfl (xv 2 [] [0, 1] rfl (EV.ix 0 rfl rfl rfl g3 c2 rfl) rfl rfl rfl rfl (xv 3 [] [0, 1] rfl (EV.le (v := .agg #[.int .i64 ((rd_T75 l0 x2_5).f0), .int .i64 ((rd_T75 l0 x2_5).f1), .int .i64 ((rd_T75 l0 x2_5).f2)]) x2_5 0 (some 3) 0 z75 rfl rfl rfl g3 c2 rfl rfl rfl) rfl rfl rfl rfl (xv 4 [] [0, 1] rfl (EV.mv rfl) rfl rfl rfl rfl (xv 5 [] [0, 1] rfl (EV.mv rfl) rfl rfl rfl rfl (xv 6 [] [0, 1] rfl (EV.ix 1 rfl rfl rfl g3 g4 rfl) rfl rfl rfl rfl (xv 7 [] [0, 1] rfl (EV.le (v := .agg #[.int .i64 ((rd_T75 l1 x2_5).f0), .int .i64 ((rd_T75 l1 x2_5).f1), .int .i64 ((rd_T75 l1 x2_5).f2)]) x2_5 0 (some 3) 1 z75 rfl rfl rfl g3 g4 rfl rfl rfl) rfl rfl rfl rfl (xv 8 [] [0, 1] rfl (EV.neS rfl rfl (fun d w => eq75 d w ((rd_T75 l0 x2_5).f0) ((rd_T75 l1 x2_5).f0) ((rd_T75 l0 x2_5).f1) ((rd_T75 l1 x2_5).f1) ((rd_T75 l0 x2_5).f2) ((rd_T75 l1 x2_5).f2))) rfl rfl rfl rfl (xd (pr [0, 1, 5, 25] [] [0, 1] rfl rfl rfl rfl ?_)))))))))))
   revert H; refine ifsI ?_ ?_ <;> intro c5 H
   ·
    exact gf rfl (bN c5) (gk (ge (rg (sv (EV.mv rfl) rfl (sv (EV.add rfl rfl) rfl (sv (EV.as rfl) rfl (re (wk [0, 1, 5] [] [⟨0, 0, 0, false⟩, ⟨1, 0, 0, false⟩] (ih0 _ (by omega) _ ⟨wrap64 (x2_5 + 1), H, rfl⟩)))))))))
   ·
    refine gt rfl (bM c5) (gs (rg (sv (EV.as rfl) rfl (re ?_))))
    cases H
    exact rt Try.func74 rfl (.tmp rfl .nil) rfl [] [] rfl rfl rfl rfl rfl ⟨rfl, rfl, rfl⟩
  ·
   refine gf rfl (dF c2) (gx rfl (gs (rg (sv (EV.as rfl) rfl (re (pr [4] [] [] rfl rfl rfl rfl ?_))))))
   cases H
   exact rt Try.func74 rfl (.tmp rfl .nil) rfl [] [] rfl rfl rfl rfl rfl ⟨rfl, rfl, rfl⟩
 ·
  refine gt rfl (nT c1) (gs (rg (sv (EV.as rfl) rfl (re (pr [4] [] [] rfl rfl rfl rfl ?_)))))
  cases H
  exact rt Try.func74 rfl (.tmp rfl .nil) rfl [] [] rfl rfl rfl rfl rfl ⟨rfl, rfl, rfl⟩
def spec_EqualAggregators.l0 : Nat → Int → Int → Bool → Int → Bool → (List S64) → (List S64) → Option (Bool)
 | 0, _, _, _, _, _, _, _ => none
 | k + 1, x2_5, x2_2_1, x2_2_2, x2_3_1, x2_3_2, l0_0, l1_0 => if x2_5 < (l0_0.length : Int) then (if 0 ≤ x2_5 then (if x2_5 < (l1_0.length : Int) then (if ((rd_T64 l0_0 x2_5).f1) = ((rd_T64 l1_0 x2_5).f1) then ((spec_l6Rows.f k ((rd_T64 l0_0 x2_5).f0) ((rd_T64 l1_0 x2_5).f0)).bind fun t10 => (if t10 = true then (spec_EqualAggregators.l0 k (wrap64 (x2_5 + 1)) x2_2_1 x2_2_2 x2_3_1 x2_3_2 l0_0 l1_0) else (some false))) else (some false)) else none) else none) else (some true)
def spec_EqualAggregators.f (k : Nat) (l0_0 : List S64) (a0_1 : Int) (a0_2 : Bool) (l1_0 : List S64) (a1_1 : Int) (a1_2 : Bool) : Option (Bool) := if a0_1 = a1_1 then (if (a0_2 == a1_2) = true then (if (l0_0.length : Int) = (l1_0.length : Int) then (spec_EqualAggregators.l0 k 0 a0_1 a0_2 a1_1 a1_2 l0_0 l1_0) else (some false)) else (some false)) else (some false)
set_option maxHeartbeats 4000000 in
set_option maxRecDepth 100000 in
theorem spec_EqualAggregators.ok (k : Nat) (l0_0 : List S64) (Al0_0 : Option Addr) (cl0_0 : Nat) (a0_1 : Int) (a0_2 : Bool) (l1_0 : List S64) (Al1_0 : Option Addr) (cl1_0 : Nat) (a1_1 : Int) (a1_2 : Bool) (r0 : Bool) (H : spec_EqualAggregators.f k l0_0 a0_1 a0_2 l1_0 a1_1 a1_2 = some r0) : Fn Try.prog 37 [.agg #[.slice Al0_0 l0_0.length cl0_0, .int .i64 a0_1, .bool a0_2], .agg #[.slice Al1_0 l1_0.length cl1_0, .int .i64 a1_1, .bool a1_2]] [] [.sl 0 k64 Al0_0 cl0_0 l0_0 0 false, .sl 0 k64 Al1_0 cl1_0 l1_0 0 false] (fun v bx en => v = .bool r0 ∧ bx = [] ∧ en = []) := by
 refine fn_ 63 Try.func37 rfl rfl rfl (fun base T w0 => ?_)
 rw [spec_EqualAggregators.f] at H
 refine gs (rg (so rfl (op_box (cs := [.slice Al0_0 l0_0.length cl0_0, .int .i64 a0_1, .bool a0_2]) rfl rfl rfl fun b2 => (so rfl (op_box (cs := [.slice Al1_0 l1_0.length cl1_0, .int .i64 a1_1, .bool a1_2]) rfl rfl rfl fun b3 => (sv (EV.as rfl) rfl (re (gs (gs (rg (sv (EV.fa 1 rfl) rfl (sv (EV.ld 0 none rfl rfl rfl) rfl (sv (EV.fa 1 rfl) rfl (sv (EV.ld 1 none rfl rfl rfl) rfl (sv (EV.neq rfl rfl) rfl (sv (EV.mv rfl) rfl ?_))))))))))))))))
 revert H; refine ifsI ?_ ?_ <;> intro c1 H
 ·
  refine ts 11 rfl (nF c1) (sv (EV.fa 2 rfl) rfl (sv (EV.ld 0 none rfl rfl rfl) rfl (sv (EV.fa 2 rfl) rfl (sv (EV.ld 1 none rfl rfl rfl) rfl (sv (EV.neb rfl rfl) rfl (sv (EV.pf rfl rfl rfl) rfl (sv (EV.mv rfl) rfl ?_)))))))
  revert H; refine ifsI ?_ ?_ <;> intro c2 H
  ·
   refine ts 18 rfl (bN c2) (sv (EV.fa 0 rfl) rfl (sv (EV.ld 0 none rfl rfl rfl) rfl (sv (EV.ln rfl) rfl (sv (EV.fa 0 rfl) rfl (sv (EV.ld 1 none rfl rfl rfl) rfl (sv (EV.ln rfl) rfl (sv (EV.neq rfl rfl) rfl (sv (EV.pf rfl rfl rfl) rfl (re (pr [2, 3, 26] [0, 1] [0, 1] rfl rfl rfl rfl ?_))))))))))
   revert H; refine ifsI ?_ ?_ <;> intro c3 H
   ·
    refine gf rfl (nF c3) (gk (gs (gs (rg (sv (EV.as rfl) rfl (re (gb ?_)))))))
    refine lo (fun kk S => ∃ (x2_5 : Int) (x2_2_1 : Int) (x2_2_2 : Bool) (x2_3_1 : Int) (x2_3_2 : Bool), spec_EqualAggregators.l0 kk x2_5 x2_2_1 x2_2_2 x2_3_1 x2_3_2 l0_0 l1_0 = some r0 ∧ S = ⟨[(2, .pointer (some ⟨b2, 0, none⟩)), (3, .pointer (some ⟨b3, 0, none⟩)), (5, .int .i64 x2_5)], [⟨b2, 54, [.slice Al0_0 l0_0.length cl0_0, .int .i64 x2_2_1, .bool x2_2_2]⟩, ⟨b3, 54, [.slice Al1_0 l1_0.length cl1_0, .int .i64 x2_3_1, .bool x2_3_2]⟩], [.sl 0 k64 Al0_0 cl0_0 l0_0 0 false, .sl 0 k64 Al1_0 cl1_0 l1_0 0 false]⟩) (fun S hS => ?_) (fun n0 ih0 S hS => ?_) ⟨0, a0_1, a0_2, a1_1, a1_2, H, rfl⟩ (fun h => wk [2, 3, 5] [0, 1] [⟨0, 0, 0, false⟩, ⟨1, 0, 0, false⟩] h)
    · clear H; obtain ⟨_, _, _, _, _, H, _⟩ := hS; rw [spec_EqualAggregators.l0] at H; cases H
    clear H
    obtain ⟨x2_5, x2_2_1, x2_2_2, x2_3_1, x2_3_2, H, rfl⟩ := hS
    rw [spec_EqualAggregators.l0] at H
    refine gs (gs (rg (sv (EV.mv rfl) rfl (sv (EV.fa 0 rfl) rfl (sv (EV.ld 0 none rfl rfl rfl) rfl (sv (EV.ln rfl) rfl (sv (EV.lss rfl rfl) rfl (re ?_))))))))
    revert H; refine ifsI ?_ ?_ <;> intro c4 H
    ·
     refine gt rfl (dT c4) (gk (gs (gb (gs ?_))))
     revert H; refine ggI ?_; intro g5 H
     refine opn (i := x2_5) 0 z64 rfl g5 c4 fun A_6 c_6 => ?_
     revert H; refine ggI ?_; intro g7 H
     refine opn (i := x2_5) 1 z64 rfl g5 g7 fun A_8 c_8 => (dr [0, 1] [0, 1, 2, 3, 4, 5] [] 29 rfl rfl rfl rfl (xv 0 [0, 1] [0, 1, 2, 3, 4, 5] rfl (EV.fa 0 rfl) rfl rfl rfl rfl (xv 1 [0, 1] [0, 1, 2, 3, 4, 5] rfl (EV.ld 0 none rfl rfl rfl) rfl rfl rfl rfl (xv 2 [0, 1] [0, 1, 2, 3, 4, 5] rfl (EV.mv rfl) rfl rfl rfl rfl (xv 3 [0, 1] [0, 1, 2, 3, 4, 5] rfl (EV.ix 0 rfl rfl rfl g5 c4 rfl) rfl rfl rfl rfl (xv 4 [0, 1] [0, 1, 2, 3, 4, 5] rfl (EV.fa 1 rfl) rfl rfl rfl rfl (xv 5 [0, 1] [0, 1, 2, 3, 4, 5] rfl (EV.lf (v := .int .i64 ((rd_T64 l0_0 x2_5).f1)) x2_5 1 none 0 z64 rfl rfl rfl g5 c4 rfl (fun _ _ => rfl)) rfl rfl rfl rfl (xv 6 [0, 1] [0, 1, 2, 3, 4, 5] rfl (EV.fa 0 rfl) rfl rfl rfl rfl (xv 7 [0, 1] [0, 1, 2, 3, 4, 5] rfl (EV.ld 1 none rfl rfl rfl) rfl rfl rfl rfl (xv 8 [0, 1] [0, 1, 2, 3, 4, 5] rfl (EV.mv rfl) rfl rfl rfl rfl (xv 9 [0, 1] [0, 1, 2, 3, 4, 5] rfl (EV.ix 1 rfl rfl rfl g5 g7 rfl) rfl rfl rfl rfl (xv 10 [0, 1] [0, 1, 2, 3, 4, 5] rfl (EV.fa 1 rfl) rfl rfl rfl rfl (xv 11 [0, 1] [0, 1, 2, 3, 4, 5] rfl (EV.lf (v := .int .i64 ((rd_T64 l1_0 x2_5).f1)) x2_5 1 none 1 z64 rfl rfl rfl g5 g7 rfl (fun _ _ => rfl)) rfl rfl rfl rfl (xv 12 [0, 1] [0, 1, 2, 3, 4, 5] rfl (EV.neq rfl rfl) rfl rfl rfl rfl (xv 13 [0, 1] [0, 1, 2, 3, 4, 5] rfl (EV.mv rfl) rfl rfl rfl rfl ?_)))))))))))))))
     revert H; refine ifsI ?_ ?_ <;> intro c9 H
     ·
      refine ts 47 rfl (nF c9) (xv 14 [0, 1] [0, 1, 2, 3, 4, 5] rfl (EV.fa 0 rfl) rfl rfl rfl rfl (xv 15 [0, 1] [0, 1, 2, 3, 4, 5] rfl (EV.ld 0 none rfl rfl rfl) rfl rfl rfl rfl (xv 16 [0, 1] [0, 1, 2, 3, 4, 5] rfl (EV.mv rfl) rfl rfl rfl rfl (xv 17 [0, 1] [0, 1, 2, 3, 4, 5] rfl (EV.ix 0 rfl rfl rfl g5 c4 rfl) rfl rfl rfl rfl (xv 18 [0, 1] [0, 1, 2, 3, 4, 5] rfl (EV.fa 0 rfl) rfl rfl rfl rfl (xv 19 [0, 1] [0, 1, 2, 3, 4, 5] rfl (EV.lc (v := .slice A_6 ((rd_T64 l0_0 x2_5).f0).length c_6) 0 none 2 rfl rfl rfl rfl) rfl rfl rfl rfl (xv 20 [0, 1] [0, 1, 2, 3, 4, 5] rfl (EV.fa 0 rfl) rfl rfl rfl rfl (xv 21 [0, 1] [0, 1, 2, 3, 4, 5] rfl (EV.ld 1 none rfl rfl rfl) rfl rfl rfl rfl (xv 22 [0, 1] [0, 1, 2, 3, 4, 5] rfl (EV.mv rfl) rfl rfl rfl rfl (xv 23 [0, 1] [0, 1, 2, 3, 4, 5] rfl (EV.ix 1 rfl rfl rfl g5 g7 rfl) rfl rfl rfl rfl (xv 24 [0, 1] [0, 1, 2, 3, 4, 5] rfl (EV.fa 0 rfl) rfl rfl rfl rfl (xv 25 [0, 1] [0, 1, 2, 3, 4, 5] rfl (EV.lc (v := .slice A_8 ((rd_T64 l1_0 x2_5).f0).length c_8) 0 none 4 rfl rfl rfl rfl) rfl rfl rfl rfl (one1 26 rfl rfl ?_)))))))))))))
      revert H; refine bdI ?_; rintro t10 A10 H
      refine op_call (spec_l6Rows.ok n0 ((rd_T64 l0_0 x2_5).f0) A_6 c_6 ((rd_T64 l1_0 x2_5).f0) A_8 c_8 _ A10) [⟨3, 0, 0, false⟩, ⟨5, 0, 0, false⟩] 1 rfl rfl rfl rfl rfl ?_
      rintro _ _ _ ⟨rfl, rfl, rfl⟩
      refine xs [0, 1] [0, 1, 2, 3, 4, 5] rfl rfl rfl (xv 27 [0, 1] [0, 1, 2, 3, 4, 5] rfl (EV.nt rfl) rfl rfl rfl rfl (xv 28 [0, 1] [0, 1, 2, 3, 4, 5] rfl (EV.pf rfl rfl rfl) rfl rfl rfl rfl (xd (pr [2, 3, 5, 48, 49, 50, 51, 52, 53, 54, 55, 56, 57, 58, 59, 60, 61, 62] [0, 1] [0, 1, 2, 3, 4, 5] rfl rfl rfl rfl ?_))))
      revert H; refine ifsI ?_ ?_ <;> intro c11 H
      ·
       subst c11
       exact gf rfl rfl (gk (ge (rg (sv (EV.mv rfl) rfl (sv (EV.add rfl rfl) rfl (sv (EV.as rfl) rfl (re (wk [2, 3, 5] [0, 1] [⟨0, 0, 0, false⟩, ⟨1, 0, 0, false⟩] (ih0 _ (by omega) _ ⟨wrap64 (x2_5 + 1), x2_2_1, x2_2_2, x2_3_1, x2_3_2, H, rfl⟩)))))))))
      ·
       obtain rfl := bF c11
       refine gt rfl rfl (gs (rg (sv (EV.as rfl) rfl (re (pr [4] [] [] rfl rfl rfl rfl ?_)))))
       cases H
       exact rt Try.func37 rfl (.tmp rfl .nil) rfl [] [] rfl rfl rfl rfl rfl ⟨rfl, rfl, rfl⟩
     ·
      refine ts 47 rfl (nT c9) (xk 14 [0, 1] [0, 1, 2, 3, 4, 5] rfl rfl rfl rfl rfl (xk 15 [0, 1] [0, 1, 2, 3, 4, 5] rfl rfl rfl rfl rfl (xk 16 [0, 1] [0, 1, 2, 3, 4, 5] rfl rfl rfl rfl rfl (xk 17 [0, 1] [0, 1, 2, 3, 4, 5] rfl rfl rfl rfl rfl (xk 18 [0, 1] [0, 1, 2, 3, 4, 5] rfl rfl rfl rfl rfl (xk 19 [0, 1] [0, 1, 2, 3, 4, 5] rfl rfl rfl rfl rfl (xk 20 [0, 1] [0, 1, 2, 3, 4, 5] rfl rfl rfl rfl rfl (xk 21 [0, 1] [0, 1, 2, 3, 4, 5] rfl rfl rfl rfl rfl (xk 22 [0, 1] [0, 1, 2, 3, 4, 5] rfl rfl rfl rfl rfl (xk 23 [0, 1] [0, 1, 2, 3, 4, 5] rfl rfl rfl rfl rfl (xk 24 [0, 1] [0, 1, 2, 3, 4, 5] rfl rfl rfl rfl rfl (xk 25 [0, 1] [0, 1, 2, 3, 4, 5] rfl rfl rfl rfl rfl (xk 26 [0, 1] [0, 1, 2, 3, 4, 5] rfl rfl rfl rfl rfl (xk 27 [0, 1] [0, 1, 2, 3, 4, 5] rfl rfl rfl rfl rfl (xv 28 [0, 1] [0, 1, 2, 3, 4, 5] rfl (EV.pt rfl rfl rfl) rfl rfl rfl rfl (xd (pr [2, 3, 5, 62] [0, 1] [0, 1] rfl rfl rfl rfl (gt rfl rfl (gs (rg (sv (EV.as rfl) rfl (re ?_))))))))))))))))))))))
      cases H
      exact rt Try.func37 rfl (.tmp rfl .nil) rfl [] [] rfl rfl rfl rfl rfl ⟨rfl, rfl, rfl⟩
    ·
     refine gf rfl (dF c4) (gx rfl (gs (rg (sv (EV.as rfl) rfl (re (pr [4] [] [] rfl rfl rfl rfl ?_))))))
     cases H
     exact rt Try.func37 rfl (.tmp rfl .nil) rfl [] [] rfl rfl rfl rfl rfl ⟨rfl, rfl, rfl⟩
   ·
    refine gt rfl (nT c3) (gs (rg (sv (EV.as rfl) rfl (re ?_))))
    cases H
    exact rt Try.func37 rfl (.tmp rfl .nil) rfl [] [] rfl rfl rfl rfl rfl ⟨rfl, rfl, rfl⟩
  ·
   refine ts 18 rfl (bM c2) (sk rfl (sk rfl (sk rfl (sk rfl (sk rfl (sk rfl (sk rfl (sv (EV.pt rfl rfl rfl) rfl (re (pr [2, 3, 26] [0, 1] [0, 1] rfl rfl rfl rfl (gt rfl rfl (gs (rg (sv (EV.as rfl) rfl (re ?_)))))))))))))))
   cases H
   exact rt Try.func37 rfl (.tmp rfl .nil) rfl [] [] rfl rfl rfl rfl rfl ⟨rfl, rfl, rfl⟩
 ·
  refine ts 11 rfl (nT c1) (sk rfl (sk rfl (sk rfl (sk rfl (sk rfl (sv (EV.pt rfl rfl rfl) rfl (sv (EV.mv rfl) rfl (sk rfl (sk rfl (sk rfl (sk rfl (sk rfl (sk rfl (sk rfl (sv (EV.pt rfl rfl rfl) rfl (re (pr [2, 3, 26] [0, 1] [0, 1] rfl rfl rfl rfl (gt rfl rfl (gs (rg (sv (EV.as rfl) rfl (re ?_))))))))))))))))))))))
  cases H
  exact rt Try.func37 rfl (.tmp rfl .nil) rfl [] [] rfl rfl rfl rfl rfl ⟨rfl, rfl, rfl⟩
def laws_sameInts.l0 : Nat → Int → (List Int) → (List Int) → Option (Bool)
 | 0, _, _, _ => none
 | k + 1, x2_5, l0, l1 => if x2_5 < (l0.length : Int) then (if 0 ≤ x2_5 then (if x2_5 < (l1.length : Int) then (if (rdOf 0 l0 x2_5) = (rdOf 0 l1 x2_5) then (laws_sameInts.l0 k (wrap64 (x2_5 + 1)) l0 l1) else (some false)) else none) else none) else (some true)
def laws_sameInts.f (k : Nat) (l0 : List Int) (l1 : List Int) : Option (Bool) := if (l0.length : Int) = (l1.length : Int) then (laws_sameInts.l0 k 0 l0 l1) else (some false)
set_option maxHeartbeats 4000000 in
set_option maxRecDepth 100000 in
theorem laws_sameInts.ok (k : Nat) (l0 : List Int) (Al0 : Option Addr) (cl0 : Nat) (l1 : List Int) (Al1 : Option Addr) (cl1 : Nat) (r0 : Bool) (H : laws_sameInts.f k l0 l1 = some r0) : Fn Try.prog 40 [.slice Al0 l0.length cl0, .slice Al1 l1.length cl1] [] [.sl 0 (.int .i64) Al0 cl0 l0 0 false, .sl 0 (.int .i64) Al1 cl1 l1 0 false] (fun v bx en => v = .bool r0 ∧ bx = [] ∧ en = []) := by
 refine fn_ 26 Try.func40 rfl rfl rfl (fun base T w0 => ?_)
 rw [laws_sameInts.f] at H
 refine gs (rg (sv (EV.as rfl) rfl (re (gs (gs (rg (sv (EV.mv rfl) rfl (sv (EV.ln rfl) rfl (sv (EV.mv rfl) rfl (sv (EV.ln rfl) rfl (sv (EV.neq rfl rfl) rfl (re ?_))))))))))))
 revert H; refine ifsI ?_ ?_ <;> intro c1 H
 ·
  refine gf rfl (nF c1) (gk (gs (gs (rg (sv (EV.as rfl) rfl (re (pr [0, 1, 5] [] [0, 1] rfl rfl rfl rfl (gb ?_))))))))
  refine lo (fun kk S => ∃ (x2_5 : Int), laws_sameInts.l0 kk x2_5 l0 l1 = some r0 ∧ S = ⟨[(0, .slice Al0 l0.length cl0), (1, .slice Al1 l1.length cl1), (5, .int .i64 x2_5)], [], [.sl 0 (.int .i64) Al0 cl0 l0 0 false, .sl 0 (.int .i64) Al1 cl1 l1 0 false]⟩) (fun S hS => ?_) (fun n0 ih0 S hS => ?_) ⟨0, H, rfl⟩ (fun h => wk [0, 1, 5] [] [⟨0, 0, 0, false⟩, ⟨1, 0, 0, false⟩] h)
  · clear H; obtain ⟨_, H, _⟩ := hS; rw [laws_sameInts.l0] at H; cases H
  clear H
  obtain ⟨x2_5, H, rfl⟩ := hS
  rw [laws_sameInts.l0] at H
  refine gs (gs (rg (sv (EV.mv rfl) rfl (sv (EV.mv rfl) rfl (sv (EV.ln rfl) rfl (sv (EV.lss rfl rfl) rfl (re ?_)))))))
  revert H; refine ifsI ?_ ?_ <;> intro c2 H
  ·
   refine gt rfl (dT c2) (gk (gs (gb (gs ?_))))
   revert H; refine ggI ?_; intro g3 H
   revert H; refine ggI ?_; intro g4 H
   refine dr [] [0, 1] [] 9 rfl rfl rfl rfl (xv 0 [] [0, 1] rfl (EV.mv rfl) rfl rfl rfl rfl (xv 1 [] [0, 1] rfl (EV.mv rfl) rfl rfl rfl rfl (xv 2 [] [0, 1] rfl (EV.ix 0 rfl rfl rfl g3 c2 rfl) rfl rfl rfl rfl (xv 3 [] [0, 1] rfl (EV.le (v := .int .i64 (rdOf 0 l0 x2_5)) x2_5 0 none 0 0 rfl rfl rfl g3 c2 rfl rfl rfl) rfl rfl rfl rfl (xv 4 [] [0, 1] rfl (EV.mv rfl) rfl rfl rfl rfl (xv 5 [] [0, 1] rfl (EV.mv rfl) rfl rfl rfl rfl (xv 6 [] [0, 1] rfl (EV.ix 1 rfl rfl rfl g3 g4 rfl) rfl rfl rfl rfl (xv 7 [] [0, 1] rfl (EV.le (v := .int .i64 (rdOf 0 l1 x2_5)) x2_5 0 none 1 0 rfl rfl rfl g3 g4 rfl rfl rfl) rfl rfl rfl rfl (xv 8 [] [0, 1] rfl (EV.neq rfl rfl) rfl rfl rfl rfl (xd (pr [0, 1, 5, 25] [] [0, 1] rfl rfl rfl rfl ?_)))))))))))
   revert H; refine ifsI ?_ ?_ <;> intro c5 H
   ·
    exact gf rfl (nF c5) (gk (ge (rg (sv (EV.mv rfl) rfl (sv (EV.add rfl rfl) rfl (sv (EV.as rfl) rfl (re (wk [0, 1, 5] [] [⟨0, 0, 0, false⟩, ⟨1, 0, 0, false⟩] (ih0 _ (by omega) _ ⟨wrap64 (x2_5 + 1), H, rfl⟩)))))))))
   ·
    refine gt rfl (nT c5) (gs (rg (sv (EV.as rfl) rfl (re ?_))))
    cases H
    exact rt Try.func40 rfl (.tmp rfl .nil) rfl [] [] rfl rfl rfl rfl rfl ⟨rfl, rfl, rfl⟩
  ·
   refine gf rfl (dF c2) (gx rfl (gs (rg (sv (EV.as rfl) rfl (re (pr [4] [] [] rfl rfl rfl rfl ?_))))))
   cases H
   exact rt Try.func40 rfl (.tmp rfl .nil) rfl [] [] rfl rfl rfl rfl rfl ⟨rfl, rfl, rfl⟩
 ·
  refine gt rfl (nT c1) (gs (rg (sv (EV.as rfl) rfl (re (pr [4] [] [] rfl rfl rfl rfl ?_)))))
  cases H
  exact rt Try.func40 rfl (.tmp rfl .nil) rfl [] [] rfl rfl rfl rfl rfl ⟨rfl, rfl, rfl⟩
def impl_DistinctKeys.l0 : Nat → (List Int) → (List (Int × Bool)) → Int → Int → (List S75) → Option ((List Int))
 | 0, _, _, _, _, _ => none
 | k + 1, x2_3, x2_4, x2_10, x2_11, l0 => if x2_11 < x2_10 then (if 0 ≤ x2_11 then (if x2_11 < (l0.length : Int) then (if ((mGet x2_4 ((rd_T75 l0 x2_11).f0)).getD false) = true then (impl_DistinctKeys.l0 k x2_3 x2_4 x2_10 (wrap64 (x2_11 + 1)) l0) else (if x2_3.length < 17592186044416 then (impl_DistinctKeys.l0 k (x2_3 ++ ([(rd_T75 l0 x2_11).f0] : List Int)) (mSet x2_4 ((rd_T75 l0 x2_11).f0) true) x2_10 (wrap64 (x2_11 + 1)) l0) else none)) else none) else none) else (some x2_3)
def impl_DistinctKeys.f (k : Nat) (l0 : List S75) : Option ((List Int)) := impl_DistinctKeys.l0 k [] ([] : List (Int × Bool)) (l0.length : Int) 0 l0
set_option maxHeartbeats 4000000 in
set_option maxRecDepth 100000 in
theorem impl_DistinctKeys.ok (k : Nat) (l0 : List S75) (Al0 : Option Addr) (cl0 : Nat) (r0 : List Int) (H : impl_DistinctKeys.f k l0 = some r0) : Fn Try.prog 41 [.slice Al0 l0.length cl0] [] [.sl 0 k75 Al0 cl0 l0 0 false] (fun v bx en => ∃ A0 c0, v = .slice A0 r0.length c0 ∧ bx = [] ∧ en = [.sl 2 (.int .i64) A0 c0 r0 1 true]) := by
 refine fn_ 30 Try.func41 rfl rfl rfl (fun base T w0 => ?_)
 rw [impl_DistinctKeys.f] at H
 refine gs (rg (sv (EV.as rfl) rfl (re (gs (rg (so rfl (op_lit (s := 1) (by_ := 8) (.int .i64) ([] : List Int) [] [] 1 [] rfl rfl rfl rfl rfl rfl rfl rfl rfl rfl rfl rfl rfl dq rfl fun A7_1 c7_1 => (so rfl (op_mkm (β := Bool) .i64 Value.bool 2 rfl dq rfl fun r8_2 => (sv (EV.as rfl) rfl (sv (EV.as rfl) rfl (re (gs (gs (rg (sv (EV.mv rfl) rfl (sv (EV.ln rfl) rfl (sv (EV.mv rfl) rfl (re (gb ?_))))))))))))))))))))
 refine lo (fun kk S => ∃ (x2_3 : List Int) (Ax2_3 : Option Addr) (cx2_3 : Nat) (x2_4 : List (Int × Bool)) (rx2_4 : Nat) (x2_10 : Int) (x2_11 : Int), impl_DistinctKeys.l0 kk x2_3 x2_4 x2_10 x2_11 l0 = some r0 ∧ S = ⟨[(3, .slice Ax2_3 x2_3.length cx2_3), (4, .map (some rx2_4)), (9, .slice Al0 l0.length cl0), (10, .int .i64 x2_10), (11, .int .i64 x2_11)], [], [.sl 2 (.int .i64) Ax2_3 cx2_3 x2_3 1 true, mapE .i64 Value.bool rx2_4 x2_4 2, .sl 0 k75 Al0 cl0 l0 0 false]⟩) (fun S hS => ?_) (fun n0 ih0 S hS => ?_) ⟨[], A7_1, c7_1, ([] : List (Int × Bool)), r8_2, (l0.length : Int), 0, H, rfl⟩ (fun h => wk [3, 4, 9, 10, 11] [] [⟨1, 2, 1, true⟩, ⟨2, 1, 2, false⟩, ⟨0, 0, 0, false⟩] h)
 · clear H; obtain ⟨_, _, _, _, _, _, _, H, _⟩ := hS; rw [impl_DistinctKeys.l0] at H; cases H
 clear H
 obtain ⟨x2_3, Ax2_3, cx2_3, x2_4, rx2_4, x2_10, x2_11, H, rfl⟩ := hS
 rw [impl_DistinctKeys.l0] at H
 refine gs (rg (sv (EV.lss rfl rfl) rfl (re (gs ?_))))
 revert H; refine ifsI ?_ ?_ <;> intro c3 H
 ·
  refine gt rfl (dT c3) (gk (gs (gb (gs (rg ?_)))))
  revert H; refine ggI ?_; intro g4 H
  revert H; refine ggI ?_; intro g5 H
  refine sv (EV.ix 2 rfl rfl rfl g4 g5 rfl) rfl (sv (EV.le (v := .agg #[.int .i64 ((rd_T75 l0 x2_11).f0), .int .i64 ((rd_T75 l0 x2_11).f1), .int .i64 ((rd_T75 l0 x2_11).f2)]) x2_11 0 (some 3) 2 z75 rfl rfl rfl g4 g5 rfl rfl rfl) rfl (so rfl (op_alloc (cs := [.int .i64 0, .int .i64 0, .int .i64 0]) (by kernel_rfl) rfl fun b6 => (so rfl (op_st (cs' := [.int .i64 ((rd_T75 l0 x2_11).f0), .int .i64 ((rd_T75 l0 x2_11).f1), .int .i64 ((rd_T75 l0 x2_11).f2)]) 0 rfl rfl rfl rfl rfl rfl (re (gs (rg (sv (EV.mv rfl) rfl (sv (EV.fa 0 rfl) rfl (sv (EV.ld 0 none rfl rfl rfl) rfl (sv (EV.lk (vf := Value.bool) (zz := false) 1 rfl rfl rfl) rfl (sv (EV.nt rfl) rfl (re (pr [3, 4, 6, 9, 10, 11, 19] [0] [0, 1, 2] rfl rfl rfl rfl ?_)))))))))))))))
  revert H; refine ifsI ?_ ?_ <;> intro c6 H
  ·
   exact gf rfl (bN c6) (gk (ge (rg (sv (EV.add rfl rfl) rfl (sv (EV.mv rfl) rfl (re (wk [3, 4, 9, 10, 11] [] [⟨0, 2, 1, true⟩, ⟨1, 1, 2, false⟩, ⟨2, 0, 0, false⟩] (ih0 _ (by omega) _ ⟨x2_3, Ax2_3, cx2_3, x2_4, rx2_4, x2_10, wrap64 (x2_11 + 1), H, rfl⟩))))))))
  ·
   refine gt rfl (bM c6) (gs (rg (sv (EV.mv rfl) rfl (sv (EV.fa 0 rfl) rfl (sv (EV.ld 0 none rfl rfl rfl) rfl (so rfl (op_mu 1 true rfl rfl rfl rfl rfl (nmE (en := [.sl 2 (.int .i64) Ax2_3 cx2_3 x2_3 1 true, .sl 0 k75 Al0 cl0 l0 0 false, mapE .i64 Value.bool rx2_4 (mSet x2_4 ((rd_T75 l0 x2_11).f0) true) 2]) (by kernel_rfl) (re (rg (sv (EV.mv rfl) rfl (sv (EV.fa 0 rfl) rfl (sv (EV.ld 0 none rfl rfl rfl) rfl (so rfl (op_lit (s := 1) (by_ := 8) (.int .i64) ([(rd_T75 l0 x2_11).f0] : List Int) [[]] [] 3 [.tmp 25] rfl rfl rfl rfl rfl rfl rfl rfl rfl rfl rfl rfl rfl dq rfl fun A26_7 c26_7 => ?_)))))))))))))))
   revert H; refine ggI ?_; intro g8 H
   exact so rfl (op_app (k := (.int .i64)) (s := 1) (by_ := 8) 0 3 rfl rfl rfl rfl (ap1 g8 dq) (ap1n g8 dq) (.inl rfl) true (fun _ => .inl rfl) rfl rfl fun A27_9 c27_9 => (nmE (en := [.sl 0 k75 Al0 cl0 l0 0 false, mapE .i64 Value.bool rx2_4 (mSet x2_4 ((rd_T75 l0 x2_11).f0) true) 2, .sl 2 (.int .i64) A26_7 c26_7 ([(rd_T75 l0 x2_11).f0] : List Int) 3 true, .sl 2 (.int .i64) A27_9 c27_9 (x2_3 ++ ([(rd_T75 l0 x2_11).f0] : List Int)) 1 true]) (by kernel_rfl) (sv (EV.as rfl) rfl (re (pr [3, 4, 9, 10, 11] [] [0, 1, 3] rfl rfl rfl rfl (ge (rg (sv (EV.add rfl rfl) rfl (sv (EV.mv rfl) rfl (re (wk [3, 4, 9, 10, 11] [] [⟨2, 2, 1, true⟩, ⟨1, 1, 2, false⟩, ⟨0, 0, 0, false⟩] (ih0 _ (by omega) _ ⟨x2_3 ++ ([(rd_T75 l0 x2_11).f0] : List Int), A27_9, c27_9, mSet x2_4 ((rd_T75 l0 x2_11).f0) true, rx2_4, x2_10, wrap64 (x2_11 + 1), H, rfl⟩))))))))))))
 ·
  refine gf rfl (dF c3) (gx rfl (gs (rg (sv (EV.mv rfl) rfl (sv (EV.as rfl) rfl (re (pr [2] [] [0] rfl rfl rfl rfl ?_)))))))
  cases H
  exact rt Try.func41 rfl (.tmp rfl .nil) rfl [] [⟨0, 2, 1, true⟩] rfl rfl rfl rfl rfl ⟨_, _, rfl, rfl, rfl⟩
def laws_big.f (l0 : List Int) : Option (Bool) := some (decide ((l0.length : Int) > 1048576))
set_option maxHeartbeats 4000000 in
set_option maxRecDepth 100000 in
theorem laws_big.ok (l0 : List Int) (Al0 : Option Addr) (cl0 : Nat) (r0 : Bool) (H : laws_big.f l0 = some r0) : Fn Try.prog 6 [.slice Al0 l0.length cl0] [] [.sl 0 (.int .u8) Al0 cl0 l0 0 false] (fun v bx en => v = .bool r0 ∧ bx = [] ∧ en = []) := by
 refine fn_ 6 Try.func6 rfl rfl rfl (fun base T w0 => ?_)
 rw [laws_big.f] at H
 refine gs (rg (sv (EV.as rfl) rfl (re (gs (rg (sv (EV.mv rfl) rfl (sv (EV.ln rfl) rfl (sv (EV.gtr rfl rfl) rfl (sv (EV.as rfl) rfl (re ?_))))))))))
 cases H
 exact rt Try.func6 rfl (.tmp rfl .nil) rfl [] [] rfl rfl rfl rfl rfl ⟨rfl, rfl, rfl⟩
mutual
def laws_FnAggregatorMemory.l2 : Nat → Int → (List S49) → Int → Int → Int → Int → Int → (List S64) → Int → Bool → Option (Bool)
 | 0, _, _, _, _, _, _, _, _, _, _ => none
 | k + 1, x14_4, x14_6, x14_7, x14_14, x14_15, x14_16, x14_19, x14_3_0, x14_3_1, x14_3_2 => if x14_19 < (x14_6.length : Int) then (if 0 ≤ x14_19 then (laws_FnAggregatorMemory.l2 k x14_4 x14_6 x14_7 x14_14 x14_15 (wrap64 (x14_16 + ((rd_T49 x14_6 x14_19).f1))) (wrap64 (x14_19 + 1)) x14_3_0 x14_3_1 x14_3_2) else none) else (if x14_7 ≤ x14_4 then (if (wrap64 ((x14_6.length : Int) * 3)) = x14_7 then (if x14_14 = (wrap64 (x14_15 + x14_16)) then (if x14_16 > 0 then (some true) else (if 0 < (x14_3_0.length : Int) then (some (decide ((((rd_T64 x14_3_0 0).f0).length : Int) = 0))) else none)) else (some false)) else (some false)) else (some false))
def laws_FnAggregatorMemory.l1 : Nat → Int → (List S49) → Int → Int → Int → Int → Int → (List S64) → Int → Bool → (List S64) → Int → Bool → Option (Bool)
 | 0, _, _, _, _, _, _, _, _, _, _, _, _, _ => none
 | k + 1, x10_4, x10_6, x10_7, x10_14, x10_15, x10_16, x10_18, x10_3_0, x10_3_1, x10_3_2, x10_5_0, x10_5_1, x10_5_2 => if x10_18 < (x10_5_0.length : Int) then (if 0 ≤ x10_18 then (laws_FnAggregatorMemory.l1 k x10_4 x10_6 x10_7 x10_14 (wrap64 (x10_15 + (((rd_T64 x10_5_0 x10_18).f0).length : Int))) x10_16 (wrap64 (x10_18 + 1)) x10_3_0 x10_3_1 x10_3_2 x10_5_0 x10_5_1 x10_5_2) else none) else (laws_FnAggregatorMemory.l2 k x10_4 x10_6 x10_7 x10_14 x10_15 x10_16 0 x10_3_0 x10_3_1 x10_3_2)
def laws_FnAggregatorMemory.l0 : Nat → Int → (List S49) → Int → Int → Int → Int → Int → (List S64) → Int → Bool → (List S64) → Int → Bool → Option (Bool)
 | 0, _, _, _, _, _, _, _, _, _, _, _, _, _ => none
 | k + 1, x2_4, x2_6, x2_7, x2_14, x2_15, x2_16, x2_17, x2_3_0, x2_3_1, x2_3_2, x2_5_0, x2_5_1, x2_5_2 => if x2_17 < (x2_3_0.length : Int) then (if 0 ≤ x2_17 then (laws_FnAggregatorMemory.l0 k x2_4 x2_6 x2_7 (wrap64 (x2_14 + (((rd_T64 x2_3_0 x2_17).f0).length : Int))) x2_15 x2_16 (wrap64 (x2_17 + 1)) x2_3_0 x2_3_1 x2_3_2 x2_5_0 x2_5_1 x2_5_2) else none) else (laws_FnAggregatorMemory.l1 k x2_4 x2_6 x2_7 x2_14 x2_15 x2_16 0 x2_3_0 x2_3_1 x2_3_2 x2_5_0 x2_5_1 x2_5_2)
end
def laws_FnAggregatorMemory.f (k : Nat) (l0 : List Int) : Option (Bool) := (laws_big.f l0).bind fun t1 => (if t1 = true then (some true) else ((spec_DrawStepAggregator.f k l0).bind fun bt3 => ((impl_StepAggregator.f k bt3.1 bt3.2.1 bt3.2.2.1 bt3.2.2.2).bind fun bt4 => ((spec_StepAggregator.f k bt3.1 bt3.2.1 bt3.2.2.1 bt3.2.2.2).bind fun bt5 => ((spec_DrawDistinctKeys.f k l0).bind fun t6 => (if (bt4.2.2.2.2.2 == bt5.2.2.2.2.2) = true then (if bt4.2.2.2.2.1 = bt5.2.2.2.2.1 then ((spec_EqualAggregators.f k bt4.1 bt4.2.1 bt4.2.2.1 bt5.1 bt5.2.1 bt5.2.2.1).bind fun t9 => (if t9 = true then ((laws_sameGroups.f k bt4.2.2.2.1 bt5.2.2.2.1).bind fun t11 => (if t11 = true then ((impl_IsValidAggregator.f k bt3.1 bt3.2.1 bt3.2.2.1).bind fun t13 => ((spec_IsValidAggregator.f k bt3.1 bt3.2.1 bt3.2.2.1).bind fun t14 => (if (t13 == t14) = true then ((impl_DistinctKeys.f k t6).bind fun t16 => ((spec_DistinctKeys.f k t6).bind fun t17 => ((laws_sameInts.f k t16 t17).bind fun t18 => (if t18 = true then (if bt4.2.2.2.2.2 = true then (laws_FnAggregatorMemory.l0 k bt3.2.2.2 bt4.2.2.2.1 bt4.2.2.2.2.1 0 0 0 0 bt3.1 bt3.2.1 bt3.2.2.1 bt4.1 bt4.2.1 bt4.2.2.1) else ((spec_EqualAggregators.f k bt4.1 bt4.2.1 bt4.2.2.1 bt3.1 bt3.2.1 bt3.2.2.1).bind fun t35 => (if t35 = true then (some (decide ((bt4.2.2.2.1.length : Int) = 0))) else (some false)))) else (some false))))) else (some false)))) else (some false))) else (some false))) else (some false)) else (some false)))))))
set_option maxHeartbeats 4000000 in
set_option maxRecDepth 100000 in
theorem laws_FnAggregatorMemory.ok (k : Nat) (l0 : List Int) (Al0 : Option Addr) (cl0 : Nat) (r0 : Bool) (H : laws_FnAggregatorMemory.f k l0 = some r0) : Fn Try.prog 5 [.slice Al0 l0.length cl0] [] [.sl 0 (.int .u8) Al0 cl0 l0 0 false] (fun v bx en => v = .bool r0 ∧ bx = [] ∧ en = []) := by
 refine fn_ 165 Try.func5 rfl rfl rfl (fun base T w0 => ?_)
 rw [laws_FnAggregatorMemory.f] at H
 refine gs (rg (sv (EV.as rfl) rfl (re (gs (gs (rg (sv (EV.mv rfl) rfl ?_)))))))
 revert H; refine bdI ?_; rintro t1 A1 H
 refine so rfl (op_call (laws_big.ok l0 Al0 cl0 _ A1) [⟨0, 0, 0, false⟩] 1 rfl rfl rfl rfl rfl ?_)
 rintro _ _ _ ⟨rfl, rfl, rfl⟩
 refine re ?_
 revert H; refine ifsI ?_ ?_ <;> intro c2 H
 ·
  subst c2
  refine gt rfl rfl (gs (rg (sv (EV.as rfl) rfl (re ?_))))
  cases H
  exact rt Try.func5 rfl (.tmp rfl .nil) rfl [] [] rfl rfl rfl rfl rfl ⟨rfl, rfl, rfl⟩
 ·
  obtain rfl := bF c2
  refine gf rfl rfl (gk (gs (rg (sv (EV.mv rfl) rfl ?_))))
  revert H; refine bdI ?_; rintro ⟨t3_0, t3_1, t3_2, t3_3⟩ A3 H
  refine so rfl (op_call (spec_DrawStepAggregator.ok k l0 Al0 cl0 _ _ _ _ A3) [⟨0, 0, 0, false⟩] 1 rfl rfl rfl rfl rfl ?_)
  rintro _ _ _ ⟨At3_0, ct3_0, rfl, rfl, rfl⟩
  refine sv (EV.mv rfl) rfl (sv (EV.ex rfl rfl) rfl (sv (EV.ex rfl rfl) rfl (so rfl (op_alloc (cs := [.slice none 0 0, .int .i64 0, .bool false]) (by kernel_rfl) rfl fun b3 => (so rfl (op_st (cs' := [.slice At3_0 t3_0.length ct3_0, .int .i64 t3_1, .bool t3_2]) 0 rfl rfl rfl rfl rfl rfl (sv (EV.as rfl) rfl (re (pr [0, 3, 4] [0] [0, 1] rfl rfl rfl rfl (gs (rg (sv (EV.ld (v := .agg #[.slice At3_0 t3_0.length ct3_0, .int .i64 t3_1, .bool t3_2]) 0 (some 3) rfl rfl rfl) rfl (sv (EV.mv rfl) rfl ?_)))))))))))))
  revert H; refine bdI ?_; rintro ⟨t4_0, t4_1, t4_2, t4_3, t4_4, t4_5⟩ A4 H
  refine so rfl (op_call (impl_StepAggregator.ok k t3_0 At3_0 ct3_0 t3_1 t3_2 t3_3 _ _ _ _ _ _ A4) [⟨1, 0, 0, false⟩] 3 rfl rfl rfl rfl rfl ?_)
  rintro _ _ _ ⟨At4_0, ct4_0, At4_3, ct4_3, rfl, rfl, rfl⟩
  refine sv (EV.mv rfl) rfl (sv (EV.ex rfl rfl) rfl (sv (EV.ex rfl rfl) rfl (sv (EV.ex rfl rfl) rfl (sv (EV.ex rfl rfl) rfl (so rfl (op_alloc (cs := [.slice none 0 0, .int .i64 0, .bool false]) (by kernel_rfl) rfl fun b5 => (so rfl (op_st (cs' := [.slice At4_0 t4_0.length ct4_0, .int .i64 t4_1, .bool t4_2]) 1 rfl rfl rfl rfl rfl rfl (sv (EV.as rfl) rfl (sv (EV.as rfl) rfl (sv (EV.as rfl) rfl (re (pr [0, 3, 4, 5, 6, 7, 8] [0, 1] [0, 1, 2, 3] rfl rfl rfl rfl (gs (rg (sv (EV.ld (v := .agg #[.slice At3_0 t3_0.length ct3_0, .int .i64 t3_1, .bool t3_2]) 0 (some 3) rfl rfl rfl) rfl (sv (EV.mv rfl) rfl ?_)))))))))))))))))
  revert H; refine bdI ?_; rintro ⟨t5_0, t5_1, t5_2, t5_3, t5_4, t5_5⟩ A5 H
  refine so rfl (op_call (spec_StepAggregator.ok k t3_0 At3_0 ct3_0 t3_1 t3_2 t3_3 _ _ _ _ _ _ A5) [⟨1, 0, 0, false⟩] 6 rfl rfl rfl rfl rfl ?_)
  rintro _ _ _ ⟨At5_0, ct5_0, At5_3, ct5_3, rfl, rfl, rfl⟩
  refine sv (EV.mv rfl) rfl (sv (EV.ex rfl rfl) rfl (sv (EV.ex rfl rfl) rfl (sv (EV.ex rfl rfl) rfl (sv (EV.ex rfl rfl) rfl (so rfl (op_alloc (cs := [.slice none 0 0, .int .i64 0, .bool false]) (by kernel_rfl) rfl fun b9 => (so rfl (op_st (cs' := [.slice At5_0 t5_0.length ct5_0, .int .i64 t5_1, .bool t5_2]) 2 rfl rfl rfl rfl rfl rfl (sv (EV.as rfl) rfl (sv (EV.as rfl) rfl (sv (EV.as rfl) rfl (re (pr [0, 3, 4, 5, 6, 7, 8, 9, 10, 11, 12] [0, 1, 2] [0, 1, 2, 3, 4, 5] rfl rfl rfl rfl (gs (rg (sv (EV.mv rfl) rfl ?_))))))))))))))))
  revert H; refine bdI ?_; rintro t6 A6 H
  refine so rfl (op_call (spec_DrawDistinctKeys.ok k l0 Al0 cl0 _ A6) [⟨0, 0, 0, false⟩] 9 rfl rfl rfl rfl rfl ?_)
  rintro _ _ _ ⟨At6, ct6, rfl, rfl, rfl⟩
  refine sv (EV.as rfl) rfl (re (gs (gs (dr [0, 1, 2] [0, 1, 2, 3, 4, 5, 6] [] 35 rfl rfl rfl rfl (xv 0 [0, 1, 2] [0, 1, 2, 3, 4, 5, 6] rfl (EV.mv rfl) rfl rfl rfl rfl (xv 1 [0, 1, 2] [0, 1, 2, 3, 4, 5, 6] rfl (EV.mv rfl) rfl rfl rfl rfl (xv 2 [0, 1, 2] [0, 1, 2, 3, 4, 5, 6] rfl (EV.neb rfl rfl) rfl rfl rfl rfl (xv 3 [0, 1, 2] [0, 1, 2, 3, 4, 5, 6] rfl (EV.mv rfl) rfl rfl rfl rfl ?_))))))))
  revert H; refine ifsI ?_ ?_ <;> intro c7 H
  ·
   refine ts 48 rfl (bN c7) (xv 4 [0, 1, 2] [0, 1, 2, 3, 4, 5, 6] rfl (EV.mv rfl) rfl rfl rfl rfl (xv 5 [0, 1, 2] [0, 1, 2, 3, 4, 5, 6] rfl (EV.mv rfl) rfl rfl rfl rfl (xv 6 [0, 1, 2] [0, 1, 2, 3, 4, 5, 6] rfl (EV.neq rfl rfl) rfl rfl rfl rfl (xv 7 [0, 1, 2] [0, 1, 2, 3, 4, 5, 6] rfl (EV.pf rfl rfl rfl) rfl rfl rfl rfl (xv 8 [0, 1, 2] [0, 1, 2, 3, 4, 5, 6] rfl (EV.mv rfl) rfl rfl rfl rfl ?_)))))
   revert H; refine ifsI ?_ ?_ <;> intro c8 H
   ·
    refine ts 53 rfl (nF c8) (xv 9 [0, 1, 2] [0, 1, 2, 3, 4, 5, 6] rfl (EV.ld (v := .agg #[.slice At4_0 t4_0.length ct4_0, .int .i64 t4_1, .bool t4_2]) 1 (some 3) rfl rfl rfl) rfl rfl rfl rfl (xv 10 [0, 1, 2] [0, 1, 2, 3, 4, 5, 6] rfl (EV.ld (v := .agg #[.slice At5_0 t5_0.length ct5_0, .int .i64 t5_1, .bool t5_2]) 2 (some 3) rfl rfl rfl) rfl rfl rfl rfl (one1 11 rfl rfl ?_)))
    revert H; refine bdI ?_; rintro t9 A9 H
    refine op_call (spec_EqualAggregators.ok k t4_0 At4_0 ct4_0 t4_1 t4_2 t5_0 At5_0 ct5_0 t5_1 t5_2 _ A9) [⟨2, 0, 0, false⟩, ⟨4, 0, 0, false⟩] 11 rfl rfl rfl rfl rfl ?_
    rintro _ _ _ ⟨rfl, rfl, rfl⟩
    refine xs [0, 1, 2] [0, 1, 2, 3, 4, 5, 6] rfl rfl rfl (xv 12 [0, 1, 2] [0, 1, 2, 3, 4, 5, 6] rfl (EV.nt rfl) rfl rfl rfl rfl (xv 13 [0, 1, 2] [0, 1, 2, 3, 4, 5, 6] rfl (EV.pf rfl rfl rfl) rfl rfl rfl rfl (xv 14 [0, 1, 2] [0, 1, 2, 3, 4, 5, 6] rfl (EV.mv rfl) rfl rfl rfl rfl ?_)))
    revert H; refine ifsI ?_ ?_ <;> intro c10 H
    ·
     subst c10
     refine ts 59 rfl rfl (xv 15 [0, 1, 2] [0, 1, 2, 3, 4, 5, 6] rfl (EV.mv rfl) rfl rfl rfl rfl (xv 16 [0, 1, 2] [0, 1, 2, 3, 4, 5, 6] rfl (EV.mv rfl) rfl rfl rfl rfl (one1 17 rfl rfl ?_)))
     revert H; refine bdI ?_; rintro t11 A11 H
     refine op_call (laws_sameGroups.ok k t4_3 At4_3 ct4_3 t5_3 At5_3 ct5_3 _ A11) [⟨3, 0, 0, false⟩, ⟨5, 0, 0, false⟩] 11 rfl rfl rfl rfl rfl ?_
     rintro _ _ _ ⟨rfl, rfl, rfl⟩
     refine xs [0, 1, 2] [0, 1, 2, 3, 4, 5, 6] rfl rfl rfl (xv 18 [0, 1, 2] [0, 1, 2, 3, 4, 5, 6] rfl (EV.nt rfl) rfl rfl rfl rfl (xv 19 [0, 1, 2] [0, 1, 2, 3, 4, 5, 6] rfl (EV.pf rfl rfl rfl) rfl rfl rfl rfl (xv 20 [0, 1, 2] [0, 1, 2, 3, 4, 5, 6] rfl (EV.mv rfl) rfl rfl rfl rfl ?_)))
     revert H; refine ifsI ?_ ?_ <;> intro c12 H
     ·
      subst c12
      refine ts 65 rfl rfl (xv 21 [0, 1, 2] [0, 1, 2, 3, 4, 5, 6] rfl (EV.ld (v := .agg #[.slice At3_0 t3_0.length ct3_0, .int .i64 t3_1, .bool t3_2]) 0 (some 3) rfl rfl rfl) rfl rfl rfl rfl (xv 23 [0, 1, 2] [0, 1, 2, 3, 4, 5, 6] rfl (EV.ld (v := .agg #[.slice At3_0 t3_0.length ct3_0, .int .i64 t3_1, .bool t3_2]) 0 (some 3) rfl rfl rfl) rfl rfl rfl rfl (one1 22 rfl rfl ?_)))
      revert H; refine bdI ?_; rintro t13 A13 H
      refine op_call (impl_IsValidAggregator.ok k t3_0 At3_0 ct3_0 t3_1 t3_2 _ A13) [⟨1, 0, 0, false⟩] 11 rfl rfl rfl rfl rfl ?_
      rintro _ _ _ ⟨rfl, rfl, rfl⟩
      refine xs [0, 1, 2] [0, 1, 2, 3, 4, 5, 6] rfl rfl rfl (one1 24 rfl rfl ?_)
      revert H; refine bdI ?_; rintro t14 A14 H
      refine op_call (spec_IsValidAggregator.ok k t3_0 At3_0 ct3_0 t3_1 t3_2 _ A14) [⟨1, 0, 0, false⟩] 11 rfl rfl rfl rfl rfl ?_
      rintro _ _ _ ⟨rfl, rfl, rfl⟩
      refine xs [0, 1, 2] [0, 1, 2, 3, 4, 5, 6] rfl rfl rfl (xv 25 [0, 1, 2] [0, 1, 2, 3, 4, 5, 6] rfl (EV.neb rfl rfl) rfl rfl rfl rfl (xv 26 [0, 1, 2] [0, 1, 2, 3, 4, 5, 6] rfl (EV.pf rfl rfl rfl) rfl rfl rfl rfl (xv 27 [0, 1, 2] [0, 1, 2, 3, 4, 5, 6] rfl (EV.mv rfl) rfl rfl rfl rfl ?_)))
      revert H; refine ifsI ?_ ?_ <;> intro c15 H
      ·
       refine ts 72 rfl (bN c15) (xv 28 [0, 1, 2] [0, 1, 2, 3, 4, 5, 6] rfl (EV.mv rfl) rfl rfl rfl rfl (xv 30 [0, 1, 2] [0, 1, 2, 3, 4, 5, 6] rfl (EV.mv rfl) rfl rfl rfl rfl (one1 29 rfl rfl ?_)))
       revert H; refine bdI ?_; rintro t16 A16 H
       refine op_call (impl_DistinctKeys.ok k t6 At6 ct6 _ A16) [⟨6, 0, 0, false⟩] 11 rfl rfl rfl rfl rfl ?_
       rintro _ _ _ ⟨At16, ct16, rfl, rfl, rfl⟩
       refine xs [0, 1, 2] [0, 1, 2, 3, 4, 5, 6] rfl rfl rfl (one1 31 rfl rfl ?_)
       revert H; refine bdI ?_; rintro t17 A17 H
       refine op_call (spec_DistinctKeys.ok k t6 At6 ct6 _ A17) [⟨6, 0, 0, false⟩] 13 rfl rfl rfl rfl rfl ?_
       rintro _ _ _ ⟨At17, ct17, rfl, rfl, rfl⟩
       refine xs [0, 1, 2] [0, 1, 2, 3, 4, 5, 6] rfl rfl rfl (one1 32 rfl rfl ?_)
       revert H; refine bdI ?_; rintro t18 A18 H
       refine op_call (laws_sameInts.ok k t16 At16 ct16 t17 At17 ct17 _ A18) [⟨7, 0, 0, false⟩, ⟨8, 0, 0, false⟩] 15 rfl rfl rfl rfl rfl ?_
       rintro _ _ _ ⟨rfl, rfl, rfl⟩
       refine xs [0, 1, 2] [0, 1, 2, 3, 4, 5, 6] rfl rfl rfl (xv 33 [0, 1, 2] [0, 1, 2, 3, 4, 5, 6] rfl (EV.nt rfl) rfl rfl rfl rfl (xv 34 [0, 1, 2] [0, 1, 2, 3, 4, 5, 6] rfl (EV.pf rfl rfl rfl) rfl rfl rfl rfl (xd (pr [3, 4, 5, 6, 7, 8, 79] [0, 1] [1, 2, 3] rfl rfl rfl rfl ?_))))
       revert H; refine ifsI ?_ ?_ <;> intro c19 H
       ·
        subst c19
        refine gf rfl rfl (gk (gs (gs (rg (sv (EV.mv rfl) rfl (sv (EV.nt rfl) rfl (re ?_)))))))
        revert H; refine ifsI ?_ ?_ <;> intro c20 H
        ·
         subst c20
         refine gf rfl rfl (gk (gs (rg (sv (EV.as rfl) rfl (re (gs (rg (sv (EV.as rfl) rfl (re (gs (rg (sv (EV.as rfl) rfl (re (gs (gs (rg (sv (EV.as rfl) rfl (re (gb ?_)))))))))))))))))))
         refine lo (fun kk S => ∃ (x2_4 : Int) (x2_6 : List S49) (Ax2_6 : Option Addr) (cx2_6 : Nat) (x2_7 : Int) (x2_14 : Int) (x2_15 : Int) (x2_16 : Int) (x2_17 : Int) (x2_3_0 : List S64) (Ax2_3_0 : Option Addr) (cx2_3_0 : Nat) (x2_3_1 : Int) (x2_3_2 : Bool) (x2_5_0 : List S64) (Ax2_5_0 : Option Addr) (cx2_5_0 : Nat) (x2_5_1 : Int) (x2_5_2 : Bool), laws_FnAggregatorMemory.l0 kk x2_4 x2_6 x2_7 x2_14 x2_15 x2_16 x2_17 x2_3_0 x2_3_1 x2_3_2 x2_5_0 x2_5_1 x2_5_2 = some r0 ∧ S = ⟨[(3, .pointer (some ⟨b3, 0, none⟩)), (4, .int .i64 x2_4), (5, .pointer (some ⟨b5, 0, none⟩)), (6, .slice Ax2_6 x2_6.length cx2_6), (7, .int .i64 x2_7), (14, .int .i64 x2_14), (15, .int .i64 x2_15), (16, .int .i64 x2_16), (17, .int .i64 x2_17)], [⟨b3, 54, [.slice Ax2_3_0 x2_3_0.length cx2_3_0, .int .i64 x2_3_1, .bool x2_3_2]⟩, ⟨b5, 54, [.slice Ax2_5_0 x2_5_0.length cx2_5_0, .int .i64 x2_5_1, .bool x2_5_2]⟩], [.sl 1 k49 Ax2_6 cx2_6 x2_6 1 false, .sl 1 k64 Ax2_3_0 cx2_3_0 x2_3_0 2 true, .sl 1 k64 Ax2_5_0 cx2_5_0 x2_5_0 3 true]⟩) (fun S hS => ?_) (fun n0 ih0 S hS => ?_) ⟨t3_3, t4_3, At4_3, ct4_3, t4_4, 0, 0, 0, 0, t3_0, At3_0, ct3_0, t3_1, t3_2, t4_0, At4_0, ct4_0, t4_1, t4_2, H, rfl⟩ (fun h => wk [3, 4, 5, 6, 7, 14, 15, 16, 17] [0, 1] [⟨2, 1, 1, false⟩, ⟨0, 1, 2, true⟩, ⟨1, 1, 3, true⟩] h)
         · clear H; obtain ⟨_, _, _, _, _, _, _, _, _, _, _, _, _, _, _, _, _, _, _, H, _⟩ := hS; rw [laws_FnAggregatorMemory.l0] at H; cases H
         clear H
         obtain ⟨x2_4, x2_6, Ax2_6, cx2_6, x2_7, x2_14, x2_15, x2_16, x2_17, x2_3_0, Ax2_3_0, cx2_3_0, x2_3_1, x2_3_2, x2_5_0, Ax2_5_0, cx2_5_0, x2_5_1, x2_5_2, H, rfl⟩ := hS
         rw [laws_FnAggregatorMemory.l0] at H
         refine gs (gs (rg (sv (EV.mv rfl) rfl (sv (EV.fa 0 rfl) rfl (sv (EV.ld 0 none rfl rfl rfl) rfl (sv (EV.ln rfl) rfl (sv (EV.lss rfl rfl) rfl (re ?_))))))))
         revert H; refine ifsI ?_ ?_ <;> intro c21 H
         ·
          refine gt rfl (dT c21) (gk (gs (gb (rg (sv (EV.mv rfl) rfl (sv (EV.fa 0 rfl) rfl (sv (EV.ld 0 none rfl rfl rfl) rfl (sv (EV.mv rfl) rfl ?_))))))))
          revert H; refine ggI ?_; intro g22 H
          exact sv (EV.ix 1 rfl rfl rfl g22 c21 rfl) rfl (sv (EV.fa 0 rfl) rfl (opn (i := x2_17) 1 z64 rfl g22 c21 fun A_23 c_23 => (sv (EV.lc (v := .slice A_23 ((rd_T64 x2_3_0 x2_17).f0).length c_23) 0 none 3 rfl rfl rfl rfl) rfl (sv (EV.ln rfl) rfl (sv (EV.add rfl rfl) rfl (sv (EV.as rfl) rfl (re (pr [3, 4, 5, 6, 7, 14, 15, 16, 17] [0, 1] [0, 1, 2] rfl rfl rfl rfl (ge (rg (sv (EV.mv rfl) rfl (sv (EV.add rfl rfl) rfl (sv (EV.as rfl) rfl (re (wk [3, 4, 5, 6, 7, 14, 15, 16, 17] [0, 1] [⟨0, 1, 1, false⟩, ⟨1, 1, 2, true⟩, ⟨2, 1, 3, true⟩] (ih0 _ (by omega) _ ⟨x2_4, x2_6, Ax2_6, cx2_6, x2_7, wrap64 (x2_14 + (((rd_T64 x2_3_0 x2_17).f0).length : Int)), x2_15, x2_16, wrap64 (x2_17 + 1), x2_3_0, Ax2_3_0, cx2_3_0, x2_3_1, x2_3_2, x2_5_0, Ax2_5_0, cx2_5_0, x2_5_1, x2_5_2, H, rfl⟩))))))))))))))))
         ·
          refine gf rfl (dF c21) (gx rfl (gs (gs (rg (sv (EV.as rfl) rfl (re (pr [3, 4, 5, 6, 7, 14, 15, 16, 18] [0, 1] [0, 1, 2] rfl rfl rfl rfl (gb ?_))))))))
          refine lo (fun kk S => ∃ (x10_4 : Int) (x10_6 : List S49) (Ax10_6 : Option Addr) (cx10_6 : Nat) (x10_7 : Int) (x10_14 : Int) (x10_15 : Int) (x10_16 : Int) (x10_18 : Int) (x10_3_0 : List S64) (Ax10_3_0 : Option Addr) (cx10_3_0 : Nat) (x10_3_1 : Int) (x10_3_2 : Bool) (x10_5_0 : List S64) (Ax10_5_0 : Option Addr) (cx10_5_0 : Nat) (x10_5_1 : Int) (x10_5_2 : Bool), kk ≤ n0 ∧ laws_FnAggregatorMemory.l1 kk x10_4 x10_6 x10_7 x10_14 x10_15 x10_16 x10_18 x10_3_0 x10_3_1 x10_3_2 x10_5_0 x10_5_1 x10_5_2 = some r0 ∧ S = ⟨[(3, .pointer (some ⟨b3, 0, none⟩)), (4, .int .i64 x10_4), (5, .pointer (some ⟨b5, 0, none⟩)), (6, .slice Ax10_6 x10_6.length cx10_6), (7, .int .i64 x10_7), (14, .int .i64 x10_14), (15, .int .i64 x10_15), (16, .int .i64 x10_16), (18, .int .i64 x10_18)], [⟨b3, 54, [.slice Ax10_3_0 x10_3_0.length cx10_3_0, .int .i64 x10_3_1, .bool x10_3_2]⟩, ⟨b5, 54, [.slice Ax10_5_0 x10_5_0.length cx10_5_0, .int .i64 x10_5_1, .bool x10_5_2]⟩], [.sl 1 k49 Ax10_6 cx10_6 x10_6 1 false, .sl 1 k64 Ax10_3_0 cx10_3_0 x10_3_0 2 true, .sl 1 k64 Ax10_5_0 cx10_5_0 x10_5_0 3 true]⟩) (fun S hS => ?_) (fun n1 ih1 S hS => ?_) ⟨x2_4, x2_6, Ax2_6, cx2_6, x2_7, x2_14, x2_15, x2_16, 0, x2_3_0, Ax2_3_0, cx2_3_0, x2_3_1, x2_3_2, x2_5_0, Ax2_5_0, cx2_5_0, x2_5_1, x2_5_2, by omega, H, rfl⟩ (fun h => wk [3, 4, 5, 6, 7, 14, 15, 16, 18] [0, 1] [⟨0, 1, 1, false⟩, ⟨1, 1, 2, true⟩, ⟨2, 1, 3, true⟩] h)
          · clear H; obtain ⟨_, _, _, _, _, _, _, _, _, _, _, _, _, _, _, _, _, _, _, _, H, _⟩ := hS; rw [laws_FnAggregatorMemory.l1] at H; cases H
          clear H
          obtain ⟨x10_4, x10_6, Ax10_6, cx10_6, x10_7, x10_14, x10_15, x10_16, x10_18, x10_3_0, Ax10_3_0, cx10_3_0, x10_3_1, x10_3_2, x10_5_0, Ax10_5_0, cx10_5_0, x10_5_1, x10_5_2, lk1, H, rfl⟩ := hS
          rw [laws_FnAggregatorMemory.l1] at H
          refine gs (gs (rg (sv (EV.mv rfl) rfl (sv (EV.fa 0 rfl) rfl (sv (EV.ld 1 none rfl rfl rfl) rfl (sv (EV.ln rfl) rfl (sv (EV.lss rfl rfl) rfl (re ?_))))))))
          revert H; refine ifsI ?_ ?_ <;> intro c24 H
          ·
           refine gt rfl (dT c24) (gk (gs (gb (rg (sv (EV.mv rfl) rfl (sv (EV.fa 0 rfl) rfl (sv (EV.ld 1 none rfl rfl rfl) rfl (sv (EV.mv rfl) rfl ?_))))))))
           revert H; refine ggI ?_; intro g25 H
           exact sv (EV.ix 2 rfl rfl rfl g25 c24 rfl) rfl (sv (EV.fa 0 rfl) rfl (opn (i := x10_18) 2 z64 rfl g25 c24 fun A_26 c_26 => (sv (EV.lc (v := .slice A_26 ((rd_T64 x10_5_0 x10_18).f0).length c_26) 0 none 3 rfl rfl rfl rfl) rfl (sv (EV.ln rfl) rfl (sv (EV.add rfl rfl) rfl (sv (EV.as rfl) rfl (re (pr [3, 4, 5, 6, 7, 14, 15, 16, 18] [0, 1] [0, 1, 2] rfl rfl rfl rfl (ge (rg (sv (EV.mv rfl) rfl (sv (EV.add rfl rfl) rfl (sv (EV.as rfl) rfl (re (wk [3, 4, 5, 6, 7, 14, 15, 16, 18] [0, 1] [⟨0, 1, 1, false⟩, ⟨1, 1, 2, true⟩, ⟨2, 1, 3, true⟩] (ih1 _ (by omega) _ ⟨x10_4, x10_6, Ax10_6, cx10_6, x10_7, x10_14, wrap64 (x10_15 + (((rd_T64 x10_5_0 x10_18).f0).length : Int)), x10_16, wrap64 (x10_18 + 1), x10_3_0, Ax10_3_0, cx10_3_0, x10_3_1, x10_3_2, x10_5_0, Ax10_5_0, cx10_5_0, x10_5_1, x10_5_2, by omega, H, rfl⟩))))))))))))))))
          ·
           refine gf rfl (dF c24) (gx rfl (gs (gs (rg (sv (EV.as rfl) rfl (re (pr [3, 4, 6, 7, 14, 15, 16, 19] [0] [0, 1] rfl rfl rfl rfl (gb ?_))))))))
           refine lo (fun kk S => ∃ (x14_4 : Int) (x14_6 : List S49) (Ax14_6 : Option Addr) (cx14_6 : Nat) (x14_7 : Int) (x14_14 : Int) (x14_15 : Int) (x14_16 : Int) (x14_19 : Int) (x14_3_0 : List S64) (Ax14_3_0 : Option Addr) (cx14_3_0 : Nat) (x14_3_1 : Int) (x14_3_2 : Bool), kk ≤ n1 ∧ laws_FnAggregatorMemory.l2 kk x14_4 x14_6 x14_7 x14_14 x14_15 x14_16 x14_19 x14_3_0 x14_3_1 x14_3_2 = some r0 ∧ S = ⟨[(3, .pointer (some ⟨b3, 0, none⟩)), (4, .int .i64 x14_4), (6, .slice Ax14_6 x14_6.length cx14_6), (7, .int .i64 x14_7), (14, .int .i64 x14_14), (15, .int .i64 x14_15), (16, .int .i64 x14_16), (19, .int .i64 x14_19)], [⟨b3, 54, [.slice Ax14_3_0 x14_3_0.length cx14_3_0, .int .i64 x14_3_1, .bool x14_3_2]⟩], [.sl 1 k49 Ax14_6 cx14_6 x14_6 1 false, .sl 1 k64 Ax14_3_0 cx14_3_0 x14_3_0 2 true]⟩) (fun S hS => ?_) (fun n2 ih2 S hS => ?_) ⟨x10_4, x10_6, Ax10_6, cx10_6, x10_7, x10_14, x10_15, x10_16, 0, x10_3_0, Ax10_3_0, cx10_3_0, x10_3_1, x10_3_2, by omega, H, rfl⟩ (fun h => wk [3, 4, 6, 7, 14, 15, 16, 19] [0] [⟨0, 1, 1, false⟩, ⟨1, 1, 2, true⟩] h)
           · clear H; obtain ⟨_, _, _, _, _, _, _, _, _, _, _, _, _, _, _, H, _⟩ := hS; rw [laws_FnAggregatorMemory.l2] at H; cases H
           clear H
           obtain ⟨x14_4, x14_6, Ax14_6, cx14_6, x14_7, x14_14, x14_15, x14_16, x14_19, x14_3_0, Ax14_3_0, cx14_3_0, x14_3_1, x14_3_2, lk2, H, rfl⟩ := hS
           rw [laws_FnAggregatorMemory.l2] at H
           refine gs (gs (rg (sv (EV.mv rfl) rfl (sv (EV.mv rfl) rfl (sv (EV.ln rfl) rfl (sv (EV.lss rfl rfl) rfl (re ?_)))))))
           revert H; refine ifsI ?_ ?_ <;> intro c27 H
           ·
            refine gt rfl (dT c27) (gk (gs (gb (rg (sv (EV.mv rfl) rfl (sv (EV.mv rfl) rfl (sv (EV.mv rfl) rfl ?_)))))))
            revert H; refine ggI ?_; intro g28 H
            exact sv (EV.ix 0 rfl rfl rfl g28 c27 rfl) rfl (sv (EV.fa 1 rfl) rfl (sv (EV.le (v := .int .i64 ((rd_T49 x14_6 x14_19).f1)) x14_19 1 none 0 z49 rfl rfl rfl g28 c27 rfl rfl rfl) rfl (sv (EV.add rfl rfl) rfl (sv (EV.as rfl) rfl (re (pr [3, 4, 6, 7, 14, 15, 16, 19] [0] [0, 1] rfl rfl rfl rfl (ge (rg (sv (EV.mv rfl) rfl (sv (EV.add rfl rfl) rfl (sv (EV.as rfl) rfl (re (wk [3, 4, 6, 7, 14, 15, 16, 19] [0] [⟨0, 1, 1, false⟩, ⟨1, 1, 2, true⟩] (ih2 _ (by omega) _ ⟨x14_4, x14_6, Ax14_6, cx14_6, x14_7, x14_14, x14_15, wrap64 (x14_16 + ((rd_T49 x14_6 x14_19).f1)), wrap64 (x14_19 + 1), x14_3_0, Ax14_3_0, cx14_3_0, x14_3_1, x14_3_2, by omega, H, rfl⟩))))))))))))))
           ·
            refine gf rfl (dF c27) (gx rfl (gs (rg (sv (EV.mv rfl) rfl (sv (EV.mv rfl) rfl (sv (EV.leq rfl rfl) rfl (sv (EV.mv rfl) rfl ?_)))))))
            revert H; refine ifsI ?_ ?_ <;> intro c29 H
            ·
             refine ts 138 rfl (dT c29) (sv (EV.mv rfl) rfl (sv (EV.ln rfl) rfl (sv (EV.mul rfl rfl) rfl (sv (EV.mv rfl) rfl (sv (EV.eql rfl rfl) rfl (sv (EV.pt rfl rfl rfl) rfl (sv (EV.mv rfl) rfl ?_)))))))
             revert H; refine ifsI ?_ ?_ <;> intro c30 H
             ·
              refine ts 145 rfl (dT c30) (sv (EV.mv rfl) rfl (sv (EV.mv rfl) rfl (sv (EV.mv rfl) rfl (sv (EV.add rfl rfl) rfl (sv (EV.eql rfl rfl) rfl (sv (EV.pt rfl rfl rfl) rfl (sv (EV.mv rfl) rfl ?_)))))))
              revert H; refine ifsI ?_ ?_ <;> intro c31 H
              ·
               refine ts 152 rfl (dT c31) (sv (EV.mv rfl) rfl (sv (EV.gtr rfl rfl) rfl (sv (EV.mv rfl) rfl ?_)))
               revert H; refine ifsI ?_ ?_ <;> intro c32 H
               ·
                refine ts 155 rfl (dT c32) (sk rfl (sk rfl (sk rfl (sk rfl (sk rfl (sk rfl (sk rfl (sv (EV.pt rfl rfl rfl) rfl (sv (EV.pt rfl rfl rfl) rfl (sv (EV.as rfl) rfl (re (pr [2] [] [] rfl rfl rfl rfl ?_))))))))))))
                cases H
                exact rt Try.func5 rfl (.tmp rfl .nil) rfl [] [] rfl rfl rfl rfl rfl ⟨rfl, rfl, rfl⟩
               ·
                refine ts 155 rfl (dF c32) (sv (EV.fa 0 rfl) rfl (sv (EV.ld 0 none rfl rfl rfl) rfl ?_))
                revert H; refine ggI ?_; intro g33 H
                refine sv (EV.ix 1 rfl rfl rfl dq g33 rfl) rfl (sv (EV.fa 0 rfl) rfl (opn (i := 0) 1 z64 rfl dq g33 fun A_34 c_34 => (sv (EV.lc (v := .slice A_34 ((rd_T64 x14_3_0 0).f0).length c_34) 0 none 2 rfl rfl rfl rfl) rfl (sv (EV.ln rfl) rfl (sv (EV.eql rfl rfl) rfl (sv (EV.pf rfl rfl rfl) rfl (sv (EV.pt rfl rfl rfl) rfl (sv (EV.as rfl) rfl (re (pr [2] [] [] rfl rfl rfl rfl ?_))))))))))
                cases H
                exact rt Try.func5 rfl (.tmp rfl .nil) rfl [] [] rfl rfl rfl rfl rfl ⟨rfl, rfl, rfl⟩
              ·
               refine ts 152 rfl (dF c31) (sk rfl (sk rfl (sk rfl (sk rfl (sk rfl (sk rfl (sk rfl (sk rfl (sk rfl (sk rfl (sk rfl (sv (EV.pf rfl rfl rfl) rfl (sv (EV.as rfl) rfl (re (pr [2] [] [] rfl rfl rfl rfl ?_)))))))))))))))
               cases H
               exact rt Try.func5 rfl (.tmp rfl .nil) rfl [] [] rfl rfl rfl rfl rfl ⟨rfl, rfl, rfl⟩
             ·
              refine ts 145 rfl (dF c30) (sk rfl (sk rfl (sk rfl (sk rfl (sk rfl (sv (EV.pf rfl rfl rfl) rfl (sv (EV.mv rfl) rfl (sk rfl (sk rfl (sk rfl (sk rfl (sk rfl (sk rfl (sk rfl (sk rfl (sk rfl (sk rfl (sk rfl (sv (EV.pf rfl rfl rfl) rfl (sv (EV.as rfl) rfl (re (pr [2] [] [] rfl rfl rfl rfl ?_))))))))))))))))))))))
              cases H
              exact rt Try.func5 rfl (.tmp rfl .nil) rfl [] [] rfl rfl rfl rfl rfl ⟨rfl, rfl, rfl⟩
            ·
             refine ts 138 rfl (dF c29) (sk rfl (sk rfl (sk rfl (sk rfl (sk rfl (sv (EV.pf rfl rfl rfl) rfl (sv (EV.mv rfl) rfl (sk rfl (sk rfl (sk rfl (sk rfl (sk rfl (sv (EV.pf rfl rfl rfl) rfl (sv (EV.mv rfl) rfl (sk rfl (sk rfl (sk rfl (sk rfl (sk rfl (sk rfl (sk rfl (sk rfl (sk rfl (sk rfl (sk rfl (sv (EV.pf rfl rfl rfl) rfl (sv (EV.as rfl) rfl (re (pr [2] [] [] rfl rfl rfl rfl ?_)))))))))))))))))))))))))))))
             cases H
             exact rt Try.func5 rfl (.tmp rfl .nil) rfl [] [] rfl rfl rfl rfl rfl ⟨rfl, rfl, rfl⟩
        ·
         obtain rfl := bF c20
         refine gt rfl rfl (gs (rg (sv (EV.ld (v := .agg #[.slice At4_0 t4_0.length ct4_0, .int .i64 t4_1, .bool t4_2]) 1 (some 3) rfl rfl rfl) rfl (sv (EV.ld (v := .agg #[.slice At3_0 t3_0.length ct3_0, .int .i64 t3_1, .bool t3_2]) 0 (some 3) rfl rfl rfl) rfl ?_))))
         revert H; refine bdI ?_; rintro t35 A35 H
         refine so rfl (op_call (spec_EqualAggregators.ok k t4_0 At4_0 ct4_0 t4_1 t4_2 t3_0 At3_0 ct3_0 t3_1 t3_2 _ A35) [⟨1, 0, 0, false⟩, ⟨0, 0, 0, false⟩] 6 rfl rfl rfl rfl rfl ?_)
         rintro _ _ _ ⟨rfl, rfl, rfl⟩
         refine sv (EV.mv rfl) rfl ?_
         revert H; refine ifsI ?_ ?_ <;> intro c36 H
         ·
          subst c36
          refine ts 85 rfl rfl (sv (EV.mv rfl) rfl (sv (EV.ln rfl) rfl (sv (EV.eql rfl rfl) rfl (sv (EV.pt rfl rfl rfl) rfl (sv (EV.as rfl) rfl (re (pr [2] [] [] rfl rfl rfl rfl ?_)))))))
          cases H
          exact rt Try.func5 rfl (.tmp rfl .nil) rfl [] [] rfl rfl rfl rfl rfl ⟨rfl, rfl, rfl⟩
         ·
          obtain rfl := bF c36
          refine ts 85 rfl rfl (sk rfl (sk rfl (sk rfl (sv (EV.pf rfl rfl rfl) rfl (sv (EV.as rfl) rfl (re (pr [2] [] [] rfl rfl rfl rfl ?_)))))))
          cases H
          exact rt Try.func5 rfl (.tmp rfl .nil) rfl [] [] rfl rfl rfl rfl rfl ⟨rfl, rfl, rfl⟩
       ·
        obtain rfl := bF c19
        refine gt rfl rfl (gs (rg (sv (EV.as rfl) rfl (re (pr [2] [] [] rfl rfl rfl rfl ?_)))))
        cases H
        exact rt Try.func5 rfl (.tmp rfl .nil) rfl [] [] rfl rfl rfl rfl rfl ⟨rfl, rfl, rfl⟩
      ·
       refine ts 72 rfl (bM c15) (xk 28 [0, 1, 2] [0, 1, 2, 3, 4, 5, 6] rfl rfl rfl rfl rfl (xk 30 [0, 1, 2] [0, 1, 2, 3, 4, 5, 6] rfl rfl rfl rfl rfl (xk 29 [0, 1, 2] [0, 1, 2, 3, 4, 5, 6] rfl rfl rfl rfl rfl (xk 31 [0, 1, 2] [0, 1, 2, 3, 4, 5, 6] rfl rfl rfl rfl rfl (xk 32 [0, 1, 2] [0, 1, 2, 3, 4, 5, 6] rfl rfl rfl rfl rfl (xk 33 [0, 1, 2] [0, 1, 2, 3, 4, 5, 6] rfl rfl rfl rfl rfl (xv 34 [0, 1, 2] [0, 1, 2, 3, 4, 5, 6] rfl (EV.pt rfl rfl rfl) rfl rfl rfl rfl (xd (pr [3, 4, 5, 6, 7, 8, 79] [0, 1] [1, 2, 3] rfl rfl rfl rfl (gt rfl rfl (gs (rg (sv (EV.as rfl) rfl (re (pr [2] [] [] rfl rfl rfl rfl ?_)))))))))))))))
       cases H
       exact rt Try.func5 rfl (.tmp rfl .nil) rfl [] [] rfl rfl rfl rfl rfl ⟨rfl, rfl, rfl⟩
     ·
      obtain rfl := bF c12
      refine ts 65 rfl rfl (xk 21 [0, 1, 2] [0, 1, 2, 3, 4, 5, 6] rfl rfl rfl rfl rfl (xk 23 [0, 1, 2] [0, 1, 2, 3, 4, 5, 6] rfl rfl rfl rfl rfl (xk 22 [0, 1, 2] [0, 1, 2, 3, 4, 5, 6] rfl rfl rfl rfl rfl (xk 24 [0, 1, 2] [0, 1, 2, 3, 4, 5, 6] rfl rfl rfl rfl rfl (xk 25 [0, 1, 2] [0, 1, 2, 3, 4, 5, 6] rfl rfl rfl rfl rfl (xv 26 [0, 1, 2] [0, 1, 2, 3, 4, 5, 6] rfl (EV.pt rfl rfl rfl) rfl rfl rfl rfl (xv 27 [0, 1, 2] [0, 1, 2, 3, 4, 5, 6] rfl (EV.mv rfl) rfl rfl rfl rfl (xk 28 [0, 1, 2] [0, 1, 2, 3, 4, 5, 6] rfl rfl rfl rfl rfl (xk 30 [0, 1, 2] [0, 1, 2, 3, 4, 5, 6] rfl rfl rfl rfl rfl (xk 29 [0, 1, 2] [0, 1, 2, 3, 4, 5, 6] rfl rfl rfl rfl rfl (xk 31 [0, 1, 2] [0, 1, 2, 3, 4, 5, 6] rfl rfl rfl rfl rfl (xk 32 [0, 1, 2] [0, 1, 2, 3, 4, 5, 6] rfl rfl rfl rfl rfl (xk 33 [0, 1, 2] [0, 1, 2, 3, 4, 5, 6] rfl rfl rfl rfl rfl (xv 34 [0, 1, 2] [0, 1, 2, 3, 4, 5, 6] rfl (EV.pt rfl rfl rfl) rfl rfl rfl rfl (xd (pr [3, 4, 5, 6, 7, 8, 79] [0, 1] [1, 2, 3] rfl rfl rfl rfl (gt rfl rfl (gs (rg (sv (EV.as rfl) rfl (re (pr [2] [] [] rfl rfl rfl rfl ?_))))))))))))))))))))))
      cases H
      exact rt Try.func5 rfl (.tmp rfl .nil) rfl [] [] rfl rfl rfl rfl rfl ⟨rfl, rfl, rfl⟩
    ·
     obtain rfl := bF c10
     refine ts 59 rfl rfl (xk 15 [0, 1, 2] [0, 1, 2, 3, 4, 5, 6] rfl rfl rfl rfl rfl (xk 16 [0, 1, 2] [0, 1, 2, 3, 4, 5, 6] rfl rfl rfl rfl rfl (xk 17 [0, 1, 2] [0, 1, 2, 3, 4, 5, 6] rfl rfl rfl rfl rfl (xk 18 [0, 1, 2] [0, 1, 2, 3, 4, 5, 6] rfl rfl rfl rfl rfl (xv 19 [0, 1, 2] [0, 1, 2, 3, 4, 5, 6] rfl (EV.pt rfl rfl rfl) rfl rfl rfl rfl (xv 20 [0, 1, 2] [0, 1, 2, 3, 4, 5, 6] rfl (EV.mv rfl) rfl rfl rfl rfl (xk 21 [0, 1, 2] [0, 1, 2, 3, 4, 5, 6] rfl rfl rfl rfl rfl (xk 23 [0, 1, 2] [0, 1, 2, 3, 4, 5, 6] rfl rfl rfl rfl rfl (xk 22 [0, 1, 2] [0, 1, 2, 3, 4, 5, 6] rfl rfl rfl rfl rfl (xk 24 [0, 1, 2] [0, 1, 2, 3, 4, 5, 6] rfl rfl rfl rfl rfl (xk 25 [0, 1, 2] [0, 1, 2, 3, 4, 5, 6] rfl rfl rfl rfl rfl (xv 26 [0, 1, 2] [0, 1, 2, 3, 4, 5, 6] rfl (EV.pt rfl rfl rfl) rfl rfl rfl rfl (xv 27 [0, 1, 2] [0, 1, 2, 3, 4, 5, 6] rfl (EV.mv rfl) rfl rfl rfl rfl (xk 28 [0, 1, 2] [0, 1, 2, 3, 4, 5, 6] rfl rfl rfl rfl rfl (xk 30 [0, 1, 2] [0, 1, 2, 3, 4, 5, 6] rfl rfl rfl rfl rfl (xk 29 [0, 1, 2] [0, 1, 2, 3, 4, 5, 6] rfl rfl rfl rfl rfl (xk 31 [0, 1, 2] [0, 1, 2, 3, 4, 5, 6] rfl rfl rfl rfl rfl (xk 32 [0, 1, 2] [0, 1, 2, 3, 4, 5, 6] rfl rfl rfl rfl rfl (xk 33 [0, 1, 2] [0, 1, 2, 3, 4, 5, 6] rfl rfl rfl rfl rfl (xv 34 [0, 1, 2] [0, 1, 2, 3, 4, 5, 6] rfl (EV.pt rfl rfl rfl) rfl rfl rfl rfl (xd (pr [3, 4, 5, 6, 7, 8, 79] [0, 1] [1, 2, 3] rfl rfl rfl rfl (gt rfl rfl (gs (rg (sv (EV.as rfl) rfl (re (pr [2] [] [] rfl rfl rfl rfl ?_))))))))))))))))))))))))))))
     cases H
     exact rt Try.func5 rfl (.tmp rfl .nil) rfl [] [] rfl rfl rfl rfl rfl ⟨rfl, rfl, rfl⟩
   ·
    refine ts 53 rfl (nT c8) (xk 9 [0, 1, 2] [0, 1, 2, 3, 4, 5, 6] rfl rfl rfl rfl rfl (xk 10 [0, 1, 2] [0, 1, 2, 3, 4, 5, 6] rfl rfl rfl rfl rfl (xk 11 [0, 1, 2] [0, 1, 2, 3, 4, 5, 6] rfl rfl rfl rfl rfl (xk 12 [0, 1, 2] [0, 1, 2, 3, 4, 5, 6] rfl rfl rfl rfl rfl (xv 13 [0, 1, 2] [0, 1, 2, 3, 4, 5, 6] rfl (EV.pt rfl rfl rfl) rfl rfl rfl rfl (xv 14 [0, 1, 2] [0, 1, 2, 3, 4, 5, 6] rfl (EV.mv rfl) rfl rfl rfl rfl (xk 15 [0, 1, 2] [0, 1, 2, 3, 4, 5, 6] rfl rfl rfl rfl rfl (xk 16 [0, 1, 2] [0, 1, 2, 3, 4, 5, 6] rfl rfl rfl rfl rfl (xk 17 [0, 1, 2] [0, 1, 2, 3, 4, 5, 6] rfl rfl rfl rfl rfl (xk 18 [0, 1, 2] [0, 1, 2, 3, 4, 5, 6] rfl rfl rfl rfl rfl (xv 19 [0, 1, 2] [0, 1, 2, 3, 4, 5, 6] rfl (EV.pt rfl rfl rfl) rfl rfl rfl rfl (xv 20 [0, 1, 2] [0, 1, 2, 3, 4, 5, 6] rfl (EV.mv rfl) rfl rfl rfl rfl (xk 21 [0, 1, 2] [0, 1, 2, 3, 4, 5, 6] rfl rfl rfl rfl rfl (xk 23 [0, 1, 2] [0, 1, 2, 3, 4, 5, 6] rfl rfl rfl rfl rfl (xk 22 [0, 1, 2] [0, 1, 2, 3, 4, 5, 6] rfl rfl rfl rfl rfl (xk 24 [0, 1, 2] [0, 1, 2, 3, 4, 5, 6] rfl rfl rfl rfl rfl (xk 25 [0, 1, 2] [0, 1, 2, 3, 4, 5, 6] rfl rfl rfl rfl rfl (xv 26 [0, 1, 2] [0, 1, 2, 3, 4, 5, 6] rfl (EV.pt rfl rfl rfl) rfl rfl rfl rfl (xv 27 [0, 1, 2] [0, 1, 2, 3, 4, 5, 6] rfl (EV.mv rfl) rfl rfl rfl rfl (xk 28 [0, 1, 2] [0, 1, 2, 3, 4, 5, 6] rfl rfl rfl rfl rfl (xk 30 [0, 1, 2] [0, 1, 2, 3, 4, 5, 6] rfl rfl rfl rfl rfl (xk 29 [0, 1, 2] [0, 1, 2, 3, 4, 5, 6] rfl rfl rfl rfl rfl (xk 31 [0, 1, 2] [0, 1, 2, 3, 4, 5, 6] rfl rfl rfl rfl rfl (xk 32 [0, 1, 2] [0, 1, 2, 3, 4, 5, 6] rfl rfl rfl rfl rfl (xk 33 [0, 1, 2] [0, 1, 2, 3, 4, 5, 6] rfl rfl rfl rfl rfl (xv 34 [0, 1, 2] [0, 1, 2, 3, 4, 5, 6] rfl (EV.pt rfl rfl rfl) rfl rfl rfl rfl (xd (pr [3, 4, 5, 6, 7, 8, 79] [0, 1] [1, 2, 3] rfl rfl rfl rfl (gt rfl rfl ?_)))))))))))))))))))))))))))))
    refine gs (rg (sv (EV.as rfl) rfl (re (pr [2] [] [] rfl rfl rfl rfl ?_))))
    cases H
    exact rt Try.func5 rfl (.tmp rfl .nil) rfl [] [] rfl rfl rfl rfl rfl ⟨rfl, rfl, rfl⟩
  ·
   refine ts 48 rfl (bM c7) (xk 4 [0, 1, 2] [0, 1, 2, 3, 4, 5, 6] rfl rfl rfl rfl rfl (xk 5 [0, 1, 2] [0, 1, 2, 3, 4, 5, 6] rfl rfl rfl rfl rfl (xk 6 [0, 1, 2] [0, 1, 2, 3, 4, 5, 6] rfl rfl rfl rfl rfl (xv 7 [0, 1, 2] [0, 1, 2, 3, 4, 5, 6] rfl (EV.pt rfl rfl rfl) rfl rfl rfl rfl (xv 8 [0, 1, 2] [0, 1, 2, 3, 4, 5, 6] rfl (EV.mv rfl) rfl rfl rfl rfl (xk 9 [0, 1, 2] [0, 1, 2, 3, 4, 5, 6] rfl rfl rfl rfl rfl (xk 10 [0, 1, 2] [0, 1, 2, 3, 4, 5, 6] rfl rfl rfl rfl rfl (xk 11 [0, 1, 2] [0, 1, 2, 3, 4, 5, 6] rfl rfl rfl rfl rfl (xk 12 [0, 1, 2] [0, 1, 2, 3, 4, 5, 6] rfl rfl rfl rfl rfl (xv 13 [0, 1, 2] [0, 1, 2, 3, 4, 5, 6] rfl (EV.pt rfl rfl rfl) rfl rfl rfl rfl (xv 14 [0, 1, 2] [0, 1, 2, 3, 4, 5, 6] rfl (EV.mv rfl) rfl rfl rfl rfl (xk 15 [0, 1, 2] [0, 1, 2, 3, 4, 5, 6] rfl rfl rfl rfl rfl (xk 16 [0, 1, 2] [0, 1, 2, 3, 4, 5, 6] rfl rfl rfl rfl rfl (xk 17 [0, 1, 2] [0, 1, 2, 3, 4, 5, 6] rfl rfl rfl rfl rfl (xk 18 [0, 1, 2] [0, 1, 2, 3, 4, 5, 6] rfl rfl rfl rfl rfl (xv 19 [0, 1, 2] [0, 1, 2, 3, 4, 5, 6] rfl (EV.pt rfl rfl rfl) rfl rfl rfl rfl (xv 20 [0, 1, 2] [0, 1, 2, 3, 4, 5, 6] rfl (EV.mv rfl) rfl rfl rfl rfl (xk 21 [0, 1, 2] [0, 1, 2, 3, 4, 5, 6] rfl rfl rfl rfl rfl (xk 23 [0, 1, 2] [0, 1, 2, 3, 4, 5, 6] rfl rfl rfl rfl rfl (xk 22 [0, 1, 2] [0, 1, 2, 3, 4, 5, 6] rfl rfl rfl rfl rfl (xk 24 [0, 1, 2] [0, 1, 2, 3, 4, 5, 6] rfl rfl rfl rfl rfl (xk 25 [0, 1, 2] [0, 1, 2, 3, 4, 5, 6] rfl rfl rfl rfl rfl (xv 26 [0, 1, 2] [0, 1, 2, 3, 4, 5, 6] rfl (EV.pt rfl rfl rfl) rfl rfl rfl rfl (xv 27 [0, 1, 2] [0, 1, 2, 3, 4, 5, 6] rfl (EV.mv rfl) rfl rfl rfl rfl (xk 28 [0, 1, 2] [0, 1, 2, 3, 4, 5, 6] rfl rfl rfl rfl rfl (xk 30 [0, 1, 2] [0, 1, 2, 3, 4, 5, 6] rfl rfl rfl rfl rfl (xk 29 [0, 1, 2] [0, 1, 2, 3, 4, 5, 6] rfl rfl rfl rfl rfl (xk 31 [0, 1, 2] [0, 1, 2, 3, 4, 5, 6] rfl rfl rfl rfl rfl (xk 32 [0, 1, 2] [0, 1, 2, 3, 4, 5, 6] rfl rfl rfl rfl rfl ?_)))))))))))))))))))))))))))))
   refine xk 33 [0, 1, 2] [0, 1, 2, 3, 4, 5, 6] rfl rfl rfl rfl rfl (xv 34 [0, 1, 2] [0, 1, 2, 3, 4, 5, 6] rfl (EV.pt rfl rfl rfl) rfl rfl rfl rfl (xd (pr [3, 4, 5, 6, 7, 8, 79] [0, 1] [1, 2, 3] rfl rfl rfl rfl (gt rfl rfl (gs (rg (sv (EV.as rfl) rfl (re (pr [2] [] [] rfl rfl rfl rfl ?_)))))))))
   cases H
   exact rt Try.func5 rfl (.tmp rfl .nil) rfl [] [] rfl rfl rfl rfl rfl ⟨rfl, rfl, rfl⟩
end Go.Proofs.Ytgpencaijhbolaa.K
