/- Walks: what the functions compute. Printed by gen.py; no condition. -/
import Derived.Test.YtajjeemkdjfilaaVFnBlockNestedLoopa
namespace Go.Proofs.Ytajjeemkdjfilaa.K
open Go Go.RowKit
set_option linter.unusedVariables false
set_option linter.unusedSimpArgs false
mutual
def impl_UnmatchedRows.l0 : Nat → (List S92) → Int → Int → Int → Int → (List S70) → (List S70) → (List Bool) → Option ((List S92))
 | 0, _, _, _, _, _, _, _, _ => none
 | k + 1, x3_3, x3_22, x3_23, x3_1_0, x3_1_4, l0_1, l0_2, l0_3 => if x3_23 < x3_22 then (if 0 ≤ x3_23 then (if x3_23 < (l0_1.length : Int) then (if x3_23 < (l0_3.length : Int) then (if (rdOf false l0_3 x3_23) = true then (impl_UnmatchedRows.l0 k x3_3 x3_22 (wrap64 (x3_23 + 1)) x3_1_0 x3_1_4 l0_1 l0_2 l0_3) else (if x3_3.length < 2513169434916 then (impl_UnmatchedRows.l0 k (x3_3 ++ ([(⟨(⟨(rd_T70 l0_1 x3_23).f0, (rd_T70 l0_1 x3_23).f1, (rd_T70 l0_1 x3_23).f2⟩ : S70), (⟨0, 0, 0⟩ : S70), false⟩ : S92)] : List S92)) x3_22 (wrap64 (x3_23 + 1)) x3_1_0 x3_1_4 l0_1 l0_2 l0_3) else none)) else none) else none) else none) else (some x3_3)
def impl_UnmatchedRows.j0 : Nat → Int → Int → (List S70) → (List S70) → (List Bool) → Option ((List S92))
 | 0, _, _, _, _, _ => none
 | k + 1, x1_1_0, x1_1_4, l0_1, l0_2, l0_3 => impl_UnmatchedRows.l0 k [] (l0_1.length : Int) 0 x1_1_0 x1_1_4 l0_1 l0_2 l0_3
end
def impl_UnmatchedRows.f (k : Nat) (a0_0 : Int) (l0_1 : List S70) (l0_2 : List S70) (l0_3 : List Bool) (a0_4 : Int) : Option ((List S92)) := (impl_IsValidTask.f k a0_0 l0_1 l0_2 l0_3 a0_4).bind fun t11 => (if t11 = true then (if a0_0 = 3 then (impl_UnmatchedRows.j0 k a0_0 a0_4 l0_1 l0_2 l0_3) else (if a0_0 = 4 then (impl_UnmatchedRows.j0 k a0_0 a0_4 l0_1 l0_2 l0_3) else (some []))) else (some []))
set_option maxHeartbeats 4000000 in
set_option maxRecDepth 100000 in
theorem impl_UnmatchedRows.ok (k : Nat) (a0_0 : Int) (l0_1 : List S70) (Al0_1 : Option Addr) (cl0_1 : Nat) (l0_2 : List S70) (Al0_2 : Option Addr) (cl0_2 : Nat) (l0_3 : List Bool) (Al0_3 : Option Addr) (cl0_3 : Nat) (a0_4 : Int) (r0 : List S92) (H : impl_UnmatchedRows.f k a0_0 l0_1 l0_2 l0_3 a0_4 = some r0) : Fn Try.prog 29 [.agg #[.int .i64 a0_0, .slice Al0_1 l0_1.length cl0_1, .slice Al0_2 l0_2.length cl0_2, .slice Al0_3 l0_3.length cl0_3, .int .i64 a0_4]] [] [.sl 0 k70 Al0_1 cl0_1 l0_1 0 false, .sl 0 k70 Al0_2 cl0_2 l0_2 0 false, .sl 0 .bool Al0_3 cl0_3 l0_3 0 false] (fun v bx en => ∃ A0 c0, v = .slice A0 r0.length c0 ∧ bx = [] ∧ en = [.sl 2 k92 A0 c0 r0 1 true]) := by
 refine fn_ 41 Try.func29 rfl rfl rfl (fun base T w0 => ?_)
 rw [impl_UnmatchedRows.f] at H
 refine gs (rg (so rfl (op_box (cs := [.int .i64 a0_0, .slice Al0_1 l0_1.length cl0_1, .slice Al0_2 l0_2.length cl0_2, .slice Al0_3 l0_3.length cl0_3, .int .i64 a0_4]) rfl rfl rfl fun b1 => (sv (EV.as rfl) rfl (re ?_)))))
 refine jo (fun S => ∃ (m : Nat) (x1_1_0 : Int) (x1_1_4 : Int), impl_UnmatchedRows.j0 m x1_1_0 x1_1_4 l0_1 l0_2 l0_3 = some r0 ∧ S = ⟨[(1, .pointer (some ⟨b1, 0, none⟩))], [⟨b1, 44, [.int .i64 x1_1_0, .slice Al0_1 l0_1.length cl0_1, .slice Al0_2 l0_2.length cl0_2, .slice Al0_3 l0_3.length cl0_3, .int .i64 x1_1_4]⟩], [.sl 0 k70 Al0_1 cl0_1 l0_1 0 false, .sl 0 k70 Al0_2 cl0_2 l0_2 0 false, .sl 0 .bool Al0_3 cl0_3 l0_3 0 false]⟩) (fun S hS => ?_) (fun jh0 => ?_)
 ·
  clear H
  obtain ⟨m1, x1_1_0, x1_1_4, H, rfl⟩ := hS
  rcases m1 with _ | m1
  · rw [impl_UnmatchedRows.j0] at H; cases H
  rw [impl_UnmatchedRows.j0] at H
  refine gs (rg (so rfl (op_lit (s := 7) (by_ := 56) k92 ([] : List S92) [] [] 1 [] rfl rfl rfl rfl rfl rfl rfl rfl rfl rfl rfl rfl rfl dq rfl fun A19_2 c19_2 => (sv (EV.as rfl) rfl (re (gs (gs (rg (sv (EV.fa 1 rfl) rfl (sv (EV.ld 0 none rfl rfl rfl) rfl (sv (EV.ln rfl) rfl (sv (EV.mv rfl) rfl (re (gb ?_))))))))))))))
  refine lo (fun kk S => ∃ (x3_3 : List S92) (Ax3_3 : Option Addr) (cx3_3 : Nat) (x3_22 : Int) (x3_23 : Int) (x3_1_0 : Int) (x3_1_4 : Int), kk ≤ m1 ∧ impl_UnmatchedRows.l0 kk x3_3 x3_22 x3_23 x3_1_0 x3_1_4 l0_1 l0_2 l0_3 = some r0 ∧ S = ⟨[(1, .pointer (some ⟨b1, 0, none⟩)), (3, .slice Ax3_3 x3_3.length cx3_3), (21, .slice Al0_1 l0_1.length cl0_1), (22, .int .i64 x3_22), (23, .int .i64 x3_23)], [⟨b1, 44, [.int .i64 x3_1_0, .slice Al0_1 l0_1.length cl0_1, .slice Al0_2 l0_2.length cl0_2, .slice Al0_3 l0_3.length cl0_3, .int .i64 x3_1_4]⟩], [.sl 2 k92 Ax3_3 cx3_3 x3_3 1 true, .sl 0 k70 Al0_1 cl0_1 l0_1 0 false, .sl 0 k70 Al0_2 cl0_2 l0_2 0 false, .sl 0 .bool Al0_3 cl0_3 l0_3 0 false]⟩) (fun S hS => ?_) (fun n0 ih0 S hS => ?_) ⟨[], A19_2, c19_2, (l0_1.length : Int), 0, x1_1_0, x1_1_4, by omega, H, rfl⟩ (fun h => wk [1, 3, 21, 22, 23] [0] [⟨3, 2, 1, true⟩, ⟨0, 0, 0, false⟩, ⟨1, 0, 0, false⟩, ⟨2, 0, 0, false⟩] h)
  · clear H; obtain ⟨_, _, _, _, _, _, _, _, H, _⟩ := hS; rw [impl_UnmatchedRows.l0] at H; cases H
  clear H
  obtain ⟨x3_3, Ax3_3, cx3_3, x3_22, x3_23, x3_1_0, x3_1_4, lk0, H, rfl⟩ := hS
  rw [impl_UnmatchedRows.l0] at H
  refine gs (rg (sv (EV.lss rfl rfl) rfl (re (gs ?_))))
  revert H; refine ifsI ?_ ?_ <;> intro c3 H
  ·
   refine gt rfl (dT c3) (gk (gs (gb (gs (rg (sv (EV.mv rfl) rfl ?_))))))
   revert H; refine ggI ?_; intro g4 H
   revert H; refine ggI ?_; intro g5 H
   refine sv (EV.ix 1 rfl rfl rfl g4 g5 rfl) rfl (sv (EV.le (v := .agg #[.int .i64 ((rd_T70 l0_1 x3_23).f0), .int .i64 ((rd_T70 l0_1 x3_23).f1), .int .i64 ((rd_T70 l0_1 x3_23).f2)]) x3_23 0 (some 3) 1 z70 rfl rfl rfl g4 g5 rfl rfl rfl) rfl (so rfl (op_alloc (cs := [.int .i64 0, .int .i64 0, .int .i64 0]) (by kernel_rfl) rfl fun b5 => (sv (EV.as rfl) rfl (so rfl (op_st (cs' := [.int .i64 ((rd_T70 l0_1 x3_23).f0), .int .i64 ((rd_T70 l0_1 x3_23).f1), .int .i64 ((rd_T70 l0_1 x3_23).f2)]) 1 rfl rfl rfl rfl rfl rfl (re (gs (rg (sv (EV.fa 3 rfl) rfl (sv (EV.ld 0 none rfl rfl rfl) rfl (sv (EV.mv rfl) rfl ?_))))))))))))
   revert H; refine ggI ?_; intro g6 H
   refine sv (EV.ix 3 rfl rfl rfl g4 g6 rfl) rfl (sv (EV.le (v := .bool (rdOf false l0_3 x3_23)) x3_23 0 none 3 false rfl rfl rfl g4 g6 rfl rfl rfl) rfl (sv (EV.nt rfl) rfl (re (pr [1, 3, 5, 21, 22, 23, 33] [0, 1] [0, 1, 2, 3] rfl rfl rfl rfl ?_))))
   revert H; refine ifsI ?_ ?_ <;> intro c7 H
   ·
    exact gf rfl (bN c7) (gk (ge (rg (sv (EV.add rfl rfl) rfl (sv (EV.mv rfl) rfl (re (wk [1, 3, 21, 22, 23] [0] [⟨0, 2, 1, true⟩, ⟨1, 0, 0, false⟩, ⟨2, 0, 0, false⟩, ⟨3, 0, 0, false⟩] (ih0 _ (by omega) _ ⟨x3_3, Ax3_3, cx3_3, x3_22, wrap64 (x3_23 + 1), x3_1_0, x3_1_4, by omega, H, rfl⟩))))))))
   ·
    refine gt rfl (bM c7) (rg (sv (EV.mv rfl) rfl (sv (EV.ld (v := .agg #[.int .i64 ((rd_T70 l0_1 x3_23).f0), .int .i64 ((rd_T70 l0_1 x3_23).f1), .int .i64 ((rd_T70 l0_1 x3_23).f2)]) 1 (some 3) rfl rfl rfl) rfl (sv (EV.bd (v := .agg #[.int .i64 ((rd_T70 l0_1 x3_23).f0), .int .i64 ((rd_T70 l0_1 x3_23).f1), .int .i64 ((rd_T70 l0_1 x3_23).f2), .int .i64 0, .int .i64 0, .int .i64 0, .bool false]) rfl (by kernel_rfl)) rfl (so rfl (op_lit (s := 7) (by_ := 56) k92 ([(⟨(⟨(rd_T70 l0_1 x3_23).f0, (rd_T70 l0_1 x3_23).f1, (rd_T70 l0_1 x3_23).f2⟩ : S70), (⟨0, 0, 0⟩ : S70), false⟩ : S92)] : List S92) [[]] [] 2 [.tmp 36] rfl rfl rfl rfl rfl rfl rfl rfl rfl rfl rfl rfl rfl dq rfl fun A37_8 c37_8 => ?_))))))
    revert H; refine ggI ?_; intro g9 H
    exact so rfl (op_app (k := k92) (s := 7) (by_ := 56) 0 4 rfl rfl rfl rfl (ap1 g9 dq) (ap1n g9 dq) (.inl rfl) true (fun _ => .inl rfl) rfl rfl fun A38_10 c38_10 => (nmE (en := [.sl 0 k70 Al0_1 cl0_1 l0_1 0 false, .sl 0 k70 Al0_2 cl0_2 l0_2 0 false, .sl 0 .bool Al0_3 cl0_3 l0_3 0 false, .sl 2 k92 A37_8 c37_8 ([(⟨(⟨(rd_T70 l0_1 x3_23).f0, (rd_T70 l0_1 x3_23).f1, (rd_T70 l0_1 x3_23).f2⟩ : S70), (⟨0, 0, 0⟩ : S70), false⟩ : S92)] : List S92) 2 true, .sl 2 k92 A38_10 c38_10 (x3_3 ++ ([(⟨(⟨(rd_T70 l0_1 x3_23).f0, (rd_T70 l0_1 x3_23).f1, (rd_T70 l0_1 x3_23).f2⟩ : S70), (⟨0, 0, 0⟩ : S70), false⟩ : S92)] : List S92)) 1 true]) (by kernel_rfl) (sv (EV.as rfl) rfl (re (pr [1, 3, 21, 22, 23] [0] [0, 1, 2, 4] rfl rfl rfl rfl (ge (rg (sv (EV.add rfl rfl) rfl (sv (EV.mv rfl) rfl (re (wk [1, 3, 21, 22, 23] [0] [⟨3, 2, 1, true⟩, ⟨0, 0, 0, false⟩, ⟨1, 0, 0, false⟩, ⟨2, 0, 0, false⟩] (ih0 _ (by omega) _ ⟨x3_3 ++ ([(⟨(⟨(rd_T70 l0_1 x3_23).f0, (rd_T70 l0_1 x3_23).f1, (rd_T70 l0_1 x3_23).f2⟩ : S70), (⟨0, 0, 0⟩ : S70), false⟩ : S92)] : List S92), A38_10, c38_10, x3_22, wrap64 (x3_23 + 1), x3_1_0, x3_1_4, by omega, H, rfl⟩))))))))))))
  ·
   refine gf rfl (dF c3) (gx rfl (gs (rg (sv (EV.mv rfl) rfl (sv (EV.as rfl) rfl (re (pr [2] [] [0] rfl rfl rfl rfl ?_)))))))
   cases H
   exact rt Try.func29 rfl (.tmp rfl .nil) rfl [] [⟨0, 2, 1, true⟩] rfl rfl rfl rfl rfl ⟨_, _, rfl, rfl, rfl⟩
 ·
  refine gs (rg (sv (EV.ld (v := .agg #[.int .i64 a0_0, .slice Al0_1 l0_1.length cl0_1, .slice Al0_2 l0_2.length cl0_2, .slice Al0_3 l0_3.length cl0_3, .int .i64 a0_4]) 0 (some 5) rfl rfl rfl) rfl ?_))
  revert H; refine bdI ?_; rintro t11 A11 H
  refine so rfl (op_call (impl_IsValidTask.ok k a0_0 l0_1 Al0_1 cl0_1 l0_2 Al0_2 cl0_2 l0_3 Al0_3 cl0_3 a0_4 _ A11) [⟨0, 0, 0, false⟩, ⟨1, 0, 0, false⟩, ⟨2, 0, 0, false⟩] 1 rfl rfl rfl rfl rfl ?_)
  rintro _ _ _ ⟨rfl, rfl, rfl⟩
  refine sv (EV.nt rfl) rfl (sv (EV.mv rfl) rfl ?_)
  revert H; refine ifsI ?_ ?_ <;> intro c12 H
  ·
   subst c12
   refine ts 9 rfl rfl (sv (EV.fa 0 rfl) rfl (sv (EV.ld 0 none rfl rfl rfl) rfl (sv (EV.neq rfl rfl) rfl (sv (EV.mv rfl) rfl ?_))))
   revert H; refine ifsI ?_ ?_ <;> intro c13 H
   ·
    exact ts 13 rfl (nF c13) (sk rfl (sk rfl (sk rfl (sv (EV.pf rfl rfl rfl) rfl (sv (EV.pf rfl rfl rfl) rfl (re (pr [1, 18] [0] [0, 1, 2] rfl rfl rfl rfl (gf rfl rfl (gk (wk [1] [0] [⟨0, 0, 0, false⟩, ⟨1, 0, 0, false⟩, ⟨2, 0, 0, false⟩] (jh0 _ ⟨_, a0_0, a0_4, H, rfl⟩)))))))))))
   ·
    refine ts 13 rfl (nT c13) (sv (EV.fa 0 rfl) rfl (sv (EV.ld 0 none rfl rfl rfl) rfl (sv (EV.neq rfl rfl) rfl (sv (EV.pt rfl rfl rfl) rfl (sv (EV.pf rfl rfl rfl) rfl (re (pr [1, 18] [0] [0, 1, 2] rfl rfl rfl rfl ?_)))))))
    revert H; refine ifsI ?_ ?_ <;> intro c14 H
    ·
     exact gf rfl (nF c14) (gk (wk [1] [0] [⟨0, 0, 0, false⟩, ⟨1, 0, 0, false⟩, ⟨2, 0, 0, false⟩] (jh0 _ ⟨_, a0_0, a0_4, H, rfl⟩)))
    ·
     refine gt rfl (nT c14) (gs (rg (sv (EV.as rfl) rfl (re (nil_ k92 1 dq ?_)))))
     cases H
     exact rt Try.func29 rfl (.tmp rfl .nil) rfl [] [⟨3, 2, 1, true⟩] rfl rfl rfl rfl rfl ⟨_, _, rfl, rfl, rfl⟩
  ·
   obtain rfl := bF c12
   refine ts 9 rfl rfl (sk rfl (sk rfl (sk rfl (sk rfl (sk rfl (sk rfl (sk rfl (sk rfl (sv (EV.pt rfl rfl rfl) rfl (re (pr [1, 18] [0] [0, 1, 2] rfl rfl rfl rfl (gt rfl rfl (gs (rg (sv (EV.as rfl) rfl (re (nil_ k92 1 dq ?_)))))))))))))))))
   cases H
   exact rt Try.func29 rfl (.tmp rfl .nil) rfl [] [⟨3, 2, 1, true⟩] rfl rfl rfl rfl rfl ⟨_, _, rfl, rfl, rfl⟩
end Go.Proofs.Ytajjeemkdjfilaa.K
namespace Go.Proofs.Ytajjeemkdjfilaa.K
open Go Go.RowKit
set_option linter.unusedVariables false
set_option linter.unusedSimpArgs false
def impl_NewTask.f (k : Nat) (a0 : Int) (l1 : List S70) (l2 : List S70) : Option (Int × (List S70) × (List S70) × (List Bool) × Int × Bool) := (impl_IsValidJoinKind.f a0).bind fun t1 => (if t1 = true then ((impl_AreValidRows.f k l1).bind fun t3 => (if t3 = true then ((impl_AreValidRows.f k l2).bind fun t5 => (if t5 = true then (if 0 ≤ (l1.length : Int) then (if (l1.length : Int).toNat ≤ 140737488355328 then ((impl_clone.f l1).bind fun t9 => ((impl_clone.f l2).bind fun t10 => (some (a0, t9, t10, List.replicate (l1.length : Int).toNat false, 0, true)))) else none) else none) else (some (0, [], [], [], 0, false)))) else (some (0, [], [], [], 0, false)))) else (some (0, [], [], [], 0, false)))
set_option maxHeartbeats 4000000 in
set_option maxRecDepth 100000 in
theorem impl_NewTask.ok (k : Nat) (a0 : Int) (l1 : List S70) (Al1 : Option Addr) (cl1 : Nat) (l2 : List S70) (Al2 : Option Addr) (cl2 : Nat) (r0 : Int) (r1 : List S70) (r2 : List S70) (r3 : List Bool) (r4 : Int) (r5 : Bool) (H : impl_NewTask.f k a0 l1 l2 = some (r0, r1, r2, r3, r4, r5)) : Fn Try.prog 88 [.int .i64 a0, .slice Al1 l1.length cl1, .slice Al2 l2.length cl2] [] [.sl 0 k70 Al1 cl1 l1 0 false, .sl 0 k70 Al2 cl2 l2 0 false] (fun v bx en => ∃ A1 c1 A2 c2 A3 c3, v = .tuple #[.agg #[.int .i64 r0, .slice A1 r1.length c1, .slice A2 r2.length c2, .slice A3 r3.length c3, .int .i64 r4], .bool r5] ∧ bx = [] ∧ en = [.sl 2 k70 A1 c1 r1 1 true, .sl 2 k70 A2 c2 r2 2 true, .sl 2 .bool A3 c3 r3 3 true]) := by
 refine fn_ 31 Try.func88 rfl rfl rfl (fun base T w0 => ?_)
 rw [impl_NewTask.f] at H
 refine gs (rg (so rfl (op_alloc (cs := [.int .i64 0, .slice none 0 0, .slice none 0 0, .slice none 0 0, .int .i64 0]) (by kernel_rfl) rfl fun b6 => (sv (EV.as rfl) rfl (re (gs (gs (rg (sv (EV.mv rfl) rfl ?_)))))))))
 revert H; refine bdI ?_; rintro t1 A1 H
 refine so rfl (op_call (impl_IsValidJoinKind.ok a0 _ A1) [] 1 rfl rfl rfl rfl rfl ?_)
 rintro _ _ _ ⟨rfl, rfl, rfl⟩
 refine sv (EV.nt rfl) rfl (sv (EV.mv rfl) rfl ?_)
 revert H; refine ifsI ?_ ?_ <;> intro c2 H
 ·
  subst c2
  refine ts 11 rfl rfl (sv (EV.mv rfl) rfl ?_)
  revert H; refine bdI ?_; rintro t3 A3 H
  refine so rfl (op_call (impl_AreValidRows.ok k l1 Al1 cl1 _ A3) [⟨0, 0, 0, false⟩] 1 rfl rfl rfl rfl rfl ?_)
  rintro _ _ _ ⟨rfl, rfl, rfl⟩
  refine sv (EV.nt rfl) rfl (sv (EV.pf rfl rfl rfl) rfl (sv (EV.mv rfl) rfl ?_))
  revert H; refine ifsI ?_ ?_ <;> intro c4 H
  ·
   subst c4
   refine ts 16 rfl rfl (sv (EV.mv rfl) rfl ?_)
   revert H; refine bdI ?_; rintro t5 A5 H
   refine so rfl (op_call (impl_AreValidRows.ok k l2 Al2 cl2 _ A5) [⟨1, 0, 0, false⟩] 1 rfl rfl rfl rfl rfl ?_)
   rintro _ _ _ ⟨rfl, rfl, rfl⟩
   refine sv (EV.nt rfl) rfl (sv (EV.pf rfl rfl rfl) rfl (re (pr [0, 1, 2, 6, 20] [0] [0, 1] rfl rfl rfl rfl ?_)))
   revert H; refine ifsI ?_ ?_ <;> intro c6 H
   ·
    subst c6
    refine gf rfl rfl (gk (gs ?_))
    revert H; refine ggI ?_; intro g7 H
    revert H; refine ggI ?_; intro g8 H
    refine dr [0] [0, 1] [9, 10] 11 rfl rfl rfl rfl (xv 0 [0] [0, 1] rfl (EV.mv rfl) rfl rfl rfl rfl (xv 1 [0] [0, 1] rfl (EV.mv rfl) rfl rfl rfl rfl (xv 3 [0] [0, 1] rfl (EV.mv rfl) rfl rfl rfl rfl (xv 5 [0] [0, 1] rfl (EV.mv rfl) rfl rfl rfl rfl (xv 6 [0] [0, 1] rfl (EV.ln rfl) rfl rfl rfl rfl ?_)))))
    refine one2 2 7 rfl rfl rfl rfl ?_ ?_
    ·
     revert H; refine bdI ?_; rintro t9 A9 H
     refine op_call (impl_clone.ok l1 Al1 cl1 _ A9) [⟨0, 0, 0, false⟩] 1 rfl rfl rfl rfl rfl ?_
     rintro _ _ _ ⟨At9, ct9, rfl, rfl, rfl⟩
     refine xs [0] [0, 1] rfl rfl rfl ?_
     refine one2 4 7 rfl rfl rfl rfl ?_ ?_
     ·
      revert H; refine bdI ?_; rintro t10 A10 H
      refine op_call (impl_clone.ok l2 Al2 cl2 _ A10) [⟨1, 0, 0, false⟩] 3 rfl rfl rfl rfl rfl ?_
      rintro _ _ _ ⟨At10, ct10, rfl, rfl, rfl⟩
      refine xs [0] [0, 1] rfl rfl rfl (one1 7 rfl rfl (op_mk (s := 1) (by_ := 1) .bool false 5 rfl rfl g7 (mk1 g8 dq) (mk2 g8 dq) mk42 rfl rfl dq rfl fun A29_11 c29_11 => (xs [0] [0, 1] rfl rfl rfl (xv 8 [0] [0, 1] rfl (EV.bd (v := .agg #[.int .i64 a0, .slice At9 t9.length ct9, .slice At10 t10.length ct10, .slice A29_11 (List.replicate (l1.length : Int).toNat false).length c29_11, .int .i64 0]) rfl (by kernel_rfl)) rfl rfl rfl rfl (one1 9 rfl rfl (op_st (cs' := [.int .i64 a0, .slice At9 t9.length ct9, .slice At10 t10.length ct10, .slice A29_11 (List.replicate (l1.length : Int).toNat false).length c29_11, .int .i64 0]) 0 rfl rfl rfl rfl rfl rfl (xn rfl (one1 10 rfl rfl (ov (EV.as rfl) rfl (xn rfl (xd (pr [6, 7] [0] [2, 3, 4] rfl rfl rfl rfl ?_))))))))))))
      cases H
      exact rt Try.func88 rfl (.cell 0 (some 5) rfl rfl rfl (.tmp rfl .nil)) rfl [] [⟨0, 2, 1, true⟩, ⟨1, 2, 2, true⟩, ⟨2, 2, 3, true⟩] rfl rfl rfl rfl rfl ⟨_, _, _, _, _, _, rfl, rfl, rfl⟩
     ·
      refine op_mk (s := 1) (by_ := 1) .bool false 3 rfl rfl g7 (mk1 g8 dq) (mk2 g8 dq) mk42 rfl rfl dq rfl fun A29_12 c29_12 => (xs [0] [0, 1] rfl rfl rfl (one1 4 rfl rfl ?_))
      revert H; refine bdI ?_; rintro t13 A13 H
      refine op_call (impl_clone.ok l2 Al2 cl2 _ A13) [⟨1, 0, 0, false⟩] 4 rfl rfl rfl rfl rfl ?_
      rintro _ _ _ ⟨At13, ct13, rfl, rfl, rfl⟩
      refine xs [0] [0, 1] rfl rfl rfl (xv 8 [0] [0, 1] rfl (EV.bd (v := .agg #[.int .i64 a0, .slice At9 t9.length ct9, .slice At13 t13.length ct13, .slice A29_12 (List.replicate (l1.length : Int).toNat false).length c29_12, .int .i64 0]) rfl (by kernel_rfl)) rfl rfl rfl rfl (one1 9 rfl rfl (op_st (cs' := [.int .i64 a0, .slice At9 t9.length ct9, .slice At13 t13.length ct13, .slice A29_12 (List.replicate (l1.length : Int).toNat false).length c29_12, .int .i64 0]) 0 rfl rfl rfl rfl rfl rfl (xn rfl (one1 10 rfl rfl (ov (EV.as rfl) rfl (xn rfl (xd (pr [6, 7] [0] [2, 3, 4] rfl rfl rfl rfl ?_)))))))))
      cases H
      exact rt Try.func88 rfl (.cell 0 (some 5) rfl rfl rfl (.tmp rfl .nil)) rfl [] [⟨0, 2, 1, true⟩, ⟨2, 2, 2, true⟩, ⟨1, 2, 3, true⟩] rfl rfl rfl rfl rfl ⟨_, _, _, _, _, _, rfl, rfl, rfl⟩
    ·
     refine op_mk (s := 1) (by_ := 1) .bool false 1 rfl rfl g7 (mk1 g8 dq) (mk2 g8 dq) mk42 rfl rfl dq rfl fun A29_14 c29_14 => (xs [0] [0, 1] rfl rfl rfl (one1 2 rfl rfl ?_))
     revert H; refine bdI ?_; rintro t15 A15 H
     refine op_call (impl_clone.ok l1 Al1 cl1 _ A15) [⟨0, 0, 0, false⟩] 2 rfl rfl rfl rfl rfl ?_
     rintro _ _ _ ⟨At15, ct15, rfl, rfl, rfl⟩
     refine xs [0] [0, 1] rfl rfl rfl (one1 4 rfl rfl ?_)
     revert H; refine bdI ?_; rintro t16 A16 H
     refine op_call (impl_clone.ok l2 Al2 cl2 _ A16) [⟨1, 0, 0, false⟩] 4 rfl rfl rfl rfl rfl ?_
     rintro _ _ _ ⟨At16, ct16, rfl, rfl, rfl⟩
     refine xs [0] [0, 1] rfl rfl rfl (xv 8 [0] [0, 1] rfl (EV.bd (v := .agg #[.int .i64 a0, .slice At15 t15.length ct15, .slice At16 t16.length ct16, .slice A29_14 (List.replicate (l1.length : Int).toNat false).length c29_14, .int .i64 0]) rfl (by kernel_rfl)) rfl rfl rfl rfl (one1 9 rfl rfl (op_st (cs' := [.int .i64 a0, .slice At15 t15.length ct15, .slice At16 t16.length ct16, .slice A29_14 (List.replicate (l1.length : Int).toNat false).length c29_14, .int .i64 0]) 0 rfl rfl rfl rfl rfl rfl (xn rfl (one1 10 rfl rfl (ov (EV.as rfl) rfl (xn rfl (xd (pr [6, 7] [0] [2, 3, 4] rfl rfl rfl rfl ?_)))))))))
     cases H
     exact rt Try.func88 rfl (.cell 0 (some 5) rfl rfl rfl (.tmp rfl .nil)) rfl [] [⟨1, 2, 1, true⟩, ⟨2, 2, 2, true⟩, ⟨0, 2, 3, true⟩] rfl rfl rfl rfl rfl ⟨_, _, _, _, _, _, rfl, rfl, rfl⟩
   ·
    obtain rfl := bF c6
    refine gt rfl rfl (gs (rg (sv (EV.bd (v := .agg #[.int .i64 0, .slice none 0 0, .slice none 0 0, .slice none 0 0, .int .i64 0]) rfl (by kernel_rfl)) rfl (so rfl (op_st (cs' := [.int .i64 0, .slice none 0 0, .slice none 0 0, .slice none 0 0, .int .i64 0]) 0 rfl rfl rfl rfl rfl rfl (sv (EV.as rfl) rfl (re (nil_ k70 1 dq (nil_ k70 2 dq (nil_ .bool 3 dq ?_))))))))))
    cases H
    exact rt Try.func88 rfl (.cell 0 (some 5) rfl rfl rfl (.tmp rfl .nil)) rfl [] [⟨2, 2, 1, true⟩, ⟨3, 2, 2, true⟩, ⟨4, 2, 3, true⟩] rfl rfl rfl rfl rfl ⟨_, _, _, _, _, _, rfl, rfl, rfl⟩
  ·
   obtain rfl := bF c4
   refine ts 16 rfl rfl (sk rfl (sk rfl (sk rfl (sv (EV.pt rfl rfl rfl) rfl (re (pr [0, 1, 2, 6, 20] [0] [0, 1] rfl rfl rfl rfl (gt rfl rfl (gs (rg (sv (EV.bd (v := .agg #[.int .i64 0, .slice none 0 0, .slice none 0 0, .slice none 0 0, .int .i64 0]) rfl (by kernel_rfl)) rfl (so rfl (op_st (cs' := [.int .i64 0, .slice none 0 0, .slice none 0 0, .slice none 0 0, .int .i64 0]) 0 rfl rfl rfl rfl rfl rfl (sv (EV.as rfl) rfl (re (nil_ k70 1 dq (nil_ k70 2 dq (nil_ .bool 3 dq ?_)))))))))))))))))
   cases H
   exact rt Try.func88 rfl (.cell 0 (some 5) rfl rfl rfl (.tmp rfl .nil)) rfl [] [⟨2, 2, 1, true⟩, ⟨3, 2, 2, true⟩, ⟨4, 2, 3, true⟩] rfl rfl rfl rfl rfl ⟨_, _, _, _, _, _, rfl, rfl, rfl⟩
 ·
  obtain rfl := bF c2
  refine ts 11 rfl rfl (sk rfl (sk rfl (sk rfl (sv (EV.pt rfl rfl rfl) rfl (sv (EV.mv rfl) rfl (sk rfl (sk rfl (sk rfl (sv (EV.pt rfl rfl rfl) rfl (re (pr [0, 1, 2, 6, 20] [0] [0, 1] rfl rfl rfl rfl (gt rfl rfl (gs (rg (sv (EV.bd (v := .agg #[.int .i64 0, .slice none 0 0, .slice none 0 0, .slice none 0 0, .int .i64 0]) rfl (by kernel_rfl)) rfl (so rfl (op_st (cs' := [.int .i64 0, .slice none 0 0, .slice none 0 0, .slice none 0 0, .int .i64 0]) 0 rfl rfl rfl rfl rfl rfl (sv (EV.as rfl) rfl (re (nil_ k70 1 dq (nil_ k70 2 dq (nil_ .bool 3 dq ?_))))))))))))))))))))))
  cases H
  exact rt Try.func88 rfl (.cell 0 (some 5) rfl rfl rfl (.tmp rfl .nil)) rfl [] [⟨2, 2, 1, true⟩, ⟨3, 2, 2, true⟩, ⟨4, 2, 3, true⟩] rfl rfl rfl rfl rfl ⟨_, _, _, _, _, _, rfl, rfl, rfl⟩
end Go.Proofs.Ytajjeemkdjfilaa.K
namespace Go.Proofs.Ytajjeemkdjfilaa.K
open Go Go.RowKit
set_option linter.unusedVariables false
set_option linter.unusedSimpArgs false
def impl_isGrant.f (a0 : Int) : Option (Bool) := (impl_within.f a0 8 60).bind fun t1 => (some t1)
set_option maxHeartbeats 4000000 in
set_option maxRecDepth 100000 in
theorem impl_isGrant.ok (a0 : Int) (r0 : Bool) (H : impl_isGrant.f a0 = some r0) : Fn Try.prog 89 [.int .i64 a0] [] [] (fun v bx en => v = .bool r0 ∧ bx = [] ∧ en = []) := by
 refine fn_ 5 Try.func89 rfl rfl rfl (fun base T w0 => ?_)
 rw [impl_isGrant.f] at H
 refine gs (rg (sv (EV.as rfl) rfl (re (gs (rg (sv (EV.mv rfl) rfl ?_))))))
 revert H; refine bdI ?_; rintro t1 A1 H
 refine so rfl (op_call (impl_within.ok a0 8 60 _ A1) [] 1 rfl rfl rfl rfl rfl ?_)
 rintro _ _ _ ⟨rfl, rfl, rfl⟩
 refine sv (EV.as rfl) rfl (re ?_)
 cases H
 exact rt Try.func89 rfl (.tmp rfl .nil) rfl [] [] rfl rfl rfl rfl rfl ⟨rfl, rfl, rfl⟩
end Go.Proofs.Ytajjeemkdjfilaa.K
namespace Go.Proofs.Ytajjeemkdjfilaa.K
open Go Go.RowKit
set_option linter.unusedVariables false
set_option linter.unusedSimpArgs false
def impl_BlockNestedLoopJoin.l0 : Nat → Int → (List S92) → Int → (List S70) → Int → (List S70) → (List S70) → (List Bool) → Int → Option ((List S92) × Int × Bool)
 | 0, _, _, _, _, _, _, _, _, _ => none
 | k + 1, x2_3, x2_13, x2_14, x2_15, x2_11_0, x2_11_1, x2_11_2, x2_11_3, x2_11_4 => if (x2_15.length : Int) > 0 then ((impl_NextChunk.f k x2_15 x2_3).bind fun bt9 => ((impl_JoinChunk.f k x2_11_0 x2_11_1 x2_11_2 x2_11_3 x2_11_4 bt9.1).bind fun bt10 => (if x2_13.length + bt10.1.length ≤ 2513169434916 then (impl_BlockNestedLoopJoin.l0 k x2_3 (x2_13 ++ bt10.1) (wrap64 (x2_14 + 1)) bt9.2 bt10.2.1 bt10.2.2.1 bt10.2.2.2.1 bt10.2.2.2.2.1 bt10.2.2.2.2.2) else none))) else ((impl_UnmatchedRows.f k x2_11_0 x2_11_1 x2_11_2 x2_11_3 x2_11_4).bind fun t13 => (if x2_13.length + t13.length ≤ 2513169434916 then (some (x2_13 ++ t13, x2_14, true)) else none))
def impl_BlockNestedLoopJoin.f (k : Nat) (a0 : Int) (l1 : List S70) (l2 : List S70) (a3 : Int) : Option ((List S92) × Int × Bool) := (impl_NewTask.f k a0 l1 l2).bind fun bt1 => (if bt1.2.2.2.2.2 = true then ((impl_isGrant.f a3).bind fun t3 => (if t3 = true then (impl_BlockNestedLoopJoin.l0 k a3 [] 0 bt1.2.2.1 bt1.1 bt1.2.1 bt1.2.2.1 bt1.2.2.2.1 bt1.2.2.2.2.1) else (some ([], 0, false)))) else (some ([], 0, false)))
set_option maxHeartbeats 4000000 in
set_option maxRecDepth 100000 in
theorem impl_BlockNestedLoopJoin.ok (k : Nat) (a0 : Int) (l1 : List S70) (Al1 : Option Addr) (cl1 : Nat) (l2 : List S70) (Al2 : Option Addr) (cl2 : Nat) (a3 : Int) (r0 : List S92) (r1 : Int) (r2 : Bool) (H : impl_BlockNestedLoopJoin.f k a0 l1 l2 a3 = some (r0, r1, r2)) : Fn Try.prog 39 [.int .i64 a0, .slice Al1 l1.length cl1, .slice Al2 l2.length cl2, .int .i64 a3] [] [.sl 0 k70 Al1 cl1 l1 0 false, .sl 0 k70 Al2 cl2 l2 0 false] (fun v bx en => ∃ A0 c0, v = .tuple #[.slice A0 r0.length c0, .int .i64 r1, .bool r2] ∧ bx = [] ∧ en = [.sl 2 k92 A0 c0 r0 1 true]) := by
 refine fn_ 62 Try.func39 rfl rfl rfl (fun base T w0 => ?_)
 rw [impl_BlockNestedLoopJoin.f] at H
 refine gs (rg (sv (EV.as rfl) rfl (sv (EV.as rfl) rfl (sv (EV.as rfl) rfl (re (gs (rg (sv (EV.mv rfl) rfl (sv (EV.mv rfl) rfl (sv (EV.mv rfl) rfl ?_))))))))))
 revert H; refine bdI ?_; rintro ⟨t1_0, t1_1, t1_2, t1_3, t1_4, t1_5⟩ A1 H
 refine so rfl (op_call (impl_NewTask.ok k a0 l1 Al1 cl1 l2 Al2 cl2 _ _ _ _ _ _ A1) [⟨0, 0, 0, false⟩, ⟨1, 0, 0, false⟩] 1 rfl rfl rfl rfl rfl ?_)
 rintro _ _ _ ⟨At1_1, ct1_1, At1_2, ct1_2, At1_3, ct1_3, rfl, rfl, rfl⟩
 refine sv (EV.mv rfl) rfl (sv (EV.ex rfl rfl) rfl (sv (EV.ex rfl rfl) rfl (so rfl (op_alloc (cs := [.int .i64 0, .slice none 0 0, .slice none 0 0, .slice none 0 0, .int .i64 0]) (by kernel_rfl) rfl fun b11 => (so rfl (op_st (cs' := [.int .i64 t1_0, .slice At1_1 t1_1.length ct1_1, .slice At1_2 t1_2.length ct1_2, .slice At1_3 t1_3.length ct1_3, .int .i64 t1_4]) 0 rfl rfl rfl rfl rfl rfl (sv (EV.as rfl) rfl (re (pr [3, 11, 12] [0] [2, 3, 4] rfl rfl rfl rfl (gs (gs (rg (sv (EV.mv rfl) rfl (sv (EV.nt rfl) rfl (sv (EV.mv rfl) rfl ?_)))))))))))))))
 revert H; refine ifsI ?_ ?_ <;> intro c2 H
 ·
  subst c2
  refine ts 27 rfl rfl (sv (EV.mv rfl) rfl ?_)
  revert H; refine bdI ?_; rintro t3 A3 H
  refine so rfl (op_call (impl_isGrant.ok a3 _ A3) [] 5 rfl rfl rfl rfl rfl ?_)
  rintro _ _ _ ⟨rfl, rfl, rfl⟩
  refine sv (EV.nt rfl) rfl (sv (EV.pf rfl rfl rfl) rfl (re (pr [3, 11, 31] [0] [0, 1, 2] rfl rfl rfl rfl ?_)))
  revert H; refine ifsI ?_ ?_ <;> intro c4 H
  ·
   subst c4
   refine gf rfl rfl (gk (gs (dr [0] [0, 1, 2] [] 6 rfl rfl rfl rfl (xv 1 [0] [0, 1, 2] rfl (EV.fa 2 rfl) rfl rfl rfl rfl (xv 2 [0] [0, 1, 2] rfl (EV.ld 0 none rfl rfl rfl) rfl rfl rfl rfl (one1 0 rfl rfl (op_lit (s := 7) (by_ := 56) k92 ([] : List S92) [] [] 5 [] rfl rfl rfl rfl rfl rfl rfl rfl rfl rfl rfl rfl rfl dq rfl fun A32_5 c32_5 => (xs [0] [0, 1, 2] rfl rfl rfl (xv 3 [0] [0, 1, 2] rfl (EV.as rfl) rfl rfl rfl rfl (xv 4 [0] [0, 1, 2] rfl (EV.as rfl) rfl rfl rfl rfl (xv 5 [0] [0, 1, 2] rfl (EV.as rfl) rfl rfl rfl rfl (xd (gs (gb ?_))))))))))))))
   refine lo (fun kk S => ∃ (x2_3 : Int) (x2_13 : List S92) (Ax2_13 : Option Addr) (cx2_13 : Nat) (x2_14 : Int) (x2_15 : List S70) (Ax2_15 : Option Addr) (cx2_15 : Nat) (x2_11_0 : Int) (x2_11_1 : List S70) (Ax2_11_1 : Option Addr) (cx2_11_1 : Nat) (x2_11_2 : List S70) (Ax2_11_2 : Option Addr) (cx2_11_2 : Nat) (x2_11_3 : List Bool) (Ax2_11_3 : Option Addr) (cx2_11_3 : Nat) (x2_11_4 : Int), impl_BlockNestedLoopJoin.l0 kk x2_3 x2_13 x2_14 x2_15 x2_11_0 x2_11_1 x2_11_2 x2_11_3 x2_11_4 = some (r0, r1, r2) ∧ S = ⟨[(3, .int .i64 x2_3), (11, .pointer (some ⟨b11, 0, none⟩)), (13, .slice Ax2_13 x2_13.length cx2_13), (14, .int .i64 x2_14), (15, .slice Ax2_15 x2_15.length cx2_15)], [⟨b11, 44, [.int .i64 x2_11_0, .slice Ax2_11_1 x2_11_1.length cx2_11_1, .slice Ax2_11_2 x2_11_2.length cx2_11_2, .slice Ax2_11_3 x2_11_3.length cx2_11_3, .int .i64 x2_11_4]⟩], [.sl 2 k92 Ax2_13 cx2_13 x2_13 1 true, .sl 2 k70 Ax2_15 cx2_15 x2_15 2 true, .sl 2 k70 Ax2_11_1 cx2_11_1 x2_11_1 3 true, .sl 2 k70 Ax2_11_2 cx2_11_2 x2_11_2 2 true, .sl 2 .bool Ax2_11_3 cx2_11_3 x2_11_3 4 true]⟩) (fun S hS => ?_) (fun n0 ih0 S hS => ?_) ⟨a3, [], A32_5, c32_5, 0, t1_2, At1_2, ct1_2, t1_0, t1_1, At1_1, ct1_1, t1_2, At1_2, ct1_2, t1_3, At1_3, ct1_3, t1_4, H, rfl⟩ (fun h => wk [3, 11, 13, 14, 15] [0] [⟨3, 2, 1, true⟩, ⟨1, 2, 2, true⟩, ⟨0, 2, 3, true⟩, ⟨1, 2, 2, true⟩, ⟨2, 2, 4, true⟩] h)
   · clear H; obtain ⟨_, _, _, _, _, _, _, _, _, _, _, _, _, _, _, _, _, _, _, H, _⟩ := hS; rw [impl_BlockNestedLoopJoin.l0] at H; cases H
   clear H
   obtain ⟨x2_3, x2_13, Ax2_13, cx2_13, x2_14, x2_15, Ax2_15, cx2_15, x2_11_0, x2_11_1, Ax2_11_1, cx2_11_1, x2_11_2, Ax2_11_2, cx2_11_2, x2_11_3, Ax2_11_3, cx2_11_3, x2_11_4, H, rfl⟩ := hS
   rw [impl_BlockNestedLoopJoin.l0] at H
   refine gs (gs (rg (sv (EV.mv rfl) rfl (sv (EV.ln rfl) rfl (sv (EV.gtr rfl rfl) rfl (re ?_))))))
   revert H; refine ifsI ?_ ?_ <;> intro c6 H
   ·
    refine gt rfl (dT c6) (gk (gb (gs (rg (so rfl (op_lit (s := 3) (by_ := 24) k70 ([] : List S70) [] [] 5 [] rfl rfl rfl rfl rfl rfl rfl rfl rfl rfl rfl rfl rfl dq rfl fun A38_7 c38_7 => (so rfl (op_lit (s := 7) (by_ := 56) k92 ([] : List S92) [] [] 6 [] rfl rfl rfl rfl rfl rfl rfl rfl rfl rfl rfl rfl rfl dq rfl fun A39_8 c39_8 => (sv (EV.as rfl) rfl (sv (EV.as rfl) rfl (re (pr [3, 11, 13, 14, 15] [0] [0, 1, 2, 3, 4] rfl rfl rfl rfl (gs (rg (sv (EV.mv rfl) rfl (sv (EV.mv rfl) rfl ?_))))))))))))))))
    revert H; refine bdI ?_; rintro ⟨t9_0, t9_1⟩ A9 H
    refine so rfl (op_call (impl_NextChunk.ok n0 x2_15 Ax2_15 cx2_15 x2_3 _ _ A9) [⟨1, 0, 0, false⟩] 5 rfl rfl rfl rfl rfl ?_)
    rintro _ _ _ ⟨At9_0, ct9_0, At9_1, ct9_1, rfl, rfl, rfl⟩
    refine sv (EV.mv rfl) rfl (sv (EV.ex rfl rfl) rfl (sv (EV.ex rfl rfl) rfl (sv (EV.as rfl) rfl (sv (EV.as rfl) rfl (re (pr [3, 11, 13, 14, 15, 16] [0] [0, 2, 3, 4, 5, 6] rfl rfl rfl rfl (gs (rg (sv (EV.ld (v := .agg #[.int .i64 x2_11_0, .slice Ax2_11_1 x2_11_1.length cx2_11_1, .slice Ax2_11_2 x2_11_2.length cx2_11_2, .slice Ax2_11_3 x2_11_3.length cx2_11_3, .int .i64 x2_11_4]) 0 (some 5) rfl rfl rfl) rfl (sv (EV.mv rfl) rfl ?_))))))))))
    revert H; refine bdI ?_; rintro ⟨t10_0, t10_1, t10_2, t10_3, t10_4, t10_5⟩ A10 H
    refine so rfl (op_call (impl_JoinChunk.ok n0 x2_11_0 x2_11_1 Ax2_11_1 cx2_11_1 x2_11_2 Ax2_11_2 cx2_11_2 x2_11_3 Ax2_11_3 cx2_11_3 x2_11_4 t9_0 At9_0 ct9_0 _ _ _ _ _ _ A10) [⟨1, 0, 0, false⟩, ⟨2, 0, 0, false⟩, ⟨3, 0, 0, false⟩, ⟨4, 0, 0, false⟩] 8 rfl rfl rfl rfl rfl ?_)
    rintro _ _ _ ⟨At10_0, ct10_0, At10_2, ct10_2, At10_3, ct10_3, At10_4, ct10_4, rfl, rfl, rfl⟩
    refine sv (EV.mv rfl) rfl (sv (EV.ex rfl rfl) rfl (sv (EV.ex rfl rfl) rfl (sv (EV.as rfl) rfl (so rfl (op_st (cs' := [.int .i64 t10_1, .slice At10_2 t10_2.length ct10_2, .slice At10_3 t10_3.length ct10_3, .slice At10_4 t10_4.length ct10_4, .int .i64 t10_5]) 0 rfl rfl rfl rfl rfl rfl (re (pr [3, 11, 13, 14, 15, 17] [0] [0, 5, 6, 7, 8, 9] rfl rfl rfl rfl (gs (rg (sv (EV.mv rfl) rfl (sv (EV.mv rfl) rfl ?_)))))))))))
    revert H; refine ggI ?_; intro g11 H
    exact so rfl (op_app (k := k92) (s := 7) (by_ := 56) 0 2 rfl rfl rfl rfl (ap2 g11 dq) (ap2n g11 dq) (.inl rfl) true (fun _ => .inl rfl) rfl rfl fun A54_12 c54_12 => (nmE (en := [.sl 2 k70 At9_1 ct9_1 t9_1 7 true, .sl 2 k92 At10_0 ct10_0 t10_0 9 true, .sl 2 k70 At10_2 ct10_2 t10_2 10 true, .sl 2 k70 At10_3 ct10_3 t10_3 11 true, .sl 2 .bool At10_4 ct10_4 t10_4 12 true, .sl 2 k92 A54_12 c54_12 (x2_13 ++ t10_0) 1 true]) (by kernel_rfl) (sv (EV.as rfl) rfl (re (rg (sv (EV.mv rfl) rfl (sv (EV.add rfl rfl) rfl (sv (EV.as rfl) rfl (re (pr [3, 11, 13, 14, 15] [0] [0, 2, 3, 4, 5] rfl rfl rfl rfl (ge (wk [3, 11, 13, 14, 15] [0] [⟨4, 2, 1, true⟩, ⟨0, 2, 2, true⟩, ⟨1, 2, 3, true⟩, ⟨2, 2, 2, true⟩, ⟨3, 2, 4, true⟩] (ih0 _ (by omega) _ ⟨x2_3, x2_13 ++ t10_0, A54_12, c54_12, wrap64 (x2_14 + 1), t9_1, At9_1, ct9_1, t10_1, t10_2, At10_2, ct10_2, t10_3, At10_3, ct10_3, t10_4, At10_4, ct10_4, t10_5, H, rfl⟩)))))))))))))
   ·
    refine gf rfl (dF c6) (gx rfl (gs (rg (sv (EV.mv rfl) rfl (sv (EV.ld (v := .agg #[.int .i64 x2_11_0, .slice Ax2_11_1 x2_11_1.length cx2_11_1, .slice Ax2_11_2 x2_11_2.length cx2_11_2, .slice Ax2_11_3 x2_11_3.length cx2_11_3, .int .i64 x2_11_4]) 0 (some 5) rfl rfl rfl) rfl ?_)))))
    revert H; refine bdI ?_; rintro t13 A13 H
    refine so rfl (op_call (impl_UnmatchedRows.ok n0 x2_11_0 x2_11_1 Ax2_11_1 cx2_11_1 x2_11_2 Ax2_11_2 cx2_11_2 x2_11_3 Ax2_11_3 cx2_11_3 x2_11_4 _ A13) [⟨2, 0, 0, false⟩, ⟨3, 0, 0, false⟩, ⟨4, 0, 0, false⟩] 5 rfl rfl rfl rfl rfl ?_)
    rintro _ _ _ ⟨At13, ct13, rfl, rfl, rfl⟩
    revert H; refine ggI ?_; intro g14 H
    refine so rfl (op_app (k := k92) (s := 7) (by_ := 56) 0 5 rfl rfl rfl rfl (ap2 g14 dq) (ap2n g14 dq) (.inl rfl) true (fun _ => .inl rfl) rfl rfl fun A60_15 c60_15 => (nmE (en := [.sl 2 k70 Ax2_15 cx2_15 x2_15 2 true, .sl 2 k70 Ax2_11_1 cx2_11_1 x2_11_1 3 true, .sl 2 k70 Ax2_11_2 cx2_11_2 x2_11_2 2 true, .sl 2 .bool Ax2_11_3 cx2_11_3 x2_11_3 4 true, .sl 2 k92 At13 ct13 t13 6 true, .sl 2 k92 A60_15 c60_15 (x2_13 ++ t13) 1 true]) (by kernel_rfl) (sv (EV.mv rfl) rfl (sv (EV.as rfl) rfl (sv (EV.as rfl) rfl (sv (EV.as rfl) rfl (re (pr [8, 9, 10] [] [5] rfl rfl rfl rfl ?_))))))))
    cases H
    exact rt Try.func39 rfl (.tmp rfl (.tmp rfl (.tmp rfl .nil))) rfl [] [⟨0, 2, 1, true⟩] rfl rfl rfl rfl rfl ⟨_, _, rfl, rfl, rfl⟩
  ·
   obtain rfl := bF c4
   refine gt rfl rfl (gs (rg (sv (EV.as rfl) rfl (sv (EV.as rfl) rfl (sv (EV.as rfl) rfl (re (nil_ k92 5 dq ?_)))))))
   cases H
   exact rt Try.func39 rfl (.tmp rfl (.tmp rfl (.tmp rfl .nil))) rfl [] [⟨3, 2, 1, true⟩] rfl rfl rfl rfl rfl ⟨_, _, rfl, rfl, rfl⟩
 ·
  obtain rfl := bF c2
  refine ts 27 rfl rfl (sk rfl (sk rfl (sk rfl (sv (EV.pt rfl rfl rfl) rfl (re (pr [3, 11, 31] [0] [0, 1, 2] rfl rfl rfl rfl (gt rfl rfl (gs (rg (sv (EV.as rfl) rfl (sv (EV.as rfl) rfl (sv (EV.as rfl) rfl (re (nil_ k92 5 dq ?_))))))))))))))
  cases H
  exact rt Try.func39 rfl (.tmp rfl (.tmp rfl (.tmp rfl .nil))) rfl [] [⟨3, 2, 1, true⟩] rfl rfl rfl rfl rfl ⟨_, _, rfl, rfl, rfl⟩
end Go.Proofs.Ytajjeemkdjfilaa.K
namespace Go.Proofs.Ytajjeemkdjfilaa.K
open Go Go.RowKit
set_option linter.unusedVariables false
set_option linter.unusedSimpArgs false
def spec_AreValidRows.l0 : Nat → Int → (List S70) → Option (Bool)
 | 0, _, _ => none
 | k + 1, x2_3, l0 => if x2_3 < (l0.length : Int) then (if 0 ≤ x2_3 then ((spec_IsValidRow.f ((rd_T70 l0 x2_3).f0) ((rd_T70 l0 x2_3).f1) ((rd_T70 l0 x2_3).f2)).bind fun t3 => (if t3 = true then (spec_AreValidRows.l0 k (wrap64 (x2_3 + 1)) l0) else (some false))) else none) else (some (decide ((l0.length : Int) ≤ 24)))
def spec_AreValidRows.f (k : Nat) (l0 : List S70) : Option (Bool) := spec_AreValidRows.l0 k 0 l0
set_option maxHeartbeats 4000000 in
set_option maxRecDepth 100000 in
theorem spec_AreValidRows.ok (k : Nat) (l0 : List S70) (Al0 : Option Addr) (cl0 : Nat) (r0 : Bool) (H : spec_AreValidRows.f k l0 = some r0) : Fn Try.prog 15 [.slice Al0 l0.length cl0] [] [.sl 0 k70 Al0 cl0 l0 0 false] (fun v bx en => v = .bool r0 ∧ bx = [] ∧ en = []) := by
 refine fn_ 19 Try.func15 rfl rfl rfl (fun base T w0 => ?_)
 rw [spec_AreValidRows.f] at H
 refine gs (rg (sv (EV.as rfl) rfl (re (gs (gs (rg (sv (EV.as rfl) rfl (re (gb ?_)))))))))
 refine lo (fun kk S => ∃ (x2_3 : Int), spec_AreValidRows.l0 kk x2_3 l0 = some r0 ∧ S = ⟨[(0, .slice Al0 l0.length cl0), (3, .int .i64 x2_3)], [], [.sl 0 k70 Al0 cl0 l0 0 false]⟩) (fun S hS => ?_) (fun n0 ih0 S hS => ?_) ⟨0, H, rfl⟩ (fun h => wk [0, 3] [] [⟨0, 0, 0, false⟩] h)
 · clear H; obtain ⟨_, H, _⟩ := hS; rw [spec_AreValidRows.l0] at H; cases H
 clear H
 obtain ⟨x2_3, H, rfl⟩ := hS
 rw [spec_AreValidRows.l0] at H
 refine gs (gs (rg (sv (EV.mv rfl) rfl (sv (EV.mv rfl) rfl (sv (EV.ln rfl) rfl (sv (EV.lss rfl rfl) rfl (re ?_)))))))
 revert H; refine ifsI ?_ ?_ <;> intro c1 H
 ·
  refine gt rfl (dT c1) (gk (gs (gb (gs (rg (sv (EV.mv rfl) rfl (sv (EV.mv rfl) rfl ?_)))))))
  revert H; refine ggI ?_; intro g2 H
  refine sv (EV.ix 0 rfl rfl rfl g2 c1 rfl) rfl (sv (EV.le (v := .agg #[.int .i64 ((rd_T70 l0 x2_3).f0), .int .i64 ((rd_T70 l0 x2_3).f1), .int .i64 ((rd_T70 l0 x2_3).f2)]) x2_3 0 (some 3) 0 z70 rfl rfl rfl g2 c1 rfl rfl rfl) rfl ?_)
  revert H; refine bdI ?_; rintro t3 A3 H
  refine so rfl (op_call (spec_IsValidRow.ok ((rd_T70 l0 x2_3).f0) ((rd_T70 l0 x2_3).f1) ((rd_T70 l0 x2_3).f2) _ A3) [] 1 rfl rfl rfl rfl rfl ?_)
  rintro _ _ _ ⟨rfl, rfl, rfl⟩
  refine sv (EV.nt rfl) rfl (re (pr [0, 3, 15] [] [0] rfl rfl rfl rfl ?_))
  revert H; refine ifsI ?_ ?_ <;> intro c4 H
  ·
   subst c4
   exact gf rfl rfl (gk (ge (rg (sv (EV.mv rfl) rfl (sv (EV.add rfl rfl) rfl (sv (EV.as rfl) rfl (re (wk [0, 3] [] [⟨0, 0, 0, false⟩] (ih0 _ (by omega) _ ⟨wrap64 (x2_3 + 1), H, rfl⟩)))))))))
  ·
   obtain rfl := bF c4
   refine gt rfl rfl (gs (rg (sv (EV.as rfl) rfl (re ?_))))
   cases H
   exact rt Try.func15 rfl (.tmp rfl .nil) rfl [] [] rfl rfl rfl rfl rfl ⟨rfl, rfl, rfl⟩
 ·
  refine gf rfl (dF c1) (gx rfl (gs (rg (sv (EV.mv rfl) rfl (sv (EV.ln rfl) rfl (sv (EV.leq rfl rfl) rfl (sv (EV.as rfl) rfl (re (pr [2] [] [] rfl rfl rfl rfl ?_)))))))))
  cases H
  exact rt Try.func15 rfl (.tmp rfl .nil) rfl [] [] rfl rfl rfl rfl rfl ⟨rfl, rfl, rfl⟩
end Go.Proofs.Ytajjeemkdjfilaa.K
namespace Go.Proofs.Ytajjeemkdjfilaa.K
open Go Go.RowKit
set_option linter.unusedVariables false
set_option linter.unusedSimpArgs false
def spec_IsValidTask.f (k : Nat) (a0_0 : Int) (l0_1 : List S70) (l0_2 : List S70) (l0_3 : List Bool) (a0_4 : Int) : Option (Bool) := (spec_IsValidJoinKind.f a0_0).bind fun t1 => (if t1 = true then ((spec_AreValidRows.f k l0_1).bind fun t3 => (if t3 = true then ((spec_AreValidRows.f k l0_2).bind fun t5 => (if t5 = true then (if (l0_3.length : Int) = (l0_1.length : Int) then ((spec_l1In.f a0_4 0 4).bind fun t8 => (some t8)) else (some false)) else (some false))) else (some false))) else (some false))
set_option maxHeartbeats 4000000 in
set_option maxRecDepth 100000 in
theorem spec_IsValidTask.ok (k : Nat) (a0_0 : Int) (l0_1 : List S70) (Al0_1 : Option Addr) (cl0_1 : Nat) (l0_2 : List S70) (Al0_2 : Option Addr) (cl0_2 : Nat) (l0_3 : List Bool) (Al0_3 : Option Addr) (cl0_3 : Nat) (a0_4 : Int) (r0 : Bool) (H : spec_IsValidTask.f k a0_0 l0_1 l0_2 l0_3 a0_4 = some r0) : Fn Try.prog 31 [.agg #[.int .i64 a0_0, .slice Al0_1 l0_1.length cl0_1, .slice Al0_2 l0_2.length cl0_2, .slice Al0_3 l0_3.length cl0_3, .int .i64 a0_4]] [] [.sl 0 k70 Al0_1 cl0_1 l0_1 0 false, .sl 0 k70 Al0_2 cl0_2 l0_2 0 false, .sl 0 .bool Al0_3 cl0_3 l0_3 0 false] (fun v bx en => v = .bool r0 ∧ bx = [] ∧ en = []) := by
 refine fn_ 30 Try.func31 rfl rfl rfl (fun base T w0 => ?_)
 rw [spec_IsValidTask.f] at H
 refine gs (rg (so rfl (op_box (cs := [.int .i64 a0_0, .slice Al0_1 l0_1.length cl0_1, .slice Al0_2 l0_2.length cl0_2, .slice Al0_3 l0_3.length cl0_3, .int .i64 a0_4]) rfl rfl rfl fun b1 => (sv (EV.as rfl) rfl (re (gs (rg (sv (EV.fa 0 rfl) rfl (sv (EV.ld 0 none rfl rfl rfl) rfl ?_)))))))))
 revert H; refine bdI ?_; rintro t1 A1 H
 refine so rfl (op_call (spec_IsValidJoinKind.ok a0_0 _ A1) [] 1 rfl rfl rfl rfl rfl ?_)
 rintro _ _ _ ⟨rfl, rfl, rfl⟩
 refine sv (EV.mv rfl) rfl ?_
 revert H; refine ifsI ?_ ?_ <;> intro c2 H
 ·
  subst c2
  refine ts 6 rfl rfl (sv (EV.fa 1 rfl) rfl (sv (EV.ld 0 none rfl rfl rfl) rfl ?_))
  revert H; refine bdI ?_; rintro t3 A3 H
  refine so rfl (op_call (spec_AreValidRows.ok k l0_1 Al0_1 cl0_1 _ A3) [⟨0, 0, 0, false⟩] 1 rfl rfl rfl rfl rfl ?_)
  rintro _ _ _ ⟨rfl, rfl, rfl⟩
  refine sv (EV.pt rfl rfl rfl) rfl (sv (EV.mv rfl) rfl ?_)
  revert H; refine ifsI ?_ ?_ <;> intro c4 H
  ·
   subst c4
   refine ts 11 rfl rfl (sv (EV.fa 2 rfl) rfl (sv (EV.ld 0 none rfl rfl rfl) rfl ?_))
   revert H; refine bdI ?_; rintro t5 A5 H
   refine so rfl (op_call (spec_AreValidRows.ok k l0_2 Al0_2 cl0_2 _ A5) [⟨1, 0, 0, false⟩] 1 rfl rfl rfl rfl rfl ?_)
   rintro _ _ _ ⟨rfl, rfl, rfl⟩
   refine sv (EV.pt rfl rfl rfl) rfl (sv (EV.mv rfl) rfl ?_)
   revert H; refine ifsI ?_ ?_ <;> intro c6 H
   ·
    subst c6
    refine ts 16 rfl rfl (sv (EV.fa 3 rfl) rfl (sv (EV.ld 0 none rfl rfl rfl) rfl (sv (EV.ln rfl) rfl (sv (EV.fa 1 rfl) rfl (sv (EV.ld 0 none rfl rfl rfl) rfl (sv (EV.ln rfl) rfl (sv (EV.eql rfl rfl) rfl (sv (EV.pt rfl rfl rfl) rfl (sv (EV.mv rfl) rfl ?_)))))))))
    revert H; refine ifsI ?_ ?_ <;> intro c7 H
    ·
     refine ts 25 rfl (dT c7) (sv (EV.fa 4 rfl) rfl (sv (EV.ld 0 none rfl rfl rfl) rfl ?_))
     revert H; refine bdI ?_; rintro t8 A8 H
     refine so rfl (op_call (spec_l1In.ok a0_4 0 4 _ A8) [] 1 rfl rfl rfl rfl rfl ?_)
     rintro _ _ _ ⟨rfl, rfl, rfl⟩
     refine sv (EV.pt rfl rfl rfl) rfl (sv (EV.as rfl) rfl (re (pr [2] [] [] rfl rfl rfl rfl ?_)))
     cases H
     exact rt Try.func31 rfl (.tmp rfl .nil) rfl [] [] rfl rfl rfl rfl rfl ⟨rfl, rfl, rfl⟩
    ·
     refine ts 25 rfl (dF c7) (sk rfl (sk rfl (sk rfl (sv (EV.pf rfl rfl rfl) rfl (sv (EV.as rfl) rfl (re (pr [2] [] [] rfl rfl rfl rfl ?_)))))))
     cases H
     exact rt Try.func31 rfl (.tmp rfl .nil) rfl [] [] rfl rfl rfl rfl rfl ⟨rfl, rfl, rfl⟩
   ·
    obtain rfl := bF c6
    refine ts 16 rfl rfl (sk rfl (sk rfl (sk rfl (sk rfl (sk rfl (sk rfl (sk rfl (sv (EV.pf rfl rfl rfl) rfl (sv (EV.mv rfl) rfl (sk rfl (sk rfl (sk rfl (sv (EV.pf rfl rfl rfl) rfl (sv (EV.as rfl) rfl (re (pr [2] [] [] rfl rfl rfl rfl ?_))))))))))))))))
    cases H
    exact rt Try.func31 rfl (.tmp rfl .nil) rfl [] [] rfl rfl rfl rfl rfl ⟨rfl, rfl, rfl⟩
  ·
   obtain rfl := bF c4
   refine ts 11 rfl rfl (sk rfl (sk rfl (sk rfl (sv (EV.pf rfl rfl rfl) rfl (sv (EV.mv rfl) rfl (sk rfl (sk rfl (sk rfl (sk rfl (sk rfl (sk rfl (sk rfl (sv (EV.pf rfl rfl rfl) rfl (sv (EV.mv rfl) rfl (sk rfl (sk rfl (sk rfl (sv (EV.pf rfl rfl rfl) rfl (sv (EV.as rfl) rfl (re (pr [2] [] [] rfl rfl rfl rfl ?_)))))))))))))))))))))
   cases H
   exact rt Try.func31 rfl (.tmp rfl .nil) rfl [] [] rfl rfl rfl rfl rfl ⟨rfl, rfl, rfl⟩
 ·
  obtain rfl := bF c2
  refine ts 6 rfl rfl (sk rfl (sk rfl (sk rfl (sv (EV.pf rfl rfl rfl) rfl (sv (EV.mv rfl) rfl (sk rfl (sk rfl (sk rfl (sv (EV.pf rfl rfl rfl) rfl (sv (EV.mv rfl) rfl (sk rfl (sk rfl (sk rfl (sk rfl (sk rfl (sk rfl (sk rfl (sv (EV.pf rfl rfl rfl) rfl (sv (EV.mv rfl) rfl (sk rfl (sk rfl (sk rfl (sv (EV.pf rfl rfl rfl) rfl (sv (EV.as rfl) rfl (re (pr [2] [] [] rfl rfl rfl rfl ?_))))))))))))))))))))))))))
  cases H
  exact rt Try.func31 rfl (.tmp rfl .nil) rfl [] [] rfl rfl rfl rfl rfl ⟨rfl, rfl, rfl⟩
end Go.Proofs.Ytajjeemkdjfilaa.K
namespace Go.Proofs.Ytajjeemkdjfilaa.K
open Go Go.RowKit
set_option linter.unusedVariables false
set_option linter.unusedSimpArgs false
def spec_l16Copy.f (a0_0 : Int) (l0_1 : List S70) (l0_2 : List S70) (l0_3 : List Bool) (a0_4 : Int) : Option (Int × (List S70) × (List S70) × (List Bool) × Int) := if l0_1.length ≤ 5864062014805 then (if l0_2.length ≤ 5864062014805 then (if l0_3.length ≤ 140737488355328 then (some (a0_0, l0_1, l0_2, l0_3, a0_4)) else none) else none) else none
set_option maxHeartbeats 4000000 in
set_option maxRecDepth 100000 in
theorem spec_l16Copy.ok (a0_0 : Int) (l0_1 : List S70) (Al0_1 : Option Addr) (cl0_1 : Nat) (l0_2 : List S70) (Al0_2 : Option Addr) (cl0_2 : Nat) (l0_3 : List Bool) (Al0_3 : Option Addr) (cl0_3 : Nat) (a0_4 : Int) (r0 : Int) (r1 : List S70) (r2 : List S70) (r3 : List Bool) (r4 : Int) (H : spec_l16Copy.f a0_0 l0_1 l0_2 l0_3 a0_4 = some (r0, r1, r2, r3, r4)) : Fn Try.prog 80 [.agg #[.int .i64 a0_0, .slice Al0_1 l0_1.length cl0_1, .slice Al0_2 l0_2.length cl0_2, .slice Al0_3 l0_3.length cl0_3, .int .i64 a0_4]] [] [.sl 0 k70 Al0_1 cl0_1 l0_1 0 false, .sl 0 k70 Al0_2 cl0_2 l0_2 0 false, .sl 0 .bool Al0_3 cl0_3 l0_3 0 false] (fun v bx en => ∃ A1 c1 A2 c2 A3 c3, v = .agg #[.int .i64 r0, .slice A1 r1.length c1, .slice A2 r2.length c2, .slice A3 r3.length c3, .int .i64 r4] ∧ bx = [] ∧ en = [.sl 2 k70 A1 c1 r1 1 true, .sl 2 k70 A2 c2 r2 2 true, .sl 2 .bool A3 c3 r3 3 true]) := by
 refine fn_ 20 Try.func80 rfl rfl rfl (fun base T w0 => ?_)
 rw [spec_l16Copy.f] at H
 refine gs (rg (so rfl (op_box (cs := [.int .i64 a0_0, .slice Al0_1 l0_1.length cl0_1, .slice Al0_2 l0_2.length cl0_2, .slice Al0_3 l0_3.length cl0_3, .int .i64 a0_4]) rfl rfl rfl fun b1 => (so rfl (op_alloc (cs := [.int .i64 0, .slice none 0 0, .slice none 0 0, .slice none 0 0, .int .i64 0]) (by kernel_rfl) rfl fun b2 => (re (gs ?_)))))))
 revert H; refine ggI ?_; intro g1 H
 revert H; refine ggI ?_; intro g2 H
 revert H; refine ggI ?_; intro g3 H
 refine dj (fun S => ∃ (A8_5 : Option Addr) (c8_5 : Nat) (A12_7 : Option Addr) (c12_7 : Nat) (A16_9 : Option Addr) (c16_9 : Nat), S = ⟨[(2, .pointer (some ⟨b2, 0, none⟩))], [⟨b1, 44, [.int .i64 a0_0, .slice Al0_1 l0_1.length cl0_1, .slice Al0_2 l0_2.length cl0_2, .slice Al0_3 l0_3.length cl0_3, .int .i64 a0_4]⟩, ⟨b2, 44, [.int .i64 a0_0, .slice A8_5 l0_1.length c8_5, .slice A12_7 l0_2.length c12_7, .slice A16_9 l0_3.length c16_9, .int .i64 a0_4]⟩], [.sl 0 k70 Al0_1 cl0_1 l0_1 0 false, .sl 0 k70 Al0_2 cl0_2 l0_2 0 false, .sl 0 .bool Al0_3 cl0_3 l0_3 0 false, .sl 2 k70 A8_5 c8_5 l0_1 1 true, .sl 2 k70 A12_7 c12_7 l0_2 2 true, .sl 2 .bool A16_9 c16_9 l0_3 3 true]⟩) (fun S hS => ?_) (fun dj0 => ?_)
 ·
  obtain ⟨A8_5, c8_5, A12_7, c12_7, A16_9, c16_9, rfl⟩ := hS
  cases H
  exact rt Try.func80 rfl (.cell 1 (some 5) rfl rfl rfl .nil) rfl [] [⟨3, 2, 1, true⟩, ⟨4, 2, 2, true⟩, ⟨5, 2, 3, true⟩] rfl rfl rfl rfl rfl ⟨_, _, _, _, _, _, rfl, rfl, rfl⟩
 ·
  refine dr [0, 1] [0, 1, 2] [17] 18 rfl rfl rfl rfl (xv 0 [0, 1] [0, 1, 2] rfl (EV.fa 0 rfl) rfl rfl rfl rfl (xv 1 [0, 1] [0, 1, 2] rfl (EV.ld 0 none rfl rfl rfl) rfl rfl rfl rfl (xv 3 [0, 1] [0, 1, 2] rfl (EV.fa 1 rfl) rfl rfl rfl rfl (xv 4 [0, 1] [0, 1, 2] rfl (EV.ld 0 none rfl rfl rfl) rfl rfl rfl rfl (xv 7 [0, 1] [0, 1, 2] rfl (EV.fa 2 rfl) rfl rfl rfl rfl (xv 8 [0, 1] [0, 1, 2] rfl (EV.ld 0 none rfl rfl rfl) rfl rfl rfl rfl (xv 11 [0, 1] [0, 1, 2] rfl (EV.fa 3 rfl) rfl rfl rfl rfl (xv 12 [0, 1] [0, 1, 2] rfl (EV.ld 0 none rfl rfl rfl) rfl rfl rfl rfl (xv 14 [0, 1] [0, 1, 2] rfl (EV.fa 4 rfl) rfl rfl rfl rfl (xv 15 [0, 1] [0, 1, 2] rfl (EV.ld 0 none rfl rfl rfl) rfl rfl rfl rfl ?_))))))))))
  refine dl 3 #[true, true, true, true, true, true, true, true, true, true, true, true, true, false, true, true, false, false] (fun S => ∃ (A8_5 : Option Addr) (c8_5 : Nat) (A12_7 : Option Addr) (c12_7 : Nat) (A13_8 : Option Addr) (c13_8 : Nat), S = ⟨[(2, .pointer (some ⟨b2, 0, none⟩)), (4, .int .i64 a0_0), (8, .slice A8_5 l0_1.length c8_5), (12, .slice A12_7 l0_2.length c12_7), (13, .slice A13_8 0 c13_8), (15, .slice Al0_3 l0_3.length cl0_3), (18, .int .i64 a0_4)], [⟨b1, 44, [.int .i64 a0_0, .slice Al0_1 l0_1.length cl0_1, .slice Al0_2 l0_2.length cl0_2, .slice Al0_3 l0_3.length cl0_3, .int .i64 a0_4]⟩, ⟨b2, 44, [.int .i64 0, .slice none 0 0, .slice none 0 0, .slice none 0 0, .int .i64 0]⟩], [.sl 0 k70 Al0_1 cl0_1 l0_1 0 false, .sl 0 k70 Al0_2 cl0_2 l0_2 0 false, .sl 0 .bool Al0_3 cl0_3 l0_3 0 false, .sl 2 k70 A8_5 c8_5 l0_1 1 true, .sl 2 k70 A12_7 c12_7 l0_2 2 true, .sl 2 .bool A13_8 c13_8 [] 3 true]⟩) (fun S hS => ?_) (fun hn0 => ?_)
  ·
   obtain ⟨A8_5, c8_5, A12_7, c12_7, A13_8, c13_8, rfl⟩ := hS
   exact one1 13 rfl rfl (op_app (k := .bool) (s := 1) (by_ := 1) 5 2 rfl rfl rfl rfl (ap0 g3 dq) (ap0n g3 dq) (.inl rfl) true (fun _ => .inl rfl) rfl rfl fun A16_4 c16_4 => (nmE (en := [.sl 0 k70 Al0_1 cl0_1 l0_1 0 false, .sl 0 k70 Al0_2 cl0_2 l0_2 0 false, .sl 0 .bool Al0_3 cl0_3 l0_3 0 false, .sl 2 k70 A8_5 c8_5 l0_1 1 true, .sl 2 k70 A12_7 c12_7 l0_2 2 true, .sl 2 .bool A16_4 c16_4 l0_3 3 true]) (by kernel_rfl) (xs [0, 1] [0, 1, 2] rfl rfl rfl (one1 16 rfl rfl (ov (EV.bd (v := .agg #[.int .i64 a0_0, .slice A8_5 l0_1.length c8_5, .slice A12_7 l0_2.length c12_7, .slice A16_4 l0_3.length c16_4, .int .i64 a0_4]) rfl (by kernel_rfl)) rfl (xs [0, 1] [0, 1, 2] rfl rfl rfl (one1 17 rfl rfl (op_st (cs' := [.int .i64 a0_0, .slice A8_5 l0_1.length c8_5, .slice A12_7 l0_2.length c12_7, .slice A16_4 l0_3.length c16_4, .int .i64 a0_4]) 1 rfl rfl rfl rfl rfl rfl (xn rfl (xd (wk [2] [0, 1] [⟨0, 0, 0, false⟩, ⟨1, 0, 0, false⟩, ⟨2, 0, 0, false⟩, ⟨3, 2, 1, true⟩, ⟨4, 2, 2, true⟩, ⟨5, 2, 3, true⟩] (dj0 _ ⟨A8_5, c8_5, A12_7, c12_7, A16_4, c16_4, rfl⟩))))))))))))
  refine dl 4 #[true, true, true, true, true, true, true, true, true, false, true, true, true, false, true, true, false, false] (fun S => ∃ (A8_5 : Option Addr) (c8_5 : Nat) (A9_6 : Option Addr) (c9_6 : Nat) (A13_10 : Option Addr) (c13_10 : Nat), S = ⟨[(2, .pointer (some ⟨b2, 0, none⟩)), (4, .int .i64 a0_0), (8, .slice A8_5 l0_1.length c8_5), (9, .slice A9_6 0 c9_6), (11, .slice Al0_2 l0_2.length cl0_2), (13, .slice A13_10 0 c13_10), (15, .slice Al0_3 l0_3.length cl0_3), (18, .int .i64 a0_4)], [⟨b1, 44, [.int .i64 a0_0, .slice Al0_1 l0_1.length cl0_1, .slice Al0_2 l0_2.length cl0_2, .slice Al0_3 l0_3.length cl0_3, .int .i64 a0_4]⟩, ⟨b2, 44, [.int .i64 0, .slice none 0 0, .slice none 0 0, .slice none 0 0, .int .i64 0]⟩], [.sl 0 k70 Al0_1 cl0_1 l0_1 0 false, .sl 0 k70 Al0_2 cl0_2 l0_2 0 false, .sl 0 .bool Al0_3 cl0_3 l0_3 0 false, .sl 2 k70 A8_5 c8_5 l0_1 1 true, .sl 2 k70 A9_6 c9_6 [] 2 true, .sl 2 .bool A13_10 c13_10 [] 3 true]⟩) (fun S hS => ?_) (fun hn1 => ?_)
  ·
   obtain ⟨A8_5, c8_5, A9_6, c9_6, A13_10, c13_10, rfl⟩ := hS
   exact one1 9 rfl rfl (op_app (k := k70) (s := 3) (by_ := 24) 4 1 rfl rfl rfl rfl (ap0 g2 dq) (ap0n g2 dq) (.inl rfl) true (fun _ => .inl rfl) rfl rfl fun A12_5 c12_5 => (nmE (en := [.sl 0 k70 Al0_1 cl0_1 l0_1 0 false, .sl 0 k70 Al0_2 cl0_2 l0_2 0 false, .sl 0 .bool Al0_3 cl0_3 l0_3 0 false, .sl 2 k70 A8_5 c8_5 l0_1 1 true, .sl 2 .bool A13_10 c13_10 [] 3 true, .sl 2 k70 A12_5 c12_5 l0_2 2 true]) (by kernel_rfl) (xs [0, 1] [0, 1, 2] rfl rfl rfl (da (wk [2, 4, 8, 12, 13, 15, 18] [0, 1] [⟨0, 0, 0, false⟩, ⟨1, 0, 0, false⟩, ⟨2, 0, 0, false⟩, ⟨3, 2, 1, true⟩, ⟨5, 2, 2, true⟩, ⟨4, 2, 3, true⟩] (hn0 _ ⟨A8_5, c8_5, A12_5, c12_5, A13_10, c13_10, rfl⟩))))))
  refine dl 5 #[true, true, true, true, true, true, true, true, true, false, false, true, true, false, true, true, false, false] (fun S => ∃ (A8_5 : Option Addr) (c8_5 : Nat) (A9_6 : Option Addr) (c9_6 : Nat), S = ⟨[(2, .pointer (some ⟨b2, 0, none⟩)), (4, .int .i64 a0_0), (8, .slice A8_5 l0_1.length c8_5), (9, .slice A9_6 0 c9_6), (11, .slice Al0_2 l0_2.length cl0_2), (15, .slice Al0_3 l0_3.length cl0_3), (18, .int .i64 a0_4)], [⟨b1, 44, [.int .i64 a0_0, .slice Al0_1 l0_1.length cl0_1, .slice Al0_2 l0_2.length cl0_2, .slice Al0_3 l0_3.length cl0_3, .int .i64 a0_4]⟩, ⟨b2, 44, [.int .i64 0, .slice none 0 0, .slice none 0 0, .slice none 0 0, .int .i64 0]⟩], [.sl 0 k70 Al0_1 cl0_1 l0_1 0 false, .sl 0 k70 Al0_2 cl0_2 l0_2 0 false, .sl 0 .bool Al0_3 cl0_3 l0_3 0 false, .sl 2 k70 A8_5 c8_5 l0_1 1 true, .sl 2 k70 A9_6 c9_6 [] 2 true]⟩) (fun S hS => ?_) (fun hn2 => ?_)
  ·
   obtain ⟨A8_5, c8_5, A9_6, c9_6, rfl⟩ := hS
   refine one2 9 10 rfl rfl rfl rfl ?_ ?_
   ·
    exact op_app (k := k70) (s := 3) (by_ := 24) 4 1 rfl rfl rfl rfl (ap0 g2 dq) (ap0n g2 dq) (.inl rfl) true (fun _ => .inl rfl) rfl rfl fun A12_6 c12_6 => (nmE (en := [.sl 0 k70 Al0_1 cl0_1 l0_1 0 false, .sl 0 k70 Al0_2 cl0_2 l0_2 0 false, .sl 0 .bool Al0_3 cl0_3 l0_3 0 false, .sl 2 k70 A8_5 c8_5 l0_1 1 true, .sl 2 k70 A12_6 c12_6 l0_2 2 true]) (by kernel_rfl) (xs [0, 1] [0, 1, 2] rfl rfl rfl (one1 10 rfl rfl (op_lit (s := 1) (by_ := 1) .bool ([] : List Bool) [] [] 3 [] rfl rfl rfl rfl rfl rfl rfl rfl rfl rfl rfl rfl rfl dq rfl fun A13_7 c13_7 => (xs [0, 1] [0, 1, 2] rfl rfl rfl (da (wk [2, 4, 8, 12, 13, 15, 18] [0, 1] [⟨0, 0, 0, false⟩, ⟨1, 0, 0, false⟩, ⟨2, 0, 0, false⟩, ⟨3, 2, 1, true⟩, ⟨4, 2, 2, true⟩, ⟨5, 2, 3, true⟩] (hn0 _ ⟨A8_5, c8_5, A12_6, c12_6, A13_7, c13_7, rfl⟩))))))))
   ·
    exact op_lit (s := 1) (by_ := 1) .bool ([] : List Bool) [] [] 3 [] rfl rfl rfl rfl rfl rfl rfl rfl rfl rfl rfl rfl rfl dq rfl fun A13_8 c13_8 => (xs [0, 1] [0, 1, 2] rfl rfl rfl (da (wk [2, 4, 8, 9, 11, 13, 15, 18] [0, 1] [⟨0, 0, 0, false⟩, ⟨1, 0, 0, false⟩, ⟨2, 0, 0, false⟩, ⟨3, 2, 1, true⟩, ⟨4, 2, 2, true⟩, ⟨5, 2, 3, true⟩] (hn1 _ ⟨A8_5, c8_5, A9_6, c9_6, A13_8, c13_8, rfl⟩))))
  refine dl 5 #[true, true, true, true, true, true, false, true, true, false, true, true, true, false, true, true, false, false] (fun S => ∃ (A8_5 : Option Addr) (c8_5 : Nat) (A13_12 : Option Addr) (c13_12 : Nat), S = ⟨[(2, .pointer (some ⟨b2, 0, none⟩)), (4, .int .i64 a0_0), (8, .slice A8_5 l0_1.length c8_5), (11, .slice Al0_2 l0_2.length cl0_2), (13, .slice A13_12 0 c13_12), (15, .slice Al0_3 l0_3.length cl0_3), (18, .int .i64 a0_4)], [⟨b1, 44, [.int .i64 a0_0, .slice Al0_1 l0_1.length cl0_1, .slice Al0_2 l0_2.length cl0_2, .slice Al0_3 l0_3.length cl0_3, .int .i64 a0_4]⟩, ⟨b2, 44, [.int .i64 0, .slice none 0 0, .slice none 0 0, .slice none 0 0, .int .i64 0]⟩], [.sl 0 k70 Al0_1 cl0_1 l0_1 0 false, .sl 0 k70 Al0_2 cl0_2 l0_2 0 false, .sl 0 .bool Al0_3 cl0_3 l0_3 0 false, .sl 2 k70 A8_5 c8_5 l0_1 1 true, .sl 2 .bool A13_12 c13_12 [] 2 true]⟩) (fun S hS => ?_) (fun hn3 => ?_)
  ·
   obtain ⟨A8_5, c8_5, A13_12, c13_12, rfl⟩ := hS
   exact one1 6 rfl rfl (op_lit (s := 3) (by_ := 24) k70 ([] : List S70) [] [] 3 [] rfl rfl rfl rfl rfl rfl rfl rfl rfl rfl rfl rfl rfl dq rfl fun A9_9 c9_9 => (xs [0, 1] [0, 1, 2] rfl rfl rfl (da (wk [2, 4, 8, 9, 11, 13, 15, 18] [0, 1] [⟨0, 0, 0, false⟩, ⟨1, 0, 0, false⟩, ⟨2, 0, 0, false⟩, ⟨3, 2, 1, true⟩, ⟨5, 2, 2, true⟩, ⟨4, 2, 3, true⟩] (hn1 _ ⟨A8_5, c8_5, A9_9, c9_9, A13_12, c13_12, rfl⟩)))))
  refine dl 5 #[true, true, true, true, true, false, true, true, true, false, true, true, true, false, true, true, false, false] (fun S => ∃ (A5_4 : Option Addr) (c5_4 : Nat) (A9_14 : Option Addr) (c9_14 : Nat) (A13_16 : Option Addr) (c13_16 : Nat), S = ⟨[(2, .pointer (some ⟨b2, 0, none⟩)), (4, .int .i64 a0_0), (5, .slice A5_4 0 c5_4), (7, .slice Al0_1 l0_1.length cl0_1), (9, .slice A9_14 0 c9_14), (11, .slice Al0_2 l0_2.length cl0_2), (13, .slice A13_16 0 c13_16), (15, .slice Al0_3 l0_3.length cl0_3), (18, .int .i64 a0_4)], [⟨b1, 44, [.int .i64 a0_0, .slice Al0_1 l0_1.length cl0_1, .slice Al0_2 l0_2.length cl0_2, .slice Al0_3 l0_3.length cl0_3, .int .i64 a0_4]⟩, ⟨b2, 44, [.int .i64 0, .slice none 0 0, .slice none 0 0, .slice none 0 0, .int .i64 0]⟩], [.sl 0 k70 Al0_1 cl0_1 l0_1 0 false, .sl 0 k70 Al0_2 cl0_2 l0_2 0 false, .sl 0 .bool Al0_3 cl0_3 l0_3 0 false, .sl 2 k70 A5_4 c5_4 [] 1 true, .sl 2 k70 A9_14 c9_14 [] 2 true, .sl 2 .bool A13_16 c13_16 [] 3 true]⟩) (fun S hS => ?_) (fun hn4 => ?_)
  ·
   obtain ⟨A5_4, c5_4, A9_14, c9_14, A13_16, c13_16, rfl⟩ := hS
   exact one1 5 rfl rfl (op_app (k := k70) (s := 3) (by_ := 24) 3 0 rfl rfl rfl rfl (ap0 g1 dq) (ap0n g1 dq) (.inl rfl) true (fun _ => .inl rfl) rfl rfl fun A8_10 c8_10 => (nmE (en := [.sl 0 k70 Al0_1 cl0_1 l0_1 0 false, .sl 0 k70 Al0_2 cl0_2 l0_2 0 false, .sl 0 .bool Al0_3 cl0_3 l0_3 0 false, .sl 2 k70 A9_14 c9_14 [] 2 true, .sl 2 .bool A13_16 c13_16 [] 3 true, .sl 2 k70 A8_10 c8_10 l0_1 1 true]) (by kernel_rfl) (xs [0, 1] [0, 1, 2] rfl rfl rfl (da (wk [2, 4, 8, 9, 11, 13, 15, 18] [0, 1] [⟨0, 0, 0, false⟩, ⟨1, 0, 0, false⟩, ⟨2, 0, 0, false⟩, ⟨5, 2, 1, true⟩, ⟨3, 2, 2, true⟩, ⟨4, 2, 3, true⟩] (hn1 _ ⟨A8_10, c8_10, A9_14, c9_14, A13_16, c13_16, rfl⟩))))))
  refine dl 6 #[true, true, true, true, true, false, true, true, true, false, false, true, true, false, true, true, false, false] (fun S => ∃ (A5_4 : Option Addr) (c5_4 : Nat) (A9_14 : Option Addr) (c9_14 : Nat), S = ⟨[(2, .pointer (some ⟨b2, 0, none⟩)), (4, .int .i64 a0_0), (5, .slice A5_4 0 c5_4), (7, .slice Al0_1 l0_1.length cl0_1), (9, .slice A9_14 0 c9_14), (11, .slice Al0_2 l0_2.length cl0_2), (15, .slice Al0_3 l0_3.length cl0_3), (18, .int .i64 a0_4)], [⟨b1, 44, [.int .i64 a0_0, .slice Al0_1 l0_1.length cl0_1, .slice Al0_2 l0_2.length cl0_2, .slice Al0_3 l0_3.length cl0_3, .int .i64 a0_4]⟩, ⟨b2, 44, [.int .i64 0, .slice none 0 0, .slice none 0 0, .slice none 0 0, .int .i64 0]⟩], [.sl 0 k70 Al0_1 cl0_1 l0_1 0 false, .sl 0 k70 Al0_2 cl0_2 l0_2 0 false, .sl 0 .bool Al0_3 cl0_3 l0_3 0 false, .sl 2 k70 A5_4 c5_4 [] 1 true, .sl 2 k70 A9_14 c9_14 [] 2 true]⟩) (fun S hS => ?_) (fun hn5 => ?_)
  ·
   obtain ⟨A5_4, c5_4, A9_14, c9_14, rfl⟩ := hS
   refine one2 5 10 rfl rfl rfl rfl ?_ ?_
   ·
    exact op_app (k := k70) (s := 3) (by_ := 24) 3 0 rfl rfl rfl rfl (ap0 g1 dq) (ap0n g1 dq) (.inl rfl) true (fun _ => .inl rfl) rfl rfl fun A8_11 c8_11 => (nmE (en := [.sl 0 k70 Al0_1 cl0_1 l0_1 0 false, .sl 0 k70 Al0_2 cl0_2 l0_2 0 false, .sl 0 .bool Al0_3 cl0_3 l0_3 0 false, .sl 2 k70 A9_14 c9_14 [] 2 true, .sl 2 k70 A8_11 c8_11 l0_1 1 true]) (by kernel_rfl) (xs [0, 1] [0, 1, 2] rfl rfl rfl (da (wk [2, 4, 8, 9, 11, 15, 18] [0, 1] [⟨0, 0, 0, false⟩, ⟨1, 0, 0, false⟩, ⟨2, 0, 0, false⟩, ⟨4, 2, 1, true⟩, ⟨3, 2, 2, true⟩] (hn2 _ ⟨A8_11, c8_11, A9_14, c9_14, rfl⟩)))))
   ·
    exact op_lit (s := 1) (by_ := 1) .bool ([] : List Bool) [] [] 3 [] rfl rfl rfl rfl rfl rfl rfl rfl rfl rfl rfl rfl rfl dq rfl fun A13_12 c13_12 => (xs [0, 1] [0, 1, 2] rfl rfl rfl (da (wk [2, 4, 5, 7, 9, 11, 13, 15, 18] [0, 1] [⟨0, 0, 0, false⟩, ⟨1, 0, 0, false⟩, ⟨2, 0, 0, false⟩, ⟨3, 2, 1, true⟩, ⟨4, 2, 2, true⟩, ⟨5, 2, 3, true⟩] (hn4 _ ⟨A5_4, c5_4, A9_14, c9_14, A13_12, c13_12, rfl⟩))))
  refine dl 6 #[true, true, true, true, true, false, false, true, true, false, true, true, true, false, true, true, false, false] (fun S => ∃ (A5_4 : Option Addr) (c5_4 : Nat) (A13_18 : Option Addr) (c13_18 : Nat), S = ⟨[(2, .pointer (some ⟨b2, 0, none⟩)), (4, .int .i64 a0_0), (5, .slice A5_4 0 c5_4), (7, .slice Al0_1 l0_1.length cl0_1), (11, .slice Al0_2 l0_2.length cl0_2), (13, .slice A13_18 0 c13_18), (15, .slice Al0_3 l0_3.length cl0_3), (18, .int .i64 a0_4)], [⟨b1, 44, [.int .i64 a0_0, .slice Al0_1 l0_1.length cl0_1, .slice Al0_2 l0_2.length cl0_2, .slice Al0_3 l0_3.length cl0_3, .int .i64 a0_4]⟩, ⟨b2, 44, [.int .i64 0, .slice none 0 0, .slice none 0 0, .slice none 0 0, .int .i64 0]⟩], [.sl 0 k70 Al0_1 cl0_1 l0_1 0 false, .sl 0 k70 Al0_2 cl0_2 l0_2 0 false, .sl 0 .bool Al0_3 cl0_3 l0_3 0 false, .sl 2 k70 A5_4 c5_4 [] 1 true, .sl 2 .bool A13_18 c13_18 [] 2 true]⟩) (fun S hS => ?_) (fun hn6 => ?_)
  ·
   obtain ⟨A5_4, c5_4, A13_18, c13_18, rfl⟩ := hS
   refine one2 5 6 rfl rfl rfl rfl ?_ ?_
   ·
    exact op_app (k := k70) (s := 3) (by_ := 24) 3 0 rfl rfl rfl rfl (ap0 g1 dq) (ap0n g1 dq) (.inl rfl) true (fun _ => .inl rfl) rfl rfl fun A8_13 c8_13 => (nmE (en := [.sl 0 k70 Al0_1 cl0_1 l0_1 0 false, .sl 0 k70 Al0_2 cl0_2 l0_2 0 false, .sl 0 .bool Al0_3 cl0_3 l0_3 0 false, .sl 2 .bool A13_18 c13_18 [] 2 true, .sl 2 k70 A8_13 c8_13 l0_1 1 true]) (by kernel_rfl) (xs [0, 1] [0, 1, 2] rfl rfl rfl (da (wk [2, 4, 8, 11, 13, 15, 18] [0, 1] [⟨0, 0, 0, false⟩, ⟨1, 0, 0, false⟩, ⟨2, 0, 0, false⟩, ⟨4, 2, 1, true⟩, ⟨3, 2, 2, true⟩] (hn3 _ ⟨A8_13, c8_13, A13_18, c13_18, rfl⟩)))))
   ·
    exact op_lit (s := 3) (by_ := 24) k70 ([] : List S70) [] [] 3 [] rfl rfl rfl rfl rfl rfl rfl rfl rfl rfl rfl rfl rfl dq rfl fun A9_14 c9_14 => (xs [0, 1] [0, 1, 2] rfl rfl rfl (da (wk [2, 4, 5, 7, 9, 11, 13, 15, 18] [0, 1] [⟨0, 0, 0, false⟩, ⟨1, 0, 0, false⟩, ⟨2, 0, 0, false⟩, ⟨3, 2, 1, true⟩, ⟨5, 2, 2, true⟩, ⟨4, 2, 3, true⟩] (hn4 _ ⟨A5_4, c5_4, A9_14, c9_14, A13_18, c13_18, rfl⟩))))
  refine dl 6 #[true, true, false, true, true, false, true, true, true, false, true, true, true, false, true, true, false, false] (fun S => ∃ (A9_21 : Option Addr) (c9_21 : Nat) (A13_23 : Option Addr) (c13_23 : Nat), S = ⟨[(2, .pointer (some ⟨b2, 0, none⟩)), (4, .int .i64 a0_0), (7, .slice Al0_1 l0_1.length cl0_1), (9, .slice A9_21 0 c9_21), (11, .slice Al0_2 l0_2.length cl0_2), (13, .slice A13_23 0 c13_23), (15, .slice Al0_3 l0_3.length cl0_3), (18, .int .i64 a0_4)], [⟨b1, 44, [.int .i64 a0_0, .slice Al0_1 l0_1.length cl0_1, .slice Al0_2 l0_2.length cl0_2, .slice Al0_3 l0_3.length cl0_3, .int .i64 a0_4]⟩, ⟨b2, 44, [.int .i64 0, .slice none 0 0, .slice none 0 0, .slice none 0 0, .int .i64 0]⟩], [.sl 0 k70 Al0_1 cl0_1 l0_1 0 false, .sl 0 k70 Al0_2 cl0_2 l0_2 0 false, .sl 0 .bool Al0_3 cl0_3 l0_3 0 false, .sl 2 k70 A9_21 c9_21 [] 1 true, .sl 2 .bool A13_23 c13_23 [] 2 true]⟩) (fun S hS => ?_) (fun hn7 => ?_)
  ·
   obtain ⟨A9_21, c9_21, A13_23, c13_23, rfl⟩ := hS
   exact one1 2 rfl rfl (op_lit (s := 3) (by_ := 24) k70 ([] : List S70) [] [] 3 [] rfl rfl rfl rfl rfl rfl rfl rfl rfl rfl rfl rfl rfl dq rfl fun A5_15 c5_15 => (xs [0, 1] [0, 1, 2] rfl rfl rfl (da (wk [2, 4, 5, 7, 9, 11, 13, 15, 18] [0, 1] [⟨0, 0, 0, false⟩, ⟨1, 0, 0, false⟩, ⟨2, 0, 0, false⟩, ⟨5, 2, 1, true⟩, ⟨3, 2, 2, true⟩, ⟨4, 2, 3, true⟩] (hn4 _ ⟨A5_15, c5_15, A9_21, c9_21, A13_23, c13_23, rfl⟩)))))
  refine one3 2 6 10 rfl rfl rfl rfl rfl rfl ?_ ?_ ?_
  ·
   refine op_lit (s := 3) (by_ := 24) k70 ([] : List S70) [] [] 1 [] rfl rfl rfl rfl rfl rfl rfl rfl rfl rfl rfl rfl rfl dq rfl fun A5_16 c5_16 => (xs [0, 1] [0, 1, 2] rfl rfl rfl ?_)
   refine one3 5 6 10 rfl rfl rfl rfl rfl rfl ?_ ?_ ?_
   ·
    refine op_app (k := k70) (s := 3) (by_ := 24) 3 0 rfl rfl rfl rfl (ap0 g1 dq) (ap0n g1 dq) (.inl rfl) true (fun _ => .inl rfl) rfl rfl fun A8_17 c8_17 => (nmE (en := [.sl 0 k70 Al0_1 cl0_1 l0_1 0 false, .sl 0 k70 Al0_2 cl0_2 l0_2 0 false, .sl 0 .bool Al0_3 cl0_3 l0_3 0 false, .sl 2 k70 A8_17 c8_17 l0_1 1 true]) (by kernel_rfl) (xs [0, 1] [0, 1, 2] rfl rfl rfl ?_))
    refine one2 6 10 rfl rfl rfl rfl ?_ ?_
    ·
     exact op_lit (s := 3) (by_ := 24) k70 ([] : List S70) [] [] 2 [] rfl rfl rfl rfl rfl rfl rfl rfl rfl rfl rfl rfl rfl dq rfl fun A9_18 c9_18 => (xs [0, 1] [0, 1, 2] rfl rfl rfl (da (wk [2, 4, 8, 9, 11, 15, 18] [0, 1] [⟨0, 0, 0, false⟩, ⟨1, 0, 0, false⟩, ⟨2, 0, 0, false⟩, ⟨3, 2, 1, true⟩, ⟨4, 2, 2, true⟩] (hn2 _ ⟨A8_17, c8_17, A9_18, c9_18, rfl⟩))))
    ·
     exact op_lit (s := 1) (by_ := 1) .bool ([] : List Bool) [] [] 2 [] rfl rfl rfl rfl rfl rfl rfl rfl rfl rfl rfl rfl rfl dq rfl fun A13_19 c13_19 => (xs [0, 1] [0, 1, 2] rfl rfl rfl (da (wk [2, 4, 8, 11, 13, 15, 18] [0, 1] [⟨0, 0, 0, false⟩, ⟨1, 0, 0, false⟩, ⟨2, 0, 0, false⟩, ⟨3, 2, 1, true⟩, ⟨4, 2, 2, true⟩] (hn3 _ ⟨A8_17, c8_17, A13_19, c13_19, rfl⟩))))
   ·
    exact op_lit (s := 3) (by_ := 24) k70 ([] : List S70) [] [] 2 [] rfl rfl rfl rfl rfl rfl rfl rfl rfl rfl rfl rfl rfl dq rfl fun A9_20 c9_20 => (xs [0, 1] [0, 1, 2] rfl rfl rfl (da (wk [2, 4, 5, 7, 9, 11, 15, 18] [0, 1] [⟨0, 0, 0, false⟩, ⟨1, 0, 0, false⟩, ⟨2, 0, 0, false⟩, ⟨3, 2, 1, true⟩, ⟨4, 2, 2, true⟩] (hn5 _ ⟨A5_16, c5_16, A9_20, c9_20, rfl⟩))))
   ·
    exact op_lit (s := 1) (by_ := 1) .bool ([] : List Bool) [] [] 2 [] rfl rfl rfl rfl rfl rfl rfl rfl rfl rfl rfl rfl rfl dq rfl fun A13_21 c13_21 => (xs [0, 1] [0, 1, 2] rfl rfl rfl (da (wk [2, 4, 5, 7, 11, 13, 15, 18] [0, 1] [⟨0, 0, 0, false⟩, ⟨1, 0, 0, false⟩, ⟨2, 0, 0, false⟩, ⟨3, 2, 1, true⟩, ⟨4, 2, 2, true⟩] (hn6 _ ⟨A5_16, c5_16, A13_21, c13_21, rfl⟩))))
  ·
   refine op_lit (s := 3) (by_ := 24) k70 ([] : List S70) [] [] 1 [] rfl rfl rfl rfl rfl rfl rfl rfl rfl rfl rfl rfl rfl dq rfl fun A9_22 c9_22 => (xs [0, 1] [0, 1, 2] rfl rfl rfl ?_)
   refine one2 2 10 rfl rfl rfl rfl ?_ ?_
   ·
    exact op_lit (s := 3) (by_ := 24) k70 ([] : List S70) [] [] 2 [] rfl rfl rfl rfl rfl rfl rfl rfl rfl rfl rfl rfl rfl dq rfl fun A5_23 c5_23 => (xs [0, 1] [0, 1, 2] rfl rfl rfl (da (wk [2, 4, 5, 7, 9, 11, 15, 18] [0, 1] [⟨0, 0, 0, false⟩, ⟨1, 0, 0, false⟩, ⟨2, 0, 0, false⟩, ⟨4, 2, 1, true⟩, ⟨3, 2, 2, true⟩] (hn5 _ ⟨A5_23, c5_23, A9_22, c9_22, rfl⟩))))
   ·
    exact op_lit (s := 1) (by_ := 1) .bool ([] : List Bool) [] [] 2 [] rfl rfl rfl rfl rfl rfl rfl rfl rfl rfl rfl rfl rfl dq rfl fun A13_24 c13_24 => (xs [0, 1] [0, 1, 2] rfl rfl rfl (da (wk [2, 4, 7, 9, 11, 13, 15, 18] [0, 1] [⟨0, 0, 0, false⟩, ⟨1, 0, 0, false⟩, ⟨2, 0, 0, false⟩, ⟨3, 2, 1, true⟩, ⟨4, 2, 2, true⟩] (hn7 _ ⟨A9_22, c9_22, A13_24, c13_24, rfl⟩))))
  ·
   refine op_lit (s := 1) (by_ := 1) .bool ([] : List Bool) [] [] 1 [] rfl rfl rfl rfl rfl rfl rfl rfl rfl rfl rfl rfl rfl dq rfl fun A13_25 c13_25 => (xs [0, 1] [0, 1, 2] rfl rfl rfl ?_)
   refine one2 2 6 rfl rfl rfl rfl ?_ ?_
   ·
    exact op_lit (s := 3) (by_ := 24) k70 ([] : List S70) [] [] 2 [] rfl rfl rfl rfl rfl rfl rfl rfl rfl rfl rfl rfl rfl dq rfl fun A5_26 c5_26 => (xs [0, 1] [0, 1, 2] rfl rfl rfl (da (wk [2, 4, 5, 7, 11, 13, 15, 18] [0, 1] [⟨0, 0, 0, false⟩, ⟨1, 0, 0, false⟩, ⟨2, 0, 0, false⟩, ⟨4, 2, 1, true⟩, ⟨3, 2, 2, true⟩] (hn6 _ ⟨A5_26, c5_26, A13_25, c13_25, rfl⟩))))
   ·
    exact op_lit (s := 3) (by_ := 24) k70 ([] : List S70) [] [] 2 [] rfl rfl rfl rfl rfl rfl rfl rfl rfl rfl rfl rfl rfl dq rfl fun A9_27 c9_27 => (xs [0, 1] [0, 1, 2] rfl rfl rfl (da (wk [2, 4, 7, 9, 11, 13, 15, 18] [0, 1] [⟨0, 0, 0, false⟩, ⟨1, 0, 0, false⟩, ⟨2, 0, 0, false⟩, ⟨4, 2, 1, true⟩, ⟨3, 2, 2, true⟩] (hn7 _ ⟨A9_27, c9_27, A13_25, c13_25, rfl⟩))))
end Go.Proofs.Ytajjeemkdjfilaa.K
namespace Go.Proofs.Ytajjeemkdjfilaa.K
open Go Go.RowKit
set_option linter.unusedVariables false
set_option linter.unusedSimpArgs false
mutual
def spec_JoinChunk.j0 : Nat → (List S92) → Int → (List S70) → (List S70) → (List Bool) → Int → Int → (List S70) → (List S70) → (List Bool) → Int → Option ((List S92) × Int × (List S70) × (List S70) × (List Bool) × Int)
 | 0, _, _, _, _, _, _, _, _, _, _, _ => none
 | k + 1, x14_6, x14_5_0, x14_5_1, x14_5_2, x14_5_3, x14_5_4, x14_7_0, x14_7_1, x14_7_2, x14_7_3, x14_7_4 => some (x14_6, x14_7_0, x14_7_1, x14_7_2, x14_7_3, x14_7_4)
def spec_JoinChunk.j1 : Nat → (List S92) → Int → Int → Int → Bool → Int → Int → Int → (List S70) → (List S70) → (List Bool) → Int → Int → (List S70) → (List S70) → (List Bool) → Int → (List S70) → (List S70) → (List S70) → (List Bool) → Option ((List S92) × Int × (List S70) × (List S70) × (List Bool) × Int)
 | 0, _, _, _, _, _, _, _, _, _, _, _, _, _, _, _, _, _, _, _, _, _ => none
 | k + 1, x26_6, x26_8, x26_19_0, x26_19_4, x26_20, x26_2_0, x26_2_4, x26_5_0, x26_5_1, x26_5_2, x26_5_3, x26_5_4, x26_7_0, x26_7_1, x26_7_2, x26_7_3, x26_7_4, l1, l0_1, l0_2, l0_3 => if 0 ≤ x26_8 then (if x26_8 < (x26_7_3.length : Int) then (spec_JoinChunk.l0 k x26_6 (wrap64 (x26_8 + 1)) x26_2_0 x26_2_4 x26_5_0 x26_5_1 x26_5_2 x26_5_3 x26_5_4 x26_7_0 x26_7_1 x26_7_2 (x26_7_3.set x26_8.toNat true) x26_7_4 l1 l0_1 l0_2 l0_3) else none) else none
def spec_JoinChunk.j2 : Nat → (List S92) → Int → Int → Int → Bool → Bool → Int → Int → Int → (List S70) → (List S70) → (List Bool) → Int → Int → (List S70) → (List S70) → (List Bool) → Int → (List S70) → (List S70) → (List S70) → (List Bool) → Option ((List S92) × Int × (List S70) × (List S70) × (List Bool) × Int)
 | 0, _, _, _, _, _, _, _, _, _, _, _, _, _, _, _, _, _, _, _, _, _, _ => none
 | k + 1, x27_6, x27_8, x27_19_0, x27_19_4, x27_20, x27_52, x27_2_0, x27_2_4, x27_5_0, x27_5_1, x27_5_2, x27_5_3, x27_5_4, x27_7_0, x27_7_1, x27_7_2, x27_7_3, x27_7_4, l1, l0_1, l0_2, l0_3 => if x27_52 = true then (if 0 ≤ x27_8 then (if x27_8 < (l0_1.length : Int) then ((spec_l7One.f k 1 ((rd_T70 l0_1 x27_8).f0) ((rd_T70 l0_1 x27_8).f1) ((rd_T70 l0_1 x27_8).f2) l1).bind fun t23 => (if x27_6.length + t23.length ≤ 2513169434916 then (spec_JoinChunk.j1 k (x27_6 ++ t23) x27_8 x27_19_0 x27_19_4 x27_20 x27_2_0 x27_2_4 x27_5_0 x27_5_1 x27_5_2 x27_5_3 x27_5_4 x27_7_0 x27_7_1 x27_7_2 x27_7_3 x27_7_4 l1 l0_1 l0_2 l0_3) else none)) else none) else none) else (spec_JoinChunk.j1 k x27_6 x27_8 x27_19_0 x27_19_4 x27_20 x27_2_0 x27_2_4 x27_5_0 x27_5_1 x27_5_2 x27_5_3 x27_5_4 x27_7_0 x27_7_1 x27_7_2 x27_7_3 x27_7_4 l1 l0_1 l0_2 l0_3)
def spec_JoinChunk.l0 : Nat → (List S92) → Int → Int → Int → Int → (List S70) → (List S70) → (List Bool) → Int → Int → (List S70) → (List S70) → (List Bool) → Int → (List S70) → (List S70) → (List S70) → (List Bool) → Option ((List S92) × Int × (List S70) × (List S70) × (List Bool) × Int)
 | 0, _, _, _, _, _, _, _, _, _, _, _, _, _, _, _, _, _, _ => none
 | k + 1, x15_6, x15_8, x15_2_0, x15_2_4, x15_5_0, x15_5_1, x15_5_2, x15_5_3, x15_5_4, x15_7_0, x15_7_1, x15_7_2, x15_7_3, x15_7_4, l1, l0_1, l0_2, l0_3 => if x15_8 < (l0_1.length : Int) then ((spec_IsValidTask.f k x15_2_0 l0_1 l0_2 l0_3 x15_2_4).bind fun t5 => (if t5 = true then (if 0 ≤ x15_8 then ((spec_CountMatches.f k ((rd_T70 l0_1 x15_8).f0) ((rd_T70 l0_1 x15_8).f1) ((rd_T70 l0_1 x15_8).f2) l1).bind fun t8 => (if t8 = 0 then (spec_JoinChunk.l0 k x15_6 (wrap64 (x15_8 + 1)) x15_2_0 x15_2_4 x15_5_0 x15_5_1 x15_5_2 x15_5_3 x15_5_4 x15_7_0 x15_7_1 x15_7_2 x15_7_3 x15_7_4 l1 l0_1 l0_2 l0_3) else (if x15_2_0 = 2 then (if x15_8 < (l0_3.length : Int) then (if (rdOf false l0_3 x15_8) = true then (spec_JoinChunk.j1 k x15_6 x15_8 x15_2_0 x15_2_4 true x15_2_0 x15_2_4 x15_5_0 x15_5_1 x15_5_2 x15_5_3 x15_5_4 x15_7_0 x15_7_1 x15_7_2 x15_7_3 x15_7_4 l1 l0_1 l0_2 l0_3) else (if x15_6.length < 2513169434916 then (spec_JoinChunk.j1 k (x15_6 ++ ([(⟨(⟨(rd_T70 l0_1 x15_8).f0, (rd_T70 l0_1 x15_8).f1, (rd_T70 l0_1 x15_8).f2⟩ : S70), (⟨0, 0, 0⟩ : S70), false⟩ : S92)] : List S92)) x15_8 x15_2_0 x15_2_4 true x15_2_0 x15_2_4 x15_5_0 x15_5_1 x15_5_2 x15_5_3 x15_5_4 x15_7_0 x15_7_1 x15_7_2 x15_7_3 x15_7_4 l1 l0_1 l0_2 l0_3) else none)) else none) else (if x15_2_0 = 1 then (spec_JoinChunk.j2 k x15_6 x15_8 x15_2_0 x15_2_4 true (decide (x15_2_0 = 1)) x15_2_0 x15_2_4 x15_5_0 x15_5_1 x15_5_2 x15_5_3 x15_5_4 x15_7_0 x15_7_1 x15_7_2 x15_7_3 x15_7_4 l1 l0_1 l0_2 l0_3) else (spec_JoinChunk.j2 k x15_6 x15_8 x15_2_0 x15_2_4 true (decide (x15_2_0 = 4)) x15_2_0 x15_2_4 x15_5_0 x15_5_1 x15_5_2 x15_5_3 x15_5_4 x15_7_0 x15_7_1 x15_7_2 x15_7_3 x15_7_4 l1 l0_1 l0_2 l0_3))))) else none) else (spec_JoinChunk.j0 k x15_6 x15_5_0 x15_5_1 x15_5_2 x15_5_3 x15_5_4 x15_7_0 x15_7_1 x15_7_2 x15_7_3 x15_7_4))) else (spec_JoinChunk.j0 k x15_6 x15_5_0 x15_5_1 x15_5_2 x15_5_3 x15_5_4 x15_7_0 x15_7_1 x15_7_2 x15_7_3 x15_7_4)
end
def spec_JoinChunk.f (k : Nat) (a0_0 : Int) (l0_1 : List S70) (l0_2 : List S70) (l0_3 : List Bool) (a0_4 : Int) (l1 : List S70) : Option ((List S92) × Int × (List S70) × (List S70) × (List Bool) × Int) := (spec_l16Copy.f a0_0 l0_1 l0_2 l0_3 a0_4).bind fun bt2 => (spec_JoinChunk.l0 k [] 0 a0_0 a0_4 0 [] [] [] 0 bt2.1 bt2.2.1 bt2.2.2.1 bt2.2.2.2.1 bt2.2.2.2.2 l1 l0_1 l0_2 l0_3)
set_option maxHeartbeats 4000000 in
set_option maxRecDepth 100000 in
theorem spec_JoinChunk.ok (k : Nat) (a0_0 : Int) (l0_1 : List S70) (Al0_1 : Option Addr) (cl0_1 : Nat) (l0_2 : List S70) (Al0_2 : Option Addr) (cl0_2 : Nat) (l0_3 : List Bool) (Al0_3 : Option Addr) (cl0_3 : Nat) (a0_4 : Int) (l1 : List S70) (Al1 : Option Addr) (cl1 : Nat) (r0 : List S92) (r1 : Int) (r2 : List S70) (r3 : List S70) (r4 : List Bool) (r5 : Int) (H : spec_JoinChunk.f k a0_0 l0_1 l0_2 l0_3 a0_4 l1 = some (r0, r1, r2, r3, r4, r5)) : Fn Try.prog 26 [.agg #[.int .i64 a0_0, .slice Al0_1 l0_1.length cl0_1, .slice Al0_2 l0_2.length cl0_2, .slice Al0_3 l0_3.length cl0_3, .int .i64 a0_4], .slice Al1 l1.length cl1] [] [.sl 0 k70 Al0_1 cl0_1 l0_1 0 false, .sl 0 k70 Al0_2 cl0_2 l0_2 0 false, .sl 0 .bool Al0_3 cl0_3 l0_3 0 false, .sl 0 k70 Al1 cl1 l1 0 false] (fun v bx en => ∃ A0 c0 A2 c2 A3 c3 A4 c4, v = .tuple #[.slice A0 r0.length c0, .agg #[.int .i64 r1, .slice A2 r2.length c2, .slice A3 r3.length c3, .slice A4 r4.length c4, .int .i64 r5]] ∧ bx = [] ∧ en = [.sl 2 k92 A0 c0 r0 1 true, .sl 2 k70 A2 c2 r2 2 true, .sl 2 k70 A3 c3 r3 3 true, .sl 2 .bool A4 c4 r4 4 true]) := by
 refine fn_ 70 Try.func26 rfl rfl rfl (fun base T w0 => ?_)
 rw [spec_JoinChunk.f] at H
 refine gs (rg (so rfl (op_box (cs := [.int .i64 a0_0, .slice Al0_1 l0_1.length cl0_1, .slice Al0_2 l0_2.length cl0_2, .slice Al0_3 l0_3.length cl0_3, .int .i64 a0_4]) rfl rfl rfl fun b2 => (sv (EV.as rfl) rfl (so rfl (op_alloc (cs := [.int .i64 0, .slice none 0 0, .slice none 0 0, .slice none 0 0, .int .i64 0]) (by kernel_rfl) rfl fun b5 => (re (gs (rg (so rfl (op_lit (s := 7) (by_ := 56) k92 ([] : List S92) [] [] 1 [] rfl rfl rfl rfl rfl rfl rfl rfl rfl rfl rfl rfl rfl dq rfl fun A10_1 c10_1 => (sv (EV.as rfl) rfl (re (gs (rg (sv (EV.ld (v := .agg #[.int .i64 a0_0, .slice Al0_1 l0_1.length cl0_1, .slice Al0_2 l0_2.length cl0_2, .slice Al0_3 l0_3.length cl0_3, .int .i64 a0_4]) 0 (some 5) rfl rfl rfl) rfl ?_))))))))))))))))
 revert H; refine bdI ?_; rintro ⟨t2_0, t2_1, t2_2, t2_3, t2_4⟩ A2 H
 refine so rfl (op_call (spec_l16Copy.ok a0_0 l0_1 Al0_1 cl0_1 l0_2 Al0_2 cl0_2 l0_3 Al0_3 cl0_3 a0_4 _ _ _ _ _ A2) [⟨0, 0, 0, false⟩, ⟨1, 0, 0, false⟩, ⟨2, 0, 0, false⟩] 2 rfl rfl rfl rfl rfl ?_)
 rintro _ _ _ ⟨At2_1, ct2_1, At2_2, ct2_2, At2_3, ct2_3, rfl, rfl, rfl⟩
 refine so rfl (op_alloc (cs := [.int .i64 0, .slice none 0 0, .slice none 0 0, .slice none 0 0, .int .i64 0]) (by kernel_rfl) rfl fun b7 => (so rfl (op_st (cs' := [.int .i64 t2_0, .slice At2_1 t2_1.length ct2_1, .slice At2_2 t2_2.length ct2_2, .slice At2_3 t2_3.length ct2_3, .int .i64 t2_4]) 2 rfl rfl rfl rfl rfl rfl (re ?_))))
 refine jo (fun S => ∃ (m : Nat) (x14_6 : List S92) (Ax14_6 : Option Addr) (cx14_6 : Nat) (x14_5_0 : Int) (x14_5_1 : List S70) (Ax14_5_1 : Option Addr) (cx14_5_1 : Nat) (x14_5_2 : List S70) (Ax14_5_2 : Option Addr) (cx14_5_2 : Nat) (x14_5_3 : List Bool) (Ax14_5_3 : Option Addr) (cx14_5_3 : Nat) (x14_5_4 : Int) (x14_7_0 : Int) (x14_7_1 : List S70) (Ax14_7_1 : Option Addr) (cx14_7_1 : Nat) (x14_7_2 : List S70) (Ax14_7_2 : Option Addr) (cx14_7_2 : Nat) (x14_7_3 : List Bool) (Ax14_7_3 : Option Addr) (cx14_7_3 : Nat) (x14_7_4 : Int), spec_JoinChunk.j0 m x14_6 x14_5_0 x14_5_1 x14_5_2 x14_5_3 x14_5_4 x14_7_0 x14_7_1 x14_7_2 x14_7_3 x14_7_4 = some (r0, r1, r2, r3, r4, r5) ∧ S = ⟨[(5, .pointer (some ⟨b5, 0, none⟩)), (6, .slice Ax14_6 x14_6.length cx14_6), (7, .pointer (some ⟨b7, 0, none⟩))], [⟨b5, 44, [.int .i64 x14_5_0, .slice Ax14_5_1 x14_5_1.length cx14_5_1, .slice Ax14_5_2 x14_5_2.length cx14_5_2, .slice Ax14_5_3 x14_5_3.length cx14_5_3, .int .i64 x14_5_4]⟩, ⟨b7, 44, [.int .i64 x14_7_0, .slice Ax14_7_1 x14_7_1.length cx14_7_1, .slice Ax14_7_2 x14_7_2.length cx14_7_2, .slice Ax14_7_3 x14_7_3.length cx14_7_3, .int .i64 x14_7_4]⟩], [.sl 2 k92 Ax14_6 cx14_6 x14_6 1 true, .sl 2 k70 Ax14_5_1 cx14_5_1 x14_5_1 2 true, .sl 2 k70 Ax14_5_2 cx14_5_2 x14_5_2 3 true, .sl 2 .bool Ax14_5_3 cx14_5_3 x14_5_3 4 true, .sl 2 k70 Ax14_7_1 cx14_7_1 x14_7_1 5 true, .sl 2 k70 Ax14_7_2 cx14_7_2 x14_7_2 6 true, .sl 2 .bool Ax14_7_3 cx14_7_3 x14_7_3 7 true]⟩) (fun S hS => ?_) (fun jh0 => ?_)
 ·
  clear H
  obtain ⟨m3, x14_6, Ax14_6, cx14_6, x14_5_0, x14_5_1, Ax14_5_1, cx14_5_1, x14_5_2, Ax14_5_2, cx14_5_2, x14_5_3, Ax14_5_3, cx14_5_3, x14_5_4, x14_7_0, x14_7_1, Ax14_7_1, cx14_7_1, x14_7_2, Ax14_7_2, cx14_7_2, x14_7_3, Ax14_7_3, cx14_7_3, x14_7_4, H, rfl⟩ := hS
  rcases m3 with _ | m3
  · rw [spec_JoinChunk.j0] at H; cases H
  rw [spec_JoinChunk.j0] at H
  refine gs (dr [0, 1] [0, 1, 2, 3, 4, 5, 6] [3] 4 rfl rfl rfl rfl (xv 0 [0, 1] [0, 1, 2, 3, 4, 5, 6] rfl (EV.mv rfl) rfl rfl rfl rfl (xv 1 [0, 1] [0, 1, 2, 3, 4, 5, 6] rfl (EV.ld (v := .agg #[.int .i64 x14_7_0, .slice Ax14_7_1 x14_7_1.length cx14_7_1, .slice Ax14_7_2 x14_7_2.length cx14_7_2, .slice Ax14_7_3 x14_7_3.length cx14_7_3, .int .i64 x14_7_4]) 1 (some 5) rfl rfl rfl) rfl rfl rfl rfl (xv 2 [0, 1] [0, 1, 2, 3, 4, 5, 6] rfl (EV.as rfl) rfl rfl rfl rfl (one1 3 rfl rfl (op_st (cs' := [.int .i64 x14_7_0, .slice Ax14_7_1 x14_7_1.length cx14_7_1, .slice Ax14_7_2 x14_7_2.length cx14_7_2, .slice Ax14_7_3 x14_7_3.length cx14_7_3, .int .i64 x14_7_4]) 0 rfl rfl rfl rfl rfl rfl (xn rfl (xd ?_))))))))
  cases H
  exact rt Try.func26 rfl (.tmp rfl (.cell 0 (some 5) rfl rfl rfl .nil)) rfl [] [⟨0, 2, 1, true⟩, ⟨4, 2, 2, true⟩, ⟨5, 2, 3, true⟩, ⟨6, 2, 4, true⟩] rfl rfl rfl rfl rfl ⟨_, _, _, _, _, _, _, _, rfl, rfl, rfl⟩
 ·
  refine gs (rg (sv (EV.as rfl) rfl (re (gb (nil_ k70 6 dq (nil_ k70 7 dq (nil_ .bool 8 dq ?_)))))))
  refine lo (fun kk S => ∃ (x15_6 : List S92) (Ax15_6 : Option Addr) (cx15_6 : Nat) (x15_8 : Int) (x15_2_0 : Int) (x15_2_4 : Int) (x15_5_0 : Int) (x15_5_1 : List S70) (Ax15_5_1 : Option Addr) (cx15_5_1 : Nat) (x15_5_2 : List S70) (Ax15_5_2 : Option Addr) (cx15_5_2 : Nat) (x15_5_3 : List Bool) (Ax15_5_3 : Option Addr) (cx15_5_3 : Nat) (x15_5_4 : Int) (x15_7_0 : Int) (x15_7_1 : List S70) (Ax15_7_1 : Option Addr) (cx15_7_1 : Nat) (x15_7_2 : List S70) (Ax15_7_2 : Option Addr) (cx15_7_2 : Nat) (x15_7_3 : List Bool) (Ax15_7_3 : Option Addr) (cx15_7_3 : Nat) (x15_7_4 : Int), spec_JoinChunk.l0 kk x15_6 x15_8 x15_2_0 x15_2_4 x15_5_0 x15_5_1 x15_5_2 x15_5_3 x15_5_4 x15_7_0 x15_7_1 x15_7_2 x15_7_3 x15_7_4 l1 l0_1 l0_2 l0_3 = some (r0, r1, r2, r3, r4, r5) ∧ S = ⟨[(1, .slice Al1 l1.length cl1), (2, .pointer (some ⟨b2, 0, none⟩)), (5, .pointer (some ⟨b5, 0, none⟩)), (6, .slice Ax15_6 x15_6.length cx15_6), (7, .pointer (some ⟨b7, 0, none⟩)), (8, .int .i64 x15_8)], [⟨b2, 44, [.int .i64 x15_2_0, .slice Al0_1 l0_1.length cl0_1, .slice Al0_2 l0_2.length cl0_2, .slice Al0_3 l0_3.length cl0_3, .int .i64 x15_2_4]⟩, ⟨b5, 44, [.int .i64 x15_5_0, .slice Ax15_5_1 x15_5_1.length cx15_5_1, .slice Ax15_5_2 x15_5_2.length cx15_5_2, .slice Ax15_5_3 x15_5_3.length cx15_5_3, .int .i64 x15_5_4]⟩, ⟨b7, 44, [.int .i64 x15_7_0, .slice Ax15_7_1 x15_7_1.length cx15_7_1, .slice Ax15_7_2 x15_7_2.length cx15_7_2, .slice Ax15_7_3 x15_7_3.length cx15_7_3, .int .i64 x15_7_4]⟩], [.sl 2 k92 Ax15_6 cx15_6 x15_6 1 true, .sl 2 k70 Ax15_5_1 cx15_5_1 x15_5_1 2 true, .sl 2 k70 Ax15_5_2 cx15_5_2 x15_5_2 3 true, .sl 2 .bool Ax15_5_3 cx15_5_3 x15_5_3 4 true, .sl 2 k70 Ax15_7_1 cx15_7_1 x15_7_1 5 true, .sl 2 k70 Ax15_7_2 cx15_7_2 x15_7_2 6 true, .sl 2 .bool Ax15_7_3 cx15_7_3 x15_7_3 7 true, .sl 0 k70 Al1 cl1 l1 0 false, .sl 0 k70 Al0_1 cl0_1 l0_1 0 false, .sl 0 k70 Al0_2 cl0_2 l0_2 0 false, .sl 0 .bool Al0_3 cl0_3 l0_3 0 false]⟩) (fun S hS => ?_) (fun n0 ih0 S hS => ?_) ⟨[], A10_1, c10_1, 0, a0_0, a0_4, 0, [], none, 0, [], none, 0, [], none, 0, 0, t2_0, t2_1, At2_1, ct2_1, t2_2, At2_2, ct2_2, t2_3, At2_3, ct2_3, t2_4, H, rfl⟩ (fun h => wk [1, 2, 5, 6, 7, 8] [0, 1, 2] [⟨4, 2, 1, true⟩, ⟨8, 2, 2, true⟩, ⟨9, 2, 3, true⟩, ⟨10, 2, 4, true⟩, ⟨5, 2, 5, true⟩, ⟨6, 2, 6, true⟩, ⟨7, 2, 7, true⟩, ⟨3, 0, 0, false⟩, ⟨0, 0, 0, false⟩, ⟨1, 0, 0, false⟩, ⟨2, 0, 0, false⟩] h)
  · clear H; obtain ⟨_, _, _, _, _, _, _, _, _, _, _, _, _, _, _, _, _, _, _, _, _, _, _, _, _, _, _, _, H, _⟩ := hS; rw [spec_JoinChunk.l0] at H; cases H
  clear H
  obtain ⟨x15_6, Ax15_6, cx15_6, x15_8, x15_2_0, x15_2_4, x15_5_0, x15_5_1, Ax15_5_1, cx15_5_1, x15_5_2, Ax15_5_2, cx15_5_2, x15_5_3, Ax15_5_3, cx15_5_3, x15_5_4, x15_7_0, x15_7_1, Ax15_7_1, cx15_7_1, x15_7_2, Ax15_7_2, cx15_7_2, x15_7_3, Ax15_7_3, cx15_7_3, x15_7_4, H, rfl⟩ := hS
  rw [spec_JoinChunk.l0] at H
  refine gs (gs (rg (sv (EV.mv rfl) rfl (sv (EV.fa 1 rfl) rfl (sv (EV.ld 0 none rfl rfl rfl) rfl (sv (EV.ln rfl) rfl (sv (EV.lss rfl rfl) rfl (sv (EV.mv rfl) rfl ?_))))))))
  revert H; refine ifsI ?_ ?_ <;> intro c4 H
  ·
   refine ts 18 rfl (dT c4) (sv (EV.ld (v := .agg #[.int .i64 x15_2_0, .slice Al0_1 l0_1.length cl0_1, .slice Al0_2 l0_2.length cl0_2, .slice Al0_3 l0_3.length cl0_3, .int .i64 x15_2_4]) 0 (some 5) rfl rfl rfl) rfl ?_)
   revert H; refine bdI ?_; rintro t5 A5 H
   refine so rfl (op_call (spec_IsValidTask.ok n0 x15_2_0 l0_1 Al0_1 cl0_1 l0_2 Al0_2 cl0_2 l0_3 Al0_3 cl0_3 x15_2_4 _ A5) [⟨8, 0, 0, false⟩, ⟨9, 0, 0, false⟩, ⟨10, 0, 0, false⟩] 8 rfl rfl rfl rfl rfl ?_)
   rintro _ _ _ ⟨rfl, rfl, rfl⟩
   refine sv (EV.pt rfl rfl rfl) rfl (re (pr [1, 2, 5, 6, 7, 8, 19, 20, 21] [0, 1, 2] [0, 1, 2, 3, 4, 5, 6, 7, 8, 9, 10] rfl rfl rfl rfl ?_))
   revert H; refine ifsI ?_ ?_ <;> intro c6 H
   ·
    subst c6
    refine gt rfl rfl (gk (gs (gb (gs (rg (sv (EV.fa 1 rfl) rfl (sv (EV.ld 0 none rfl rfl rfl) rfl (sv (EV.mv rfl) rfl ?_))))))))
    revert H; refine ggI ?_; intro g7 H
    refine sv (EV.ix 8 rfl rfl rfl g7 c4 rfl) rfl (sv (EV.le (v := .agg #[.int .i64 ((rd_T70 l0_1 x15_8).f0), .int .i64 ((rd_T70 l0_1 x15_8).f1), .int .i64 ((rd_T70 l0_1 x15_8).f2)]) x15_8 0 (some 3) 8 z70 rfl rfl rfl g7 c4 rfl rfl rfl) rfl (sv (EV.mv rfl) rfl ?_))
    revert H; refine bdI ?_; rintro t8 A8 H
    refine so rfl (op_call (spec_CountMatches.ok n0 ((rd_T70 l0_1 x15_8).f0) ((rd_T70 l0_1 x15_8).f1) ((rd_T70 l0_1 x15_8).f2) l1 Al1 cl1 _ A8) [⟨7, 0, 0, false⟩] 8 rfl rfl rfl rfl rfl ?_)
    rintro _ _ _ ⟨rfl, rfl, rfl⟩
    refine sv (EV.as rfl) rfl (re (pr [1, 2, 5, 6, 7, 8, 9, 19, 20] [0, 1, 2] [0, 1, 2, 3, 4, 5, 6, 7, 8, 9, 10] rfl rfl rfl rfl (gs (gs (rg (sv (EV.mv rfl) rfl (sv (EV.eql rfl rfl) rfl (re ?_))))))))
    revert H; refine ifsI ?_ ?_ <;> intro c9 H
    ·
     exact gt rfl (dT c9) (gx rfl (rg (sv (EV.mv rfl) rfl (sv (EV.add rfl rfl) rfl (sv (EV.as rfl) rfl (re (wk [1, 2, 5, 6, 7, 8] [0, 1, 2] [⟨0, 2, 1, true⟩, ⟨1, 2, 2, true⟩, ⟨2, 2, 3, true⟩, ⟨3, 2, 4, true⟩, ⟨4, 2, 5, true⟩, ⟨5, 2, 6, true⟩, ⟨6, 2, 7, true⟩, ⟨7, 0, 0, false⟩, ⟨8, 0, 0, false⟩, ⟨9, 0, 0, false⟩, ⟨10, 0, 0, false⟩] (ih0 _ (by omega) _ ⟨x15_6, Ax15_6, cx15_6, wrap64 (x15_8 + 1), x15_2_0, x15_2_4, x15_5_0, x15_5_1, Ax15_5_1, cx15_5_1, x15_5_2, Ax15_5_2, cx15_5_2, x15_5_3, Ax15_5_3, cx15_5_3, x15_5_4, x15_7_0, x15_7_1, Ax15_7_1, cx15_7_1, x15_7_2, Ax15_7_2, cx15_7_2, x15_7_3, Ax15_7_3, cx15_7_3, x15_7_4, H, rfl⟩))))))))
    ·
     refine gf rfl (dF c9) (gk ?_)
     refine jo (fun S => ∃ (m : Nat) (x26_6 : List S92) (Ax26_6 : Option Addr) (cx26_6 : Nat) (x26_8 : Int) (x26_19_0 : Int) (x26_19_4 : Int) (x26_20 : Bool) (x26_2_0 : Int) (x26_2_4 : Int) (x26_5_0 : Int) (x26_5_1 : List S70) (Ax26_5_1 : Option Addr) (cx26_5_1 : Nat) (x26_5_2 : List S70) (Ax26_5_2 : Option Addr) (cx26_5_2 : Nat) (x26_5_3 : List Bool) (Ax26_5_3 : Option Addr) (cx26_5_3 : Nat) (x26_5_4 : Int) (x26_7_0 : Int) (x26_7_1 : List S70) (Ax26_7_1 : Option Addr) (cx26_7_1 : Nat) (x26_7_2 : List S70) (Ax26_7_2 : Option Addr) (cx26_7_2 : Nat) (x26_7_3 : List Bool) (Ax26_7_3 : Option Addr) (cx26_7_3 : Nat) (x26_7_4 : Int), m ≤ n0 ∧ spec_JoinChunk.j1 m x26_6 x26_8 x26_19_0 x26_19_4 x26_20 x26_2_0 x26_2_4 x26_5_0 x26_5_1 x26_5_2 x26_5_3 x26_5_4 x26_7_0 x26_7_1 x26_7_2 x26_7_3 x26_7_4 l1 l0_1 l0_2 l0_3 = some (r0, r1, r2, r3, r4, r5) ∧ S = ⟨[(1, .slice Al1 l1.length cl1), (2, .pointer (some ⟨b2, 0, none⟩)), (5, .pointer (some ⟨b5, 0, none⟩)), (6, .slice Ax26_6 x26_6.length cx26_6), (7, .pointer (some ⟨b7, 0, none⟩)), (8, .int .i64 x26_8), (19, .agg #[.int .i64 x26_19_0, .slice Al0_1 l0_1.length cl0_1, .slice Al0_2 l0_2.length cl0_2, .slice Al0_3 l0_3.length cl0_3, .int .i64 x26_19_4]), (20, .bool x26_20)], [⟨b2, 44, [.int .i64 x26_2_0, .slice Al0_1 l0_1.length cl0_1, .slice Al0_2 l0_2.length cl0_2, .slice Al0_3 l0_3.length cl0_3, .int .i64 x26_2_4]⟩, ⟨b5, 44, [.int .i64 x26_5_0, .slice Ax26_5_1 x26_5_1.length cx26_5_1, .slice Ax26_5_2 x26_5_2.length cx26_5_2, .slice Ax26_5_3 x26_5_3.length cx26_5_3, .int .i64 x26_5_4]⟩, ⟨b7, 44, [.int .i64 x26_7_0, .slice Ax26_7_1 x26_7_1.length cx26_7_1, .slice Ax26_7_2 x26_7_2.length cx26_7_2, .slice Ax26_7_3 x26_7_3.length cx26_7_3, .int .i64 x26_7_4]⟩], [.sl 2 k92 Ax26_6 cx26_6 x26_6 1 true, .sl 2 k70 Ax26_5_1 cx26_5_1 x26_5_1 2 true, .sl 2 k70 Ax26_5_2 cx26_5_2 x26_5_2 3 true, .sl 2 .bool Ax26_5_3 cx26_5_3 x26_5_3 4 true, .sl 2 k70 Ax26_7_1 cx26_7_1 x26_7_1 5 true, .sl 2 k70 Ax26_7_2 cx26_7_2 x26_7_2 6 true, .sl 2 .bool Ax26_7_3 cx26_7_3 x26_7_3 7 true, .sl 0 k70 Al1 cl1 l1 0 false, .sl 0 k70 Al0_1 cl0_1 l0_1 0 false, .sl 0 k70 Al0_2 cl0_2 l0_2 0 false, .sl 0 .bool Al0_3 cl0_3 l0_3 0 false]⟩) (fun S hS => ?_) (fun jh1 => ?_)
     ·
      clear H
      obtain ⟨m10, x26_6, Ax26_6, cx26_6, x26_8, x26_19_0, x26_19_4, x26_20, x26_2_0, x26_2_4, x26_5_0, x26_5_1, Ax26_5_1, cx26_5_1, x26_5_2, Ax26_5_2, cx26_5_2, x26_5_3, Ax26_5_3, cx26_5_3, x26_5_4, x26_7_0, x26_7_1, Ax26_7_1, cx26_7_1, x26_7_2, Ax26_7_2, cx26_7_2, x26_7_3, Ax26_7_3, cx26_7_3, x26_7_4, lm10, H, rfl⟩ := hS
      rcases m10 with _ | m10
      · rw [spec_JoinChunk.j1] at H; cases H
      rw [spec_JoinChunk.j1] at H
      refine rg (sv (EV.fa 3 rfl) rfl (sv (EV.ld 2 none rfl rfl rfl) rfl (sv (EV.mv rfl) rfl ?_)))
      revert H; refine ggI ?_; intro g11 H
      revert H; refine ggI ?_; intro g12 H
      exact sv (EV.ix 6 rfl rfl rfl g11 g12 rfl) rfl (so rfl (op_stf x26_8 0 6 false true rfl rfl rfl rfl g11 g12 rfl rfl rfl rfl dq rfl (rlT 65 (v' := .slice Ax26_7_3 (x26_7_3.set x26_8.toNat true).length cx26_7_3) rfl (sle _ _ _ _ _) (rlB 2 (cs' := [.int .i64 x26_7_0, .slice Ax26_7_1 x26_7_1.length cx26_7_1, .slice Ax26_7_2 x26_7_2.length cx26_7_2, .slice Ax26_7_3 (x26_7_3.set x26_8.toNat true).length cx26_7_3, .int .i64 x26_7_4]) rfl (by simp only [List.length_set]) (nmE (en := [.sl 2 k92 Ax26_6 cx26_6 x26_6 1 true, .sl 2 k70 Ax26_5_1 cx26_5_1 x26_5_1 2 true, .sl 2 k70 Ax26_5_2 cx26_5_2 x26_5_2 3 true, .sl 2 .bool Ax26_5_3 cx26_5_3 x26_5_3 4 true, .sl 2 k70 Ax26_7_1 cx26_7_1 x26_7_1 5 true, .sl 2 k70 Ax26_7_2 cx26_7_2 x26_7_2 6 true, .sl 0 k70 Al1 cl1 l1 0 false, .sl 0 k70 Al0_1 cl0_1 l0_1 0 false, .sl 0 k70 Al0_2 cl0_2 l0_2 0 false, .sl 0 .bool Al0_3 cl0_3 l0_3 0 false, .sl 2 .bool Ax26_7_3 cx26_7_3 (x26_7_3.set x26_8.toNat true) 7 true]) (by kernel_rfl) (re (ge (rg (sv (EV.mv rfl) rfl (sv (EV.add rfl rfl) rfl (sv (EV.as rfl) rfl (re (wk [1, 2, 5, 6, 7, 8] [0, 1, 2] [⟨0, 2, 1, true⟩, ⟨1, 2, 2, true⟩, ⟨2, 2, 3, true⟩, ⟨3, 2, 4, true⟩, ⟨4, 2, 5, true⟩, ⟨5, 2, 6, true⟩, ⟨10, 2, 7, true⟩, ⟨6, 0, 0, false⟩, ⟨7, 0, 0, false⟩, ⟨8, 0, 0, false⟩, ⟨9, 0, 0, false⟩] (ih0 _ (by omega) _ ⟨x26_6, Ax26_6, cx26_6, wrap64 (x26_8 + 1), x26_2_0, x26_2_4, x26_5_0, x26_5_1, Ax26_5_1, cx26_5_1, x26_5_2, Ax26_5_2, cx26_5_2, x26_5_3, Ax26_5_3, cx26_5_3, x26_5_4, x26_7_0, x26_7_1, Ax26_7_1, cx26_7_1, x26_7_2, Ax26_7_2, cx26_7_2, x26_7_3.set x26_8.toNat true, Ax26_7_3, cx26_7_3, x26_7_4, H, rfl⟩))))))))))))))
     ·
      refine gs (rg (sv (EV.fa 0 rfl) rfl (sv (EV.ld 0 none rfl rfl rfl) rfl (re (gb (gs (rg (sv (EV.eql rfl rfl) rfl (sv (EV.as rfl) rfl (re ?_))))))))))
      revert H; refine ifsI ?_ ?_ <;> intro c13 H
      ·
       refine gt rfl (dT c13) (gs (rg (sv (EV.fa 3 rfl) rfl (sv (EV.ld 0 none rfl rfl rfl) rfl (sv (EV.mv rfl) rfl ?_)))))
       revert H; refine ggI ?_; intro g14 H
       refine sv (EV.ix 10 rfl rfl rfl g7 g14 rfl) rfl (sv (EV.le (v := .bool (rdOf false l0_3 x15_8)) x15_8 0 none 10 false rfl rfl rfl g7 g14 rfl rfl rfl) rfl (sv (EV.nt rfl) rfl (re (pr [1, 2, 5, 6, 7, 8, 19, 20, 42] [0, 1, 2] [0, 1, 2, 3, 4, 5, 6, 7, 8, 9, 10] rfl rfl rfl rfl ?_))))
       revert H; refine ifsI ?_ ?_ <;> intro c15 H
       ·
        exact gf rfl (bN c15) (gk (ge (wk [1, 2, 5, 6, 7, 8, 19, 20] [0, 1, 2] [⟨0, 2, 1, true⟩, ⟨1, 2, 2, true⟩, ⟨2, 2, 3, true⟩, ⟨3, 2, 4, true⟩, ⟨4, 2, 5, true⟩, ⟨5, 2, 6, true⟩, ⟨6, 2, 7, true⟩, ⟨7, 0, 0, false⟩, ⟨8, 0, 0, false⟩, ⟨9, 0, 0, false⟩, ⟨10, 0, 0, false⟩] (jh1 _ ⟨_, x15_6, Ax15_6, cx15_6, x15_8, x15_2_0, x15_2_4, true, x15_2_0, x15_2_4, x15_5_0, x15_5_1, Ax15_5_1, cx15_5_1, x15_5_2, Ax15_5_2, cx15_5_2, x15_5_3, Ax15_5_3, cx15_5_3, x15_5_4, x15_7_0, x15_7_1, Ax15_7_1, cx15_7_1, x15_7_2, Ax15_7_2, cx15_7_2, x15_7_3, Ax15_7_3, cx15_7_3, x15_7_4, by omega, H, rfl⟩))))
       ·
        refine gt rfl (bM c15) (rg (sv (EV.mv rfl) rfl (sv (EV.fa 1 rfl) rfl (sv (EV.ld 0 none rfl rfl rfl) rfl (sv (EV.mv rfl) rfl (sv (EV.ix 8 rfl rfl rfl g7 c4 rfl) rfl (sv (EV.le (v := .agg #[.int .i64 ((rd_T70 l0_1 x15_8).f0), .int .i64 ((rd_T70 l0_1 x15_8).f1), .int .i64 ((rd_T70 l0_1 x15_8).f2)]) x15_8 0 (some 3) 8 z70 rfl rfl rfl g7 c4 rfl rfl rfl) rfl (sv (EV.bd (v := .agg #[.int .i64 ((rd_T70 l0_1 x15_8).f0), .int .i64 ((rd_T70 l0_1 x15_8).f1), .int .i64 ((rd_T70 l0_1 x15_8).f2), .int .i64 0, .int .i64 0, .int .i64 0, .bool false]) rfl (by kernel_rfl)) rfl (so rfl (op_lit (s := 7) (by_ := 56) k92 ([(⟨(⟨(rd_T70 l0_1 x15_8).f0, (rd_T70 l0_1 x15_8).f1, (rd_T70 l0_1 x15_8).f2⟩ : S70), (⟨0, 0, 0⟩ : S70), false⟩ : S92)] : List S92) [[]] [] 8 [.tmp 49] rfl rfl rfl rfl rfl rfl rfl rfl rfl rfl rfl rfl rfl dq rfl fun A50_16 c50_16 => ?_))))))))))
        revert H; refine ggI ?_; intro g17 H
        exact so rfl (op_app (k := k92) (s := 7) (by_ := 56) 0 11 rfl rfl rfl rfl (ap1 g17 dq) (ap1n g17 dq) (.inl rfl) true (fun _ => .inl rfl) rfl rfl fun A51_18 c51_18 => (nmE (en := [.sl 2 k70 Ax15_5_1 cx15_5_1 x15_5_1 2 true, .sl 2 k70 Ax15_5_2 cx15_5_2 x15_5_2 3 true, .sl 2 .bool Ax15_5_3 cx15_5_3 x15_5_3 4 true, .sl 2 k70 Ax15_7_1 cx15_7_1 x15_7_1 5 true, .sl 2 k70 Ax15_7_2 cx15_7_2 x15_7_2 6 true, .sl 2 .bool Ax15_7_3 cx15_7_3 x15_7_3 7 true, .sl 0 k70 Al1 cl1 l1 0 false, .sl 0 k70 Al0_1 cl0_1 l0_1 0 false, .sl 0 k70 Al0_2 cl0_2 l0_2 0 false, .sl 0 .bool Al0_3 cl0_3 l0_3 0 false, .sl 2 k92 A50_16 c50_16 ([(⟨(⟨(rd_T70 l0_1 x15_8).f0, (rd_T70 l0_1 x15_8).f1, (rd_T70 l0_1 x15_8).f2⟩ : S70), (⟨0, 0, 0⟩ : S70), false⟩ : S92)] : List S92) 8 true, .sl 2 k92 A51_18 c51_18 (x15_6 ++ ([(⟨(⟨(rd_T70 l0_1 x15_8).f0, (rd_T70 l0_1 x15_8).f1, (rd_T70 l0_1 x15_8).f2⟩ : S70), (⟨0, 0, 0⟩ : S70), false⟩ : S92)] : List S92)) 1 true]) (by kernel_rfl) (sv (EV.as rfl) rfl (re (pr [1, 2, 5, 6, 7, 8, 19, 20] [0, 1, 2] [0, 1, 2, 3, 4, 5, 6, 7, 8, 9, 11] rfl rfl rfl rfl (ge (wk [1, 2, 5, 6, 7, 8, 19, 20] [0, 1, 2] [⟨10, 2, 1, true⟩, ⟨0, 2, 2, true⟩, ⟨1, 2, 3, true⟩, ⟨2, 2, 4, true⟩, ⟨3, 2, 5, true⟩, ⟨4, 2, 6, true⟩, ⟨5, 2, 7, true⟩, ⟨6, 0, 0, false⟩, ⟨7, 0, 0, false⟩, ⟨8, 0, 0, false⟩, ⟨9, 0, 0, false⟩] (jh1 _ ⟨_, x15_6 ++ ([(⟨(⟨(rd_T70 l0_1 x15_8).f0, (rd_T70 l0_1 x15_8).f1, (rd_T70 l0_1 x15_8).f2⟩ : S70), (⟨0, 0, 0⟩ : S70), false⟩ : S92)] : List S92), A51_18, c51_18, x15_8, x15_2_0, x15_2_4, true, x15_2_0, x15_2_4, x15_5_0, x15_5_1, Ax15_5_1, cx15_5_1, x15_5_2, Ax15_5_2, cx15_5_2, x15_5_3, Ax15_5_3, cx15_5_3, x15_5_4, x15_7_0, x15_7_1, Ax15_7_1, cx15_7_1, x15_7_2, Ax15_7_2, cx15_7_2, x15_7_3, Ax15_7_3, cx15_7_3, x15_7_4, by omega, H, rfl⟩))))))))
      ·
       refine gf rfl (dF c13) ?_
       refine jo (fun S => ∃ (m : Nat) (x27_6 : List S92) (Ax27_6 : Option Addr) (cx27_6 : Nat) (x27_8 : Int) (x27_19_0 : Int) (x27_19_4 : Int) (x27_20 : Bool) (x27_52 : Bool) (x27_2_0 : Int) (x27_2_4 : Int) (x27_5_0 : Int) (x27_5_1 : List S70) (Ax27_5_1 : Option Addr) (cx27_5_1 : Nat) (x27_5_2 : List S70) (Ax27_5_2 : Option Addr) (cx27_5_2 : Nat) (x27_5_3 : List Bool) (Ax27_5_3 : Option Addr) (cx27_5_3 : Nat) (x27_5_4 : Int) (x27_7_0 : Int) (x27_7_1 : List S70) (Ax27_7_1 : Option Addr) (cx27_7_1 : Nat) (x27_7_2 : List S70) (Ax27_7_2 : Option Addr) (cx27_7_2 : Nat) (x27_7_3 : List Bool) (Ax27_7_3 : Option Addr) (cx27_7_3 : Nat) (x27_7_4 : Int), m ≤ n0 ∧ spec_JoinChunk.j2 m x27_6 x27_8 x27_19_0 x27_19_4 x27_20 x27_52 x27_2_0 x27_2_4 x27_5_0 x27_5_1 x27_5_2 x27_5_3 x27_5_4 x27_7_0 x27_7_1 x27_7_2 x27_7_3 x27_7_4 l1 l0_1 l0_2 l0_3 = some (r0, r1, r2, r3, r4, r5) ∧ S = ⟨[(1, .slice Al1 l1.length cl1), (2, .pointer (some ⟨b2, 0, none⟩)), (5, .pointer (some ⟨b5, 0, none⟩)), (6, .slice Ax27_6 x27_6.length cx27_6), (7, .pointer (some ⟨b7, 0, none⟩)), (8, .int .i64 x27_8), (19, .agg #[.int .i64 x27_19_0, .slice Al0_1 l0_1.length cl0_1, .slice Al0_2 l0_2.length cl0_2, .slice Al0_3 l0_3.length cl0_3, .int .i64 x27_19_4]), (20, .bool x27_20), (52, .bool x27_52)], [⟨b2, 44, [.int .i64 x27_2_0, .slice Al0_1 l0_1.length cl0_1, .slice Al0_2 l0_2.length cl0_2, .slice Al0_3 l0_3.length cl0_3, .int .i64 x27_2_4]⟩, ⟨b5, 44, [.int .i64 x27_5_0, .slice Ax27_5_1 x27_5_1.length cx27_5_1, .slice Ax27_5_2 x27_5_2.length cx27_5_2, .slice Ax27_5_3 x27_5_3.length cx27_5_3, .int .i64 x27_5_4]⟩, ⟨b7, 44, [.int .i64 x27_7_0, .slice Ax27_7_1 x27_7_1.length cx27_7_1, .slice Ax27_7_2 x27_7_2.length cx27_7_2, .slice Ax27_7_3 x27_7_3.length cx27_7_3, .int .i64 x27_7_4]⟩], [.sl 2 k92 Ax27_6 cx27_6 x27_6 1 true, .sl 2 k70 Ax27_5_1 cx27_5_1 x27_5_1 2 true, .sl 2 k70 Ax27_5_2 cx27_5_2 x27_5_2 3 true, .sl 2 .bool Ax27_5_3 cx27_5_3 x27_5_3 4 true, .sl 2 k70 Ax27_7_1 cx27_7_1 x27_7_1 5 true, .sl 2 k70 Ax27_7_2 cx27_7_2 x27_7_2 6 true, .sl 2 .bool Ax27_7_3 cx27_7_3 x27_7_3 7 true, .sl 0 k70 Al1 cl1 l1 0 false, .sl 0 k70 Al0_1 cl0_1 l0_1 0 false, .sl 0 k70 Al0_2 cl0_2 l0_2 0 false, .sl 0 .bool Al0_3 cl0_3 l0_3 0 false]⟩) (fun S hS => ?_) (fun jh2 => ?_)
       ·
        clear H
        obtain ⟨m19, x27_6, Ax27_6, cx27_6, x27_8, x27_19_0, x27_19_4, x27_20, x27_52, x27_2_0, x27_2_4, x27_5_0, x27_5_1, Ax27_5_1, cx27_5_1, x27_5_2, Ax27_5_2, cx27_5_2, x27_5_3, Ax27_5_3, cx27_5_3, x27_5_4, x27_7_0, x27_7_1, Ax27_7_1, cx27_7_1, x27_7_2, Ax27_7_2, cx27_7_2, x27_7_3, Ax27_7_3, cx27_7_3, x27_7_4, lm19, H, rfl⟩ := hS
        rcases m19 with _ | m19
        · rw [spec_JoinChunk.j2] at H; cases H
        rw [spec_JoinChunk.j2] at H
        revert H; refine ifsI ?_ ?_ <;> intro c20 H
        ·
         subst c20
         refine gt rfl rfl (rg (sv (EV.mv rfl) rfl (sv (EV.fa 1 rfl) rfl (sv (EV.ld 0 none rfl rfl rfl) rfl (sv (EV.mv rfl) rfl ?_)))))
         revert H; refine ggI ?_; intro g21 H
         revert H; refine ggI ?_; intro g22 H
         refine sv (EV.ix 8 rfl rfl rfl g21 g22 rfl) rfl (sv (EV.le (v := .agg #[.int .i64 ((rd_T70 l0_1 x27_8).f0), .int .i64 ((rd_T70 l0_1 x27_8).f1), .int .i64 ((rd_T70 l0_1 x27_8).f2)]) x27_8 0 (some 3) 8 z70 rfl rfl rfl g21 g22 rfl rfl rfl) rfl (sv (EV.mv rfl) rfl ?_))
         revert H; refine bdI ?_; rintro t23 A23 H
         refine so rfl (op_call (spec_l7One.ok m19 1 ((rd_T70 l0_1 x27_8).f0) ((rd_T70 l0_1 x27_8).f1) ((rd_T70 l0_1 x27_8).f2) l1 Al1 cl1 _ A23) [⟨7, 0, 0, false⟩] 8 rfl rfl rfl rfl rfl ?_)
         rintro _ _ _ ⟨At23, ct23, rfl, rfl, rfl⟩
         revert H; refine ggI ?_; intro g24 H
         exact so rfl (op_app (k := k92) (s := 7) (by_ := 56) 0 11 rfl rfl rfl rfl (ap2 g24 dq) (ap2n g24 dq) (.inl rfl) true (fun _ => .inl rfl) rfl rfl fun A63_25 c63_25 => (nmE (en := [.sl 2 k70 Ax27_5_1 cx27_5_1 x27_5_1 2 true, .sl 2 k70 Ax27_5_2 cx27_5_2 x27_5_2 3 true, .sl 2 .bool Ax27_5_3 cx27_5_3 x27_5_3 4 true, .sl 2 k70 Ax27_7_1 cx27_7_1 x27_7_1 5 true, .sl 2 k70 Ax27_7_2 cx27_7_2 x27_7_2 6 true, .sl 2 .bool Ax27_7_3 cx27_7_3 x27_7_3 7 true, .sl 0 k70 Al1 cl1 l1 0 false, .sl 0 k70 Al0_1 cl0_1 l0_1 0 false, .sl 0 k70 Al0_2 cl0_2 l0_2 0 false, .sl 0 .bool Al0_3 cl0_3 l0_3 0 false, .sl 2 k92 At23 ct23 t23 9 true, .sl 2 k92 A63_25 c63_25 (x27_6 ++ t23) 1 true]) (by kernel_rfl) (sv (EV.as rfl) rfl (re (pr [1, 2, 5, 6, 7, 8, 19, 20] [0, 1, 2] [0, 1, 2, 3, 4, 5, 6, 7, 8, 9, 11] rfl rfl rfl rfl (ge (wk [1, 2, 5, 6, 7, 8, 19, 20] [0, 1, 2] [⟨10, 2, 1, true⟩, ⟨0, 2, 2, true⟩, ⟨1, 2, 3, true⟩, ⟨2, 2, 4, true⟩, ⟨3, 2, 5, true⟩, ⟨4, 2, 6, true⟩, ⟨5, 2, 7, true⟩, ⟨6, 0, 0, false⟩, ⟨7, 0, 0, false⟩, ⟨8, 0, 0, false⟩, ⟨9, 0, 0, false⟩] (jh1 _ ⟨_, x27_6 ++ t23, A63_25, c63_25, x27_8, x27_19_0, x27_19_4, x27_20, x27_2_0, x27_2_4, x27_5_0, x27_5_1, Ax27_5_1, cx27_5_1, x27_5_2, Ax27_5_2, cx27_5_2, x27_5_3, Ax27_5_3, cx27_5_3, x27_5_4, x27_7_0, x27_7_1, Ax27_7_1, cx27_7_1, x27_7_2, Ax27_7_2, cx27_7_2, x27_7_3, Ax27_7_3, cx27_7_3, x27_7_4, by omega, H, rfl⟩))))))))
        ·
         obtain rfl := bF c20
         exact gf rfl rfl (gk (ge (wk [1, 2, 5, 6, 7, 8, 19, 20] [0, 1, 2] [⟨0, 2, 1, true⟩, ⟨1, 2, 2, true⟩, ⟨2, 2, 3, true⟩, ⟨3, 2, 4, true⟩, ⟨4, 2, 5, true⟩, ⟨5, 2, 6, true⟩, ⟨6, 2, 7, true⟩, ⟨7, 0, 0, false⟩, ⟨8, 0, 0, false⟩, ⟨9, 0, 0, false⟩, ⟨10, 0, 0, false⟩] (jh1 _ ⟨_, x27_6, Ax27_6, cx27_6, x27_8, x27_19_0, x27_19_4, x27_20, x27_2_0, x27_2_4, x27_5_0, x27_5_1, Ax27_5_1, cx27_5_1, x27_5_2, Ax27_5_2, cx27_5_2, x27_5_3, Ax27_5_3, cx27_5_3, x27_5_4, x27_7_0, x27_7_1, Ax27_7_1, cx27_7_1, x27_7_2, Ax27_7_2, cx27_7_2, x27_7_3, Ax27_7_3, cx27_7_3, x27_7_4, by omega, H, rfl⟩))))
       ·
        refine gs (rg (sv (EV.eql rfl rfl) rfl (sv (EV.as rfl) rfl (re (pr [1, 2, 5, 6, 7, 8, 19, 20, 34, 52] [0, 1, 2] [0, 1, 2, 3, 4, 5, 6, 7, 8, 9, 10] rfl rfl rfl rfl ?_)))))
        revert H; refine ifsI ?_ ?_ <;> intro c26 H
        ·
         exact gt rfl (dT c26) (gk (wk [1, 2, 5, 6, 7, 8, 19, 20, 52] [0, 1, 2] [⟨0, 2, 1, true⟩, ⟨1, 2, 2, true⟩, ⟨2, 2, 3, true⟩, ⟨3, 2, 4, true⟩, ⟨4, 2, 5, true⟩, ⟨5, 2, 6, true⟩, ⟨6, 2, 7, true⟩, ⟨7, 0, 0, false⟩, ⟨8, 0, 0, false⟩, ⟨9, 0, 0, false⟩, ⟨10, 0, 0, false⟩] (jh2 _ ⟨_, x15_6, Ax15_6, cx15_6, x15_8, x15_2_0, x15_2_4, true, decide (x15_2_0 = 1), x15_2_0, x15_2_4, x15_5_0, x15_5_1, Ax15_5_1, cx15_5_1, x15_5_2, Ax15_5_2, cx15_5_2, x15_5_3, Ax15_5_3, cx15_5_3, x15_5_4, x15_7_0, x15_7_1, Ax15_7_1, cx15_7_1, x15_7_2, Ax15_7_2, cx15_7_2, x15_7_3, Ax15_7_3, cx15_7_3, x15_7_4, by omega, H, rfl⟩)))
        ·
         exact gf rfl (dF c26) (rg (sv (EV.eql rfl rfl) rfl (sv (EV.as rfl) rfl (re (wk [1, 2, 5, 6, 7, 8, 19, 20, 52] [0, 1, 2] [⟨0, 2, 1, true⟩, ⟨1, 2, 2, true⟩, ⟨2, 2, 3, true⟩, ⟨3, 2, 4, true⟩, ⟨4, 2, 5, true⟩, ⟨5, 2, 6, true⟩, ⟨6, 2, 7, true⟩, ⟨7, 0, 0, false⟩, ⟨8, 0, 0, false⟩, ⟨9, 0, 0, false⟩, ⟨10, 0, 0, false⟩] (jh2 _ ⟨_, x15_6, Ax15_6, cx15_6, x15_8, x15_2_0, x15_2_4, true, decide (x15_2_0 = 4), x15_2_0, x15_2_4, x15_5_0, x15_5_1, Ax15_5_1, cx15_5_1, x15_5_2, Ax15_5_2, cx15_5_2, x15_5_3, Ax15_5_3, cx15_5_3, x15_5_4, x15_7_0, x15_7_1, Ax15_7_1, cx15_7_1, x15_7_2, Ax15_7_2, cx15_7_2, x15_7_3, Ax15_7_3, cx15_7_3, x15_7_4, by omega, H, rfl⟩))))))
   ·
    obtain rfl := bF c6
    exact gf rfl rfl (gx rfl (wk [5, 6, 7] [1, 2] [⟨0, 2, 1, true⟩, ⟨1, 2, 2, true⟩, ⟨2, 2, 3, true⟩, ⟨3, 2, 4, true⟩, ⟨4, 2, 5, true⟩, ⟨5, 2, 6, true⟩, ⟨6, 2, 7, true⟩] (jh0 _ ⟨_, x15_6, Ax15_6, cx15_6, x15_5_0, x15_5_1, Ax15_5_1, cx15_5_1, x15_5_2, Ax15_5_2, cx15_5_2, x15_5_3, Ax15_5_3, cx15_5_3, x15_5_4, x15_7_0, x15_7_1, Ax15_7_1, cx15_7_1, x15_7_2, Ax15_7_2, cx15_7_2, x15_7_3, Ax15_7_3, cx15_7_3, x15_7_4, H, rfl⟩)))
  ·
   exact ts 18 rfl (dF c4) (sk rfl (sk rfl (sv (EV.pf rfl rfl rfl) rfl (re (pr [1, 2, 5, 6, 7, 8, 21] [0, 1, 2] [0, 1, 2, 3, 4, 5, 6, 7, 8, 9, 10] rfl rfl rfl rfl (gf rfl rfl (gx rfl (wk [5, 6, 7] [1, 2] [⟨0, 2, 1, true⟩, ⟨1, 2, 2, true⟩, ⟨2, 2, 3, true⟩, ⟨3, 2, 4, true⟩, ⟨4, 2, 5, true⟩, ⟨5, 2, 6, true⟩, ⟨6, 2, 7, true⟩] (jh0 _ ⟨_, x15_6, Ax15_6, cx15_6, x15_5_0, x15_5_1, Ax15_5_1, cx15_5_1, x15_5_2, Ax15_5_2, cx15_5_2, x15_5_3, Ax15_5_3, cx15_5_3, x15_5_4, x15_7_0, x15_7_1, Ax15_7_1, cx15_7_1, x15_7_2, Ax15_7_2, cx15_7_2, x15_7_3, Ax15_7_3, cx15_7_3, x15_7_4, H, rfl⟩)))))))))
end Go.Proofs.Ytajjeemkdjfilaa.K
namespace Go.Proofs.Ytajjeemkdjfilaa.K
open Go Go.RowKit
set_option linter.unusedVariables false
set_option linter.unusedSimpArgs false
def spec_UnmatchedRows.l0 : Nat → (List S92) → Int → Int → Int → (List S70) → (List S70) → (List Bool) → Option ((List S92))
 | 0, _, _, _, _, _, _, _ => none
 | k + 1, x2_3, x2_4, x2_1_0, x2_1_4, l0_1, l0_2, l0_3 => if x2_4 < (l0_1.length : Int) then ((spec_IsValidTask.f k x2_1_0 l0_1 l0_2 l0_3 x2_1_4).bind fun t3 => (if t3 = true then (if 0 ≤ x2_4 then (if x2_4 < (l0_3.length : Int) then (if (rdOf false l0_3 x2_4) = true then (spec_UnmatchedRows.l0 k x2_3 (wrap64 (x2_4 + 1)) x2_1_0 x2_1_4 l0_1 l0_2 l0_3) else (if x2_1_0 = 3 then (if x2_3.length < 2513169434916 then (spec_UnmatchedRows.l0 k (x2_3 ++ ([(⟨(⟨(rd_T70 l0_1 x2_4).f0, (rd_T70 l0_1 x2_4).f1, (rd_T70 l0_1 x2_4).f2⟩ : S70), (⟨0, 0, 0⟩ : S70), false⟩ : S92)] : List S92)) (wrap64 (x2_4 + 1)) x2_1_0 x2_1_4 l0_1 l0_2 l0_3) else none) else (if x2_1_0 = 4 then (if x2_3.length < 2513169434916 then (spec_UnmatchedRows.l0 k (x2_3 ++ ([(⟨(⟨(rd_T70 l0_1 x2_4).f0, (rd_T70 l0_1 x2_4).f1, (rd_T70 l0_1 x2_4).f2⟩ : S70), (⟨0, 0, 0⟩ : S70), false⟩ : S92)] : List S92)) (wrap64 (x2_4 + 1)) x2_1_0 x2_1_4 l0_1 l0_2 l0_3) else none) else (spec_UnmatchedRows.l0 k x2_3 (wrap64 (x2_4 + 1)) x2_1_0 x2_1_4 l0_1 l0_2 l0_3)))) else none) else none) else (some x2_3))) else (some x2_3)
def spec_UnmatchedRows.f (k : Nat) (a0_0 : Int) (l0_1 : List S70) (l0_2 : List S70) (l0_3 : List Bool) (a0_4 : Int) : Option ((List S92)) := spec_UnmatchedRows.l0 k [] 0 a0_0 a0_4 l0_1 l0_2 l0_3
set_option maxHeartbeats 4000000 in
set_option maxRecDepth 100000 in
theorem spec_UnmatchedRows.ok (k : Nat) (a0_0 : Int) (l0_1 : List S70) (Al0_1 : Option Addr) (cl0_1 : Nat) (l0_2 : List S70) (Al0_2 : Option Addr) (cl0_2 : Nat) (l0_3 : List Bool) (Al0_3 : Option Addr) (cl0_3 : Nat) (a0_4 : Int) (r0 : List S92) (H : spec_UnmatchedRows.f k a0_0 l0_1 l0_2 l0_3 a0_4 = some r0) : Fn Try.prog 30 [.agg #[.int .i64 a0_0, .slice Al0_1 l0_1.length cl0_1, .slice Al0_2 l0_2.length cl0_2, .slice Al0_3 l0_3.length cl0_3, .int .i64 a0_4]] [] [.sl 0 k70 Al0_1 cl0_1 l0_1 0 false, .sl 0 k70 Al0_2 cl0_2 l0_2 0 false, .sl 0 .bool Al0_3 cl0_3 l0_3 0 false] (fun v bx en => ∃ A0 c0, v = .slice A0 r0.length c0 ∧ bx = [] ∧ en = [.sl 2 k92 A0 c0 r0 1 true]) := by
 refine fn_ 43 Try.func30 rfl rfl rfl (fun base T w0 => ?_)
 rw [spec_UnmatchedRows.f] at H
 refine gs (rg (so rfl (op_box (cs := [.int .i64 a0_0, .slice Al0_1 l0_1.length cl0_1, .slice Al0_2 l0_2.length cl0_2, .slice Al0_3 l0_3.length cl0_3, .int .i64 a0_4]) rfl rfl rfl fun b1 => (sv (EV.as rfl) rfl (re (gs (rg (so rfl (op_lit (s := 7) (by_ := 56) k92 ([] : List S92) [] [] 1 [] rfl rfl rfl rfl rfl rfl rfl rfl rfl rfl rfl rfl rfl dq rfl fun A5_1 c5_1 => (sv (EV.as rfl) rfl (re (gs (gs (rg (sv (EV.as rfl) rfl (re (gb ?_)))))))))))))))))
 refine lo (fun kk S => ∃ (x2_3 : List S92) (Ax2_3 : Option Addr) (cx2_3 : Nat) (x2_4 : Int) (x2_1_0 : Int) (x2_1_4 : Int), spec_UnmatchedRows.l0 kk x2_3 x2_4 x2_1_0 x2_1_4 l0_1 l0_2 l0_3 = some r0 ∧ S = ⟨[(1, .pointer (some ⟨b1, 0, none⟩)), (3, .slice Ax2_3 x2_3.length cx2_3), (4, .int .i64 x2_4)], [⟨b1, 44, [.int .i64 x2_1_0, .slice Al0_1 l0_1.length cl0_1, .slice Al0_2 l0_2.length cl0_2, .slice Al0_3 l0_3.length cl0_3, .int .i64 x2_1_4]⟩], [.sl 2 k92 Ax2_3 cx2_3 x2_3 1 true, .sl 0 k70 Al0_1 cl0_1 l0_1 0 false, .sl 0 k70 Al0_2 cl0_2 l0_2 0 false, .sl 0 .bool Al0_3 cl0_3 l0_3 0 false]⟩) (fun S hS => ?_) (fun n0 ih0 S hS => ?_) ⟨[], A5_1, c5_1, 0, a0_0, a0_4, H, rfl⟩ (fun h => wk [1, 3, 4] [0] [⟨3, 2, 1, true⟩, ⟨0, 0, 0, false⟩, ⟨1, 0, 0, false⟩, ⟨2, 0, 0, false⟩] h)
 · clear H; obtain ⟨_, _, _, _, _, _, H, _⟩ := hS; rw [spec_UnmatchedRows.l0] at H; cases H
 clear H
 obtain ⟨x2_3, Ax2_3, cx2_3, x2_4, x2_1_0, x2_1_4, H, rfl⟩ := hS
 rw [spec_UnmatchedRows.l0] at H
 refine gs (gs (rg (sv (EV.mv rfl) rfl (sv (EV.fa 1 rfl) rfl (sv (EV.ld 0 none rfl rfl rfl) rfl (sv (EV.ln rfl) rfl (sv (EV.lss rfl rfl) rfl (sv (EV.mv rfl) rfl ?_))))))))
 revert H; refine ifsI ?_ ?_ <;> intro c2 H
 ·
  refine ts 11 rfl (dT c2) (sv (EV.ld (v := .agg #[.int .i64 x2_1_0, .slice Al0_1 l0_1.length cl0_1, .slice Al0_2 l0_2.length cl0_2, .slice Al0_3 l0_3.length cl0_3, .int .i64 x2_1_4]) 0 (some 5) rfl rfl rfl) rfl ?_)
  revert H; refine bdI ?_; rintro t3 A3 H
  refine so rfl (op_call (spec_IsValidTask.ok n0 x2_1_0 l0_1 Al0_1 cl0_1 l0_2 Al0_2 cl0_2 l0_3 Al0_3 cl0_3 x2_1_4 _ A3) [⟨1, 0, 0, false⟩, ⟨2, 0, 0, false⟩, ⟨3, 0, 0, false⟩] 2 rfl rfl rfl rfl rfl ?_)
  rintro _ _ _ ⟨rfl, rfl, rfl⟩
  refine sv (EV.pt rfl rfl rfl) rfl (re (pr [1, 3, 4, 12, 13, 14] [0] [0, 1, 2, 3] rfl rfl rfl rfl ?_))
  revert H; refine ifsI ?_ ?_ <;> intro c4 H
  ·
   subst c4
   refine gt rfl rfl (gk (gs (gb (gs (rg (sv (EV.fa 3 rfl) rfl (sv (EV.ld 0 none rfl rfl rfl) rfl (sv (EV.mv rfl) rfl ?_))))))))
   revert H; refine ggI ?_; intro g5 H
   revert H; refine ggI ?_; intro g6 H
   refine sv (EV.ix 3 rfl rfl rfl g5 g6 rfl) rfl (sv (EV.le (v := .bool (rdOf false l0_3 x2_4)) x2_4 0 none 3 false rfl rfl rfl g5 g6 rfl rfl rfl) rfl (sv (EV.nt rfl) rfl (sv (EV.mv rfl) rfl ?_)))
   revert H; refine ifsI ?_ ?_ <;> intro c7 H
   ·
    exact ts 23 rfl (bN c7) (sk rfl (sk rfl (sk rfl (sk rfl (sk rfl (sk rfl (sk rfl (sk rfl (sv (EV.pf rfl rfl rfl) rfl (re (pr [1, 3, 4, 12, 13, 32] [0] [0, 1, 2, 3] rfl rfl rfl rfl (gf rfl rfl (gk (ge (rg (sv (EV.mv rfl) rfl (sv (EV.add rfl rfl) rfl (sv (EV.as rfl) rfl (re (wk [1, 3, 4] [0] [⟨0, 2, 1, true⟩, ⟨1, 0, 0, false⟩, ⟨2, 0, 0, false⟩, ⟨3, 0, 0, false⟩] (ih0 _ (by omega) _ ⟨x2_3, Ax2_3, cx2_3, wrap64 (x2_4 + 1), x2_1_0, x2_1_4, H, rfl⟩)))))))))))))))))))))
   ·
    refine ts 23 rfl (bM c7) (sv (EV.fa 0 rfl) rfl (sv (EV.ld 0 none rfl rfl rfl) rfl (sv (EV.eql rfl rfl) rfl (sv (EV.mv rfl) rfl ?_))))
    revert H; refine ifsI ?_ ?_ <;> intro c8 H
    ·
     refine ts 27 rfl (dT c8) (sk rfl (sk rfl (sk rfl (sv (EV.pt rfl rfl rfl) rfl (sv (EV.pt rfl rfl rfl) rfl (re (pr [1, 3, 4, 12, 13, 24, 25, 26, 27, 31, 32] [0] [0, 1, 2, 3] rfl rfl rfl rfl (gt rfl rfl (rg (sv (EV.mv rfl) rfl (sv (EV.fa 1 rfl) rfl (sv (EV.ld 0 none rfl rfl rfl) rfl (sv (EV.mv rfl) rfl (sv (EV.ix 1 rfl rfl rfl g5 c2 rfl) rfl (sv (EV.le (v := .agg #[.int .i64 ((rd_T70 l0_1 x2_4).f0), .int .i64 ((rd_T70 l0_1 x2_4).f1), .int .i64 ((rd_T70 l0_1 x2_4).f2)]) x2_4 0 (some 3) 1 z70 rfl rfl rfl g5 c2 rfl rfl rfl) rfl (sv (EV.bd (v := .agg #[.int .i64 ((rd_T70 l0_1 x2_4).f0), .int .i64 ((rd_T70 l0_1 x2_4).f1), .int .i64 ((rd_T70 l0_1 x2_4).f2), .int .i64 0, .int .i64 0, .int .i64 0, .bool false]) rfl (by kernel_rfl)) rfl (so rfl (op_lit (s := 7) (by_ := 56) k92 ([(⟨(⟨(rd_T70 l0_1 x2_4).f0, (rd_T70 l0_1 x2_4).f1, (rd_T70 l0_1 x2_4).f2⟩ : S70), (⟨0, 0, 0⟩ : S70), false⟩ : S92)] : List S92) [[]] [] 2 [.tmp 39] rfl rfl rfl rfl rfl rfl rfl rfl rfl rfl rfl rfl rfl dq rfl fun A40_9 c40_9 => ?_))))))))))))))))))
     revert H; refine ggI ?_; intro g10 H
     exact so rfl (op_app (k := k92) (s := 7) (by_ := 56) 0 4 rfl rfl rfl rfl (ap1 g10 dq) (ap1n g10 dq) (.inl rfl) true (fun _ => .inl rfl) rfl rfl fun A41_11 c41_11 => (nmE (en := [.sl 0 k70 Al0_1 cl0_1 l0_1 0 false, .sl 0 k70 Al0_2 cl0_2 l0_2 0 false, .sl 0 .bool Al0_3 cl0_3 l0_3 0 false, .sl 2 k92 A40_9 c40_9 ([(⟨(⟨(rd_T70 l0_1 x2_4).f0, (rd_T70 l0_1 x2_4).f1, (rd_T70 l0_1 x2_4).f2⟩ : S70), (⟨0, 0, 0⟩ : S70), false⟩ : S92)] : List S92) 2 true, .sl 2 k92 A41_11 c41_11 (x2_3 ++ ([(⟨(⟨(rd_T70 l0_1 x2_4).f0, (rd_T70 l0_1 x2_4).f1, (rd_T70 l0_1 x2_4).f2⟩ : S70), (⟨0, 0, 0⟩ : S70), false⟩ : S92)] : List S92)) 1 true]) (by kernel_rfl) (sv (EV.as rfl) rfl (re (pr [1, 3, 4, 12, 13, 24, 25, 26, 27, 31] [0] [0, 1, 2, 4] rfl rfl rfl rfl (ge (rg (sv (EV.mv rfl) rfl (sv (EV.add rfl rfl) rfl (sv (EV.as rfl) rfl (re (wk [1, 3, 4] [0] [⟨3, 2, 1, true⟩, ⟨0, 0, 0, false⟩, ⟨1, 0, 0, false⟩, ⟨2, 0, 0, false⟩] (ih0 _ (by omega) _ ⟨x2_3 ++ ([(⟨(⟨(rd_T70 l0_1 x2_4).f0, (rd_T70 l0_1 x2_4).f1, (rd_T70 l0_1 x2_4).f2⟩ : S70), (⟨0, 0, 0⟩ : S70), false⟩ : S92)] : List S92), A41_11, c41_11, wrap64 (x2_4 + 1), x2_1_0, x2_1_4, H, rfl⟩)))))))))))))
    ·
     refine ts 27 rfl (dF c8) (sv (EV.fa 0 rfl) rfl (sv (EV.ld 0 none rfl rfl rfl) rfl (sv (EV.eql rfl rfl) rfl (sv (EV.pf rfl rfl rfl) rfl (sv (EV.pt rfl rfl rfl) rfl (re (pr [1, 3, 4, 12, 13, 24, 25, 26, 27, 28, 29, 30, 31, 32] [0] [0, 1, 2, 3] rfl rfl rfl rfl ?_)))))))
     revert H; refine ifsI ?_ ?_ <;> intro c12 H
     ·
      refine gt rfl (dT c12) (rg (sv (EV.mv rfl) rfl (sv (EV.fa 1 rfl) rfl (sv (EV.ld 0 none rfl rfl rfl) rfl (sv (EV.mv rfl) rfl (sv (EV.ix 1 rfl rfl rfl g5 c2 rfl) rfl (sv (EV.le (v := .agg #[.int .i64 ((rd_T70 l0_1 x2_4).f0), .int .i64 ((rd_T70 l0_1 x2_4).f1), .int .i64 ((rd_T70 l0_1 x2_4).f2)]) x2_4 0 (some 3) 1 z70 rfl rfl rfl g5 c2 rfl rfl rfl) rfl (sv (EV.bd (v := .agg #[.int .i64 ((rd_T70 l0_1 x2_4).f0), .int .i64 ((rd_T70 l0_1 x2_4).f1), .int .i64 ((rd_T70 l0_1 x2_4).f2), .int .i64 0, .int .i64 0, .int .i64 0, .bool false]) rfl (by kernel_rfl)) rfl (so rfl (op_lit (s := 7) (by_ := 56) k92 ([(⟨(⟨(rd_T70 l0_1 x2_4).f0, (rd_T70 l0_1 x2_4).f1, (rd_T70 l0_1 x2_4).f2⟩ : S70), (⟨0, 0, 0⟩ : S70), false⟩ : S92)] : List S92) [[]] [] 2 [.tmp 39] rfl rfl rfl rfl rfl rfl rfl rfl rfl rfl rfl rfl rfl dq rfl fun A40_13 c40_13 => ?_))))))))))
      revert H; refine ggI ?_; intro g14 H
      exact so rfl (op_app (k := k92) (s := 7) (by_ := 56) 0 4 rfl rfl rfl rfl (ap1 g14 dq) (ap1n g14 dq) (.inl rfl) true (fun _ => .inl rfl) rfl rfl fun A41_15 c41_15 => (nmE (en := [.sl 0 k70 Al0_1 cl0_1 l0_1 0 false, .sl 0 k70 Al0_2 cl0_2 l0_2 0 false, .sl 0 .bool Al0_3 cl0_3 l0_3 0 false, .sl 2 k92 A40_13 c40_13 ([(⟨(⟨(rd_T70 l0_1 x2_4).f0, (rd_T70 l0_1 x2_4).f1, (rd_T70 l0_1 x2_4).f2⟩ : S70), (⟨0, 0, 0⟩ : S70), false⟩ : S92)] : List S92) 2 true, .sl 2 k92 A41_15 c41_15 (x2_3 ++ ([(⟨(⟨(rd_T70 l0_1 x2_4).f0, (rd_T70 l0_1 x2_4).f1, (rd_T70 l0_1 x2_4).f2⟩ : S70), (⟨0, 0, 0⟩ : S70), false⟩ : S92)] : List S92)) 1 true]) (by kernel_rfl) (sv (EV.as rfl) rfl (re (pr [1, 3, 4, 12, 13, 24, 25, 26, 27, 28, 29, 30, 31] [0] [0, 1, 2, 4] rfl rfl rfl rfl (ge (rg (sv (EV.mv rfl) rfl (sv (EV.add rfl rfl) rfl (sv (EV.as rfl) rfl (re (wk [1, 3, 4] [0] [⟨3, 2, 1, true⟩, ⟨0, 0, 0, false⟩, ⟨1, 0, 0, false⟩, ⟨2, 0, 0, false⟩] (ih0 _ (by omega) _ ⟨x2_3 ++ ([(⟨(⟨(rd_T70 l0_1 x2_4).f0, (rd_T70 l0_1 x2_4).f1, (rd_T70 l0_1 x2_4).f2⟩ : S70), (⟨0, 0, 0⟩ : S70), false⟩ : S92)] : List S92), A41_15, c41_15, wrap64 (x2_4 + 1), x2_1_0, x2_1_4, H, rfl⟩)))))))))))))
     ·
      exact gf rfl (dF c12) (gk (ge (rg (sv (EV.mv rfl) rfl (sv (EV.add rfl rfl) rfl (sv (EV.as rfl) rfl (re (wk [1, 3, 4] [0] [⟨0, 2, 1, true⟩, ⟨1, 0, 0, false⟩, ⟨2, 0, 0, false⟩, ⟨3, 0, 0, false⟩] (ih0 _ (by omega) _ ⟨x2_3, Ax2_3, cx2_3, wrap64 (x2_4 + 1), x2_1_0, x2_1_4, H, rfl⟩)))))))))
  ·
   obtain rfl := bF c4
   refine gf rfl rfl (gx rfl (gs (rg (sv (EV.mv rfl) rfl (sv (EV.as rfl) rfl (re (pr [2] [] [0] rfl rfl rfl rfl ?_)))))))
   cases H
   exact rt Try.func30 rfl (.tmp rfl .nil) rfl [] [⟨0, 2, 1, true⟩] rfl rfl rfl rfl rfl ⟨_, _, rfl, rfl, rfl⟩
 ·
  refine ts 11 rfl (dF c2) (sk rfl (sk rfl (sv (EV.pf rfl rfl rfl) rfl (re (pr [1, 3, 4, 14] [0] [0, 1, 2, 3] rfl rfl rfl rfl (gf rfl rfl (gx rfl (gs (rg (sv (EV.mv rfl) rfl (sv (EV.as rfl) rfl (re ?_))))))))))))
  cases H
  exact rt Try.func30 rfl (.tmp rfl .nil) rfl [] [⟨0, 2, 1, true⟩] rfl rfl rfl rfl rfl ⟨_, _, rfl, rfl, rfl⟩
end Go.Proofs.Ytajjeemkdjfilaa.K
namespace Go.Proofs.Ytajjeemkdjfilaa.K
open Go Go.RowKit
set_option linter.unusedVariables false
set_option linter.unusedSimpArgs false
def spec_NewTask.f (k : Nat) (a0 : Int) (l1 : List S70) (l2 : List S70) : Option (Int × (List S70) × (List S70) × (List Bool) × Int × Bool) := (spec_IsValidJoinKind.f a0).bind fun t1 => (if t1 = true then ((spec_AreValidRows.f k l1).bind fun t3 => (if t3 = true then ((spec_AreValidRows.f k l2).bind fun t5 => (if t5 = true then (if l1.length ≤ 5864062014805 then (if l2.length ≤ 5864062014805 then (if 0 ≤ (l1.length : Int) then (if (l1.length : Int).toNat ≤ 140737488355328 then (some (a0, l1, l2, List.replicate (l1.length : Int).toNat false, 0, true)) else none) else none) else none) else none) else (some (0, [], [], [], 0, false)))) else (some (0, [], [], [], 0, false)))) else (some (0, [], [], [], 0, false)))
set_option maxHeartbeats 4000000 in
set_option maxRecDepth 100000 in
theorem spec_NewTask.ok (k : Nat) (a0 : Int) (l1 : List S70) (Al1 : Option Addr) (cl1 : Nat) (l2 : List S70) (Al2 : Option Addr) (cl2 : Nat) (r0 : Int) (r1 : List S70) (r2 : List S70) (r3 : List Bool) (r4 : Int) (r5 : Bool) (H : spec_NewTask.f k a0 l1 l2 = some (r0, r1, r2, r3, r4, r5)) : Fn Try.prog 90 [.int .i64 a0, .slice Al1 l1.length cl1, .slice Al2 l2.length cl2] [] [.sl 0 k70 Al1 cl1 l1 0 false, .sl 0 k70 Al2 cl2 l2 0 false] (fun v bx en => ∃ A1 c1 A2 c2 A3 c3, v = .tuple #[.agg #[.int .i64 r0, .slice A1 r1.length c1, .slice A2 r2.length c2, .slice A3 r3.length c3, .int .i64 r4], .bool r5] ∧ bx = [] ∧ en = [.sl 2 k70 A1 c1 r1 1 true, .sl 2 k70 A2 c2 r2 2 true, .sl 2 .bool A3 c3 r3 3 true]) := by
 refine fn_ 33 Try.func90 rfl rfl rfl (fun base T w0 => ?_)
 rw [spec_NewTask.f] at H
 refine gs (rg (so rfl (op_alloc (cs := [.int .i64 0, .slice none 0 0, .slice none 0 0, .slice none 0 0, .int .i64 0]) (by kernel_rfl) rfl fun b6 => (sv (EV.as rfl) rfl (re (gs (gs (rg (sv (EV.mv rfl) rfl ?_)))))))))
 revert H; refine bdI ?_; rintro t1 A1 H
 refine so rfl (op_call (spec_IsValidJoinKind.ok a0 _ A1) [] 1 rfl rfl rfl rfl rfl ?_)
 rintro _ _ _ ⟨rfl, rfl, rfl⟩
 refine sv (EV.nt rfl) rfl (sv (EV.mv rfl) rfl ?_)
 revert H; refine ifsI ?_ ?_ <;> intro c2 H
 ·
  subst c2
  refine ts 11 rfl rfl (sv (EV.mv rfl) rfl ?_)
  revert H; refine bdI ?_; rintro t3 A3 H
  refine so rfl (op_call (spec_AreValidRows.ok k l1 Al1 cl1 _ A3) [⟨0, 0, 0, false⟩] 1 rfl rfl rfl rfl rfl ?_)
  rintro _ _ _ ⟨rfl, rfl, rfl⟩
  refine sv (EV.nt rfl) rfl (sv (EV.pf rfl rfl rfl) rfl (sv (EV.mv rfl) rfl ?_))
  revert H; refine ifsI ?_ ?_ <;> intro c4 H
  ·
   subst c4
   refine ts 16 rfl rfl (sv (EV.mv rfl) rfl ?_)
   revert H; refine bdI ?_; rintro t5 A5 H
   refine so rfl (op_call (spec_AreValidRows.ok k l2 Al2 cl2 _ A5) [⟨1, 0, 0, false⟩] 1 rfl rfl rfl rfl rfl ?_)
   rintro _ _ _ ⟨rfl, rfl, rfl⟩
   refine sv (EV.nt rfl) rfl (sv (EV.pf rfl rfl rfl) rfl (re (pr [0, 1, 2, 6, 20] [0] [0, 1] rfl rfl rfl rfl ?_)))
   revert H; refine ifsI ?_ ?_ <;> intro c6 H
   ·
    subst c6
    refine gf rfl rfl (gk (gs ?_))
    revert H; refine ggI ?_; intro g7 H
    revert H; refine ggI ?_; intro g8 H
    revert H; refine ggI ?_; intro g9 H
    revert H; refine ggI ?_; intro g10 H
    refine dj (fun S => ∃ (A25_12 : Option Addr) (c25_12 : Nat) (A28_14 : Option Addr) (c28_14 : Nat) (A31_15 : Option Addr) (c31_15 : Nat), S = ⟨[(6, .pointer (some ⟨b6, 0, none⟩)), (7, .bool true)], [⟨b6, 44, [.int .i64 a0, .slice A25_12 l1.length c25_12, .slice A28_14 l2.length c28_14, .slice A31_15 (List.replicate (l1.length : Int).toNat false).length c31_15, .int .i64 0]⟩], [.sl 0 k70 Al1 cl1 l1 0 false, .sl 0 k70 Al2 cl2 l2 0 false, .sl 2 k70 A25_12 c25_12 l1 1 true, .sl 2 k70 A28_14 c28_14 l2 2 true, .sl 2 .bool A31_15 c31_15 (List.replicate (l1.length : Int).toNat false) 3 true]⟩) (fun S hS => ?_) (fun dj0 => ?_)
    ·
     obtain ⟨A25_12, c25_12, A28_14, c28_14, A31_15, c31_15, rfl⟩ := hS
     cases H
     exact rt Try.func90 rfl (.cell 0 (some 5) rfl rfl rfl (.tmp rfl .nil)) rfl [] [⟨2, 2, 1, true⟩, ⟨3, 2, 2, true⟩, ⟨4, 2, 3, true⟩] rfl rfl rfl rfl rfl ⟨_, _, _, _, _, _, rfl, rfl, rfl⟩
    ·
     refine dr [0] [0, 1] [11, 12] 13 rfl rfl rfl rfl (xv 0 [0] [0, 1] rfl (EV.mv rfl) rfl rfl rfl rfl (xv 2 [0] [0, 1] rfl (EV.mv rfl) rfl rfl rfl rfl (xv 5 [0] [0, 1] rfl (EV.mv rfl) rfl rfl rfl rfl (xv 7 [0] [0, 1] rfl (EV.mv rfl) rfl rfl rfl rfl (xv 8 [0] [0, 1] rfl (EV.ln rfl) rfl rfl rfl rfl ?_)))))
     refine dl 3 #[true, true, true, true, true, true, true, true, true, true, false, false, false] (fun S => ∃ (A25_12 : Option Addr) (c25_12 : Nat) (A28_14 : Option Addr) (c28_14 : Nat) (A31_15 : Option Addr) (c31_15 : Nat), S = ⟨[(6, .pointer (some ⟨b6, 0, none⟩)), (22, .int .i64 a0), (25, .slice A25_12 l1.length c25_12), (28, .slice A28_14 l2.length c28_14), (31, .slice A31_15 (List.replicate (l1.length : Int).toNat false).length c31_15)], [⟨b6, 44, [.int .i64 0, .slice none 0 0, .slice none 0 0, .slice none 0 0, .int .i64 0]⟩], [.sl 0 k70 Al1 cl1 l1 0 false, .sl 0 k70 Al2 cl2 l2 0 false, .sl 2 k70 A25_12 c25_12 l1 1 true, .sl 2 k70 A28_14 c28_14 l2 2 true, .sl 2 .bool A31_15 c31_15 (List.replicate (l1.length : Int).toNat false) 3 true]⟩) (fun S hS => ?_) (fun hn0 => ?_)
     ·
      obtain ⟨A25_12, c25_12, A28_14, c28_14, A31_15, c31_15, rfl⟩ := hS
      exact one1 10 rfl rfl (ov (EV.bd (v := .agg #[.int .i64 a0, .slice A25_12 l1.length c25_12, .slice A28_14 l2.length c28_14, .slice A31_15 (List.replicate (l1.length : Int).toNat false).length c31_15, .int .i64 0]) rfl (by kernel_rfl)) rfl (xs [0] [0, 1] rfl rfl rfl (one1 11 rfl rfl (op_st (cs' := [.int .i64 a0, .slice A25_12 l1.length c25_12, .slice A28_14 l2.length c28_14, .slice A31_15 (List.replicate (l1.length : Int).toNat false).length c31_15, .int .i64 0]) 0 rfl rfl rfl rfl rfl rfl (xn rfl (one1 12 rfl rfl (ov (EV.as rfl) rfl (xn rfl (xd (wk [6, 7] [0] [⟨0, 0, 0, false⟩, ⟨1, 0, 0, false⟩, ⟨2, 2, 1, true⟩, ⟨3, 2, 2, true⟩, ⟨4, 2, 3, true⟩] (dj0 _ ⟨A25_12, c25_12, A28_14, c28_14, A31_15, c31_15, rfl⟩)))))))))))
     refine dl 4 #[true, true, true, true, true, true, false, true, true, true, false, false, false] (fun S => ∃ (A25_12 : Option Addr) (c25_12 : Nat) (A26_13 : Option Addr) (c26_13 : Nat) (A31_16 : Option Addr) (c31_16 : Nat), S = ⟨[(6, .pointer (some ⟨b6, 0, none⟩)), (22, .int .i64 a0), (25, .slice A25_12 l1.length c25_12), (26, .slice A26_13 0 c26_13), (27, .slice Al2 l2.length cl2), (31, .slice A31_16 (List.replicate (l1.length : Int).toNat false).length c31_16)], [⟨b6, 44, [.int .i64 0, .slice none 0 0, .slice none 0 0, .slice none 0 0, .int .i64 0]⟩], [.sl 0 k70 Al1 cl1 l1 0 false, .sl 0 k70 Al2 cl2 l2 0 false, .sl 2 k70 A25_12 c25_12 l1 1 true, .sl 2 k70 A26_13 c26_13 [] 2 true, .sl 2 .bool A31_16 c31_16 (List.replicate (l1.length : Int).toNat false) 3 true]⟩) (fun S hS => ?_) (fun hn1 => ?_)
     ·
      obtain ⟨A25_12, c25_12, A26_13, c26_13, A31_16, c31_16, rfl⟩ := hS
      exact one1 6 rfl rfl (op_app (k := k70) (s := 3) (by_ := 24) 3 1 rfl rfl rfl rfl (ap0 g8 dq) (ap0n g8 dq) (.inl rfl) true (fun _ => .inl rfl) rfl rfl fun A28_11 c28_11 => (nmE (en := [.sl 0 k70 Al1 cl1 l1 0 false, .sl 0 k70 Al2 cl2 l2 0 false, .sl 2 k70 A25_12 c25_12 l1 1 true, .sl 2 .bool A31_16 c31_16 (List.replicate (l1.length : Int).toNat false) 3 true, .sl 2 k70 A28_11 c28_11 l2 2 true]) (by kernel_rfl) (xs [0] [0, 1] rfl rfl rfl (da (wk [6, 22, 25, 28, 31] [0] [⟨0, 0, 0, false⟩, ⟨1, 0, 0, false⟩, ⟨2, 2, 1, true⟩, ⟨4, 2, 2, true⟩, ⟨3, 2, 3, true⟩] (hn0 _ ⟨A25_12, c25_12, A28_11, c28_11, A31_16, c31_16, rfl⟩))))))
     refine dl 5 #[true, true, true, true, true, true, false, true, true, false, false, false, false] (fun S => ∃ (A25_12 : Option Addr) (c25_12 : Nat) (A26_13 : Option Addr) (c26_13 : Nat), S = ⟨[(6, .pointer (some ⟨b6, 0, none⟩)), (22, .int .i64 a0), (25, .slice A25_12 l1.length c25_12), (26, .slice A26_13 0 c26_13), (27, .slice Al2 l2.length cl2), (30, .int .i64 (l1.length : Int))], [⟨b6, 44, [.int .i64 0, .slice none 0 0, .slice none 0 0, .slice none 0 0, .int .i64 0]⟩], [.sl 0 k70 Al1 cl1 l1 0 false, .sl 0 k70 Al2 cl2 l2 0 false, .sl 2 k70 A25_12 c25_12 l1 1 true, .sl 2 k70 A26_13 c26_13 [] 2 true]⟩) (fun S hS => ?_) (fun hn2 => ?_)
     ·
      obtain ⟨A25_12, c25_12, A26_13, c26_13, rfl⟩ := hS
      refine one2 6 9 rfl rfl rfl rfl ?_ ?_
      ·
       exact op_app (k := k70) (s := 3) (by_ := 24) 3 1 rfl rfl rfl rfl (ap0 g8 dq) (ap0n g8 dq) (.inl rfl) true (fun _ => .inl rfl) rfl rfl fun A28_12 c28_12 => (nmE (en := [.sl 0 k70 Al1 cl1 l1 0 false, .sl 0 k70 Al2 cl2 l2 0 false, .sl 2 k70 A25_12 c25_12 l1 1 true, .sl 2 k70 A28_12 c28_12 l2 2 true]) (by kernel_rfl) (xs [0] [0, 1] rfl rfl rfl (one1 9 rfl rfl (op_mk (s := 1) (by_ := 1) .bool false 3 rfl rfl g9 (mk1 g10 dq) (mk2 g10 dq) mk42 rfl rfl dq rfl fun A31_13 c31_13 => (xs [0] [0, 1] rfl rfl rfl (da (wk [6, 22, 25, 28, 31] [0] [⟨0, 0, 0, false⟩, ⟨1, 0, 0, false⟩, ⟨2, 2, 1, true⟩, ⟨3, 2, 2, true⟩, ⟨4, 2, 3, true⟩] (hn0 _ ⟨A25_12, c25_12, A28_12, c28_12, A31_13, c31_13, rfl⟩))))))))
      ·
       exact op_mk (s := 1) (by_ := 1) .bool false 3 rfl rfl g9 (mk1 g10 dq) (mk2 g10 dq) mk42 rfl rfl dq rfl fun A31_14 c31_14 => (xs [0] [0, 1] rfl rfl rfl (da (wk [6, 22, 25, 26, 27, 31] [0] [⟨0, 0, 0, false⟩, ⟨1, 0, 0, false⟩, ⟨2, 2, 1, true⟩, ⟨3, 2, 2, true⟩, ⟨4, 2, 3, true⟩] (hn1 _ ⟨A25_12, c25_12, A26_13, c26_13, A31_14, c31_14, rfl⟩))))
     refine dl 5 #[true, true, true, true, false, true, false, true, true, true, false, false, false] (fun S => ∃ (A25_12 : Option Addr) (c25_12 : Nat) (A31_18 : Option Addr) (c31_18 : Nat), S = ⟨[(6, .pointer (some ⟨b6, 0, none⟩)), (22, .int .i64 a0), (25, .slice A25_12 l1.length c25_12), (27, .slice Al2 l2.length cl2), (31, .slice A31_18 (List.replicate (l1.length : Int).toNat false).length c31_18)], [⟨b6, 44, [.int .i64 0, .slice none 0 0, .slice none 0 0, .slice none 0 0, .int .i64 0]⟩], [.sl 0 k70 Al1 cl1 l1 0 false, .sl 0 k70 Al2 cl2 l2 0 false, .sl 2 k70 A25_12 c25_12 l1 1 true, .sl 2 .bool A31_18 c31_18 (List.replicate (l1.length : Int).toNat false) 2 true]⟩) (fun S hS => ?_) (fun hn3 => ?_)
     ·
      obtain ⟨A25_12, c25_12, A31_18, c31_18, rfl⟩ := hS
      exact one1 4 rfl rfl (op_lit (s := 3) (by_ := 24) k70 ([] : List S70) [] [] 3 [] rfl rfl rfl rfl rfl rfl rfl rfl rfl rfl rfl rfl rfl dq rfl fun A26_15 c26_15 => (xs [0] [0, 1] rfl rfl rfl (da (wk [6, 22, 25, 26, 27, 31] [0] [⟨0, 0, 0, false⟩, ⟨1, 0, 0, false⟩, ⟨2, 2, 1, true⟩, ⟨4, 2, 2, true⟩, ⟨3, 2, 3, true⟩] (hn1 _ ⟨A25_12, c25_12, A26_15, c26_15, A31_18, c31_18, rfl⟩)))))
     refine dl 5 #[true, true, true, false, true, true, false, true, true, true, false, false, false] (fun S => ∃ (A23_11 : Option Addr) (c23_11 : Nat) (A26_20 : Option Addr) (c26_20 : Nat) (A31_22 : Option Addr) (c31_22 : Nat), S = ⟨[(6, .pointer (some ⟨b6, 0, none⟩)), (22, .int .i64 a0), (23, .slice A23_11 0 c23_11), (24, .slice Al1 l1.length cl1), (26, .slice A26_20 0 c26_20), (27, .slice Al2 l2.length cl2), (31, .slice A31_22 (List.replicate (l1.length : Int).toNat false).length c31_22)], [⟨b6, 44, [.int .i64 0, .slice none 0 0, .slice none 0 0, .slice none 0 0, .int .i64 0]⟩], [.sl 0 k70 Al1 cl1 l1 0 false, .sl 0 k70 Al2 cl2 l2 0 false, .sl 2 k70 A23_11 c23_11 [] 1 true, .sl 2 k70 A26_20 c26_20 [] 2 true, .sl 2 .bool A31_22 c31_22 (List.replicate (l1.length : Int).toNat false) 3 true]⟩) (fun S hS => ?_) (fun hn4 => ?_)
     ·
      obtain ⟨A23_11, c23_11, A26_20, c26_20, A31_22, c31_22, rfl⟩ := hS
      exact one1 3 rfl rfl (op_app (k := k70) (s := 3) (by_ := 24) 2 0 rfl rfl rfl rfl (ap0 g7 dq) (ap0n g7 dq) (.inl rfl) true (fun _ => .inl rfl) rfl rfl fun A25_16 c25_16 => (nmE (en := [.sl 0 k70 Al1 cl1 l1 0 false, .sl 0 k70 Al2 cl2 l2 0 false, .sl 2 k70 A26_20 c26_20 [] 2 true, .sl 2 .bool A31_22 c31_22 (List.replicate (l1.length : Int).toNat false) 3 true, .sl 2 k70 A25_16 c25_16 l1 1 true]) (by kernel_rfl) (xs [0] [0, 1] rfl rfl rfl (da (wk [6, 22, 25, 26, 27, 31] [0] [⟨0, 0, 0, false⟩, ⟨1, 0, 0, false⟩, ⟨4, 2, 1, true⟩, ⟨2, 2, 2, true⟩, ⟨3, 2, 3, true⟩] (hn1 _ ⟨A25_16, c25_16, A26_20, c26_20, A31_22, c31_22, rfl⟩))))))
     refine dl 6 #[true, true, true, false, true, true, false, true, true, false, false, false, false] (fun S => ∃ (A23_11 : Option Addr) (c23_11 : Nat) (A26_20 : Option Addr) (c26_20 : Nat), S = ⟨[(6, .pointer (some ⟨b6, 0, none⟩)), (22, .int .i64 a0), (23, .slice A23_11 0 c23_11), (24, .slice Al1 l1.length cl1), (26, .slice A26_20 0 c26_20), (27, .slice Al2 l2.length cl2), (30, .int .i64 (l1.length : Int))], [⟨b6, 44, [.int .i64 0, .slice none 0 0, .slice none 0 0, .slice none 0 0, .int .i64 0]⟩], [.sl 0 k70 Al1 cl1 l1 0 false, .sl 0 k70 Al2 cl2 l2 0 false, .sl 2 k70 A23_11 c23_11 [] 1 true, .sl 2 k70 A26_20 c26_20 [] 2 true]⟩) (fun S hS => ?_) (fun hn5 => ?_)
     ·
      obtain ⟨A23_11, c23_11, A26_20, c26_20, rfl⟩ := hS
      refine one2 3 9 rfl rfl rfl rfl ?_ ?_
      ·
       exact op_app (k := k70) (s := 3) (by_ := 24) 2 0 rfl rfl rfl rfl (ap0 g7 dq) (ap0n g7 dq) (.inl rfl) true (fun _ => .inl rfl) rfl rfl fun A25_17 c25_17 => (nmE (en := [.sl 0 k70 Al1 cl1 l1 0 false, .sl 0 k70 Al2 cl2 l2 0 false, .sl 2 k70 A26_20 c26_20 [] 2 true, .sl 2 k70 A25_17 c25_17 l1 1 true]) (by kernel_rfl) (xs [0] [0, 1] rfl rfl rfl (da (wk [6, 22, 25, 26, 27, 30] [0] [⟨0, 0, 0, false⟩, ⟨1, 0, 0, false⟩, ⟨3, 2, 1, true⟩, ⟨2, 2, 2, true⟩] (hn2 _ ⟨A25_17, c25_17, A26_20, c26_20, rfl⟩)))))
      ·
       exact op_mk (s := 1) (by_ := 1) .bool false 3 rfl rfl g9 (mk1 g10 dq) (mk2 g10 dq) mk42 rfl rfl dq rfl fun A31_18 c31_18 => (xs [0] [0, 1] rfl rfl rfl (da (wk [6, 22, 23, 24, 26, 27, 31] [0] [⟨0, 0, 0, false⟩, ⟨1, 0, 0, false⟩, ⟨2, 2, 1, true⟩, ⟨3, 2, 2, true⟩, ⟨4, 2, 3, true⟩] (hn4 _ ⟨A23_11, c23_11, A26_20, c26_20, A31_18, c31_18, rfl⟩))))
     refine dl 6 #[true, true, true, false, false, true, false, true, true, true, false, false, false] (fun S => ∃ (A23_11 : Option Addr) (c23_11 : Nat) (A31_24 : Option Addr) (c31_24 : Nat), S = ⟨[(6, .pointer (some ⟨b6, 0, none⟩)), (22, .int .i64 a0), (23, .slice A23_11 0 c23_11), (24, .slice Al1 l1.length cl1), (27, .slice Al2 l2.length cl2), (31, .slice A31_24 (List.replicate (l1.length : Int).toNat false).length c31_24)], [⟨b6, 44, [.int .i64 0, .slice none 0 0, .slice none 0 0, .slice none 0 0, .int .i64 0]⟩], [.sl 0 k70 Al1 cl1 l1 0 false, .sl 0 k70 Al2 cl2 l2 0 false, .sl 2 k70 A23_11 c23_11 [] 1 true, .sl 2 .bool A31_24 c31_24 (List.replicate (l1.length : Int).toNat false) 2 true]⟩) (fun S hS => ?_) (fun hn6 => ?_)
     ·
      obtain ⟨A23_11, c23_11, A31_24, c31_24, rfl⟩ := hS
      refine one2 3 4 rfl rfl rfl rfl ?_ ?_
      ·
       exact op_app (k := k70) (s := 3) (by_ := 24) 2 0 rfl rfl rfl rfl (ap0 g7 dq) (ap0n g7 dq) (.inl rfl) true (fun _ => .inl rfl) rfl rfl fun A25_19 c25_19 => (nmE (en := [.sl 0 k70 Al1 cl1 l1 0 false, .sl 0 k70 Al2 cl2 l2 0 false, .sl 2 .bool A31_24 c31_24 (List.replicate (l1.length : Int).toNat false) 2 true, .sl 2 k70 A25_19 c25_19 l1 1 true]) (by kernel_rfl) (xs [0] [0, 1] rfl rfl rfl (da (wk [6, 22, 25, 27, 31] [0] [⟨0, 0, 0, false⟩, ⟨1, 0, 0, false⟩, ⟨3, 2, 1, true⟩, ⟨2, 2, 2, true⟩] (hn3 _ ⟨A25_19, c25_19, A31_24, c31_24, rfl⟩)))))
      ·
       exact op_lit (s := 3) (by_ := 24) k70 ([] : List S70) [] [] 3 [] rfl rfl rfl rfl rfl rfl rfl rfl rfl rfl rfl rfl rfl dq rfl fun A26_20 c26_20 => (xs [0] [0, 1] rfl rfl rfl (da (wk [6, 22, 23, 24, 26, 27, 31] [0] [⟨0, 0, 0, false⟩, ⟨1, 0, 0, false⟩, ⟨2, 2, 1, true⟩, ⟨4, 2, 2, true⟩, ⟨3, 2, 3, true⟩] (hn4 _ ⟨A23_11, c23_11, A26_20, c26_20, A31_24, c31_24, rfl⟩))))
     refine dl 6 #[true, false, true, false, true, true, false, true, true, true, false, false, false] (fun S => ∃ (A26_27 : Option Addr) (c26_27 : Nat) (A31_29 : Option Addr) (c31_29 : Nat), S = ⟨[(6, .pointer (some ⟨b6, 0, none⟩)), (22, .int .i64 a0), (24, .slice Al1 l1.length cl1), (26, .slice A26_27 0 c26_27), (27, .slice Al2 l2.length cl2), (31, .slice A31_29 (List.replicate (l1.length : Int).toNat false).length c31_29)], [⟨b6, 44, [.int .i64 0, .slice none 0 0, .slice none 0 0, .slice none 0 0, .int .i64 0]⟩], [.sl 0 k70 Al1 cl1 l1 0 false, .sl 0 k70 Al2 cl2 l2 0 false, .sl 2 k70 A26_27 c26_27 [] 1 true, .sl 2 .bool A31_29 c31_29 (List.replicate (l1.length : Int).toNat false) 2 true]⟩) (fun S hS => ?_) (fun hn7 => ?_)
     ·
      obtain ⟨A26_27, c26_27, A31_29, c31_29, rfl⟩ := hS
      exact one1 1 rfl rfl (op_lit (s := 3) (by_ := 24) k70 ([] : List S70) [] [] 3 [] rfl rfl rfl rfl rfl rfl rfl rfl rfl rfl rfl rfl rfl dq rfl fun A23_21 c23_21 => (xs [0] [0, 1] rfl rfl rfl (da (wk [6, 22, 23, 24, 26, 27, 31] [0] [⟨0, 0, 0, false⟩, ⟨1, 0, 0, false⟩, ⟨4, 2, 1, true⟩, ⟨2, 2, 2, true⟩, ⟨3, 2, 3, true⟩] (hn4 _ ⟨A23_21, c23_21, A26_27, c26_27, A31_29, c31_29, rfl⟩)))))
     refine one3 1 4 9 rfl rfl rfl rfl rfl rfl ?_ ?_ ?_
     ·
      refine op_lit (s := 3) (by_ := 24) k70 ([] : List S70) [] [] 1 [] rfl rfl rfl rfl rfl rfl rfl rfl rfl rfl rfl rfl rfl dq rfl fun A23_22 c23_22 => (xs [0] [0, 1] rfl rfl rfl ?_)
      refine one3 3 4 9 rfl rfl rfl rfl rfl rfl ?_ ?_ ?_
      ·
       refine op_app (k := k70) (s := 3) (by_ := 24) 2 0 rfl rfl rfl rfl (ap0 g7 dq) (ap0n g7 dq) (.inl rfl) true (fun _ => .inl rfl) rfl rfl fun A25_23 c25_23 => (nmE (en := [.sl 0 k70 Al1 cl1 l1 0 false, .sl 0 k70 Al2 cl2 l2 0 false, .sl 2 k70 A25_23 c25_23 l1 1 true]) (by kernel_rfl) (xs [0] [0, 1] rfl rfl rfl ?_))
       refine one2 4 9 rfl rfl rfl rfl ?_ ?_
       ·
        exact op_lit (s := 3) (by_ := 24) k70 ([] : List S70) [] [] 2 [] rfl rfl rfl rfl rfl rfl rfl rfl rfl rfl rfl rfl rfl dq rfl fun A26_24 c26_24 => (xs [0] [0, 1] rfl rfl rfl (da (wk [6, 22, 25, 26, 27, 30] [0] [⟨0, 0, 0, false⟩, ⟨1, 0, 0, false⟩, ⟨2, 2, 1, true⟩, ⟨3, 2, 2, true⟩] (hn2 _ ⟨A25_23, c25_23, A26_24, c26_24, rfl⟩))))
       ·
        exact op_mk (s := 1) (by_ := 1) .bool false 2 rfl rfl g9 (mk1 g10 dq) (mk2 g10 dq) mk42 rfl rfl dq rfl fun A31_25 c31_25 => (xs [0] [0, 1] rfl rfl rfl (da (wk [6, 22, 25, 27, 31] [0] [⟨0, 0, 0, false⟩, ⟨1, 0, 0, false⟩, ⟨2, 2, 1, true⟩, ⟨3, 2, 2, true⟩] (hn3 _ ⟨A25_23, c25_23, A31_25, c31_25, rfl⟩))))
      ·
       exact op_lit (s := 3) (by_ := 24) k70 ([] : List S70) [] [] 2 [] rfl rfl rfl rfl rfl rfl rfl rfl rfl rfl rfl rfl rfl dq rfl fun A26_26 c26_26 => (xs [0] [0, 1] rfl rfl rfl (da (wk [6, 22, 23, 24, 26, 27, 30] [0] [⟨0, 0, 0, false⟩, ⟨1, 0, 0, false⟩, ⟨2, 2, 1, true⟩, ⟨3, 2, 2, true⟩] (hn5 _ ⟨A23_22, c23_22, A26_26, c26_26, rfl⟩))))
      ·
       exact op_mk (s := 1) (by_ := 1) .bool false 2 rfl rfl g9 (mk1 g10 dq) (mk2 g10 dq) mk42 rfl rfl dq rfl fun A31_27 c31_27 => (xs [0] [0, 1] rfl rfl rfl (da (wk [6, 22, 23, 24, 27, 31] [0] [⟨0, 0, 0, false⟩, ⟨1, 0, 0, false⟩, ⟨2, 2, 1, true⟩, ⟨3, 2, 2, true⟩] (hn6 _ ⟨A23_22, c23_22, A31_27, c31_27, rfl⟩))))
     ·
      refine op_lit (s := 3) (by_ := 24) k70 ([] : List S70) [] [] 1 [] rfl rfl rfl rfl rfl rfl rfl rfl rfl rfl rfl rfl rfl dq rfl fun A26_28 c26_28 => (xs [0] [0, 1] rfl rfl rfl ?_)
      refine one2 1 9 rfl rfl rfl rfl ?_ ?_
      ·
       exact op_lit (s := 3) (by_ := 24) k70 ([] : List S70) [] [] 2 [] rfl rfl rfl rfl rfl rfl rfl rfl rfl rfl rfl rfl rfl dq rfl fun A23_29 c23_29 => (xs [0] [0, 1] rfl rfl rfl (da (wk [6, 22, 23, 24, 26, 27, 30] [0] [⟨0, 0, 0, false⟩, ⟨1, 0, 0, false⟩, ⟨3, 2, 1, true⟩, ⟨2, 2, 2, true⟩] (hn5 _ ⟨A23_29, c23_29, A26_28, c26_28, rfl⟩))))
      ·
       exact op_mk (s := 1) (by_ := 1) .bool false 2 rfl rfl g9 (mk1 g10 dq) (mk2 g10 dq) mk42 rfl rfl dq rfl fun A31_30 c31_30 => (xs [0] [0, 1] rfl rfl rfl (da (wk [6, 22, 24, 26, 27, 31] [0] [⟨0, 0, 0, false⟩, ⟨1, 0, 0, false⟩, ⟨2, 2, 1, true⟩, ⟨3, 2, 2, true⟩] (hn7 _ ⟨A26_28, c26_28, A31_30, c31_30, rfl⟩))))
     ·
      refine op_mk (s := 1) (by_ := 1) .bool false 1 rfl rfl g9 (mk1 g10 dq) (mk2 g10 dq) mk42 rfl rfl dq rfl fun A31_31 c31_31 => (xs [0] [0, 1] rfl rfl rfl ?_)
      refine one2 1 4 rfl rfl rfl rfl ?_ ?_
      ·
       exact op_lit (s := 3) (by_ := 24) k70 ([] : List S70) [] [] 2 [] rfl rfl rfl rfl rfl rfl rfl rfl rfl rfl rfl rfl rfl dq rfl fun A23_32 c23_32 => (xs [0] [0, 1] rfl rfl rfl (da (wk [6, 22, 23, 24, 27, 31] [0] [⟨0, 0, 0, false⟩, ⟨1, 0, 0, false⟩, ⟨3, 2, 1, true⟩, ⟨2, 2, 2, true⟩] (hn6 _ ⟨A23_32, c23_32, A31_31, c31_31, rfl⟩))))
      ·
       exact op_lit (s := 3) (by_ := 24) k70 ([] : List S70) [] [] 2 [] rfl rfl rfl rfl rfl rfl rfl rfl rfl rfl rfl rfl rfl dq rfl fun A26_33 c26_33 => (xs [0] [0, 1] rfl rfl rfl (da (wk [6, 22, 24, 26, 27, 31] [0] [⟨0, 0, 0, false⟩, ⟨1, 0, 0, false⟩, ⟨3, 2, 1, true⟩, ⟨2, 2, 2, true⟩] (hn7 _ ⟨A26_33, c26_33, A31_31, c31_31, rfl⟩))))
   ·
    obtain rfl := bF c6
    refine gt rfl rfl (gs (rg (sv (EV.bd (v := .agg #[.int .i64 0, .slice none 0 0, .slice none 0 0, .slice none 0 0, .int .i64 0]) rfl (by kernel_rfl)) rfl (so rfl (op_st (cs' := [.int .i64 0, .slice none 0 0, .slice none 0 0, .slice none 0 0, .int .i64 0]) 0 rfl rfl rfl rfl rfl rfl (sv (EV.as rfl) rfl (re (nil_ k70 1 dq (nil_ k70 2 dq (nil_ .bool 3 dq ?_))))))))))
    cases H
    exact rt Try.func90 rfl (.cell 0 (some 5) rfl rfl rfl (.tmp rfl .nil)) rfl [] [⟨2, 2, 1, true⟩, ⟨3, 2, 2, true⟩, ⟨4, 2, 3, true⟩] rfl rfl rfl rfl rfl ⟨_, _, _, _, _, _, rfl, rfl, rfl⟩
  ·
   obtain rfl := bF c4
   refine ts 16 rfl rfl (sk rfl (sk rfl (sk rfl (sv (EV.pt rfl rfl rfl) rfl (re (pr [0, 1, 2, 6, 20] [0] [0, 1] rfl rfl rfl rfl (gt rfl rfl (gs (rg (sv (EV.bd (v := .agg #[.int .i64 0, .slice none 0 0, .slice none 0 0, .slice none 0 0, .int .i64 0]) rfl (by kernel_rfl)) rfl (so rfl (op_st (cs' := [.int .i64 0, .slice none 0 0, .slice none 0 0, .slice none 0 0, .int .i64 0]) 0 rfl rfl rfl rfl rfl rfl (sv (EV.as rfl) rfl (re (nil_ k70 1 dq (nil_ k70 2 dq (nil_ .bool 3 dq ?_)))))))))))))))))
   cases H
   exact rt Try.func90 rfl (.cell 0 (some 5) rfl rfl rfl (.tmp rfl .nil)) rfl [] [⟨2, 2, 1, true⟩, ⟨3, 2, 2, true⟩, ⟨4, 2, 3, true⟩] rfl rfl rfl rfl rfl ⟨_, _, _, _, _, _, rfl, rfl, rfl⟩
 ·
  obtain rfl := bF c2
  refine ts 11 rfl rfl (sk rfl (sk rfl (sk rfl (sv (EV.pt rfl rfl rfl) rfl (sv (EV.mv rfl) rfl (sk rfl (sk rfl (sk rfl (sv (EV.pt rfl rfl rfl) rfl (re (pr [0, 1, 2, 6, 20] [0] [0, 1] rfl rfl rfl rfl (gt rfl rfl (gs (rg (sv (EV.bd (v := .agg #[.int .i64 0, .slice none 0 0, .slice none 0 0, .slice none 0 0, .int .i64 0]) rfl (by kernel_rfl)) rfl (so rfl (op_st (cs' := [.int .i64 0, .slice none 0 0, .slice none 0 0, .slice none 0 0, .int .i64 0]) 0 rfl rfl rfl rfl rfl rfl (sv (EV.as rfl) rfl (re (nil_ k70 1 dq (nil_ k70 2 dq (nil_ .bool 3 dq ?_))))))))))))))))))))))
  cases H
  exact rt Try.func90 rfl (.cell 0 (some 5) rfl rfl rfl (.tmp rfl .nil)) rfl [] [⟨2, 2, 1, true⟩, ⟨3, 2, 2, true⟩, ⟨4, 2, 3, true⟩] rfl rfl rfl rfl rfl ⟨_, _, _, _, _, _, rfl, rfl, rfl⟩
end Go.Proofs.Ytajjeemkdjfilaa.K
namespace Go.Proofs.Ytajjeemkdjfilaa.K
open Go Go.RowKit
set_option linter.unusedVariables false
set_option linter.unusedSimpArgs false
def spec_BlockNestedLoopJoin.l0 : Nat → Int → (List S92) → Int → (List S70) → Int → (List S70) → (List S70) → (List Bool) → Int → Option ((List S92) × Int × Bool)
 | 0, _, _, _, _, _, _, _, _, _ => none
 | k + 1, x4_3, x4_13, x4_14, x4_15, x4_11_0, x4_11_1, x4_11_2, x4_11_3, x4_11_4 => if (x4_15.length : Int) > 0 then ((spec_NextChunk.f k x4_15 x4_3).bind fun bt7 => ((spec_JoinChunk.f k x4_11_0 x4_11_1 x4_11_2 x4_11_3 x4_11_4 bt7.1).bind fun bt8 => (if x4_13.length + bt8.1.length ≤ 2513169434916 then (spec_BlockNestedLoopJoin.l0 k x4_3 (x4_13 ++ bt8.1) (wrap64 (x4_14 + 1)) bt7.2 bt8.2.1 bt8.2.2.1 bt8.2.2.2.1 bt8.2.2.2.2.1 bt8.2.2.2.2.2) else none))) else ((spec_UnmatchedRows.f k x4_11_0 x4_11_1 x4_11_2 x4_11_3 x4_11_4).bind fun t11 => (if x4_13.length + t11.length ≤ 2513169434916 then (some (x4_13 ++ t11, x4_14, true)) else none))
def spec_BlockNestedLoopJoin.f (k : Nat) (a0 : Int) (l1 : List S70) (l2 : List S70) (a3 : Int) : Option ((List S92) × Int × Bool) := (spec_NewTask.f k a0 l1 l2).bind fun bt1 => (if bt1.2.2.2.2.2 = true then ((spec_l1In.f a3 8 60).bind fun t3 => (if t3 = true then (spec_BlockNestedLoopJoin.l0 k a3 [] 0 l2 bt1.1 bt1.2.1 bt1.2.2.1 bt1.2.2.2.1 bt1.2.2.2.2.1) else (some ([], 0, false)))) else (some ([], 0, false)))
set_option maxHeartbeats 4000000 in
set_option maxRecDepth 100000 in
theorem spec_BlockNestedLoopJoin.ok (k : Nat) (a0 : Int) (l1 : List S70) (Al1 : Option Addr) (cl1 : Nat) (l2 : List S70) (Al2 : Option Addr) (cl2 : Nat) (a3 : Int) (r0 : List S92) (r1 : Int) (r2 : Bool) (H : spec_BlockNestedLoopJoin.f k a0 l1 l2 a3 = some (r0, r1, r2)) : Fn Try.prog 40 [.int .i64 a0, .slice Al1 l1.length cl1, .slice Al2 l2.length cl2, .int .i64 a3] [] [.sl 0 k70 Al1 cl1 l1 0 false, .sl 0 k70 Al2 cl2 l2 0 false] (fun v bx en => ∃ A0 c0, v = .tuple #[.slice A0 r0.length c0, .int .i64 r1, .bool r2] ∧ bx = [] ∧ en = [.sl 2 k92 A0 c0 r0 1 true]) := by
 refine fn_ 64 Try.func40 rfl rfl rfl (fun base T w0 => ?_)
 rw [spec_BlockNestedLoopJoin.f] at H
 refine gs (rg (sv (EV.as rfl) rfl (sv (EV.as rfl) rfl (sv (EV.as rfl) rfl (re (gs (rg (sv (EV.mv rfl) rfl (sv (EV.mv rfl) rfl (sv (EV.mv rfl) rfl ?_))))))))))
 revert H; refine bdI ?_; rintro ⟨t1_0, t1_1, t1_2, t1_3, t1_4, t1_5⟩ A1 H
 refine so rfl (op_call (spec_NewTask.ok k a0 l1 Al1 cl1 l2 Al2 cl2 _ _ _ _ _ _ A1) [⟨0, 0, 0, false⟩, ⟨1, 0, 0, false⟩] 1 rfl rfl rfl rfl rfl ?_)
 rintro _ _ _ ⟨At1_1, ct1_1, At1_2, ct1_2, At1_3, ct1_3, rfl, rfl, rfl⟩
 refine sv (EV.mv rfl) rfl (sv (EV.ex rfl rfl) rfl (sv (EV.ex rfl rfl) rfl (so rfl (op_alloc (cs := [.int .i64 0, .slice none 0 0, .slice none 0 0, .slice none 0 0, .int .i64 0]) (by kernel_rfl) rfl fun b11 => (so rfl (op_st (cs' := [.int .i64 t1_0, .slice At1_1 t1_1.length ct1_1, .slice At1_2 t1_2.length ct1_2, .slice At1_3 t1_3.length ct1_3, .int .i64 t1_4]) 0 rfl rfl rfl rfl rfl rfl (sv (EV.as rfl) rfl (re (pr [2, 3, 11, 12] [0] [1, 2, 3, 4] rfl rfl rfl rfl (gs (gs (rg (sv (EV.mv rfl) rfl (sv (EV.nt rfl) rfl (sv (EV.mv rfl) rfl ?_)))))))))))))))
 revert H; refine ifsI ?_ ?_ <;> intro c2 H
 ·
  subst c2
  refine ts 29 rfl rfl (sv (EV.mv rfl) rfl ?_)
  revert H; refine bdI ?_; rintro t3 A3 H
  refine so rfl (op_call (spec_l1In.ok a3 8 60 _ A3) [] 5 rfl rfl rfl rfl rfl ?_)
  rintro _ _ _ ⟨rfl, rfl, rfl⟩
  refine sv (EV.nt rfl) rfl (sv (EV.pf rfl rfl rfl) rfl (re (pr [2, 3, 11, 33] [0] [0, 1, 2, 3] rfl rfl rfl rfl ?_)))
  revert H; refine ifsI ?_ ?_ <;> intro c4 H
  ·
   subst c4
   refine gf rfl rfl (gk (gs (rg (so rfl (op_lit (s := 7) (by_ := 56) k92 ([] : List S92) [] [] 5 [] rfl rfl rfl rfl rfl rfl rfl rfl rfl rfl rfl rfl rfl dq rfl fun A35_5 c35_5 => (sv (EV.as rfl) rfl (re (gs (rg (sv (EV.as rfl) rfl (re (gs (gs (rg (sv (EV.mv rfl) rfl (sv (EV.as rfl) rfl (re (gb ?_))))))))))))))))))
   refine lo (fun kk S => ∃ (x4_3 : Int) (x4_13 : List S92) (Ax4_13 : Option Addr) (cx4_13 : Nat) (x4_14 : Int) (x4_15 : List S70) (Ax4_15 : Option Addr) (cx4_15 : Nat) (x4_11_0 : Int) (x4_11_1 : List S70) (Ax4_11_1 : Option Addr) (cx4_11_1 : Nat) (x4_11_2 : List S70) (Ax4_11_2 : Option Addr) (cx4_11_2 : Nat) (x4_11_3 : List Bool) (Ax4_11_3 : Option Addr) (cx4_11_3 : Nat) (x4_11_4 : Int), spec_BlockNestedLoopJoin.l0 kk x4_3 x4_13 x4_14 x4_15 x4_11_0 x4_11_1 x4_11_2 x4_11_3 x4_11_4 = some (r0, r1, r2) ∧ S = ⟨[(3, .int .i64 x4_3), (11, .pointer (some ⟨b11, 0, none⟩)), (13, .slice Ax4_13 x4_13.length cx4_13), (14, .int .i64 x4_14), (15, .slice Ax4_15 x4_15.length cx4_15)], [⟨b11, 44, [.int .i64 x4_11_0, .slice Ax4_11_1 x4_11_1.length cx4_11_1, .slice Ax4_11_2 x4_11_2.length cx4_11_2, .slice Ax4_11_3 x4_11_3.length cx4_11_3, .int .i64 x4_11_4]⟩], [.sl 2 k92 Ax4_13 cx4_13 x4_13 1 true, .sl 0 k70 Ax4_15 cx4_15 x4_15 0 false, .sl 2 k70 Ax4_11_1 cx4_11_1 x4_11_1 2 true, .sl 2 k70 Ax4_11_2 cx4_11_2 x4_11_2 3 true, .sl 2 .bool Ax4_11_3 cx4_11_3 x4_11_3 4 true]⟩) (fun S hS => ?_) (fun n0 ih0 S hS => ?_) ⟨a3, [], A35_5, c35_5, 0, l2, Al2, cl2, t1_0, t1_1, At1_1, ct1_1, t1_2, At1_2, ct1_2, t1_3, At1_3, ct1_3, t1_4, H, rfl⟩ (fun h => wk [3, 11, 13, 14, 15] [0] [⟨4, 2, 1, true⟩, ⟨0, 0, 0, false⟩, ⟨1, 2, 2, true⟩, ⟨2, 2, 3, true⟩, ⟨3, 2, 4, true⟩] h)
   · clear H; obtain ⟨_, _, _, _, _, _, _, _, _, _, _, _, _, _, _, _, _, _, _, H, _⟩ := hS; rw [spec_BlockNestedLoopJoin.l0] at H; cases H
   clear H
   obtain ⟨x4_3, x4_13, Ax4_13, cx4_13, x4_14, x4_15, Ax4_15, cx4_15, x4_11_0, x4_11_1, Ax4_11_1, cx4_11_1, x4_11_2, Ax4_11_2, cx4_11_2, x4_11_3, Ax4_11_3, cx4_11_3, x4_11_4, H, rfl⟩ := hS
   rw [spec_BlockNestedLoopJoin.l0] at H
   refine gs (gs (rg (sv (EV.mv rfl) rfl (sv (EV.ln rfl) rfl (sv (EV.gtr rfl rfl) rfl (re ?_))))))
   revert H; refine ifsI ?_ ?_ <;> intro c6 H
   ·
    refine gt rfl (dT c6) (gk (gs (gb (gs (rg (sv (EV.mv rfl) rfl (sv (EV.mv rfl) rfl ?_)))))))
    revert H; refine bdI ?_; rintro ⟨t7_0, t7_1⟩ A7 H
    refine so rfl (op_call (spec_NextChunk.ok n0 x4_15 Ax4_15 cx4_15 x4_3 _ _ A7) [⟨1, 0, 0, false⟩] 5 rfl rfl rfl rfl rfl ?_)
    rintro _ _ _ ⟨At7_0, ct7_0, At7_1, ct7_1, rfl, rfl, rfl⟩
    refine sv (EV.mv rfl) rfl (sv (EV.ex rfl rfl) rfl (sv (EV.ex rfl rfl) rfl (sv (EV.as rfl) rfl (sv (EV.as rfl) rfl (re (pr [3, 11, 13, 14, 16, 17] [0] [0, 2, 3, 4, 5, 6] rfl rfl rfl rfl (gs (rg (sv (EV.ld (v := .agg #[.int .i64 x4_11_0, .slice Ax4_11_1 x4_11_1.length cx4_11_1, .slice Ax4_11_2 x4_11_2.length cx4_11_2, .slice Ax4_11_3 x4_11_3.length cx4_11_3, .int .i64 x4_11_4]) 0 (some 5) rfl rfl rfl) rfl (sv (EV.mv rfl) rfl ?_))))))))))
    revert H; refine bdI ?_; rintro ⟨t8_0, t8_1, t8_2, t8_3, t8_4, t8_5⟩ A8 H
    refine so rfl (op_call (spec_JoinChunk.ok n0 x4_11_0 x4_11_1 Ax4_11_1 cx4_11_1 x4_11_2 Ax4_11_2 cx4_11_2 x4_11_3 Ax4_11_3 cx4_11_3 x4_11_4 t7_0 At7_0 ct7_0 _ _ _ _ _ _ A8) [⟨1, 0, 0, false⟩, ⟨2, 0, 0, false⟩, ⟨3, 0, 0, false⟩, ⟨4, 0, 0, false⟩] 8 rfl rfl rfl rfl rfl ?_)
    rintro _ _ _ ⟨At8_0, ct8_0, At8_2, ct8_2, At8_3, ct8_3, At8_4, ct8_4, rfl, rfl, rfl⟩
    refine sv (EV.mv rfl) rfl (sv (EV.ex rfl rfl) rfl (sv (EV.ex rfl rfl) rfl (so rfl (op_alloc (cs := [.int .i64 0, .slice none 0 0, .slice none 0 0, .slice none 0 0, .int .i64 0]) (by kernel_rfl) rfl fun b19 => (sv (EV.as rfl) rfl (so rfl (op_st (cs' := [.int .i64 t8_1, .slice At8_2 t8_2.length ct8_2, .slice At8_3 t8_3.length ct8_3, .slice At8_4 t8_4.length ct8_4, .int .i64 t8_5]) 1 rfl rfl rfl rfl rfl rfl (re (pr [3, 11, 13, 14, 17, 18, 19] [0, 1] [0, 1, 2, 3, 5, 6, 7, 8, 9] rfl rfl rfl rfl (gs (rg (sv (EV.mv rfl) rfl (sv (EV.mv rfl) rfl ?_)))))))))))))
    revert H; refine ggI ?_; intro g9 H
    exact so rfl (op_app (k := k92) (s := 7) (by_ := 56) 0 5 rfl rfl rfl rfl (ap2 g9 dq) (ap2n g9 dq) (.inl rfl) true (fun _ => .inl rfl) rfl rfl fun A56_10 c56_10 => (nmE (en := [.sl 2 k70 Ax4_11_1 cx4_11_1 x4_11_1 2 true, .sl 2 k70 Ax4_11_2 cx4_11_2 x4_11_2 3 true, .sl 2 .bool Ax4_11_3 cx4_11_3 x4_11_3 4 true, .sl 2 k70 At7_1 ct7_1 t7_1 7 true, .sl 2 k92 At8_0 ct8_0 t8_0 9 true, .sl 2 k70 At8_2 ct8_2 t8_2 10 true, .sl 2 k70 At8_3 ct8_3 t8_3 11 true, .sl 2 .bool At8_4 ct8_4 t8_4 12 true, .sl 2 k92 A56_10 c56_10 (x4_13 ++ t8_0) 1 true]) (by kernel_rfl) (sv (EV.as rfl) rfl (re (gs (rg (sv (EV.ld (v := .agg #[.int .i64 t8_1, .slice At8_2 t8_2.length ct8_2, .slice At8_3 t8_3.length ct8_3, .slice At8_4 t8_4.length ct8_4, .int .i64 t8_5]) 1 (some 5) rfl rfl rfl) rfl (so rfl (op_st (cs' := [.int .i64 t8_1, .slice At8_2 t8_2.length ct8_2, .slice At8_3 t8_3.length ct8_3, .slice At8_4 t8_4.length ct8_4, .int .i64 t8_5]) 0 rfl rfl rfl rfl rfl rfl (re (pr [3, 11, 13, 14, 17] [0] [3, 5, 6, 7, 8] rfl rfl rfl rfl (rg (sv (EV.mv rfl) rfl (sv (EV.as rfl) rfl (re (ge (rg (sv (EV.mv rfl) rfl (sv (EV.add rfl rfl) rfl (sv (EV.as rfl) rfl (re (wk [3, 11, 13, 14, 15] [0] [⟨4, 2, 1, true⟩, ⟨0, 0, 0, false⟩, ⟨1, 2, 2, true⟩, ⟨2, 2, 3, true⟩, ⟨3, 2, 4, true⟩] (ih0 _ (by omega) _ ⟨x4_3, x4_13 ++ t8_0, A56_10, c56_10, wrap64 (x4_14 + 1), t7_1, At7_1, ct7_1, t8_1, t8_2, At8_2, ct8_2, t8_3, At8_3, ct8_3, t8_4, At8_4, ct8_4, t8_5, H, rfl⟩)))))))))))))))))))))))
   ·
    refine gf rfl (dF c6) (gx rfl (gs (rg (sv (EV.mv rfl) rfl (sv (EV.ld (v := .agg #[.int .i64 x4_11_0, .slice Ax4_11_1 x4_11_1.length cx4_11_1, .slice Ax4_11_2 x4_11_2.length cx4_11_2, .slice Ax4_11_3 x4_11_3.length cx4_11_3, .int .i64 x4_11_4]) 0 (some 5) rfl rfl rfl) rfl ?_)))))
    revert H; refine bdI ?_; rintro t11 A11 H
    refine so rfl (op_call (spec_UnmatchedRows.ok n0 x4_11_0 x4_11_1 Ax4_11_1 cx4_11_1 x4_11_2 Ax4_11_2 cx4_11_2 x4_11_3 Ax4_11_3 cx4_11_3 x4_11_4 _ A11) [⟨2, 0, 0, false⟩, ⟨3, 0, 0, false⟩, ⟨4, 0, 0, false⟩] 5 rfl rfl rfl rfl rfl ?_)
    rintro _ _ _ ⟨At11, ct11, rfl, rfl, rfl⟩
    revert H; refine ggI ?_; intro g12 H
    refine so rfl (op_app (k := k92) (s := 7) (by_ := 56) 0 5 rfl rfl rfl rfl (ap2 g12 dq) (ap2n g12 dq) (.inl rfl) true (fun _ => .inl rfl) rfl rfl fun A62_13 c62_13 => (nmE (en := [.sl 0 k70 Ax4_15 cx4_15 x4_15 0 false, .sl 2 k70 Ax4_11_1 cx4_11_1 x4_11_1 2 true, .sl 2 k70 Ax4_11_2 cx4_11_2 x4_11_2 3 true, .sl 2 .bool Ax4_11_3 cx4_11_3 x4_11_3 4 true, .sl 2 k92 At11 ct11 t11 6 true, .sl 2 k92 A62_13 c62_13 (x4_13 ++ t11) 1 true]) (by kernel_rfl) (sv (EV.mv rfl) rfl (sv (EV.as rfl) rfl (sv (EV.as rfl) rfl (sv (EV.as rfl) rfl (re (pr [8, 9, 10] [] [5] rfl rfl rfl rfl ?_))))))))
    cases H
    exact rt Try.func40 rfl (.tmp rfl (.tmp rfl (.tmp rfl .nil))) rfl [] [⟨0, 2, 1, true⟩] rfl rfl rfl rfl rfl ⟨_, _, rfl, rfl, rfl⟩
  ·
   obtain rfl := bF c4
   refine gt rfl rfl (gs (rg (so rfl (op_lit (s := 7) (by_ := 56) k92 ([] : List S92) [] [] 5 [] rfl rfl rfl rfl rfl rfl rfl rfl rfl rfl rfl rfl rfl dq rfl fun A34_14 c34_14 => (sv (EV.as rfl) rfl (sv (EV.as rfl) rfl (sv (EV.as rfl) rfl (re ?_))))))))
   cases H
   exact rt Try.func40 rfl (.tmp rfl (.tmp rfl (.tmp rfl .nil))) rfl [] [⟨4, 2, 1, true⟩] rfl rfl rfl rfl rfl ⟨_, _, rfl, rfl, rfl⟩
 ·
  obtain rfl := bF c2
  refine ts 29 rfl rfl (sk rfl (sk rfl (sk rfl (sv (EV.pt rfl rfl rfl) rfl (re (pr [2, 3, 11, 33] [0] [0, 1, 2, 3] rfl rfl rfl rfl (gt rfl rfl (gs (rg (so rfl (op_lit (s := 7) (by_ := 56) k92 ([] : List S92) [] [] 5 [] rfl rfl rfl rfl rfl rfl rfl rfl rfl rfl rfl rfl rfl dq rfl fun A34_15 c34_15 => (sv (EV.as rfl) rfl (sv (EV.as rfl) rfl (sv (EV.as rfl) rfl (re ?_)))))))))))))))
  cases H
  exact rt Try.func40 rfl (.tmp rfl (.tmp rfl (.tmp rfl .nil))) rfl [] [⟨4, 2, 1, true⟩] rfl rfl rfl rfl rfl ⟨_, _, rfl, rfl, rfl⟩
end Go.Proofs.Ytajjeemkdjfilaa.K
namespace Go.Proofs.Ytajjeemkdjfilaa.K
open Go Go.RowKit
set_option linter.unusedVariables false
set_option linter.unusedSimpArgs false
def laws_big.f (l0 : List Int) : Option (Bool) := some (decide ((l0.length : Int) > 1048576))
set_option maxHeartbeats 4000000 in
set_option maxRecDepth 100000 in
theorem laws_big.ok (l0 : List Int) (Al0 : Option Addr) (cl0 : Nat) (r0 : Bool) (H : laws_big.f l0 = some r0) : Fn Try.prog 9 [.slice Al0 l0.length cl0] [] [.sl 0 (.int .u8) Al0 cl0 l0 0 false] (fun v bx en => v = .bool r0 ∧ bx = [] ∧ en = []) := by
 refine fn_ 6 Try.func9 rfl rfl rfl (fun base T w0 => ?_)
 rw [laws_big.f] at H
 refine gs (rg (sv (EV.as rfl) rfl (re (gs (rg (sv (EV.mv rfl) rfl (sv (EV.ln rfl) rfl (sv (EV.gtr rfl rfl) rfl (sv (EV.as rfl) rfl (re ?_))))))))))
 cases H
 exact rt Try.func9 rfl (.tmp rfl .nil) rfl [] [] rfl rfl rfl rfl rfl ⟨rfl, rfl, rfl⟩
end Go.Proofs.Ytajjeemkdjfilaa.K
namespace Go.Proofs.Ytajjeemkdjfilaa.K
open Go Go.RowKit
set_option linter.unusedVariables false
set_option linter.unusedSimpArgs false
def laws_FnBlockNestedLoop.j0 : Nat → (List Int) → Option (Bool)
 | 0, _ => none
 | k + 1, l0 => (spec_DrawBlockNestedLoopJoin.f k l0).bind fun bt7 => ((impl_BlockNestedLoopJoin.f k bt7.1 bt7.2.1 bt7.2.2.1 bt7.2.2.2).bind fun bt8 => ((spec_BlockNestedLoopJoin.f k bt7.1 bt7.2.1 bt7.2.2.1 bt7.2.2.2).bind fun bt9 => (if (bt8.2.2 == bt9.2.2) = true then (if bt8.2.1 = bt9.2.1 then ((spec_EqualPairBags.f k bt8.1 bt9.1).bind fun t12 => (if t12 = true then (if bt8.2.2 = true then ((spec_ReferenceJoin.f k bt7.1 bt7.2.1 bt7.2.2.1).bind fun t15 => ((spec_EqualPairBags.f k bt8.1 t15).bind fun t16 => (if t16 = true then (some (decide (bt8.2.1 ≤ (bt7.2.2.1.length : Int)))) else (some false)))) else (some true)) else (some false))) else (some false)) else (some false))))
def laws_FnBlockNestedLoop.f (k : Nat) (l0 : List Int) : Option (Bool) := (laws_big.f l0).bind fun t1 => (if t1 = true then (some true) else ((spec_DrawNextChunk.f k l0).bind fun bt3 => ((impl_NextChunk.f k bt3.1 bt3.2).bind fun bt4 => ((spec_NextChunk.f k bt3.1 bt3.2).bind fun bt5 => ((laws_sameRows.f k bt4.1 bt5.1).bind fun t18 => (if t18 = true then ((laws_sameRows.f k bt4.2 bt5.2).bind fun t20 => (if t20 = true then (if bt4.1.length ≤ 5864062014805 then (if bt4.1.length + bt4.2.length ≤ 5864062014805 then ((laws_sameRows.f k (bt4.1 ++ bt4.2) bt3.1).bind fun t27 => (if t27 = true then (if (bt3.1.length : Int) > 0 then (if (bt4.1.length : Int) = 0 then (some false) else (if (bt4.1.length : Int) > 1 then ((spec_TotalCost.f k bt4.1).bind fun t32 => (if t32 > bt3.2 then (some false) else (laws_FnBlockNestedLoop.j0 k l0))) else (laws_FnBlockNestedLoop.j0 k l0))) else (if (bt4.1.length : Int) > 1 then ((spec_TotalCost.f k bt4.1).bind fun t35 => (if t35 > bt3.2 then (some false) else (laws_FnBlockNestedLoop.j0 k l0))) else (laws_FnBlockNestedLoop.j0 k l0))) else (some false))) else none) else none) else (some false))) else (some false)))))))
set_option maxHeartbeats 4000000 in
set_option maxRecDepth 100000 in
theorem laws_FnBlockNestedLoop.ok (k : Nat) (l0 : List Int) (Al0 : Option Addr) (cl0 : Nat) (r0 : Bool) (H : laws_FnBlockNestedLoop.f k l0 = some r0) : Fn Try.prog 5 [.slice Al0 l0.length cl0] [] [.sl 0 (.int .u8) Al0 cl0 l0 0 false] (fun v bx en => v = .bool r0 ∧ bx = [] ∧ en = []) := by
 refine fn_ 134 Try.func5 rfl rfl rfl (fun base T w0 => ?_)
 rw [laws_FnBlockNestedLoop.f] at H
 refine gs (rg (sv (EV.as rfl) rfl (re (gs (gs (rg (sv (EV.mv rfl) rfl ?_)))))))
 revert H; refine bdI ?_; rintro t1 A1 H
 refine so rfl (op_call (laws_big.ok l0 Al0 cl0 _ A1) [⟨0, 0, 0, false⟩] 1 rfl rfl rfl rfl rfl ?_)
 rintro _ _ _ ⟨rfl, rfl, rfl⟩
 refine re ?_
 revert H; refine ifsI ?_ ?_ <;> intro c2 H
 ·
  subst c2
  refine gt rfl rfl (gs (rg (sv (EV.as rfl) rfl (re ?_))))
  cases H
  exact rt Try.func5 rfl (.tmp rfl .nil) rfl [] [] rfl rfl rfl rfl rfl ⟨rfl, rfl, rfl⟩
 ·
  obtain rfl := bF c2
  refine gf rfl rfl (gk (gs (rg (sv (EV.mv rfl) rfl ?_))))
  revert H; refine bdI ?_; rintro ⟨t3_0, t3_1⟩ A3 H
  refine so rfl (op_call (spec_DrawNextChunk.ok k l0 Al0 cl0 _ _ A3) [⟨0, 0, 0, false⟩] 1 rfl rfl rfl rfl rfl ?_)
  rintro _ _ _ ⟨At3_0, ct3_0, rfl, rfl, rfl⟩
  refine sv (EV.mv rfl) rfl (sv (EV.ex rfl rfl) rfl (sv (EV.ex rfl rfl) rfl (sv (EV.as rfl) rfl (sv (EV.as rfl) rfl (re (pr [0, 3, 4] [] [0, 1] rfl rfl rfl rfl (gs (rg (sv (EV.mv rfl) rfl (sv (EV.mv rfl) rfl ?_))))))))))
  revert H; refine bdI ?_; rintro ⟨t4_0, t4_1⟩ A4 H
  refine so rfl (op_call (impl_NextChunk.ok k t3_0 At3_0 ct3_0 t3_1 _ _ A4) [⟨1, 0, 0, false⟩] 3 rfl rfl rfl rfl rfl ?_)
  rintro _ _ _ ⟨At4_0, ct4_0, At4_1, ct4_1, rfl, rfl, rfl⟩
  refine sv (EV.mv rfl) rfl (sv (EV.ex rfl rfl) rfl (sv (EV.ex rfl rfl) rfl (sv (EV.as rfl) rfl (sv (EV.as rfl) rfl (re (pr [0, 3, 4, 5, 6] [] [0, 1, 2, 3] rfl rfl rfl rfl (gs (rg (sv (EV.mv rfl) rfl (sv (EV.mv rfl) rfl ?_))))))))))
  revert H; refine bdI ?_; rintro ⟨t5_0, t5_1⟩ A5 H
  refine so rfl (op_call (spec_NextChunk.ok k t3_0 At3_0 ct3_0 t3_1 _ _ A5) [⟨1, 0, 0, false⟩] 6 rfl rfl rfl rfl rfl ?_)
  rintro _ _ _ ⟨At5_0, ct5_0, At5_1, ct5_1, rfl, rfl, rfl⟩
  refine sv (EV.mv rfl) rfl (sv (EV.ex rfl rfl) rfl (sv (EV.ex rfl rfl) rfl (sv (EV.as rfl) rfl (sv (EV.as rfl) rfl (re (pr [0, 3, 4, 5, 6, 7, 8] [] [0, 1, 2, 3, 4, 5] rfl rfl rfl rfl ?_))))))
  refine jo (fun S => ∃ (m : Nat), laws_FnBlockNestedLoop.j0 m l0 = some r0 ∧ S = ⟨[(0, .slice Al0 l0.length cl0)], [], [.sl 0 (.int .u8) Al0 cl0 l0 0 false]⟩) (fun S hS => ?_) (fun jh0 => ?_)
  ·
   clear H
   obtain ⟨m6, H, rfl⟩ := hS
   rcases m6 with _ | m6
   · rw [laws_FnBlockNestedLoop.j0] at H; cases H
   rw [laws_FnBlockNestedLoop.j0] at H
   refine gs (rg (sv (EV.mv rfl) rfl ?_))
   revert H; refine bdI ?_; rintro ⟨t7_0, t7_1, t7_2, t7_3⟩ A7 H
   refine so rfl (op_call (spec_DrawBlockNestedLoopJoin.ok m6 l0 Al0 cl0 _ _ _ _ A7) [⟨0, 0, 0, false⟩] 1 rfl rfl rfl rfl rfl ?_)
   rintro _ _ _ ⟨At7_1, ct7_1, At7_2, ct7_2, rfl, rfl, rfl⟩
   refine sv (EV.mv rfl) rfl (sv (EV.ex rfl rfl) rfl (sv (EV.ex rfl rfl) rfl (sv (EV.ex rfl rfl) rfl (sv (EV.ex rfl rfl) rfl (sv (EV.as rfl) rfl (sv (EV.as rfl) rfl (sv (EV.as rfl) rfl (sv (EV.as rfl) rfl (re (pr [9, 10, 11, 12] [] [1, 2] rfl rfl rfl rfl (gs (rg (sv (EV.mv rfl) rfl (sv (EV.mv rfl) rfl (sv (EV.mv rfl) rfl (sv (EV.mv rfl) rfl ?_))))))))))))))))
   revert H; refine bdI ?_; rintro ⟨t8_0, t8_1, t8_2⟩ A8 H
   refine so rfl (op_call (impl_BlockNestedLoopJoin.ok m6 t7_0 t7_1 At7_1 ct7_1 t7_2 At7_2 ct7_2 t7_3 _ _ _ A8) [⟨0, 0, 0, false⟩, ⟨1, 0, 0, false⟩] 4 rfl rfl rfl rfl rfl ?_)
   rintro _ _ _ ⟨At8_0, ct8_0, rfl, rfl, rfl⟩
   refine sv (EV.mv rfl) rfl (sv (EV.ex rfl rfl) rfl (sv (EV.ex rfl rfl) rfl (sv (EV.ex rfl rfl) rfl (sv (EV.as rfl) rfl (sv (EV.as rfl) rfl (sv (EV.as rfl) rfl (re (pr [9, 10, 11, 12, 13, 14, 15] [] [0, 1, 2] rfl rfl rfl rfl (gs (rg (sv (EV.mv rfl) rfl (sv (EV.mv rfl) rfl (sv (EV.mv rfl) rfl (sv (EV.mv rfl) rfl ?_))))))))))))))
   revert H; refine bdI ?_; rintro ⟨t9_0, t9_1, t9_2⟩ A9 H
   refine so rfl (op_call (spec_BlockNestedLoopJoin.ok m6 t7_0 t7_1 At7_1 ct7_1 t7_2 At7_2 ct7_2 t7_3 _ _ _ A9) [⟨0, 0, 0, false⟩, ⟨1, 0, 0, false⟩] 6 rfl rfl rfl rfl rfl ?_)
   rintro _ _ _ ⟨At9_0, ct9_0, rfl, rfl, rfl⟩
   refine sv (EV.mv rfl) rfl (sv (EV.ex rfl rfl) rfl (sv (EV.ex rfl rfl) rfl (sv (EV.ex rfl rfl) rfl (sv (EV.as rfl) rfl (sv (EV.as rfl) rfl (sv (EV.as rfl) rfl (re (pr [9, 10, 11, 13, 14, 15, 16, 17, 18] [] [0, 1, 2, 3] rfl rfl rfl rfl (gs (gs (rg (sv (EV.mv rfl) rfl (sv (EV.mv rfl) rfl (sv (EV.neb rfl rfl) rfl (sv (EV.mv rfl) rfl ?_)))))))))))))))
   revert H; refine ifsI ?_ ?_ <;> intro c10 H
   ·
    refine ts 107 rfl (bN c10) (sv (EV.mv rfl) rfl (sv (EV.mv rfl) rfl (sv (EV.neq rfl rfl) rfl (sv (EV.pf rfl rfl rfl) rfl (sv (EV.mv rfl) rfl ?_)))))
    revert H; refine ifsI ?_ ?_ <;> intro c11 H
    ·
     refine ts 112 rfl (nF c11) (sv (EV.mv rfl) rfl (sv (EV.mv rfl) rfl ?_))
     revert H; refine bdI ?_; rintro t12 A12 H
     refine so rfl (op_call (spec_EqualPairBags.ok m6 t8_0 At8_0 ct8_0 t9_0 At9_0 ct9_0 _ A12) [⟨2, 0, 0, false⟩, ⟨3, 0, 0, false⟩] 8 rfl rfl rfl rfl rfl ?_)
     rintro _ _ _ ⟨rfl, rfl, rfl⟩
     refine sv (EV.nt rfl) rfl (sv (EV.pf rfl rfl rfl) rfl (re (pr [9, 10, 11, 13, 14, 15, 117] [] [0, 1, 2] rfl rfl rfl rfl ?_)))
     revert H; refine ifsI ?_ ?_ <;> intro c13 H
     ·
      subst c13
      refine gf rfl rfl (gk (gs (rg (sv (EV.mv rfl) rfl (sv (EV.nt rfl) rfl (sv (EV.mv rfl) rfl ?_))))))
      revert H; refine ifsI ?_ ?_ <;> intro c14 H
      ·
       subst c14
       refine ts 120 rfl rfl (sv (EV.mv rfl) rfl (sv (EV.mv rfl) rfl (sv (EV.mv rfl) rfl (sv (EV.mv rfl) rfl ?_))))
       revert H; refine bdI ?_; rintro t15 A15 H
       refine so rfl (op_call (spec_ReferenceJoin.ok m6 t7_0 t7_1 At7_1 ct7_1 t7_2 At7_2 ct7_2 _ A15) [⟨0, 0, 0, false⟩, ⟨1, 0, 0, false⟩] 6 rfl rfl rfl rfl rfl ?_)
       rintro _ _ _ ⟨At15, ct15, rfl, rfl, rfl⟩
       revert H; refine bdI ?_; rintro t16 A16 H
       refine so rfl (op_call (spec_EqualPairBags.ok m6 t8_0 At8_0 ct8_0 t15 At15 ct15 _ A16) [⟨2, 0, 0, false⟩, ⟨3, 0, 0, false⟩] 8 rfl rfl rfl rfl rfl ?_)
       rintro _ _ _ ⟨rfl, rfl, rfl⟩
       refine sv (EV.mv rfl) rfl ?_
       revert H; refine ifsI ?_ ?_ <;> intro c17 H
       ·
        subst c17
        refine ts 127 rfl rfl (sv (EV.mv rfl) rfl (sv (EV.mv rfl) rfl (sv (EV.ln rfl) rfl (sv (EV.leq rfl rfl) rfl (sv (EV.pt rfl rfl rfl) rfl (sv (EV.pf rfl rfl rfl) rfl (sv (EV.as rfl) rfl (re (pr [2] [] [] rfl rfl rfl rfl ?_)))))))))
        cases H
        exact rt Try.func5 rfl (.tmp rfl .nil) rfl [] [] rfl rfl rfl rfl rfl ⟨rfl, rfl, rfl⟩
       ·
        obtain rfl := bF c17
        refine ts 127 rfl rfl (sk rfl (sk rfl (sk rfl (sk rfl (sv (EV.pf rfl rfl rfl) rfl (sv (EV.pf rfl rfl rfl) rfl (sv (EV.as rfl) rfl (re (pr [2] [] [] rfl rfl rfl rfl ?_)))))))))
        cases H
        exact rt Try.func5 rfl (.tmp rfl .nil) rfl [] [] rfl rfl rfl rfl rfl ⟨rfl, rfl, rfl⟩
      ·
       obtain rfl := bF c14
       refine ts 120 rfl rfl (sk rfl (sk rfl (sk rfl (sk rfl (sk rfl (sk rfl (sk rfl (sk rfl (sk rfl (sk rfl (sk rfl (sk rfl (sv (EV.pt rfl rfl rfl) rfl (sv (EV.as rfl) rfl (re (pr [2] [] [] rfl rfl rfl rfl ?_))))))))))))))))
       cases H
       exact rt Try.func5 rfl (.tmp rfl .nil) rfl [] [] rfl rfl rfl rfl rfl ⟨rfl, rfl, rfl⟩
     ·
      obtain rfl := bF c13
      refine gt rfl rfl (gs (rg (sv (EV.as rfl) rfl (re (pr [2] [] [] rfl rfl rfl rfl ?_)))))
      cases H
      exact rt Try.func5 rfl (.tmp rfl .nil) rfl [] [] rfl rfl rfl rfl rfl ⟨rfl, rfl, rfl⟩
    ·
     refine ts 112 rfl (nT c11) (sk rfl (sk rfl (sk rfl (sk rfl (sv (EV.pt rfl rfl rfl) rfl (re (pr [9, 10, 11, 13, 14, 15, 117] [] [0, 1, 2] rfl rfl rfl rfl (gt rfl rfl (gs (rg (sv (EV.as rfl) rfl (re (pr [2] [] [] rfl rfl rfl rfl ?_)))))))))))))
     cases H
     exact rt Try.func5 rfl (.tmp rfl .nil) rfl [] [] rfl rfl rfl rfl rfl ⟨rfl, rfl, rfl⟩
   ·
    refine ts 107 rfl (bM c10) (sk rfl (sk rfl (sk rfl (sv (EV.pt rfl rfl rfl) rfl (sv (EV.mv rfl) rfl (sk rfl (sk rfl (sk rfl (sk rfl (sv (EV.pt rfl rfl rfl) rfl (re (pr [9, 10, 11, 13, 14, 15, 117] [] [0, 1, 2] rfl rfl rfl rfl (gt rfl rfl (gs (rg (sv (EV.as rfl) rfl (re (pr [2] [] [] rfl rfl rfl rfl ?_))))))))))))))))))
    cases H
    exact rt Try.func5 rfl (.tmp rfl .nil) rfl [] [] rfl rfl rfl rfl rfl ⟨rfl, rfl, rfl⟩
  ·
   refine gs (rg (sv (EV.mv rfl) rfl (sv (EV.mv rfl) rfl ?_)))
   revert H; refine bdI ?_; rintro t18 A18 H
   refine so rfl (op_call (laws_sameRows.ok k t4_0 At4_0 ct4_0 t5_0 At5_0 ct5_0 _ A18) [⟨2, 0, 0, false⟩, ⟨4, 0, 0, false⟩] 9 rfl rfl rfl rfl rfl ?_)
   rintro _ _ _ ⟨rfl, rfl, rfl⟩
   refine sv (EV.nt rfl) rfl (sv (EV.mv rfl) rfl ?_)
   revert H; refine ifsI ?_ ?_ <;> intro c19 H
   ·
    subst c19
    refine ts 42 rfl rfl (sv (EV.mv rfl) rfl (sv (EV.mv rfl) rfl ?_))
    revert H; refine bdI ?_; rintro t20 A20 H
    refine so rfl (op_call (laws_sameRows.ok k t4_1 At4_1 ct4_1 t5_1 At5_1 ct5_1 _ A20) [⟨3, 0, 0, false⟩, ⟨5, 0, 0, false⟩] 9 rfl rfl rfl rfl rfl ?_)
    rintro _ _ _ ⟨rfl, rfl, rfl⟩
    refine sv (EV.nt rfl) rfl (sv (EV.pf rfl rfl rfl) rfl (sv (EV.mv rfl) rfl ?_))
    revert H; refine ifsI ?_ ?_ <;> intro c21 H
    ·
     subst c21
     refine ts 48 rfl rfl (so rfl (op_lit (s := 3) (by_ := 24) k70 ([] : List S70) [] [] 9 [] rfl rfl rfl rfl rfl rfl rfl rfl rfl rfl rfl rfl rfl dq rfl fun A49_22 c49_22 => (sv (EV.mv rfl) rfl ?_)))
     revert H; refine ggI ?_; intro g23 H
     refine so rfl (op_app (k := k70) (s := 3) (by_ := 24) 6 2 rfl rfl rfl rfl (ap0 g23 dq) (ap0n g23 dq) (.inl rfl) true (fun _ => .inl rfl) rfl rfl fun A51_24 c51_24 => (nmE (en := [.sl 0 (.int .u8) Al0 cl0 l0 0 false, .sl 2 k70 At3_0 ct3_0 t3_0 2 true, .sl 2 k70 At4_0 ct4_0 t4_0 4 true, .sl 2 k70 At4_1 ct4_1 t4_1 5 true, .sl 2 k70 At5_0 ct5_0 t5_0 7 true, .sl 2 k70 At5_1 ct5_1 t5_1 8 true, .sl 2 k70 A51_24 c51_24 t4_0 9 true]) (by kernel_rfl) (sv (EV.mv rfl) rfl ?_)))
     revert H; refine ggI ?_; intro g25 H
     refine so rfl (op_app (k := k70) (s := 3) (by_ := 24) 6 3 rfl rfl rfl rfl (ap2 g25 dq) (ap2n g25 dq) (.inl rfl) true (fun _ => .inl rfl) rfl rfl fun A53_26 c53_26 => (nmE (en := [.sl 0 (.int .u8) Al0 cl0 l0 0 false, .sl 2 k70 At3_0 ct3_0 t3_0 2 true, .sl 2 k70 At4_0 ct4_0 t4_0 4 true, .sl 2 k70 At4_1 ct4_1 t4_1 5 true, .sl 2 k70 At5_0 ct5_0 t5_0 7 true, .sl 2 k70 At5_1 ct5_1 t5_1 8 true, .sl 2 k70 A53_26 c53_26 (t4_0 ++ t4_1) 9 true]) (by kernel_rfl) (sv (EV.mv rfl) rfl ?_)))
     revert H; refine bdI ?_; rintro t27 A27 H
     refine so rfl (op_call (laws_sameRows.ok k (t4_0 ++ t4_1) A53_26 c53_26 t3_0 At3_0 ct3_0 _ A27) [⟨6, 0, 0, false⟩, ⟨1, 0, 0, false⟩] 10 rfl rfl rfl rfl rfl ?_)
     rintro _ _ _ ⟨rfl, rfl, rfl⟩
     refine sv (EV.nt rfl) rfl (sv (EV.pf rfl rfl rfl) rfl (sv (EV.mv rfl) rfl ?_))
     revert H; refine ifsI ?_ ?_ <;> intro c28 H
     ·
      subst c28
      refine ts 58 rfl rfl (sv (EV.mv rfl) rfl (sv (EV.ln rfl) rfl (sv (EV.gtr rfl rfl) rfl (sv (EV.mv rfl) rfl ?_))))
      revert H; refine ifsI ?_ ?_ <;> intro c29 H
      ·
       refine ts 62 rfl (dT c29) (sv (EV.mv rfl) rfl (sv (EV.ln rfl) rfl (sv (EV.eql rfl rfl) rfl (sv (EV.pt rfl rfl rfl) rfl (sv (EV.pf rfl rfl rfl) rfl (sv (EV.mv rfl) rfl ?_))))))
       revert H; refine ifsI ?_ ?_ <;> intro c30 H
       ·
        refine ts 68 rfl (dT c30) (sk rfl (sk rfl (sk rfl (sk rfl (sk rfl (sk rfl (sk rfl (sk rfl (sk rfl (sv (EV.pt rfl rfl rfl) rfl (re (pr [0, 78] [] [0] rfl rfl rfl rfl (gt rfl rfl (gs (rg (sv (EV.as rfl) rfl (re ?_)))))))))))))))))
        cases H
        exact rt Try.func5 rfl (.tmp rfl .nil) rfl [] [] rfl rfl rfl rfl rfl ⟨rfl, rfl, rfl⟩
       ·
        refine ts 68 rfl (dF c30) (sv (EV.mv rfl) rfl (sv (EV.ln rfl) rfl (sv (EV.gtr rfl rfl) rfl (sv (EV.mv rfl) rfl ?_))))
        revert H; refine ifsI ?_ ?_ <;> intro c31 H
        ·
         refine ts 72 rfl (dT c31) (sv (EV.mv rfl) rfl ?_)
         revert H; refine bdI ?_; rintro t32 A32 H
         refine so rfl (op_call (spec_TotalCost.ok k t4_0 At4_0 ct4_0 _ A32) [⟨2, 0, 0, false⟩] 10 rfl rfl rfl rfl rfl ?_)
         rintro _ _ _ ⟨rfl, rfl, rfl⟩
         refine sv (EV.mv rfl) rfl (sv (EV.gtr rfl rfl) rfl (sv (EV.pt rfl rfl rfl) rfl (sv (EV.pf rfl rfl rfl) rfl (re (pr [0, 78] [] [0] rfl rfl rfl rfl ?_)))))
         revert H; refine ifsI ?_ ?_ <;> intro c33 H
         ·
          refine gt rfl (dT c33) (gs (rg (sv (EV.as rfl) rfl (re ?_))))
          cases H
          exact rt Try.func5 rfl (.tmp rfl .nil) rfl [] [] rfl rfl rfl rfl rfl ⟨rfl, rfl, rfl⟩
         ·
          exact gf rfl (dF c33) (gk (wk [0] [] [⟨0, 0, 0, false⟩] (jh0 _ ⟨_, H, rfl⟩)))
        ·
         exact ts 72 rfl (dF c31) (sk rfl (sk rfl (sk rfl (sk rfl (sv (EV.pf rfl rfl rfl) rfl (sv (EV.pf rfl rfl rfl) rfl (re (pr [0, 78] [] [0] rfl rfl rfl rfl (gf rfl rfl (gk (wk [0] [] [⟨0, 0, 0, false⟩] (jh0 _ ⟨_, H, rfl⟩))))))))))))
      ·
       refine ts 62 rfl (dF c29) (sk rfl (sk rfl (sk rfl (sv (EV.pf rfl rfl rfl) rfl (sv (EV.pf rfl rfl rfl) rfl (sv (EV.mv rfl) rfl (sv (EV.mv rfl) rfl (sv (EV.ln rfl) rfl (sv (EV.gtr rfl rfl) rfl (sv (EV.mv rfl) rfl ?_))))))))))
       revert H; refine ifsI ?_ ?_ <;> intro c34 H
       ·
        refine ts 72 rfl (dT c34) (sv (EV.mv rfl) rfl ?_)
        revert H; refine bdI ?_; rintro t35 A35 H
        refine so rfl (op_call (spec_TotalCost.ok k t4_0 At4_0 ct4_0 _ A35) [⟨2, 0, 0, false⟩] 10 rfl rfl rfl rfl rfl ?_)
        rintro _ _ _ ⟨rfl, rfl, rfl⟩
        refine sv (EV.mv rfl) rfl (sv (EV.gtr rfl rfl) rfl (sv (EV.pt rfl rfl rfl) rfl (sv (EV.pf rfl rfl rfl) rfl (re (pr [0, 78] [] [0] rfl rfl rfl rfl ?_)))))
        revert H; refine ifsI ?_ ?_ <;> intro c36 H
        ·
         refine gt rfl (dT c36) (gs (rg (sv (EV.as rfl) rfl (re ?_))))
         cases H
         exact rt Try.func5 rfl (.tmp rfl .nil) rfl [] [] rfl rfl rfl rfl rfl ⟨rfl, rfl, rfl⟩
        ·
         exact gf rfl (dF c36) (gk (wk [0] [] [⟨0, 0, 0, false⟩] (jh0 _ ⟨_, H, rfl⟩)))
       ·
        exact ts 72 rfl (dF c34) (sk rfl (sk rfl (sk rfl (sk rfl (sv (EV.pf rfl rfl rfl) rfl (sv (EV.pf rfl rfl rfl) rfl (re (pr [0, 78] [] [0] rfl rfl rfl rfl (gf rfl rfl (gk (wk [0] [] [⟨0, 0, 0, false⟩] (jh0 _ ⟨_, H, rfl⟩))))))))))))
     ·
      obtain rfl := bF c28
      refine ts 58 rfl rfl (sk rfl (sk rfl (sk rfl (sk rfl (sk rfl (sk rfl (sk rfl (sk rfl (sv (EV.pt rfl rfl rfl) rfl (sv (EV.mv rfl) rfl (sk rfl (sk rfl (sk rfl (sk rfl (sk rfl (sk rfl (sk rfl (sk rfl (sk rfl (sv (EV.pt rfl rfl rfl) rfl (re (pr [0, 78] [] [0] rfl rfl rfl rfl (gt rfl rfl (gs (rg (sv (EV.as rfl) rfl (re ?_)))))))))))))))))))))))))))
      cases H
      exact rt Try.func5 rfl (.tmp rfl .nil) rfl [] [] rfl rfl rfl rfl rfl ⟨rfl, rfl, rfl⟩
    ·
     obtain rfl := bF c21
     refine ts 48 rfl rfl (sk rfl (sk rfl (sk rfl (sk rfl (sk rfl (sk rfl (sk rfl (sk rfl (sv (EV.pt rfl rfl rfl) rfl (sv (EV.mv rfl) rfl (sk rfl (sk rfl (sk rfl (sk rfl (sk rfl (sk rfl (sk rfl (sk rfl (sv (EV.pt rfl rfl rfl) rfl (sv (EV.mv rfl) rfl (sk rfl (sk rfl (sk rfl (sk rfl (sk rfl (sk rfl (sk rfl (sk rfl (sk rfl ?_)))))))))))))))))))))))))))))
     refine sv (EV.pt rfl rfl rfl) rfl (re (pr [0, 78] [] [0] rfl rfl rfl rfl (gt rfl rfl (gs (rg (sv (EV.as rfl) rfl (re ?_)))))))
     cases H
     exact rt Try.func5 rfl (.tmp rfl .nil) rfl [] [] rfl rfl rfl rfl rfl ⟨rfl, rfl, rfl⟩
   ·
    obtain rfl := bF c19
    refine ts 42 rfl rfl (sk rfl (sk rfl (sk rfl (sk rfl (sv (EV.pt rfl rfl rfl) rfl (sv (EV.mv rfl) rfl (sk rfl (sk rfl (sk rfl (sk rfl (sk rfl (sk rfl (sk rfl (sk rfl (sv (EV.pt rfl rfl rfl) rfl (sv (EV.mv rfl) rfl (sk rfl (sk rfl (sk rfl (sk rfl (sk rfl (sk rfl (sk rfl (sk rfl (sv (EV.pt rfl rfl rfl) rfl (sv (EV.mv rfl) rfl (sk rfl (sk rfl (sk rfl ?_)))))))))))))))))))))))))))))
    refine sk rfl (sk rfl (sk rfl (sk rfl (sk rfl (sk rfl (sv (EV.pt rfl rfl rfl) rfl (re (pr [0, 78] [] [0] rfl rfl rfl rfl (gt rfl rfl (gs (rg (sv (EV.as rfl) rfl (re ?_)))))))))))))
    cases H
    exact rt Try.func5 rfl (.tmp rfl .nil) rfl [] [] rfl rfl rfl rfl rfl ⟨rfl, rfl, rfl⟩
end Go.Proofs.Ytajjeemkdjfilaa.K
