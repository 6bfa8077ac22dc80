/- Walks: what the functions compute. Printed by gen.py; no condition. -/
import Derived.Test.YtoncjohnkiilcaaVFnExactRunGroupa
namespace Go.Proofs.Ytoncjohnkiilcaa.K
open Go Go.RowKit
set_option linter.unusedVariables false
set_option linter.unusedSimpArgs false
mutual
def slices_insertionSortCmpFunc_impl_Group_at93.l1 : Nat → (List S88) → Int → Int → Int → Int → Option ((List S88))
 | 0, _, _, _, _, _ => none
 | k + 1, x5_ml0, x5_1, x5_2, x5_8, x5_9 => if x5_9 > x5_1 then (if 0 ≤ x5_9 then (if x5_9 < (x5_ml0.length : Int) then (if 0 ≤ (wrap64 (x5_9 - 1)) then (if (wrap64 (x5_9 - 1)) < (x5_ml0.length : Int) then ((impl_MergeGroups_1.f ((rd_T88 x5_ml0 x5_9).f0) ((rd_T88 x5_ml0 x5_9).f1) ((rd_T88 x5_ml0 x5_9).f2) ((rd_T88 x5_ml0 x5_9).f3) ((rd_T88 x5_ml0 x5_9).f4) ((rd_T88 x5_ml0 (wrap64 (x5_9 - 1))).f0) ((rd_T88 x5_ml0 (wrap64 (x5_9 - 1))).f1) ((rd_T88 x5_ml0 (wrap64 (x5_9 - 1))).f2) ((rd_T88 x5_ml0 (wrap64 (x5_9 - 1))).f3) ((rd_T88 x5_ml0 (wrap64 (x5_9 - 1))).f4)).bind fun t7 => (if t7 < 0 then ((some (x5_ml0.set x5_9.toNat (⟨(rd_T88 x5_ml0 (wrap64 (x5_9 - 1))).f0, (rd_T88 x5_ml0 (wrap64 (x5_9 - 1))).f1, (rd_T88 x5_ml0 (wrap64 (x5_9 - 1))).f2, (rd_T88 x5_ml0 (wrap64 (x5_9 - 1))).f3, (rd_T88 x5_ml0 (wrap64 (x5_9 - 1))).f4⟩ : S88))).bind fun s9 => (if (wrap64 (x5_9 - 1)) < (s9.length : Int) then ((some (s9.set (wrap64 (x5_9 - 1)).toNat (⟨(rd_T88 x5_ml0 x5_9).f0, (rd_T88 x5_ml0 x5_9).f1, (rd_T88 x5_ml0 x5_9).f2, (rd_T88 x5_ml0 x5_9).f3, (rd_T88 x5_ml0 x5_9).f4⟩ : S88))).bind fun s11 => (slices_insertionSortCmpFunc_impl_Group_at93.l1 k s11 x5_1 x5_2 x5_8 (wrap64 (x5_9 - 1)))) else none)) else (slices_insertionSortCmpFunc_impl_Group_at93.l0 k x5_ml0 x5_1 x5_2 (wrap64 (x5_8 + 1))))) else none) else none) else none) else none) else (slices_insertionSortCmpFunc_impl_Group_at93.l0 k x5_ml0 x5_1 x5_2 (wrap64 (x5_8 + 1)))
def slices_insertionSortCmpFunc_impl_Group_at93.l0 : Nat → (List S88) → Int → Int → Int → Option ((List S88))
 | 0, _, _, _, _ => none
 | k + 1, x1_ml0, x1_1, x1_2, x1_8 => if x1_8 < x1_2 then (slices_insertionSortCmpFunc_impl_Group_at93.l1 k x1_ml0 x1_1 x1_2 x1_8 x1_8) else (some x1_ml0)
end
def slices_insertionSortCmpFunc_impl_Group_at93.f (k : Nat) (l0 : List S88) (a1 : Int) (a2 : Int) : Option ((List S88)) := slices_insertionSortCmpFunc_impl_Group_at93.l0 k l0 a1 a2 (wrap64 (a1 + 1))
set_option maxHeartbeats 4000000 in
set_option maxRecDepth 100000 in
theorem slices_insertionSortCmpFunc_impl_Group_at93.ok (k : Nat) (l0 : List S88) (Al0 : Option Addr) (cl0 : Nat) (a1 : Int) (a2 : Int) (r0 : List S88) (H : slices_insertionSortCmpFunc_impl_Group_at93.f k l0 a1 a2 = some r0) : Fn Try.prog 104 [.slice Al0 l0.length cl0, .int .i64 a1, .int .i64 a2, .func (.func 93) #[] #[]] [] [.sl 1 k88 Al0 cl0 l0 1 false] (fun v bx en => v = .tuple #[] ∧ bx = [] ∧ en = [.sl 1 k88 Al0 cl0 r0 1 false] ∧ r0.length = l0.length) := by
 refine fn_ 53 Try.func104 rfl rfl rfl (fun base T w0 => ?_)
 rw [slices_insertionSortCmpFunc_impl_Group_at93.f] at H
 refine gs (rg (sv (EV.mv rfl) rfl (sv (EV.add rfl rfl) rfl (sv (EV.as rfl) rfl (re (gb ?_))))))
 refine lo (fun kk S => ∃ (x1_ml0 : List S88) (x1_1 : Int) (x1_2 : Int) (x1_8 : Int), slices_insertionSortCmpFunc_impl_Group_at93.l0 kk x1_ml0 x1_1 x1_2 x1_8 = some r0 ∧ x1_ml0.length = l0.length ∧ S = ⟨[(0, .slice Al0 x1_ml0.length cl0), (1, .int .i64 x1_1), (2, .int .i64 x1_2), (3, .func (.func 93) #[] #[]), (8, .int .i64 x1_8)], [], [.sl 1 k88 Al0 cl0 x1_ml0 1 false]⟩) (fun S hS => ?_) (fun n0 ih0 S hS => ?_) ⟨l0, a1, a2, wrap64 (a1 + 1), H, (by first | rfl | assumption | omega | (simp only [List.length_set]; first | done | assumption | omega)), rfl⟩ (fun h => wk [0, 1, 2, 3, 8] [] [⟨0, 1, 1, false⟩] h)
 · clear H; obtain ⟨_, _, _, _, H, _⟩ := hS; rw [slices_insertionSortCmpFunc_impl_Group_at93.l0] at H; cases H
 clear H
 obtain ⟨x1_ml0, x1_1, x1_2, x1_8, H, ex1_ml0, rfl⟩ := hS
 rw [slices_insertionSortCmpFunc_impl_Group_at93.l0] at H
 refine gs (gs (rg (sv (EV.mv rfl) rfl (sv (EV.mv rfl) rfl (sv (EV.lss rfl rfl) rfl (re ?_))))))
 revert H; refine ifsI ?_ ?_ <;> intro c1 H
 ·
  refine gt rfl (dT c1) (gk (gs (gb (gs (rg (sv (EV.mv rfl) rfl (sv (EV.as rfl) rfl (re (gb ?_)))))))))
  refine lo (fun kk S => ∃ (x5_ml0 : List S88) (x5_1 : Int) (x5_2 : Int) (x5_8 : Int) (x5_9 : Int), kk ≤ n0 ∧ slices_insertionSortCmpFunc_impl_Group_at93.l1 kk x5_ml0 x5_1 x5_2 x5_8 x5_9 = some r0 ∧ x5_ml0.length = l0.length ∧ S = ⟨[(0, .slice Al0 x5_ml0.length cl0), (1, .int .i64 x5_1), (2, .int .i64 x5_2), (3, .func (.func 93) #[] #[]), (8, .int .i64 x5_8), (9, .int .i64 x5_9)], [], [.sl 1 k88 Al0 cl0 x5_ml0 1 false]⟩) (fun S hS => ?_) (fun n1 ih1 S hS => ?_) ⟨x1_ml0, x1_1, x1_2, x1_8, x1_8, by omega, H, (by first | rfl | assumption | omega | (simp only [List.length_set]; first | done | assumption | omega)), rfl⟩ (fun h => wk [0, 1, 2, 3, 8, 9] [] [⟨0, 1, 1, false⟩] h)
  · clear H; obtain ⟨_, _, _, _, _, _, H, _⟩ := hS; rw [slices_insertionSortCmpFunc_impl_Group_at93.l1] at H; cases H
  clear H
  obtain ⟨x5_ml0, x5_1, x5_2, x5_8, x5_9, lk1, H, ex5_ml0, rfl⟩ := hS
  rw [slices_insertionSortCmpFunc_impl_Group_at93.l1] at H
  refine gs (gs (dr [] [0] [] 17 rfl rfl rfl rfl (xv 0 [] [0] rfl (EV.mv rfl) rfl rfl rfl rfl (xv 1 [] [0] rfl (EV.mv rfl) rfl rfl rfl rfl (xv 2 [] [0] rfl (EV.gtr rfl rfl) rfl rfl rfl rfl (xv 3 [] [0] rfl (EV.mv rfl) rfl rfl rfl rfl ?_))))))
  revert H; refine ifsI ?_ ?_ <;> intro c2 H
  ·
   refine ts 21 rfl (dT c2) (xv 4 [] [0] rfl (EV.mv rfl) rfl rfl rfl rfl (xv 5 [] [0] rfl (EV.mv rfl) rfl rfl rfl rfl (xv 6 [] [0] rfl (EV.mv rfl) rfl rfl rfl rfl ?_)))
   revert H; refine ggI ?_; intro g3 H
   revert H; refine ggI ?_; intro g4 H
   refine xv 7 [] [0] rfl (EV.ix 0 rfl rfl rfl g3 g4 rfl) rfl rfl rfl rfl (xv 8 [] [0] rfl (EV.le (v := .agg #[.int .i64 ((rd_T88 x5_ml0 x5_9).f0), .int .i64 ((rd_T88 x5_ml0 x5_9).f1), .int .i64 ((rd_T88 x5_ml0 x5_9).f2), .int .i64 ((rd_T88 x5_ml0 x5_9).f3), .int .i64 ((rd_T88 x5_ml0 x5_9).f4)]) x5_9 0 (some 5) 0 z88 rfl rfl rfl g3 g4 rfl rfl rfl) rfl rfl rfl rfl (xv 9 [] [0] rfl (EV.mv rfl) rfl rfl rfl rfl (xv 10 [] [0] rfl (EV.mv rfl) rfl rfl rfl rfl (xv 11 [] [0] rfl (EV.sub rfl rfl) rfl rfl rfl rfl ?_))))
   revert H; refine ggI ?_; intro g5 H
   revert H; refine ggI ?_; intro g6 H
   refine xv 12 [] [0] rfl (EV.ix 0 rfl rfl rfl g5 g6 rfl) rfl rfl rfl rfl (xv 13 [] [0] rfl (EV.le (v := .agg #[.int .i64 ((rd_T88 x5_ml0 (wrap64 (x5_9 - 1))).f0), .int .i64 ((rd_T88 x5_ml0 (wrap64 (x5_9 - 1))).f1), .int .i64 ((rd_T88 x5_ml0 (wrap64 (x5_9 - 1))).f2), .int .i64 ((rd_T88 x5_ml0 (wrap64 (x5_9 - 1))).f3), .int .i64 ((rd_T88 x5_ml0 (wrap64 (x5_9 - 1))).f4)]) (wrap64 (x5_9 - 1)) 0 (some 5) 0 z88 rfl rfl rfl g5 g6 rfl rfl rfl) rfl rfl rfl rfl (one1 14 rfl rfl ?_))
   revert H; refine bdI ?_; rintro t7 A7 H
   refine cvf (f := 93) rfl (op_call (impl_MergeGroups_1.ok ((rd_T88 x5_ml0 x5_9).f0) ((rd_T88 x5_ml0 x5_9).f1) ((rd_T88 x5_ml0 x5_9).f2) ((rd_T88 x5_ml0 x5_9).f3) ((rd_T88 x5_ml0 x5_9).f4) ((rd_T88 x5_ml0 (wrap64 (x5_9 - 1))).f0) ((rd_T88 x5_ml0 (wrap64 (x5_9 - 1))).f1) ((rd_T88 x5_ml0 (wrap64 (x5_9 - 1))).f2) ((rd_T88 x5_ml0 (wrap64 (x5_9 - 1))).f3) ((rd_T88 x5_ml0 (wrap64 (x5_9 - 1))).f4) _ A7) [] 2 rfl rfl rfl rfl rfl ?_)
   rintro _ _ _ ⟨rfl, rfl, rfl⟩
   refine xs [] [0] rfl rfl rfl (xv 15 [] [0] rfl (EV.lss rfl rfl) rfl rfl rfl rfl (xv 16 [] [0] rfl (EV.pt rfl rfl rfl) rfl rfl rfl rfl (xd ?_)))
   revert H; refine ifsI ?_ ?_ <;> intro c8 H
   ·
    refine gt rfl (dT c8) (gk (gs (gb (dr [] [] [16, 17] 18 rfl rfl rfl rfl (xv 0 [] [] rfl (EV.mv rfl) rfl rfl rfl rfl (xv 1 [] [] rfl (EV.mv rfl) rfl rfl rfl rfl (xv 2 [] [] rfl (EV.mv rfl) rfl rfl rfl rfl (xv 3 [] [] rfl (EV.mv rfl) rfl rfl rfl rfl (xv 4 [] [] rfl (EV.sub rfl rfl) rfl rfl rfl rfl (xv 5 [] [] rfl (EV.mv rfl) rfl rfl rfl rfl (xv 6 [] [] rfl (EV.mv rfl) rfl rfl rfl rfl (xv 7 [] [] rfl (EV.sub rfl rfl) rfl rfl rfl rfl (xv 10 [] [] rfl (EV.mv rfl) rfl rfl rfl rfl (xv 11 [] [] rfl (EV.mv rfl) rfl rfl rfl rfl ?_))))))))))))))
    refine one2 8 12 rfl rfl rfl rfl ?_ ?_
    ·
     refine ov (EV.ix 0 rfl rfl rfl g5 g6 rfl) rfl (xs [] [] rfl rfl rfl ?_)
     refine one2 9 12 rfl rfl rfl rfl ?_ ?_
     ·
      refine ov (EV.le (v := .agg #[.int .i64 ((rd_T88 x5_ml0 (wrap64 (x5_9 - 1))).f0), .int .i64 ((rd_T88 x5_ml0 (wrap64 (x5_9 - 1))).f1), .int .i64 ((rd_T88 x5_ml0 (wrap64 (x5_9 - 1))).f2), .int .i64 ((rd_T88 x5_ml0 (wrap64 (x5_9 - 1))).f3), .int .i64 ((rd_T88 x5_ml0 (wrap64 (x5_9 - 1))).f4)]) (wrap64 (x5_9 - 1)) 0 (some 5) 0 z88 rfl rfl rfl g5 g6 rfl rfl rfl) rfl (xs [] [] rfl rfl rfl (one1 12 rfl rfl (ov (EV.ix 0 rfl rfl rfl g3 g4 rfl) rfl (xs [] [] rfl rfl rfl (one1 13 rfl rfl (ov (EV.le (v := .agg #[.int .i64 ((rd_T88 x5_ml0 x5_9).f0), .int .i64 ((rd_T88 x5_ml0 x5_9).f1), .int .i64 ((rd_T88 x5_ml0 x5_9).f2), .int .i64 ((rd_T88 x5_ml0 x5_9).f3), .int .i64 ((rd_T88 x5_ml0 x5_9).f4)]) x5_9 0 (some 5) 0 z88 rfl rfl rfl g3 g4 rfl rfl rfl) rfl (xs [] [] rfl rfl rfl (one1 14 rfl rfl (ov (EV.ix 0 rfl rfl rfl g3 g4 rfl) rfl (xs [] [] rfl rfl rfl (one1 15 rfl rfl ?_)))))))))))
      revert H; refine bdI ?_; intro s9 A9 H; have q9 := stl (Option.some.inj A9)
      refine op_stg x5_9 0 0 z88 (⟨(rd_T88 x5_ml0 (wrap64 (x5_9 - 1))).f0, (rd_T88 x5_ml0 (wrap64 (x5_9 - 1))).f1, (rd_T88 x5_ml0 (wrap64 (x5_9 - 1))).f2, (rd_T88 x5_ml0 (wrap64 (x5_9 - 1))).f3, (rd_T88 x5_ml0 (wrap64 (x5_9 - 1))).f4⟩ : S88) (Option.some.inj A9) rfl rfl rfl rfl g3 g4 rfl rfl rfl rfl dq rfl (rlT 0 (v' := .slice Al0 s9.length cl0) rfl (slq _ _ q9) (rlT 23 (v' := .slice Al0 s9.length cl0) rfl (slq _ _ q9) (rlT 27 (v' := .slice Al0 s9.length cl0) rfl (slq _ _ q9) (rlT 37 (v' := .slice Al0 s9.length cl0) rfl (slq _ _ q9) (rlT 39 (v' := .slice Al0 s9.length cl0) rfl (slq _ _ q9) (rlT 42 (v' := .slice Al0 s9.length cl0) rfl (slq _ _ q9) (rlT 47 (v' := .slice Al0 s9.length cl0) rfl (slq _ _ q9) (nmE (en := [.sl 1 k88 Al0 cl0 s9 1 true]) (by kernel_rfl) (xs [] [] rfl rfl rfl (one1 16 rfl rfl ?_))))))))))
      revert H; refine ggI ?_; intro g10 H
      refine ov (EV.ix 0 rfl rfl rfl g5 g10 rfl) rfl (xn rfl (one1 17 rfl rfl ?_))
      revert H; refine bdI ?_; intro s11 A11 H; have q11 := stl (Option.some.inj A11)
      exact op_stg (wrap64 (x5_9 - 1)) 0 0 z88 (⟨(rd_T88 x5_ml0 x5_9).f0, (rd_T88 x5_ml0 x5_9).f1, (rd_T88 x5_ml0 x5_9).f2, (rd_T88 x5_ml0 x5_9).f3, (rd_T88 x5_ml0 x5_9).f4⟩ : S88) (Option.some.inj A11) rfl rfl rfl rfl g5 g10 rfl rfl rfl rfl dq rfl (rlT 0 (v' := .slice Al0 s11.length cl0) rfl (slq _ _ q11) (rlT 23 (v' := .slice Al0 s11.length cl0) rfl (slq _ _ q11) (rlT 27 (v' := .slice Al0 s11.length cl0) rfl (slq _ _ q11) (rlT 37 (v' := .slice Al0 s11.length cl0) rfl (slq _ _ q11) (rlT 39 (v' := .slice Al0 s11.length cl0) rfl (slq _ _ q11) (rlT 42 (v' := .slice Al0 s11.length cl0) rfl (slq _ _ q11) (rlT 47 (v' := .slice Al0 s11.length cl0) rfl (slq _ _ q11) (nmE (en := [.sl 1 k88 Al0 cl0 s11 1 true]) (by kernel_rfl) (xn rfl (xd (pr [0, 1, 2, 3, 8, 9, 22, 23, 24, 26, 27, 28, 29, 31, 32, 33] [] [0] rfl rfl rfl rfl (ge (rg (sv (EV.mv rfl) rfl (sv (EV.sub rfl rfl) rfl (sv (EV.as rfl) rfl (re (wk [0, 1, 2, 3, 8, 9] [] [⟨0, 1, 1, false⟩] (ih1 _ (by omega) _ ⟨s11, x5_1, x5_2, x5_8, wrap64 (x5_9 - 1), by omega, H, (by first | rfl | assumption | omega | (simp only [List.length_set]; first | done | assumption | omega)), rfl⟩)))))))))))))))))))
     ·
      refine ov (EV.ix 0 rfl rfl rfl g3 g4 rfl) rfl (xs [] [] rfl rfl rfl ?_)
      refine one2 9 13 rfl rfl rfl rfl ?_ ?_
      ·
       refine ov (EV.le (v := .agg #[.int .i64 ((rd_T88 x5_ml0 (wrap64 (x5_9 - 1))).f0), .int .i64 ((rd_T88 x5_ml0 (wrap64 (x5_9 - 1))).f1), .int .i64 ((rd_T88 x5_ml0 (wrap64 (x5_9 - 1))).f2), .int .i64 ((rd_T88 x5_ml0 (wrap64 (x5_9 - 1))).f3), .int .i64 ((rd_T88 x5_ml0 (wrap64 (x5_9 - 1))).f4)]) (wrap64 (x5_9 - 1)) 0 (some 5) 0 z88 rfl rfl rfl g5 g6 rfl rfl rfl) rfl (xs [] [] rfl rfl rfl (one1 13 rfl rfl (ov (EV.le (v := .agg #[.int .i64 ((rd_T88 x5_ml0 x5_9).f0), .int .i64 ((rd_T88 x5_ml0 x5_9).f1), .int .i64 ((rd_T88 x5_ml0 x5_9).f2), .int .i64 ((rd_T88 x5_ml0 x5_9).f3), .int .i64 ((rd_T88 x5_ml0 x5_9).f4)]) x5_9 0 (some 5) 0 z88 rfl rfl rfl g3 g4 rfl rfl rfl) rfl (xs [] [] rfl rfl rfl (one1 14 rfl rfl (ov (EV.ix 0 rfl rfl rfl g3 g4 rfl) rfl (xs [] [] rfl rfl rfl (one1 15 rfl rfl ?_))))))))
       revert H; refine bdI ?_; intro s12 A12 H; have q12 := stl (Option.some.inj A12)
       refine op_stg x5_9 0 0 z88 (⟨(rd_T88 x5_ml0 (wrap64 (x5_9 - 1))).f0, (rd_T88 x5_ml0 (wrap64 (x5_9 - 1))).f1, (rd_T88 x5_ml0 (wrap64 (x5_9 - 1))).f2, (rd_T88 x5_ml0 (wrap64 (x5_9 - 1))).f3, (rd_T88 x5_ml0 (wrap64 (x5_9 - 1))).f4⟩ : S88) (Option.some.inj A12) rfl rfl rfl rfl g3 g4 rfl rfl rfl rfl dq rfl (rlT 0 (v' := .slice Al0 s12.length cl0) rfl (slq _ _ q12) (rlT 23 (v' := .slice Al0 s12.length cl0) rfl (slq _ _ q12) (rlT 27 (v' := .slice Al0 s12.length cl0) rfl (slq _ _ q12) (rlT 37 (v' := .slice Al0 s12.length cl0) rfl (slq _ _ q12) (rlT 39 (v' := .slice Al0 s12.length cl0) rfl (slq _ _ q12) (rlT 42 (v' := .slice Al0 s12.length cl0) rfl (slq _ _ q12) (rlT 47 (v' := .slice Al0 s12.length cl0) rfl (slq _ _ q12) (nmE (en := [.sl 1 k88 Al0 cl0 s12 1 true]) (by kernel_rfl) (xs [] [] rfl rfl rfl (one1 16 rfl rfl ?_))))))))))
       revert H; refine ggI ?_; intro g13 H
       refine ov (EV.ix 0 rfl rfl rfl g5 g13 rfl) rfl (xn rfl (one1 17 rfl rfl ?_))
       revert H; refine bdI ?_; intro s14 A14 H; have q14 := stl (Option.some.inj A14)
       exact op_stg (wrap64 (x5_9 - 1)) 0 0 z88 (⟨(rd_T88 x5_ml0 x5_9).f0, (rd_T88 x5_ml0 x5_9).f1, (rd_T88 x5_ml0 x5_9).f2, (rd_T88 x5_ml0 x5_9).f3, (rd_T88 x5_ml0 x5_9).f4⟩ : S88) (Option.some.inj A14) rfl rfl rfl rfl g5 g13 rfl rfl rfl rfl dq rfl (rlT 0 (v' := .slice Al0 s14.length cl0) rfl (slq _ _ q14) (rlT 23 (v' := .slice Al0 s14.length cl0) rfl (slq _ _ q14) (rlT 27 (v' := .slice Al0 s14.length cl0) rfl (slq _ _ q14) (rlT 37 (v' := .slice Al0 s14.length cl0) rfl (slq _ _ q14) (rlT 39 (v' := .slice Al0 s14.length cl0) rfl (slq _ _ q14) (rlT 42 (v' := .slice Al0 s14.length cl0) rfl (slq _ _ q14) (rlT 47 (v' := .slice Al0 s14.length cl0) rfl (slq _ _ q14) (nmE (en := [.sl 1 k88 Al0 cl0 s14 1 true]) (by kernel_rfl) (xn rfl (xd (pr [0, 1, 2, 3, 8, 9, 22, 23, 24, 26, 27, 28, 29, 31, 32, 33] [] [0] rfl rfl rfl rfl (ge (rg (sv (EV.mv rfl) rfl (sv (EV.sub rfl rfl) rfl (sv (EV.as rfl) rfl (re (wk [0, 1, 2, 3, 8, 9] [] [⟨0, 1, 1, false⟩] (ih1 _ (by omega) _ ⟨s14, x5_1, x5_2, x5_8, wrap64 (x5_9 - 1), by omega, H, (by first | rfl | assumption | omega | (simp only [List.length_set]; first | done | assumption | omega)), rfl⟩)))))))))))))))))))
      ·
       refine ov (EV.le (v := .agg #[.int .i64 ((rd_T88 x5_ml0 x5_9).f0), .int .i64 ((rd_T88 x5_ml0 x5_9).f1), .int .i64 ((rd_T88 x5_ml0 x5_9).f2), .int .i64 ((rd_T88 x5_ml0 x5_9).f3), .int .i64 ((rd_T88 x5_ml0 x5_9).f4)]) x5_9 0 (some 5) 0 z88 rfl rfl rfl g3 g4 rfl rfl rfl) rfl (xs [] [] rfl rfl rfl (one1 9 rfl rfl (ov (EV.le (v := .agg #[.int .i64 ((rd_T88 x5_ml0 (wrap64 (x5_9 - 1))).f0), .int .i64 ((rd_T88 x5_ml0 (wrap64 (x5_9 - 1))).f1), .int .i64 ((rd_T88 x5_ml0 (wrap64 (x5_9 - 1))).f2), .int .i64 ((rd_T88 x5_ml0 (wrap64 (x5_9 - 1))).f3), .int .i64 ((rd_T88 x5_ml0 (wrap64 (x5_9 - 1))).f4)]) (wrap64 (x5_9 - 1)) 0 (some 5) 0 z88 rfl rfl rfl g5 g6 rfl rfl rfl) rfl (xs [] [] rfl rfl rfl (one1 14 rfl rfl (ov (EV.ix 0 rfl rfl rfl g3 g4 rfl) rfl (xs [] [] rfl rfl rfl (one1 15 rfl rfl ?_))))))))
       revert H; refine bdI ?_; intro s15 A15 H; have q15 := stl (Option.some.inj A15)
       refine op_stg x5_9 0 0 z88 (⟨(rd_T88 x5_ml0 (wrap64 (x5_9 - 1))).f0, (rd_T88 x5_ml0 (wrap64 (x5_9 - 1))).f1, (rd_T88 x5_ml0 (wrap64 (x5_9 - 1))).f2, (rd_T88 x5_ml0 (wrap64 (x5_9 - 1))).f3, (rd_T88 x5_ml0 (wrap64 (x5_9 - 1))).f4⟩ : S88) (Option.some.inj A15) rfl rfl rfl rfl g3 g4 rfl rfl rfl rfl dq rfl (rlT 0 (v' := .slice Al0 s15.length cl0) rfl (slq _ _ q15) (rlT 23 (v' := .slice Al0 s15.length cl0) rfl (slq _ _ q15) (rlT 27 (v' := .slice Al0 s15.length cl0) rfl (slq _ _ q15) (rlT 37 (v' := .slice Al0 s15.length cl0) rfl (slq _ _ q15) (rlT 39 (v' := .slice Al0 s15.length cl0) rfl (slq _ _ q15) (rlT 42 (v' := .slice Al0 s15.length cl0) rfl (slq _ _ q15) (rlT 47 (v' := .slice Al0 s15.length cl0) rfl (slq _ _ q15) (nmE (en := [.sl 1 k88 Al0 cl0 s15 1 true]) (by kernel_rfl) (xs [] [] rfl rfl rfl (one1 16 rfl rfl ?_))))))))))
       revert H; refine ggI ?_; intro g16 H
       refine ov (EV.ix 0 rfl rfl rfl g5 g16 rfl) rfl (xn rfl (one1 17 rfl rfl ?_))
       revert H; refine bdI ?_; intro s17 A17 H; have q17 := stl (Option.some.inj A17)
       exact op_stg (wrap64 (x5_9 - 1)) 0 0 z88 (⟨(rd_T88 x5_ml0 x5_9).f0, (rd_T88 x5_ml0 x5_9).f1, (rd_T88 x5_ml0 x5_9).f2, (rd_T88 x5_ml0 x5_9).f3, (rd_T88 x5_ml0 x5_9).f4⟩ : S88) (Option.some.inj A17) rfl rfl rfl rfl g5 g16 rfl rfl rfl rfl dq rfl (rlT 0 (v' := .slice Al0 s17.length cl0) rfl (slq _ _ q17) (rlT 23 (v' := .slice Al0 s17.length cl0) rfl (slq _ _ q17) (rlT 27 (v' := .slice Al0 s17.length cl0) rfl (slq _ _ q17) (rlT 37 (v' := .slice Al0 s17.length cl0) rfl (slq _ _ q17) (rlT 39 (v' := .slice Al0 s17.length cl0) rfl (slq _ _ q17) (rlT 42 (v' := .slice Al0 s17.length cl0) rfl (slq _ _ q17) (rlT 47 (v' := .slice Al0 s17.length cl0) rfl (slq _ _ q17) (nmE (en := [.sl 1 k88 Al0 cl0 s17 1 true]) (by kernel_rfl) (xn rfl (xd (pr [0, 1, 2, 3, 8, 9, 22, 23, 24, 26, 27, 28, 29, 31, 32, 33] [] [0] rfl rfl rfl rfl (ge (rg (sv (EV.mv rfl) rfl (sv (EV.sub rfl rfl) rfl (sv (EV.as rfl) rfl (re (wk [0, 1, 2, 3, 8, 9] [] [⟨0, 1, 1, false⟩] (ih1 _ (by omega) _ ⟨s17, x5_1, x5_2, x5_8, wrap64 (x5_9 - 1), by omega, H, (by first | rfl | assumption | omega | (simp only [List.length_set]; first | done | assumption | omega)), rfl⟩)))))))))))))))))))
    ·
     refine ov (EV.ix 0 rfl rfl rfl g3 g4 rfl) rfl (xs [] [] rfl rfl rfl ?_)
     refine one2 8 13 rfl rfl rfl rfl ?_ ?_
     ·
      refine ov (EV.ix 0 rfl rfl rfl g5 g6 rfl) rfl (xs [] [] rfl rfl rfl ?_)
      refine one2 9 13 rfl rfl rfl rfl ?_ ?_
      ·
       refine ov (EV.le (v := .agg #[.int .i64 ((rd_T88 x5_ml0 (wrap64 (x5_9 - 1))).f0), .int .i64 ((rd_T88 x5_ml0 (wrap64 (x5_9 - 1))).f1), .int .i64 ((rd_T88 x5_ml0 (wrap64 (x5_9 - 1))).f2), .int .i64 ((rd_T88 x5_ml0 (wrap64 (x5_9 - 1))).f3), .int .i64 ((rd_T88 x5_ml0 (wrap64 (x5_9 - 1))).f4)]) (wrap64 (x5_9 - 1)) 0 (some 5) 0 z88 rfl rfl rfl g5 g6 rfl rfl rfl) rfl (xs [] [] rfl rfl rfl (one1 13 rfl rfl (ov (EV.le (v := .agg #[.int .i64 ((rd_T88 x5_ml0 x5_9).f0), .int .i64 ((rd_T88 x5_ml0 x5_9).f1), .int .i64 ((rd_T88 x5_ml0 x5_9).f2), .int .i64 ((rd_T88 x5_ml0 x5_9).f3), .int .i64 ((rd_T88 x5_ml0 x5_9).f4)]) x5_9 0 (some 5) 0 z88 rfl rfl rfl g3 g4 rfl rfl rfl) rfl (xs [] [] rfl rfl rfl (one1 14 rfl rfl (ov (EV.ix 0 rfl rfl rfl g3 g4 rfl) rfl (xs [] [] rfl rfl rfl (one1 15 rfl rfl ?_))))))))
       revert H; refine bdI ?_; intro s18 A18 H; have q18 := stl (Option.some.inj A18)
       refine op_stg x5_9 0 0 z88 (⟨(rd_T88 x5_ml0 (wrap64 (x5_9 - 1))).f0, (rd_T88 x5_ml0 (wrap64 (x5_9 - 1))).f1, (rd_T88 x5_ml0 (wrap64 (x5_9 - 1))).f2, (rd_T88 x5_ml0 (wrap64 (x5_9 - 1))).f3, (rd_T88 x5_ml0 (wrap64 (x5_9 - 1))).f4⟩ : S88) (Option.some.inj A18) rfl rfl rfl rfl g3 g4 rfl rfl rfl rfl dq rfl (rlT 0 (v' := .slice Al0 s18.length cl0) rfl (slq _ _ q18) (rlT 23 (v' := .slice Al0 s18.length cl0) rfl (slq _ _ q18) (rlT 27 (v' := .slice Al0 s18.length cl0) rfl (slq _ _ q18) (rlT 37 (v' := .slice Al0 s18.length cl0) rfl (slq _ _ q18) (rlT 39 (v' := .slice Al0 s18.length cl0) rfl (slq _ _ q18) (rlT 42 (v' := .slice Al0 s18.length cl0) rfl (slq _ _ q18) (rlT 47 (v' := .slice Al0 s18.length cl0) rfl (slq _ _ q18) (nmE (en := [.sl 1 k88 Al0 cl0 s18 1 true]) (by kernel_rfl) (xs [] [] rfl rfl rfl (one1 16 rfl rfl ?_))))))))))
       revert H; refine ggI ?_; intro g19 H
       refine ov (EV.ix 0 rfl rfl rfl g5 g19 rfl) rfl (xn rfl (one1 17 rfl rfl ?_))
       revert H; refine bdI ?_; intro s20 A20 H; have q20 := stl (Option.some.inj A20)
       exact op_stg (wrap64 (x5_9 - 1)) 0 0 z88 (⟨(rd_T88 x5_ml0 x5_9).f0, (rd_T88 x5_ml0 x5_9).f1, (rd_T88 x5_ml0 x5_9).f2, (rd_T88 x5_ml0 x5_9).f3, (rd_T88 x5_ml0 x5_9).f4⟩ : S88) (Option.some.inj A20) rfl rfl rfl rfl g5 g19 rfl rfl rfl rfl dq rfl (rlT 0 (v' := .slice Al0 s20.length cl0) rfl (slq _ _ q20) (rlT 23 (v' := .slice Al0 s20.length cl0) rfl (slq _ _ q20) (rlT 27 (v' := .slice Al0 s20.length cl0) rfl (slq _ _ q20) (rlT 37 (v' := .slice Al0 s20.length cl0) rfl (slq _ _ q20) (rlT 39 (v' := .slice Al0 s20.length cl0) rfl (slq _ _ q20) (rlT 42 (v' := .slice Al0 s20.length cl0) rfl (slq _ _ q20) (rlT 47 (v' := .slice Al0 s20.length cl0) rfl (slq _ _ q20) (nmE (en := [.sl 1 k88 Al0 cl0 s20 1 true]) (by kernel_rfl) (xn rfl (xd (pr [0, 1, 2, 3, 8, 9, 22, 23, 24, 26, 27, 28, 29, 31, 32, 33] [] [0] rfl rfl rfl rfl (ge (rg (sv (EV.mv rfl) rfl (sv (EV.sub rfl rfl) rfl (sv (EV.as rfl) rfl (re (wk [0, 1, 2, 3, 8, 9] [] [⟨0, 1, 1, false⟩] (ih1 _ (by omega) _ ⟨s20, x5_1, x5_2, x5_8, wrap64 (x5_9 - 1), by omega, H, (by first | rfl | assumption | omega | (simp only [List.length_set]; first | done | assumption | omega)), rfl⟩)))))))))))))))))))
      ·
       refine ov (EV.le (v := .agg #[.int .i64 ((rd_T88 x5_ml0 x5_9).f0), .int .i64 ((rd_T88 x5_ml0 x5_9).f1), .int .i64 ((rd_T88 x5_ml0 x5_9).f2), .int .i64 ((rd_T88 x5_ml0 x5_9).f3), .int .i64 ((rd_T88 x5_ml0 x5_9).f4)]) x5_9 0 (some 5) 0 z88 rfl rfl rfl g3 g4 rfl rfl rfl) rfl (xs [] [] rfl rfl rfl (one1 9 rfl rfl (ov (EV.le (v := .agg #[.int .i64 ((rd_T88 x5_ml0 (wrap64 (x5_9 - 1))).f0), .int .i64 ((rd_T88 x5_ml0 (wrap64 (x5_9 - 1))).f1), .int .i64 ((rd_T88 x5_ml0 (wrap64 (x5_9 - 1))).f2), .int .i64 ((rd_T88 x5_ml0 (wrap64 (x5_9 - 1))).f3), .int .i64 ((rd_T88 x5_ml0 (wrap64 (x5_9 - 1))).f4)]) (wrap64 (x5_9 - 1)) 0 (some 5) 0 z88 rfl rfl rfl g5 g6 rfl rfl rfl) rfl (xs [] [] rfl rfl rfl (one1 14 rfl rfl (ov (EV.ix 0 rfl rfl rfl g3 g4 rfl) rfl (xs [] [] rfl rfl rfl (one1 15 rfl rfl ?_))))))))
       revert H; refine bdI ?_; intro s21 A21 H; have q21 := stl (Option.some.inj A21)
       refine op_stg x5_9 0 0 z88 (⟨(rd_T88 x5_ml0 (wrap64 (x5_9 - 1))).f0, (rd_T88 x5_ml0 (wrap64 (x5_9 - 1))).f1, (rd_T88 x5_ml0 (wrap64 (x5_9 - 1))).f2, (rd_T88 x5_ml0 (wrap64 (x5_9 - 1))).f3, (rd_T88 x5_ml0 (wrap64 (x5_9 - 1))).f4⟩ : S88) (Option.some.inj A21) rfl rfl rfl rfl g3 g4 rfl rfl rfl rfl dq rfl (rlT 0 (v' := .slice Al0 s21.length cl0) rfl (slq _ _ q21) (rlT 23 (v' := .slice Al0 s21.length cl0) rfl (slq _ _ q21) (rlT 27 (v' := .slice Al0 s21.length cl0) rfl (slq _ _ q21) (rlT 37 (v' := .slice Al0 s21.length cl0) rfl (slq _ _ q21) (rlT 39 (v' := .slice Al0 s21.length cl0) rfl (slq _ _ q21) (rlT 42 (v' := .slice Al0 s21.length cl0) rfl (slq _ _ q21) (rlT 47 (v' := .slice Al0 s21.length cl0) rfl (slq _ _ q21) (nmE (en := [.sl 1 k88 Al0 cl0 s21 1 true]) (by kernel_rfl) (xs [] [] rfl rfl rfl (one1 16 rfl rfl ?_))))))))))
       revert H; refine ggI ?_; intro g22 H
       refine ov (EV.ix 0 rfl rfl rfl g5 g22 rfl) rfl (xn rfl (one1 17 rfl rfl ?_))
       revert H; refine bdI ?_; intro s23 A23 H; have q23 := stl (Option.some.inj A23)
       exact op_stg (wrap64 (x5_9 - 1)) 0 0 z88 (⟨(rd_T88 x5_ml0 x5_9).f0, (rd_T88 x5_ml0 x5_9).f1, (rd_T88 x5_ml0 x5_9).f2, (rd_T88 x5_ml0 x5_9).f3, (rd_T88 x5_ml0 x5_9).f4⟩ : S88) (Option.some.inj A23) rfl rfl rfl rfl g5 g22 rfl rfl rfl rfl dq rfl (rlT 0 (v' := .slice Al0 s23.length cl0) rfl (slq _ _ q23) (rlT 23 (v' := .slice Al0 s23.length cl0) rfl (slq _ _ q23) (rlT 27 (v' := .slice Al0 s23.length cl0) rfl (slq _ _ q23) (rlT 37 (v' := .slice Al0 s23.length cl0) rfl (slq _ _ q23) (rlT 39 (v' := .slice Al0 s23.length cl0) rfl (slq _ _ q23) (rlT 42 (v' := .slice Al0 s23.length cl0) rfl (slq _ _ q23) (rlT 47 (v' := .slice Al0 s23.length cl0) rfl (slq _ _ q23) (nmE (en := [.sl 1 k88 Al0 cl0 s23 1 true]) (by kernel_rfl) (xn rfl (xd (pr [0, 1, 2, 3, 8, 9, 22, 23, 24, 26, 27, 28, 29, 31, 32, 33] [] [0] rfl rfl rfl rfl (ge (rg (sv (EV.mv rfl) rfl (sv (EV.sub rfl rfl) rfl (sv (EV.as rfl) rfl (re (wk [0, 1, 2, 3, 8, 9] [] [⟨0, 1, 1, false⟩] (ih1 _ (by omega) _ ⟨s23, x5_1, x5_2, x5_8, wrap64 (x5_9 - 1), by omega, H, (by first | rfl | assumption | omega | (simp only [List.length_set]; first | done | assumption | omega)), rfl⟩)))))))))))))))))))
     ·
      refine ov (EV.le (v := .agg #[.int .i64 ((rd_T88 x5_ml0 x5_9).f0), .int .i64 ((rd_T88 x5_ml0 x5_9).f1), .int .i64 ((rd_T88 x5_ml0 x5_9).f2), .int .i64 ((rd_T88 x5_ml0 x5_9).f3), .int .i64 ((rd_T88 x5_ml0 x5_9).f4)]) x5_9 0 (some 5) 0 z88 rfl rfl rfl g3 g4 rfl rfl rfl) rfl (xs [] [] rfl rfl rfl (one1 8 rfl rfl (ov (EV.ix 0 rfl rfl rfl g5 g6 rfl) rfl (xs [] [] rfl rfl rfl (one1 9 rfl rfl (ov (EV.le (v := .agg #[.int .i64 ((rd_T88 x5_ml0 (wrap64 (x5_9 - 1))).f0), .int .i64 ((rd_T88 x5_ml0 (wrap64 (x5_9 - 1))).f1), .int .i64 ((rd_T88 x5_ml0 (wrap64 (x5_9 - 1))).f2), .int .i64 ((rd_T88 x5_ml0 (wrap64 (x5_9 - 1))).f3), .int .i64 ((rd_T88 x5_ml0 (wrap64 (x5_9 - 1))).f4)]) (wrap64 (x5_9 - 1)) 0 (some 5) 0 z88 rfl rfl rfl g5 g6 rfl rfl rfl) rfl (xs [] [] rfl rfl rfl (one1 14 rfl rfl (ov (EV.ix 0 rfl rfl rfl g3 g4 rfl) rfl (xs [] [] rfl rfl rfl (one1 15 rfl rfl ?_)))))))))))
      revert H; refine bdI ?_; intro s24 A24 H; have q24 := stl (Option.some.inj A24)
      refine op_stg x5_9 0 0 z88 (⟨(rd_T88 x5_ml0 (wrap64 (x5_9 - 1))).f0, (rd_T88 x5_ml0 (wrap64 (x5_9 - 1))).f1, (rd_T88 x5_ml0 (wrap64 (x5_9 - 1))).f2, (rd_T88 x5_ml0 (wrap64 (x5_9 - 1))).f3, (rd_T88 x5_ml0 (wrap64 (x5_9 - 1))).f4⟩ : S88) (Option.some.inj A24) rfl rfl rfl rfl g3 g4 rfl rfl rfl rfl dq rfl (rlT 0 (v' := .slice Al0 s24.length cl0) rfl (slq _ _ q24) (rlT 23 (v' := .slice Al0 s24.length cl0) rfl (slq _ _ q24) (rlT 27 (v' := .slice Al0 s24.length cl0) rfl (slq _ _ q24) (rlT 37 (v' := .slice Al0 s24.length cl0) rfl (slq _ _ q24) (rlT 39 (v' := .slice Al0 s24.length cl0) rfl (slq _ _ q24) (rlT 42 (v' := .slice Al0 s24.length cl0) rfl (slq _ _ q24) (rlT 47 (v' := .slice Al0 s24.length cl0) rfl (slq _ _ q24) (nmE (en := [.sl 1 k88 Al0 cl0 s24 1 true]) (by kernel_rfl) (xs [] [] rfl rfl rfl (one1 16 rfl rfl ?_))))))))))
      revert H; refine ggI ?_; intro g25 H
      refine ov (EV.ix 0 rfl rfl rfl g5 g25 rfl) rfl (xn rfl (one1 17 rfl rfl ?_))
      revert H; refine bdI ?_; intro s26 A26 H; have q26 := stl (Option.some.inj A26)
      exact op_stg (wrap64 (x5_9 - 1)) 0 0 z88 (⟨(rd_T88 x5_ml0 x5_9).f0, (rd_T88 x5_ml0 x5_9).f1, (rd_T88 x5_ml0 x5_9).f2, (rd_T88 x5_ml0 x5_9).f3, (rd_T88 x5_ml0 x5_9).f4⟩ : S88) (Option.some.inj A26) rfl rfl rfl rfl g5 g25 rfl rfl rfl rfl dq rfl (rlT 0 (v' := .slice Al0 s26.length cl0) rfl (slq _ _ q26) (rlT 23 (v' := .slice Al0 s26.length cl0) rfl (slq _ _ q26) (rlT 27 (v' := .slice Al0 s26.length cl0) rfl (slq _ _ q26) (rlT 37 (v' := .slice Al0 s26.length cl0) rfl (slq _ _ q26) (rlT 39 (v' := .slice Al0 s26.length cl0) rfl (slq _ _ q26) (rlT 42 (v' := .slice Al0 s26.length cl0) rfl (slq _ _ q26) (rlT 47 (v' := .slice Al0 s26.length cl0) rfl (slq _ _ q26) (nmE (en := [.sl 1 k88 Al0 cl0 s26 1 true]) (by kernel_rfl) (xn rfl (xd (pr [0, 1, 2, 3, 8, 9, 22, 23, 24, 26, 27, 28, 29, 31, 32, 33] [] [0] rfl rfl rfl rfl (ge (rg (sv (EV.mv rfl) rfl (sv (EV.sub rfl rfl) rfl (sv (EV.as rfl) rfl (re (wk [0, 1, 2, 3, 8, 9] [] [⟨0, 1, 1, false⟩] (ih1 _ (by omega) _ ⟨s26, x5_1, x5_2, x5_8, wrap64 (x5_9 - 1), by omega, H, (by first | rfl | assumption | omega | (simp only [List.length_set]; first | done | assumption | omega)), rfl⟩)))))))))))))))))))
   ·
    exact gf rfl (dF c8) (gx rfl (ge (rg (sv (EV.mv rfl) rfl (sv (EV.add rfl rfl) rfl (sv (EV.as rfl) rfl (re (pr [0, 1, 2, 3, 8, 22, 23, 24, 25, 26, 27, 28, 29, 30, 31, 32, 33] [] [0] rfl rfl rfl rfl (wk [0, 1, 2, 3, 8] [] [⟨0, 1, 1, false⟩] (ih0 _ (by omega) _ ⟨x5_ml0, x5_1, x5_2, wrap64 (x5_8 + 1), H, (by first | rfl | assumption | omega | (simp only [List.length_set]; first | done | assumption | omega)), rfl⟩))))))))))
  ·
   exact ts 21 rfl (dF c2) (xk 4 [] [0] rfl rfl rfl rfl rfl (xk 5 [] [0] rfl rfl rfl rfl rfl (xk 6 [] [0] rfl rfl rfl rfl rfl (xk 7 [] [0] rfl rfl rfl rfl rfl (xk 8 [] [0] rfl rfl rfl rfl rfl (xk 9 [] [0] rfl rfl rfl rfl rfl (xk 10 [] [0] rfl rfl rfl rfl rfl (xk 11 [] [0] rfl rfl rfl rfl rfl (xk 12 [] [0] rfl rfl rfl rfl rfl (xk 13 [] [0] rfl rfl rfl rfl rfl (xk 14 [] [0] rfl rfl rfl rfl rfl (xk 15 [] [0] rfl rfl rfl rfl rfl (xv 16 [] [0] rfl (EV.pf rfl rfl rfl) rfl rfl rfl rfl (xd (pr [0, 1, 2, 3, 8, 9, 34] [] [0] rfl rfl rfl rfl (gf rfl rfl (gx rfl (ge (rg (sv (EV.mv rfl) rfl (sv (EV.add rfl rfl) rfl (sv (EV.as rfl) rfl (re (wk [0, 1, 2, 3, 8] [] [⟨0, 1, 1, false⟩] (ih0 _ (by omega) _ ⟨x5_ml0, x5_1, x5_2, wrap64 (x5_8 + 1), H, (by first | rfl | assumption | omega | (simp only [List.length_set]; first | done | assumption | omega)), rfl⟩)))))))))))))))))))))))))
 ·
  refine gf rfl (dF c1) (gx rfl ?_)
  cases H
  exact rt0 Try.func104 rfl .nil rfl [] [⟨0, 1, 1, false⟩] rfl rfl rfl rfl rfl ⟨rfl, rfl, rfl, by first | rfl | assumption | omega | (simp only [List.length_set]; first | done | assumption | omega)⟩
end Go.Proofs.Ytoncjohnkiilcaa.K
namespace Go.Proofs.Ytoncjohnkiilcaa.K
open Go Go.RowKit
set_option linter.unusedVariables false
set_option linter.unusedSimpArgs false
def slices_pdqsortCmpFunc_impl_Group_at93.l0 : Nat → (List S88) → Int → Int → Int → Bool → Bool → Option ((List S88))
 | 0, _, _, _, _, _, _ => none
 | k + 1, x1_ml0, x1_1, x1_2, x1_3, x1_10, x1_11 => if (wrap64 (x1_2 - x1_1)) ≤ 12 then ((slices_insertionSortCmpFunc_impl_Group_at93.f k x1_ml0 x1_1 x1_2).bind fun t2 => (some t2)) else (if x1_3 = 0 then (none) else (if x1_10 = true then (none) else (none)))
def slices_pdqsortCmpFunc_impl_Group_at93.f : Nat → (List S88) → Int → Int → Int → Option ((List S88))
 | 0, _, _, _, _ => none
 | k + 1, l0, a1, a2, a3 => slices_pdqsortCmpFunc_impl_Group_at93.l0 k l0 a1 a2 a3 true true
set_option maxHeartbeats 4000000 in
set_option maxRecDepth 100000 in
theorem slices_pdqsortCmpFunc_impl_Group_at93.ok : ∀ (k : Nat) (l0 : List S88) (Al0 : Option Addr) (cl0 : Nat) (a1 : Int) (a2 : Int) (a3 : Int) (r0 : List S88) (h : slices_pdqsortCmpFunc_impl_Group_at93.f k l0 a1 a2 a3 = some r0), Fn Try.prog 102 [.slice Al0 l0.length cl0, .int .i64 a1, .int .i64 a2, .int .i64 a3, .func (.func 93) #[] #[]] [] [.sl 1 k88 Al0 cl0 l0 1 false] (fun v bx en => v = .tuple #[] ∧ bx = [] ∧ en = [.sl 1 k88 Al0 cl0 r0 1 false] ∧ r0.length = l0.length) := by
 intro k
 induction k with
 | zero => intro l0 Al0 cl0 a1 a2 a3 r0 h; rw [slices_pdqsortCmpFunc_impl_Group_at93.f] at h; cases h
 | succ k ih =>
 intro l0 Al0 cl0 a1 a2 a3 r0 H
 refine fn_ 148 Try.func102 rfl rfl rfl (fun base T w0 => ?_)
 rw [slices_pdqsortCmpFunc_impl_Group_at93.f] at H
 refine gs (rg (sv (EV.as rfl) rfl (re (gs (rg (sv (EV.as rfl) rfl (re (gb ?_))))))))
 refine lo (fun kk S => ∃ (x1_ml0 : List S88) (x1_1 : Int) (x1_2 : Int) (x1_3 : Int) (x1_10 : Bool) (x1_11 : Bool), slices_pdqsortCmpFunc_impl_Group_at93.l0 kk x1_ml0 x1_1 x1_2 x1_3 x1_10 x1_11 = some r0 ∧ x1_ml0.length = l0.length ∧ S = ⟨[(0, .slice Al0 x1_ml0.length cl0), (1, .int .i64 x1_1), (2, .int .i64 x1_2), (3, .int .i64 x1_3), (4, .func (.func 93) #[] #[]), (10, .bool x1_10), (11, .bool x1_11)], [], [.sl 1 k88 Al0 cl0 x1_ml0 1 false]⟩) (fun S hS => ?_) (fun n0 ih0 S hS => ?_) ⟨l0, a1, a2, a3, true, true, H, (by first | rfl | assumption | omega | (simp only [List.length_set]; first | done | assumption | omega)), rfl⟩ (fun h => wk [0, 1, 2, 3, 4, 10, 11] [] [⟨0, 1, 1, false⟩] h)
 · clear H; obtain ⟨_, _, _, _, _, _, H, _⟩ := hS; rw [slices_pdqsortCmpFunc_impl_Group_at93.l0] at H; cases H
 clear H
 obtain ⟨x1_ml0, x1_1, x1_2, x1_3, x1_10, x1_11, H, ex1_ml0, rfl⟩ := hS
 rw [slices_pdqsortCmpFunc_impl_Group_at93.l0] at H
 refine gb (gs (rg (sv (EV.mv rfl) rfl (sv (EV.mv rfl) rfl (sv (EV.sub rfl rfl) rfl (sv (EV.as rfl) rfl (re (gs (gs (rg (sv (EV.mv rfl) rfl (sv (EV.leq rfl rfl) rfl (re ?_)))))))))))))
 revert H; refine ifsI ?_ ?_ <;> intro c1 H
 ·
  refine gt rfl (dT c1) (gs (rg (sv (EV.mv rfl) rfl (sv (EV.mv rfl) rfl (sv (EV.mv rfl) rfl (sv (EV.mv rfl) rfl ?_))))))
  revert H; refine bdI ?_; rintro t2 A2 H
  refine so rfl (op_callM (slices_insertionSortCmpFunc_impl_Group_at93.ok n0 x1_ml0 Al0 cl0 x1_1 x1_2 _ A2) [⟨0, 1, 1, false⟩] [] [] 2 rfl rfl rfl rfl rfl rfl rfl rfl ?_)
  rintro _ _ _ ⟨rfl, rfl, rfl, q2_0⟩
  refine rlT 0 (v' := .slice Al0 t2.length cl0) rfl (slq _ _ q2_0) (rlT 26 (v' := .slice Al0 t2.length cl0) rfl (slq _ _ q2_0) (nmE (en := [.sl 1 k88 Al0 cl0 t2 3 false]) (by kernel_rfl) (re (pr [] [] [0] rfl rfl rfl rfl ?_))))
  cases H
  exact rt Try.func102 rfl .nil rfl [] [⟨0, 1, 1, false⟩] rfl rfl rfl rfl rfl ⟨rfl, rfl, rfl, by first | rfl | assumption | omega | (simp only [List.length_set]; first | done | assumption | omega)⟩
 ·
  refine gf rfl (dF c1) (gk (gs (gs (rg (sv (EV.mv rfl) rfl (sv (EV.eql rfl rfl) rfl (re (pr [0, 1, 2, 3, 4, 10, 11, 12, 32] [] [0] rfl rfl rfl rfl ?_))))))))
  revert H; refine ifsI ?_ ?_ <;> intro c3 H
  ·
   refine gt rfl (dT c3) (gs (rg (sv (EV.mv rfl) rfl (sv (EV.mv rfl) rfl (sv (EV.mv rfl) rfl (sv (EV.mv rfl) rfl ?_))))))
   cases H
  ·
   refine gf rfl (dF c3) (gk (gs (gs (rg (sv (EV.mv rfl) rfl (sv (EV.nt rfl) rfl (re ?_)))))))
   revert H; refine ifsI ?_ ?_ <;> intro c4 H
   ·
    subst c4
    refine gf rfl rfl (gk (gs (rg (sv (EV.mv rfl) rfl (sv (EV.mv rfl) rfl (sv (EV.mv rfl) rfl (sv (EV.mv rfl) rfl ?_)))))))
    cases H
   ·
    obtain rfl := bF c4
    refine gt rfl rfl (gs (rg (sv (EV.mv rfl) rfl (sv (EV.mv rfl) rfl (sv (EV.mv rfl) rfl (sv (EV.mv rfl) rfl ?_))))))
    cases H
end Go.Proofs.Ytoncjohnkiilcaa.K
namespace Go.Proofs.Ytoncjohnkiilcaa.K
open Go Go.RowKit
set_option linter.unusedVariables false
set_option linter.unusedSimpArgs false
mutual
def bits_Len64.j2 : Nat → Int → Int → Option (Int)
 | 0, _, _ => none
 | k + 1, x3_0, x3_2 => if 0 ≤ (IntKind.u8.wrap x3_0) then (if (IntKind.u8.wrap x3_0) < ((⟨#[0, 1, 2, 2, 3, 3, 3, 3, 4, 4, 4, 4, 4, 4, 4, 4, 5, 5, 5, 5, 5, 5, 5, 5, 5, 5, 5, 5, 5, 5, 5, 5, 6, 6, 6, 6, 6, 6, 6, 6, 6, 6, 6, 6, 6, 6, 6, 6, 6, 6, 6, 6, 6, 6, 6, 6, 6, 6, 6, 6, 6, 6, 6, 6, 7, 7, 7, 7, 7, 7, 7, 7, 7, 7, 7, 7, 7, 7, 7, 7, 7, 7, 7, 7, 7, 7, 7, 7, 7, 7, 7, 7, 7, 7, 7, 7, 7, 7, 7, 7, 7, 7, 7, 7, 7, 7, 7, 7, 7, 7, 7, 7, 7, 7, 7, 7, 7, 7, 7, 7, 7, 7, 7, 7, 7, 7, 7, 7, 8, 8, 8, 8, 8, 8, 8, 8, 8, 8, 8, 8, 8, 8, 8, 8, 8, 8, 8, 8, 8, 8, 8, 8, 8, 8, 8, 8, 8, 8, 8, 8, 8, 8, 8, 8, 8, 8, 8, 8, 8, 8, 8, 8, 8, 8, 8, 8, 8, 8, 8, 8, 8, 8, 8, 8, 8, 8, 8, 8, 8, 8, 8, 8, 8, 8, 8, 8, 8, 8, 8, 8, 8, 8, 8, 8, 8, 8, 8, 8, 8, 8, 8, 8, 8, 8, 8, 8, 8, 8, 8, 8, 8, 8, 8, 8, 8, 8, 8, 8, 8, 8, 8, 8, 8, 8, 8, 8, 8, 8, 8, 8, 8, 8, 8, 8, 8, 8, 8, 8, 8, 8, 8, 8, 8, 8, 8, 8]⟩ : ByteArray).size : Int) then (some (wrap64 (x3_2 + (IntKind.i64.wrap (bt (⟨#[0, 1, 2, 2, 3, 3, 3, 3, 4, 4, 4, 4, 4, 4, 4, 4, 5, 5, 5, 5, 5, 5, 5, 5, 5, 5, 5, 5, 5, 5, 5, 5, 6, 6, 6, 6, 6, 6, 6, 6, 6, 6, 6, 6, 6, 6, 6, 6, 6, 6, 6, 6, 6, 6, 6, 6, 6, 6, 6, 6, 6, 6, 6, 6, 7, 7, 7, 7, 7, 7, 7, 7, 7, 7, 7, 7, 7, 7, 7, 7, 7, 7, 7, 7, 7, 7, 7, 7, 7, 7, 7, 7, 7, 7, 7, 7, 7, 7, 7, 7, 7, 7, 7, 7, 7, 7, 7, 7, 7, 7, 7, 7, 7, 7, 7, 7, 7, 7, 7, 7, 7, 7, 7, 7, 7, 7, 7, 7, 8, 8, 8, 8, 8, 8, 8, 8, 8, 8, 8, 8, 8, 8, 8, 8, 8, 8, 8, 8, 8, 8, 8, 8, 8, 8, 8, 8, 8, 8, 8, 8, 8, 8, 8, 8, 8, 8, 8, 8, 8, 8, 8, 8, 8, 8, 8, 8, 8, 8, 8, 8, 8, 8, 8, 8, 8, 8, 8, 8, 8, 8, 8, 8, 8, 8, 8, 8, 8, 8, 8, 8, 8, 8, 8, 8, 8, 8, 8, 8, 8, 8, 8, 8, 8, 8, 8, 8, 8, 8, 8, 8, 8, 8, 8, 8, 8, 8, 8, 8, 8, 8, 8, 8, 8, 8, 8, 8, 8, 8, 8, 8, 8, 8, 8, 8, 8, 8, 8, 8, 8, 8, 8, 8, 8, 8, 8, 8]⟩ : ByteArray) (IntKind.u8.wrap x3_0)))))) else none) else none
def bits_Len64.j1 : Nat → Int → Int → Option (Int)
 | 0, _, _ => none
 | k + 1, x2_0, x2_2 => if x2_0 ≥ 256 then (bits_Len64.j2 k (shrI x2_0 8) (wrap64 (x2_2 + 8))) else (bits_Len64.j2 k x2_0 x2_2)
def bits_Len64.j0 : Nat → Int → Int → Option (Int)
 | 0, _, _ => none
 | k + 1, x1_0, x1_2 => if x1_0 ≥ 65536 then (bits_Len64.j1 k (shrI x1_0 16) (wrap64 (x1_2 + 16))) else (bits_Len64.j1 k x1_0 x1_2)
end
def bits_Len64.f (k : Nat) (a0 : Int) : Option (Int) := if a0 ≥ 4294967296 then (bits_Len64.j0 k (shrI a0 32) 32) else (bits_Len64.j0 k a0 0)
set_option maxHeartbeats 4000000 in
set_option maxRecDepth 100000 in
theorem bits_Len64.ok (k : Nat) (a0 : Int) (r0 : Int) (H : bits_Len64.f k a0 = some r0) : Fn Try.prog 113 [.int .u64 a0] [] [] (fun v bx en => v = .int .i64 r0 ∧ bx = [] ∧ en = []) := by
 refine fn_ 25 Try.func113 rfl rfl rfl (fun base T w0 => ?_)
 rw [bits_Len64.f] at H
 refine gs (rg (sv (EV.as rfl) rfl (re ?_)))
 refine jo (fun S => ∃ (m : Nat) (x1_0 : Int) (x1_2 : Int), bits_Len64.j0 m x1_0 x1_2 = some r0 ∧ S = ⟨[(0, .int .u64 x1_0), (2, .int .i64 x1_2)], [], []⟩) (fun S hS => ?_) (fun jh0 => ?_)
 ·
  clear H
  obtain ⟨m1, x1_0, x1_2, H, rfl⟩ := hS
  rcases m1 with _ | m1
  · rw [bits_Len64.j0] at H; cases H
  rw [bits_Len64.j0] at H
  refine jo (fun S => ∃ (m : Nat) (x2_0 : Int) (x2_2 : Int), m ≤ m1 ∧ bits_Len64.j1 m x2_0 x2_2 = some r0 ∧ S = ⟨[(0, .int .u64 x2_0), (2, .int .i64 x2_2)], [], []⟩) (fun S hS => ?_) (fun jh1 => ?_)
  ·
   clear H
   obtain ⟨m2, x2_0, x2_2, lm2, H, rfl⟩ := hS
   rcases m2 with _ | m2
   · rw [bits_Len64.j1] at H; cases H
   rw [bits_Len64.j1] at H
   refine jo (fun S => ∃ (m : Nat) (x3_0 : Int) (x3_2 : Int), m ≤ m2 ∧ bits_Len64.j2 m x3_0 x3_2 = some r0 ∧ S = ⟨[(0, .int .u64 x3_0), (2, .int .i64 x3_2)], [], []⟩) (fun S hS => ?_) (fun jh2 => ?_)
   ·
    clear H
    obtain ⟨m3, x3_0, x3_2, lm3, H, rfl⟩ := hS
    rcases m3 with _ | m3
    · rw [bits_Len64.j2] at H; cases H
    rw [bits_Len64.j2] at H
    refine gs (rg (sv (EV.mv rfl) rfl (sv (EV.mv rfl) rfl (sv (EV.cv (k' := .u8) rfl) rfl ?_))))
    revert H; refine ggI ?_; intro g4 H
    revert H; refine ggI ?_; intro g5 H
    refine sv (EV.is rfl rfl g4 g5) rfl (sv (EV.cv (k' := .i64) rfl) rfl (sv (EV.add rfl rfl) rfl (sv (EV.as rfl) rfl (re (pr [2] [] [] rfl rfl rfl rfl ?_)))))
    cases H
    exact rt Try.func113 rfl (.tmp rfl .nil) rfl [] [] rfl rfl rfl rfl rfl ⟨rfl, rfl, rfl⟩
   ·
    refine gs (rg (sv (EV.mv rfl) rfl (sv (EV.geq rfl rfl) rfl (re ?_))))
    revert H; refine ifsI ?_ ?_ <;> intro c6 H
    ·
     exact gt rfl (dT c6) (gs (rg (sv (EV.mv rfl) rfl (sv (EV.shr64 rfl rfl dq) rfl (sv (EV.as rfl) rfl (re (rg (sv (EV.mv rfl) rfl (sv (EV.add rfl rfl) rfl (sv (EV.as rfl) rfl (re (pr [0, 2] [] [] rfl rfl rfl rfl (wk [0, 2] [] [] (jh2 _ ⟨_, shrI x2_0 8, wrap64 (x2_2 + 8), by omega, H, rfl⟩))))))))))))))
    ·
     exact gf rfl (dF c6) (gk (wk [0, 2] [] [] (jh2 _ ⟨_, x2_0, x2_2, by omega, H, rfl⟩)))
  ·
   refine gs (rg (sv (EV.mv rfl) rfl (sv (EV.geq rfl rfl) rfl (re ?_))))
   revert H; refine ifsI ?_ ?_ <;> intro c7 H
   ·
    exact gt rfl (dT c7) (gs (rg (sv (EV.mv rfl) rfl (sv (EV.shr64 rfl rfl dq) rfl (sv (EV.as rfl) rfl (re (rg (sv (EV.mv rfl) rfl (sv (EV.add rfl rfl) rfl (sv (EV.as rfl) rfl (re (pr [0, 2] [] [] rfl rfl rfl rfl (wk [0, 2] [] [] (jh1 _ ⟨_, shrI x1_0 16, wrap64 (x1_2 + 16), by omega, H, rfl⟩))))))))))))))
   ·
    exact gf rfl (dF c7) (gk (wk [0, 2] [] [] (jh1 _ ⟨_, x1_0, x1_2, by omega, H, rfl⟩)))
 ·
  refine gs (rg (sv (EV.mv rfl) rfl (sv (EV.geq rfl rfl) rfl (re ?_))))
  revert H; refine ifsI ?_ ?_ <;> intro c8 H
  ·
   exact gt rfl (dT c8) (gs (rg (sv (EV.mv rfl) rfl (sv (EV.shr64 rfl rfl dq) rfl (sv (EV.as rfl) rfl (re (rg (sv (EV.as rfl) rfl (re (wk [0, 2] [] [] (jh0 _ ⟨_, shrI a0 32, 32, H, rfl⟩)))))))))))
  ·
   exact gf rfl (dF c8) (gk (wk [0, 2] [] [] (jh0 _ ⟨_, a0, 0, H, rfl⟩)))
end Go.Proofs.Ytoncjohnkiilcaa.K
namespace Go.Proofs.Ytoncjohnkiilcaa.K
open Go Go.RowKit
set_option linter.unusedVariables false
set_option linter.unusedSimpArgs false
def bits_Len.f (k : Nat) (a0 : Int) : Option (Int) := (bits_Len64.f k a0).bind fun t1 => (some t1)
set_option maxHeartbeats 4000000 in
set_option maxRecDepth 100000 in
theorem bits_Len.ok (k : Nat) (a0 : Int) (r0 : Int) (H : bits_Len.f k a0 = some r0) : Fn Try.prog 103 [.int .u64 a0] [] [] (fun v bx en => v = .int .i64 r0 ∧ bx = [] ∧ en = []) := by
 refine fn_ 8 Try.func103 rfl rfl rfl (fun base T w0 => ?_)
 rw [bits_Len.f] at H
 refine gs (rg (sv (EV.as rfl) rfl (re (gs (gf rfl rfl (gk (gs (rg (sv (EV.mv rfl) rfl ?_)))))))))
 revert H; refine bdI ?_; rintro t1 A1 H
 refine so rfl (op_call (bits_Len64.ok k a0 _ A1) [] 1 rfl rfl rfl rfl rfl ?_)
 rintro _ _ _ ⟨rfl, rfl, rfl⟩
 refine sv (EV.as rfl) rfl (re ?_)
 cases H
 exact rt Try.func103 rfl (.tmp rfl .nil) rfl [] [] rfl rfl rfl rfl rfl ⟨rfl, rfl, rfl⟩
end Go.Proofs.Ytoncjohnkiilcaa.K
namespace Go.Proofs.Ytoncjohnkiilcaa.K
open Go Go.RowKit
set_option linter.unusedVariables false
set_option linter.unusedSimpArgs false
def slices_SortFunc_impl_Group_impl_Group_at93.f (k : Nat) (l0 : List S88) : Option ((List S88)) := (bits_Len.f k (IntKind.u64.wrap (l0.length : Int))).bind fun t1 => ((slices_pdqsortCmpFunc_impl_Group_at93.f k l0 0 (l0.length : Int) t1).bind fun t2 => (some t2))
set_option maxHeartbeats 4000000 in
set_option maxRecDepth 100000 in
theorem slices_SortFunc_impl_Group_impl_Group_at93.ok (k : Nat) (l0 : List S88) (Al0 : Option Addr) (cl0 : Nat) (r0 : List S88) (H : slices_SortFunc_impl_Group_impl_Group_at93.f k l0 = some r0) : Fn Try.prog 92 [.slice Al0 l0.length cl0, .func (.func 93) #[] #[]] [] [.sl 1 k88 Al0 cl0 l0 1 false] (fun v bx en => v = .tuple #[] ∧ bx = [] ∧ en = [.sl 1 k88 Al0 cl0 r0 1 false] ∧ r0.length = l0.length) := by
 refine fn_ 14 Try.func92 rfl rfl rfl (fun base T w0 => ?_)
 rw [slices_SortFunc_impl_Group_impl_Group_at93.f] at H
 refine gs (rg (sv (EV.mv rfl) rfl (sv (EV.ln rfl) rfl (sv (EV.as rfl) rfl (re (rg (sv (EV.mv rfl) rfl (sv (EV.mv rfl) rfl (sv (EV.mv rfl) rfl (sv (EV.cv (k' := .u64) rfl) rfl ?_))))))))))
 revert H; refine bdI ?_; rintro t1 A1 H
 refine so rfl (op_call (bits_Len.ok k (IntKind.u64.wrap (l0.length : Int)) _ A1) [] 2 rfl rfl rfl rfl rfl ?_)
 rintro _ _ _ ⟨rfl, rfl, rfl⟩
 refine sv (EV.mv rfl) rfl ?_
 revert H; refine bdI ?_; rintro t2 A2 H
 refine so rfl (op_callM (slices_pdqsortCmpFunc_impl_Group_at93.ok k l0 Al0 cl0 0 (l0.length : Int) t1 _ A2) [⟨0, 1, 1, false⟩] [] [] 2 rfl rfl rfl rfl rfl rfl rfl rfl ?_)
 rintro _ _ _ ⟨rfl, rfl, rfl, q2_0⟩
 refine rlT 0 (v' := .slice Al0 t2.length cl0) rfl (slq _ _ q2_0) (rlT 5 (v' := .slice Al0 t2.length cl0) rfl (slq _ _ q2_0) (rlT 7 (v' := .slice Al0 t2.length cl0) rfl (slq _ _ q2_0) (nmE (en := [.sl 1 k88 Al0 cl0 t2 3 false]) (by kernel_rfl) (re (pr [] [] [0] rfl rfl rfl rfl ?_)))))
 cases H
 exact rt0 Try.func92 rfl .nil rfl [] [⟨0, 1, 1, false⟩] rfl rfl rfl rfl rfl ⟨rfl, rfl, rfl, by first | rfl | assumption | omega | (simp only [List.length_set]; first | done | assumption | omega)⟩
end Go.Proofs.Ytoncjohnkiilcaa.K
namespace Go.Proofs.Ytoncjohnkiilcaa.K
open Go Go.RowKit
set_option linter.unusedVariables false
set_option linter.unusedSimpArgs false
def impl_CombineGroups.f (a0_0 : Int) (a0_1 : Int) (a0_2 : Int) (a0_3 : Int) (a0_4 : Int) (a1_0 : Int) (a1_1 : Int) (a1_2 : Int) (a1_3 : Int) (a1_4 : Int) : Option (Int × Int × Int × Int × Int) := if a0_0 = a1_0 then (some (a0_0, wrap64 (a0_1 + a1_1), wrap64 (a0_2 + a1_2), mn a0_3 a1_3, mx a0_4 a1_4)) else (some (a0_0, a0_1, a0_2, a0_3, a0_4))
set_option maxHeartbeats 4000000 in
set_option maxRecDepth 100000 in
theorem impl_CombineGroups.ok (a0_0 : Int) (a0_1 : Int) (a0_2 : Int) (a0_3 : Int) (a0_4 : Int) (a1_0 : Int) (a1_1 : Int) (a1_2 : Int) (a1_3 : Int) (a1_4 : Int) (r0 : Int) (r1 : Int) (r2 : Int) (r3 : Int) (r4 : Int) (H : impl_CombineGroups.f a0_0 a0_1 a0_2 a0_3 a0_4 a1_0 a1_1 a1_2 a1_3 a1_4 = some (r0, r1, r2, r3, r4)) : Fn Try.prog 91 [.agg #[.int .i64 a0_0, .int .i64 a0_1, .int .i64 a0_2, .int .i64 a0_3, .int .i64 a0_4], .agg #[.int .i64 a1_0, .int .i64 a1_1, .int .i64 a1_2, .int .i64 a1_3, .int .i64 a1_4]] [] [] (fun v bx en => v = .agg #[.int .i64 r0, .int .i64 r1, .int .i64 r2, .int .i64 r3, .int .i64 r4] ∧ bx = [] ∧ en = []) := by
 refine fn_ 34 Try.func91 rfl rfl rfl (fun base T w0 => ?_)
 rw [impl_CombineGroups.f] at H
 refine gs (rg (so rfl (op_box (cs := [.int .i64 a0_0, .int .i64 a0_1, .int .i64 a0_2, .int .i64 a0_3, .int .i64 a0_4]) rfl rfl rfl fun b2 => (so rfl (op_box (cs := [.int .i64 a1_0, .int .i64 a1_1, .int .i64 a1_2, .int .i64 a1_3, .int .i64 a1_4]) rfl rfl rfl fun b3 => (so rfl (op_alloc (cs := [.int .i64 0, .int .i64 0, .int .i64 0, .int .i64 0, .int .i64 0]) (by kernel_rfl) rfl fun b4 => (re (gs (gs (rg (sv (EV.fa 0 rfl) rfl (sv (EV.ld 0 none rfl rfl rfl) rfl (sv (EV.fa 0 rfl) rfl (sv (EV.ld 1 none rfl rfl rfl) rfl (sv (EV.neq rfl rfl) rfl (re (pr [2, 3, 4, 9] [0, 1, 2] [] rfl rfl rfl rfl ?_))))))))))))))))))
 revert H; refine ifsI ?_ ?_ <;> intro c1 H
 ·
  refine gf rfl (nF c1) (gk (gs (rg (sv (EV.fa 0 rfl) rfl (sv (EV.ld 0 none rfl rfl rfl) rfl (sv (EV.fa 1 rfl) rfl (sv (EV.ld 0 none rfl rfl rfl) rfl (sv (EV.fa 1 rfl) rfl (sv (EV.ld 1 none rfl rfl rfl) rfl (sv (EV.add rfl rfl) rfl (sv (EV.fa 2 rfl) rfl (sv (EV.ld 0 none rfl rfl rfl) rfl (sv (EV.fa 2 rfl) rfl (sv (EV.ld 1 none rfl rfl rfl) rfl (sv (EV.add rfl rfl) rfl (sv (EV.fa 3 rfl) rfl (sv (EV.ld 0 none rfl rfl rfl) rfl (sv (EV.fa 3 rfl) rfl (sv (EV.ld 1 none rfl rfl rfl) rfl (sv (EV.mn rfl rfl) rfl (sv (EV.fa 4 rfl) rfl (sv (EV.ld 0 none rfl rfl rfl) rfl (sv (EV.fa 4 rfl) rfl (sv (EV.ld 1 none rfl rfl rfl) rfl (sv (EV.mx rfl rfl) rfl (sv (EV.bd (v := .agg #[.int .i64 a0_0, .int .i64 (wrap64 (a0_1 + a1_1)), .int .i64 (wrap64 (a0_2 + a1_2)), .int .i64 (mn a0_3 a1_3), .int .i64 (mx a0_4 a1_4)]) rfl (by kernel_rfl)) rfl (so rfl (op_st (cs' := [.int .i64 a0_0, .int .i64 (wrap64 (a0_1 + a1_1)), .int .i64 (wrap64 (a0_2 + a1_2)), .int .i64 (mn a0_3 a1_3), .int .i64 (mx a0_4 a1_4)]) 2 rfl rfl rfl rfl rfl rfl (re ?_)))))))))))))))))))))))))))))
  refine pr [4] [2] [] rfl rfl rfl rfl ?_
  cases H
  exact rt Try.func91 rfl (.cell 0 (some 5) rfl rfl rfl .nil) rfl [] [] rfl rfl rfl rfl rfl ⟨rfl, rfl, rfl⟩
 ·
  refine gt rfl (nT c1) (gs (rg (sv (EV.ld (v := .agg #[.int .i64 a0_0, .int .i64 a0_1, .int .i64 a0_2, .int .i64 a0_3, .int .i64 a0_4]) 0 (some 5) rfl rfl rfl) rfl (so rfl (op_st (cs' := [.int .i64 a0_0, .int .i64 a0_1, .int .i64 a0_2, .int .i64 a0_3, .int .i64 a0_4]) 2 rfl rfl rfl rfl rfl rfl (re ?_))))))
  cases H
  exact rt Try.func91 rfl (.cell 2 (some 5) rfl rfl rfl .nil) rfl [] [] rfl rfl rfl rfl rfl ⟨rfl, rfl, rfl⟩
end Go.Proofs.Ytoncjohnkiilcaa.K
namespace Go.Proofs.Ytoncjohnkiilcaa.K
open Go Go.RowKit
set_option linter.unusedVariables false
set_option linter.unusedSimpArgs false
def impl_MergeGroups.l0 : Nat → (List S88) → (List (Int × Int)) → Int → Int → (List S88) → Option ((List S88))
 | 0, _, _, _, _, _ => none
 | k + 1, x2_3, x2_4, x2_12, x2_13, l0 => if x2_13 < x2_12 then (if 0 ≤ x2_13 then (if x2_13 < (l0.length : Int) then (if ((mGet x2_4 ((rd_T88 l0 x2_13).f0)).isSome) = true then (if 0 ≤ ((mGet x2_4 ((rd_T88 l0 x2_13).f0)).getD 0) then (if ((mGet x2_4 ((rd_T88 l0 x2_13).f0)).getD 0) < (x2_3.length : Int) then ((impl_CombineGroups.f ((rd_T88 x2_3 ((mGet x2_4 ((rd_T88 l0 x2_13).f0)).getD 0)).f0) ((rd_T88 x2_3 ((mGet x2_4 ((rd_T88 l0 x2_13).f0)).getD 0)).f1) ((rd_T88 x2_3 ((mGet x2_4 ((rd_T88 l0 x2_13).f0)).getD 0)).f2) ((rd_T88 x2_3 ((mGet x2_4 ((rd_T88 l0 x2_13).f0)).getD 0)).f3) ((rd_T88 x2_3 ((mGet x2_4 ((rd_T88 l0 x2_13).f0)).getD 0)).f4) ((rd_T88 l0 x2_13).f0) ((rd_T88 l0 x2_13).f1) ((rd_T88 l0 x2_13).f2) ((rd_T88 l0 x2_13).f3) ((rd_T88 l0 x2_13).f4)).bind fun bt9 => ((some (x2_3.set ((mGet x2_4 ((rd_T88 l0 x2_13).f0)).getD 0).toNat (⟨bt9.1, bt9.2.1, bt9.2.2.1, bt9.2.2.2.1, bt9.2.2.2.2⟩ : S88))).bind fun s10 => (impl_MergeGroups.l0 k s10 x2_4 x2_12 (wrap64 (x2_13 + 1)) l0))) else none) else none) else (if x2_3.length < 3518437208883 then (impl_MergeGroups.l0 k (x2_3 ++ ([(⟨(rd_T88 l0 x2_13).f0, (rd_T88 l0 x2_13).f1, (rd_T88 l0 x2_13).f2, (rd_T88 l0 x2_13).f3, (rd_T88 l0 x2_13).f4⟩ : S88)] : List S88)) (mSet x2_4 ((rd_T88 l0 x2_13).f0) (x2_3.length : Int)) x2_12 (wrap64 (x2_13 + 1)) l0) else none)) else none) else none) else ((slices_SortFunc_impl_Group_impl_Group_at93.f k x2_3).bind fun t14 => (some t14))
def impl_MergeGroups.f (k : Nat) (l0 : List S88) : Option ((List S88)) := impl_MergeGroups.l0 k [] ([] : List (Int × Int)) (l0.length : Int) 0 l0
set_option maxHeartbeats 4000000 in
set_option maxRecDepth 100000 in
theorem impl_MergeGroups.ok (k : Nat) (l0 : List S88) (Al0 : Option Addr) (cl0 : Nat) (r0 : List S88) (H : impl_MergeGroups.f k l0 = some r0) : Fn Try.prog 69 [.slice Al0 l0.length cl0] [] [.sl 0 k88 Al0 cl0 l0 0 false] (fun v bx en => ∃ A0 c0, v = .slice A0 r0.length c0 ∧ bx = [] ∧ en = [.sl 1 k88 A0 c0 r0 1 false]) := by
 refine fn_ 48 Try.func69 rfl rfl rfl (fun base T w0 => ?_)
 rw [impl_MergeGroups.f] at H
 refine gs (rg (sv (EV.as rfl) rfl (re (gs (rg (so rfl (op_lit (s := 5) (by_ := 40) k88 ([] : List S88) [] [] 1 [] rfl rfl rfl rfl rfl rfl rfl rfl rfl rfl rfl rfl rfl dq rfl fun A9_1 c9_1 => (so rfl (op_mkm (β := Int) .i64 (Value.int .i64) 2 rfl dq rfl fun r10_2 => (sv (EV.as rfl) rfl (sv (EV.as rfl) rfl (re (gs (gs (rg (sv (EV.mv rfl) rfl (sv (EV.ln rfl) rfl (sv (EV.mv rfl) rfl (re (gb ?_))))))))))))))))))))
 refine lo (fun kk S => ∃ (x2_3 : List S88) (Ax2_3 : Option Addr) (cx2_3 : Nat) (x2_4 : List (Int × Int)) (rx2_4 : Nat) (x2_12 : Int) (x2_13 : Int), impl_MergeGroups.l0 kk x2_3 x2_4 x2_12 x2_13 l0 = some r0 ∧ S = ⟨[(3, .slice Ax2_3 x2_3.length cx2_3), (4, .map (some rx2_4)), (11, .slice Al0 l0.length cl0), (12, .int .i64 x2_12), (13, .int .i64 x2_13)], [], [.sl 2 k88 Ax2_3 cx2_3 x2_3 1 true, mapE .i64 (Value.int .i64) rx2_4 x2_4 2, .sl 0 k88 Al0 cl0 l0 0 false]⟩) (fun S hS => ?_) (fun n0 ih0 S hS => ?_) ⟨[], A9_1, c9_1, ([] : List (Int × Int)), r10_2, (l0.length : Int), 0, H, rfl⟩ (fun h => wk [3, 4, 11, 12, 13] [] [⟨1, 2, 1, true⟩, ⟨2, 1, 2, false⟩, ⟨0, 0, 0, false⟩] h)
 · clear H; obtain ⟨_, _, _, _, _, _, _, H, _⟩ := hS; rw [impl_MergeGroups.l0] at H; cases H
 clear H
 obtain ⟨x2_3, Ax2_3, cx2_3, x2_4, rx2_4, x2_12, x2_13, H, rfl⟩ := hS
 rw [impl_MergeGroups.l0] at H
 refine gs (rg (sv (EV.lss rfl rfl) rfl (re (gs ?_))))
 revert H; refine ifsI ?_ ?_ <;> intro c3 H
 ·
  refine gt rfl (dT c3) (gk (gs (gb (gs (rg ?_)))))
  revert H; refine ggI ?_; intro g4 H
  revert H; refine ggI ?_; intro g5 H
  refine sv (EV.ix 2 rfl rfl rfl g4 g5 rfl) rfl (sv (EV.le (v := .agg #[.int .i64 ((rd_T88 l0 x2_13).f0), .int .i64 ((rd_T88 l0 x2_13).f1), .int .i64 ((rd_T88 l0 x2_13).f2), .int .i64 ((rd_T88 l0 x2_13).f3), .int .i64 ((rd_T88 l0 x2_13).f4)]) x2_13 0 (some 5) 2 z88 rfl rfl rfl g4 g5 rfl rfl rfl) rfl (so rfl (op_alloc (cs := [.int .i64 0, .int .i64 0, .int .i64 0, .int .i64 0, .int .i64 0]) (by kernel_rfl) rfl fun b6 => (so rfl (op_st (cs' := [.int .i64 ((rd_T88 l0 x2_13).f0), .int .i64 ((rd_T88 l0 x2_13).f1), .int .i64 ((rd_T88 l0 x2_13).f2), .int .i64 ((rd_T88 l0 x2_13).f3), .int .i64 ((rd_T88 l0 x2_13).f4)]) 0 rfl rfl rfl rfl rfl rfl (re (gs (rg (sv (EV.mv rfl) rfl (sv (EV.fa 0 rfl) rfl (sv (EV.ld 0 none rfl rfl rfl) rfl (sv (EV.lk2 (vf := (Value.int .i64)) (zz := 0) 1 rfl rfl rfl) rfl (sv (EV.mv rfl) rfl (sv (EV.ex rfl rfl) rfl (sv (EV.ex rfl rfl) rfl (sv (EV.as rfl) rfl (sv (EV.as rfl) rfl (re (pr [3, 4, 6, 7, 8, 11, 12, 13] [0] [0, 1, 2] rfl rfl rfl rfl (gs (gs (rg (sv (EV.mv rfl) rfl (sv (EV.nt rfl) rfl (re ?_)))))))))))))))))))))))))
  revert H; refine ifsI ?_ ?_ <;> intro c6 H
  ·
   refine gf rfl (bN c6) (gk ?_)
   revert H; refine ggI ?_; intro g7 H
   revert H; refine ggI ?_; intro g8 H
   refine dr [0] [0, 1, 2] [9] 10 rfl rfl rfl rfl (xv 0 [0] [0, 1, 2] rfl (EV.mv rfl) rfl rfl rfl rfl (xv 1 [0] [0, 1, 2] rfl (EV.mv rfl) rfl rfl rfl rfl (xv 2 [0] [0, 1, 2] rfl (EV.mv rfl) rfl rfl rfl rfl (xv 3 [0] [0, 1, 2] rfl (EV.mv rfl) rfl rfl rfl rfl (xv 4 [0] [0, 1, 2] rfl (EV.ix 0 rfl rfl rfl g7 g8 rfl) rfl rfl rfl rfl (xv 5 [0] [0, 1, 2] rfl (EV.le (v := .agg #[.int .i64 ((rd_T88 x2_3 ((mGet x2_4 ((rd_T88 l0 x2_13).f0)).getD 0)).f0), .int .i64 ((rd_T88 x2_3 ((mGet x2_4 ((rd_T88 l0 x2_13).f0)).getD 0)).f1), .int .i64 ((rd_T88 x2_3 ((mGet x2_4 ((rd_T88 l0 x2_13).f0)).getD 0)).f2), .int .i64 ((rd_T88 x2_3 ((mGet x2_4 ((rd_T88 l0 x2_13).f0)).getD 0)).f3), .int .i64 ((rd_T88 x2_3 ((mGet x2_4 ((rd_T88 l0 x2_13).f0)).getD 0)).f4)]) ((mGet x2_4 ((rd_T88 l0 x2_13).f0)).getD 0) 0 (some 5) 0 z88 rfl rfl rfl g7 g8 rfl rfl rfl) rfl rfl rfl rfl (xv 6 [0] [0, 1, 2] rfl (EV.ld (v := .agg #[.int .i64 ((rd_T88 l0 x2_13).f0), .int .i64 ((rd_T88 l0 x2_13).f1), .int .i64 ((rd_T88 l0 x2_13).f2), .int .i64 ((rd_T88 l0 x2_13).f3), .int .i64 ((rd_T88 l0 x2_13).f4)]) 0 (some 5) rfl rfl rfl) rfl rfl rfl rfl (one1 7 rfl rfl ?_))))))))
   revert H; refine bdI ?_; rintro ⟨t9_0, t9_1, t9_2, t9_3, t9_4⟩ A9 H
   refine op_call (impl_CombineGroups.ok ((rd_T88 x2_3 ((mGet x2_4 ((rd_T88 l0 x2_13).f0)).getD 0)).f0) ((rd_T88 x2_3 ((mGet x2_4 ((rd_T88 l0 x2_13).f0)).getD 0)).f1) ((rd_T88 x2_3 ((mGet x2_4 ((rd_T88 l0 x2_13).f0)).getD 0)).f2) ((rd_T88 x2_3 ((mGet x2_4 ((rd_T88 l0 x2_13).f0)).getD 0)).f3) ((rd_T88 x2_3 ((mGet x2_4 ((rd_T88 l0 x2_13).f0)).getD 0)).f4) ((rd_T88 l0 x2_13).f0) ((rd_T88 l0 x2_13).f1) ((rd_T88 l0 x2_13).f2) ((rd_T88 l0 x2_13).f3) ((rd_T88 l0 x2_13).f4) _ _ _ _ _ A9) [] 3 rfl rfl rfl rfl rfl ?_
   rintro _ _ _ ⟨rfl, rfl, rfl⟩
   refine xs [0] [0, 1, 2] rfl rfl rfl (xv 8 [0] [0, 1, 2] rfl (EV.ix 0 rfl rfl rfl g7 g8 rfl) rfl rfl rfl rfl (one1 9 rfl rfl ?_))
   revert H; refine bdI ?_; intro s10 A10 H; have q10 := stl (Option.some.inj A10)
   exact op_stg ((mGet x2_4 ((rd_T88 l0 x2_13).f0)).getD 0) 0 0 z88 (⟨t9_0, t9_1, t9_2, t9_3, t9_4⟩ : S88) (Option.some.inj A10) rfl rfl rfl rfl g7 g8 rfl rfl rfl rfl dq rfl (rlT 3 (v' := .slice Ax2_3 s10.length cx2_3) rfl (slq _ _ q10) (rlT 35 (v' := .slice Ax2_3 s10.length cx2_3) rfl (slq _ _ q10) (rlT 37 (v' := .slice Ax2_3 s10.length cx2_3) rfl (slq _ _ q10) (nmE (en := [mapE .i64 (Value.int .i64) rx2_4 x2_4 2, .sl 0 k88 Al0 cl0 l0 0 false, .sl 2 k88 Ax2_3 cx2_3 s10 1 true]) (by kernel_rfl) (xn rfl (xd (pr [3, 4, 11, 12, 13] [] [0, 1, 2] rfl rfl rfl rfl (ge (rg (sv (EV.add rfl rfl) rfl (sv (EV.mv rfl) rfl (re (wk [3, 4, 11, 12, 13] [] [⟨2, 2, 1, true⟩, ⟨0, 1, 2, false⟩, ⟨1, 0, 0, false⟩] (ih0 _ (by omega) _ ⟨s10, Ax2_3, cx2_3, x2_4, rx2_4, x2_12, wrap64 (x2_13 + 1), H, rfl⟩))))))))))))))
  ·
   refine gt rfl (bM c6) (gs (rg (sv (EV.mv rfl) rfl (sv (EV.fa 0 rfl) rfl (sv (EV.ld 0 none rfl rfl rfl) rfl (sv (EV.mv rfl) rfl (sv (EV.ln rfl) rfl (so rfl (op_mu 1 (x2_3.length : Int) rfl rfl rfl rfl rfl (nmE (en := [.sl 2 k88 Ax2_3 cx2_3 x2_3 1 true, .sl 0 k88 Al0 cl0 l0 0 false, mapE .i64 (Value.int .i64) rx2_4 (mSet x2_4 ((rd_T88 l0 x2_13).f0) (x2_3.length : Int)) 2]) (by kernel_rfl) (re (pr [3, 4, 6, 11, 12, 13] [0] [0, 1, 2] rfl rfl rfl rfl (gs (rg (sv (EV.mv rfl) rfl (sv (EV.ld (v := .agg #[.int .i64 ((rd_T88 l0 x2_13).f0), .int .i64 ((rd_T88 l0 x2_13).f1), .int .i64 ((rd_T88 l0 x2_13).f2), .int .i64 ((rd_T88 l0 x2_13).f3), .int .i64 ((rd_T88 l0 x2_13).f4)]) 0 (some 5) rfl rfl rfl) rfl (so rfl (op_lit (s := 5) (by_ := 40) k88 ([(⟨(rd_T88 l0 x2_13).f0, (rd_T88 l0 x2_13).f1, (rd_T88 l0 x2_13).f2, (rd_T88 l0 x2_13).f3, (rd_T88 l0 x2_13).f4⟩ : S88)] : List S88) [[]] [] 3 [.tmp 32] rfl rfl rfl rfl rfl rfl rfl rfl rfl rfl rfl rfl rfl dq rfl fun A33_11 c33_11 => ?_))))))))))))))))))
   revert H; refine ggI ?_; intro g12 H
   exact so rfl (op_app (k := k88) (s := 5) (by_ := 40) 0 3 rfl rfl rfl rfl (ap1 g12 dq) (ap1n g12 dq) (.inl rfl) true (fun _ => .inl rfl) rfl rfl fun A34_13 c34_13 => (nmE (en := [.sl 0 k88 Al0 cl0 l0 0 false, mapE .i64 (Value.int .i64) rx2_4 (mSet x2_4 ((rd_T88 l0 x2_13).f0) (x2_3.length : Int)) 2, .sl 2 k88 A33_11 c33_11 ([(⟨(rd_T88 l0 x2_13).f0, (rd_T88 l0 x2_13).f1, (rd_T88 l0 x2_13).f2, (rd_T88 l0 x2_13).f3, (rd_T88 l0 x2_13).f4⟩ : S88)] : List S88) 3 true, .sl 2 k88 A34_13 c34_13 (x2_3 ++ ([(⟨(rd_T88 l0 x2_13).f0, (rd_T88 l0 x2_13).f1, (rd_T88 l0 x2_13).f2, (rd_T88 l0 x2_13).f3, (rd_T88 l0 x2_13).f4⟩ : S88)] : List S88)) 1 true]) (by kernel_rfl) (sv (EV.as rfl) rfl (re (gx rfl (rg (sv (EV.add rfl rfl) rfl (sv (EV.mv rfl) rfl (re (pr [3, 4, 11, 12, 13] [] [0, 1, 3] rfl rfl rfl rfl (wk [3, 4, 11, 12, 13] [] [⟨2, 2, 1, true⟩, ⟨1, 1, 2, false⟩, ⟨0, 0, 0, false⟩] (ih0 _ (by omega) _ ⟨x2_3 ++ ([(⟨(rd_T88 l0 x2_13).f0, (rd_T88 l0 x2_13).f1, (rd_T88 l0 x2_13).f2, (rd_T88 l0 x2_13).f3, (rd_T88 l0 x2_13).f4⟩ : S88)] : List S88), A34_13, c34_13, mSet x2_4 ((rd_T88 l0 x2_13).f0) (x2_3.length : Int), rx2_4, x2_12, wrap64 (x2_13 + 1), H, rfl⟩))))))))))))
 ·
  refine gf rfl (dF c3) (gx rfl (gs (rg (sv (EV.mv rfl) rfl ?_))))
  revert H; refine bdI ?_; rintro t14 A14 H
  refine so rfl (op_callM (slices_SortFunc_impl_Group_impl_Group_at93.ok n0 x2_3 Ax2_3 cx2_3 _ A14) [⟨0, 1, 1, false⟩] [] [] 3 rfl rfl rfl rfl rfl rfl rfl rfl ?_)
  rintro _ _ _ ⟨rfl, rfl, rfl, q14_0⟩
  refine rlT 3 (v' := .slice Ax2_3 t14.length cx2_3) rfl (slq _ _ q14_0) (rlT 45 (v' := .slice Ax2_3 t14.length cx2_3) rfl (slq _ _ q14_0) (nmE (en := [mapE .i64 (Value.int .i64) rx2_4 x2_4 2, .sl 0 k88 Al0 cl0 l0 0 false, .sl 1 k88 Ax2_3 cx2_3 t14 4 false]) (by kernel_rfl) (re (pr [3] [] [2] rfl rfl rfl rfl (gs (rg (sv (EV.mv rfl) rfl (sv (EV.as rfl) rfl (re ?_)))))))))
  cases H
  exact rt Try.func69 rfl (.tmp rfl .nil) rfl [] [⟨0, 1, 1, false⟩] rfl rfl rfl rfl rfl ⟨_, _, rfl, rfl, rfl⟩
end Go.Proofs.Ytoncjohnkiilcaa.K
namespace Go.Proofs.Ytoncjohnkiilcaa.K
open Go Go.RowKit
set_option linter.unusedVariables false
set_option linter.unusedSimpArgs false
def impl_GroupFromRow.f (a0_0 : Int) (a0_1 : Int) (a0_2 : Int) : Option (Int × Int × Int × Int × Int) := some (a0_0, 1, a0_1, a0_1, a0_1)
set_option maxHeartbeats 4000000 in
set_option maxRecDepth 100000 in
theorem impl_GroupFromRow.ok (a0_0 : Int) (a0_1 : Int) (a0_2 : Int) (r0 : Int) (r1 : Int) (r2 : Int) (r3 : Int) (r4 : Int) (H : impl_GroupFromRow.f a0_0 a0_1 a0_2 = some (r0, r1, r2, r3, r4)) : Fn Try.prog 96 [.agg #[.int .i64 a0_0, .int .i64 a0_1, .int .i64 a0_2]] [] [] (fun v bx en => v = .agg #[.int .i64 r0, .int .i64 r1, .int .i64 r2, .int .i64 r3, .int .i64 r4] ∧ bx = [] ∧ en = []) := by
 refine fn_ 12 Try.func96 rfl rfl rfl (fun base T w0 => ?_)
 rw [impl_GroupFromRow.f] at H
 refine gs (rg (so rfl (op_box (cs := [.int .i64 a0_0, .int .i64 a0_1, .int .i64 a0_2]) rfl rfl rfl fun b1 => (so rfl (op_alloc (cs := [.int .i64 0, .int .i64 0, .int .i64 0, .int .i64 0, .int .i64 0]) (by kernel_rfl) rfl fun b2 => (re (gs (rg (sv (EV.fa 0 rfl) rfl (sv (EV.ld 0 none rfl rfl rfl) rfl (sv (EV.fa 1 rfl) rfl (sv (EV.ld 0 none rfl rfl rfl) rfl (sv (EV.fa 1 rfl) rfl (sv (EV.ld 0 none rfl rfl rfl) rfl (sv (EV.fa 1 rfl) rfl (sv (EV.ld 0 none rfl rfl rfl) rfl (sv (EV.bd (v := .agg #[.int .i64 a0_0, .int .i64 1, .int .i64 a0_1, .int .i64 a0_1, .int .i64 a0_1]) rfl (by kernel_rfl)) rfl (so rfl (op_st (cs' := [.int .i64 a0_0, .int .i64 1, .int .i64 a0_1, .int .i64 a0_1, .int .i64 a0_1]) 1 rfl rfl rfl rfl rfl rfl (re (pr [2] [1] [] rfl rfl rfl rfl ?_)))))))))))))))))))))
 cases H
 exact rt Try.func96 rfl (.cell 0 (some 5) rfl rfl rfl .nil) rfl [] [] rfl rfl rfl rfl rfl ⟨rfl, rfl, rfl⟩
end Go.Proofs.Ytoncjohnkiilcaa.K
namespace Go.Proofs.Ytoncjohnkiilcaa.K
open Go Go.RowKit
set_option linter.unusedVariables false
set_option linter.unusedSimpArgs false
def impl_ReferenceGroups.l0 : Nat → (List S88) → Int → Int → (List S73) → Option ((List S88))
 | 0, _, _, _, _ => none
 | k + 1, x2_3, x2_8, x2_9, l0 => if x2_9 < x2_8 then (if 0 ≤ x2_9 then (if x2_9 < (l0.length : Int) then ((impl_GroupFromRow.f ((rd_T73 l0 x2_9).f0) ((rd_T73 l0 x2_9).f1) ((rd_T73 l0 x2_9).f2)).bind fun bt5 => (if x2_3.length < 3518437208883 then (impl_ReferenceGroups.l0 k (x2_3 ++ ([(⟨bt5.1, bt5.2.1, bt5.2.2.1, bt5.2.2.2.1, bt5.2.2.2.2⟩ : S88)] : List S88)) x2_8 (wrap64 (x2_9 + 1)) l0) else none)) else none) else none) else ((impl_MergeGroups.f k x2_3).bind fun t9 => (some t9))
def impl_ReferenceGroups.f (k : Nat) (l0 : List S73) : Option ((List S88)) := impl_ReferenceGroups.l0 k [] (l0.length : Int) 0 l0
set_option maxHeartbeats 4000000 in
set_option maxRecDepth 100000 in
theorem impl_ReferenceGroups.ok (k : Nat) (l0 : List S73) (Al0 : Option Addr) (cl0 : Nat) (r0 : List S88) (H : impl_ReferenceGroups.f k l0 = some r0) : Fn Try.prog 73 [.slice Al0 l0.length cl0] [] [.sl 0 k73 Al0 cl0 l0 0 false] (fun v bx en => ∃ A0 c0, v = .slice A0 r0.length c0 ∧ bx = [] ∧ en = [.sl 1 k88 A0 c0 r0 1 false]) := by
 refine fn_ 21 Try.func73 rfl rfl rfl (fun base T w0 => ?_)
 rw [impl_ReferenceGroups.f] at H
 refine gs (rg (sv (EV.as rfl) rfl (re (gs (rg (so rfl (op_lit (s := 5) (by_ := 40) k88 ([] : List S88) [] [] 1 [] rfl rfl rfl rfl rfl rfl rfl rfl rfl rfl rfl rfl rfl dq rfl fun A6_1 c6_1 => (sv (EV.as rfl) rfl (re (gs (gs (rg (sv (EV.mv rfl) rfl (sv (EV.ln rfl) rfl (sv (EV.mv rfl) rfl (re (gb ?_)))))))))))))))))
 refine lo (fun kk S => ∃ (x2_3 : List S88) (Ax2_3 : Option Addr) (cx2_3 : Nat) (x2_8 : Int) (x2_9 : Int), impl_ReferenceGroups.l0 kk x2_3 x2_8 x2_9 l0 = some r0 ∧ S = ⟨[(3, .slice Ax2_3 x2_3.length cx2_3), (7, .slice Al0 l0.length cl0), (8, .int .i64 x2_8), (9, .int .i64 x2_9)], [], [.sl 2 k88 Ax2_3 cx2_3 x2_3 1 true, .sl 0 k73 Al0 cl0 l0 0 false]⟩) (fun S hS => ?_) (fun n0 ih0 S hS => ?_) ⟨[], A6_1, c6_1, (l0.length : Int), 0, H, rfl⟩ (fun h => wk [3, 7, 8, 9] [] [⟨1, 2, 1, true⟩, ⟨0, 0, 0, false⟩] h)
 · clear H; obtain ⟨_, _, _, _, _, H, _⟩ := hS; rw [impl_ReferenceGroups.l0] at H; cases H
 clear H
 obtain ⟨x2_3, Ax2_3, cx2_3, x2_8, x2_9, H, rfl⟩ := hS
 rw [impl_ReferenceGroups.l0] at H
 refine gs (rg (sv (EV.lss rfl rfl) rfl (re (gs ?_))))
 revert H; refine ifsI ?_ ?_ <;> intro c2 H
 ·
  refine gt rfl (dT c2) (gk (gs (gb (gs (rg ?_)))))
  revert H; refine ggI ?_; intro g3 H
  revert H; refine ggI ?_; intro g4 H
  refine sv (EV.ix 1 rfl rfl rfl g3 g4 rfl) rfl (sv (EV.le (v := .agg #[.int .i64 ((rd_T73 l0 x2_9).f0), .int .i64 ((rd_T73 l0 x2_9).f1), .int .i64 ((rd_T73 l0 x2_9).f2)]) x2_9 0 (some 3) 1 z73 rfl rfl rfl g3 g4 rfl rfl rfl) rfl (so rfl (op_alloc (cs := [.int .i64 0, .int .i64 0, .int .i64 0]) (by kernel_rfl) rfl fun b5 => (so rfl (op_st (cs' := [.int .i64 ((rd_T73 l0 x2_9).f0), .int .i64 ((rd_T73 l0 x2_9).f1), .int .i64 ((rd_T73 l0 x2_9).f2)]) 0 rfl rfl rfl rfl rfl rfl (re (rg (sv (EV.mv rfl) rfl (sv (EV.ld (v := .agg #[.int .i64 ((rd_T73 l0 x2_9).f0), .int .i64 ((rd_T73 l0 x2_9).f1), .int .i64 ((rd_T73 l0 x2_9).f2)]) 0 (some 3) rfl rfl rfl) rfl ?_)))))))))
  revert H; refine bdI ?_; rintro ⟨t5_0, t5_1, t5_2, t5_3, t5_4⟩ A5 H
  refine so rfl (op_call (impl_GroupFromRow.ok ((rd_T73 l0 x2_9).f0) ((rd_T73 l0 x2_9).f1) ((rd_T73 l0 x2_9).f2) _ _ _ _ _ A5) [] 2 rfl rfl rfl rfl rfl ?_)
  rintro _ _ _ ⟨rfl, rfl, rfl⟩
  refine so rfl (op_lit (s := 5) (by_ := 40) k88 ([(⟨t5_0, t5_1, t5_2, t5_3, t5_4⟩ : S88)] : List S88) [[]] [] 2 [.tmp 15] rfl rfl rfl rfl rfl rfl rfl rfl rfl rfl rfl rfl rfl dq rfl fun A16_6 c16_6 => ?_)
  revert H; refine ggI ?_; intro g7 H
  exact so rfl (op_app (k := k88) (s := 5) (by_ := 40) 0 2 rfl rfl rfl rfl (ap1 g7 dq) (ap1n g7 dq) (.inl rfl) true (fun _ => .inl rfl) rfl rfl fun A17_8 c17_8 => (nmE (en := [.sl 0 k73 Al0 cl0 l0 0 false, .sl 2 k88 A16_6 c16_6 ([(⟨t5_0, t5_1, t5_2, t5_3, t5_4⟩ : S88)] : List S88) 2 true, .sl 2 k88 A17_8 c17_8 (x2_3 ++ ([(⟨t5_0, t5_1, t5_2, t5_3, t5_4⟩ : S88)] : List S88)) 1 true]) (by kernel_rfl) (sv (EV.as rfl) rfl (re (pr [3, 7, 8, 9] [] [0, 2] rfl rfl rfl rfl (ge (rg (sv (EV.add rfl rfl) rfl (sv (EV.mv rfl) rfl (re (wk [3, 7, 8, 9] [] [⟨1, 2, 1, true⟩, ⟨0, 0, 0, false⟩] (ih0 _ (by omega) _ ⟨x2_3 ++ ([(⟨t5_0, t5_1, t5_2, t5_3, t5_4⟩ : S88)] : List S88), A17_8, c17_8, x2_8, wrap64 (x2_9 + 1), H, rfl⟩))))))))))))
 ·
  refine gf rfl (dF c2) (gx rfl (gs (rg (sv (EV.mv rfl) rfl ?_))))
  revert H; refine bdI ?_; rintro t9 A9 H
  refine so rfl (op_call (impl_MergeGroups.ok n0 x2_3 Ax2_3 cx2_3 _ A9) [⟨0, 0, 0, false⟩] 2 rfl rfl rfl rfl rfl ?_)
  rintro _ _ _ ⟨At9, ct9, rfl, rfl, rfl⟩
  refine sv (EV.as rfl) rfl (re (pr [2] [] [2] rfl rfl rfl rfl ?_))
  cases H
  exact rt Try.func73 rfl (.tmp rfl .nil) rfl [] [⟨0, 1, 1, false⟩] rfl rfl rfl rfl rfl ⟨_, _, rfl, rfl, rfl⟩
end Go.Proofs.Ytoncjohnkiilcaa.K
namespace Go.Proofs.Ytoncjohnkiilcaa.K
open Go Go.RowKit
set_option linter.unusedVariables false
set_option linter.unusedSimpArgs false
def impl_cloneAggregator.l0 : Nat → (List S80) → Int → Int → Int → Bool → (List S80) → Int → Bool → (List S80) → Option ((List S80) × Int × Bool)
 | 0, _, _, _, _, _, _, _, _, _ => none
 | k + 1, x2_3, x2_8, x2_9, x2_1_1, x2_1_2, x2_2_0, x2_2_1, x2_2_2, l0_0 => if x2_9 < x2_8 then (if 0 ≤ x2_9 then (if x2_9 < (l0_0.length : Int) then (if x2_3.length < 4398046511104 then ((impl_clone.f ((rd_T80 l0_0 x2_9).f0)).bind fun t6 => (impl_cloneAggregator.l0 k (x2_3 ++ ([(⟨t6, (rd_T80 l0_0 x2_9).f1⟩ : S80)] : List S80)) x2_8 (wrap64 (x2_9 + 1)) x2_1_1 x2_1_2 x2_2_0 x2_2_1 x2_2_2 l0_0)) else none) else none) else none) else (some (x2_3, x2_1_1, x2_1_2))
def impl_cloneAggregator.f (k : Nat) (l0_0 : List S80) (a0_1 : Int) (a0_2 : Bool) : Option ((List S80) × Int × Bool) := impl_cloneAggregator.l0 k [] (l0_0.length : Int) 0 a0_1 a0_2 [] 0 false l0_0
set_option maxHeartbeats 4000000 in
set_option maxRecDepth 100000 in
theorem impl_cloneAggregator.ok (k : Nat) (l0_0 : List S80) (Al0_0 : Option Addr) (cl0_0 : Nat) (a0_1 : Int) (a0_2 : Bool) (r0 : List S80) (r1 : Int) (r2 : Bool) (H : impl_cloneAggregator.f k l0_0 a0_1 a0_2 = some (r0, r1, r2)) : Fn Try.prog 80 [.agg #[.slice Al0_0 l0_0.length cl0_0, .int .i64 a0_1, .bool a0_2]] [] [.sl 0 k80 Al0_0 cl0_0 l0_0 0 false] (fun v bx en => ∃ A0 c0, v = .agg #[.slice A0 r0.length c0, .int .i64 r1, .bool r2] ∧ bx = [] ∧ en = [.sl 2 k80 A0 c0 r0 1 true]) := by
 refine fn_ 26 Try.func80 rfl rfl rfl (fun base T w0 => ?_)
 rw [impl_cloneAggregator.f] at H
 refine gs (rg (so rfl (op_box (cs := [.slice Al0_0 l0_0.length cl0_0, .int .i64 a0_1, .bool a0_2]) rfl rfl rfl fun b1 => (so rfl (op_alloc (cs := [.slice none 0 0, .int .i64 0, .bool false]) (by kernel_rfl) rfl fun b2 => (re (gs (rg (sv (EV.as rfl) rfl (re (gs (gs (rg (sv (EV.fa 0 rfl) rfl (sv (EV.ld 0 none rfl rfl rfl) rfl (sv (EV.ln rfl) rfl (sv (EV.mv rfl) rfl (re (gb (nil_ k80 1 dq (nil_ k80 2 dq ?_)))))))))))))))))))))
 refine lo (fun kk S => ∃ (x2_3 : List S80) (Ax2_3 : Option Addr) (cx2_3 : Nat) (x2_8 : Int) (x2_9 : Int) (x2_1_1 : Int) (x2_1_2 : Bool) (x2_2_0 : List S80) (Ax2_2_0 : Option Addr) (cx2_2_0 : Nat) (x2_2_1 : Int) (x2_2_2 : Bool), impl_cloneAggregator.l0 kk x2_3 x2_8 x2_9 x2_1_1 x2_1_2 x2_2_0 x2_2_1 x2_2_2 l0_0 = some (r0, r1, r2) ∧ S = ⟨[(1, .pointer (some ⟨b1, 0, none⟩)), (2, .pointer (some ⟨b2, 0, none⟩)), (3, .slice Ax2_3 x2_3.length cx2_3), (7, .slice Al0_0 l0_0.length cl0_0), (8, .int .i64 x2_8), (9, .int .i64 x2_9)], [⟨b1, 40, [.slice Al0_0 l0_0.length cl0_0, .int .i64 x2_1_1, .bool x2_1_2]⟩, ⟨b2, 40, [.slice Ax2_2_0 x2_2_0.length cx2_2_0, .int .i64 x2_2_1, .bool x2_2_2]⟩], [.sl 2 k80 Ax2_3 cx2_3 x2_3 1 true, .sl 2 k80 Ax2_2_0 cx2_2_0 x2_2_0 2 true, .sl 0 k80 Al0_0 cl0_0 l0_0 0 false]⟩) (fun S hS => ?_) (fun n0 ih0 S hS => ?_) ⟨[], none, 0, (l0_0.length : Int), 0, a0_1, a0_2, [], none, 0, 0, false, H, rfl⟩ (fun h => wk [1, 2, 3, 7, 8, 9] [0, 1] [⟨1, 2, 1, true⟩, ⟨2, 2, 2, true⟩, ⟨0, 0, 0, false⟩] h)
 · clear H; obtain ⟨_, _, _, _, _, _, _, _, _, _, _, _, H, _⟩ := hS; rw [impl_cloneAggregator.l0] at H; cases H
 clear H
 obtain ⟨x2_3, Ax2_3, cx2_3, x2_8, x2_9, x2_1_1, x2_1_2, x2_2_0, Ax2_2_0, cx2_2_0, x2_2_1, x2_2_2, H, rfl⟩ := hS
 rw [impl_cloneAggregator.l0] at H
 refine gs (rg (sv (EV.lss rfl rfl) rfl (re (gs ?_))))
 revert H; refine ifsI ?_ ?_ <;> intro c1 H
 ·
  refine gt rfl (dT c1) (gk (gs (gb (gs (rg ?_)))))
  revert H; refine ggI ?_; intro g2 H
  revert H; refine ggI ?_; intro g3 H
  refine sv (EV.ix 2 rfl rfl rfl g2 g3 rfl) rfl (opn (i := x2_9) 2 z80 rfl g2 g3 fun A_4 c_4 => (sv (EV.lc (v := .agg #[.slice A_4 ((rd_T80 l0_0 x2_9).f0).length c_4, .int .i64 ((rd_T80 l0_0 x2_9).f1)]) 0 (some 2) 3 rfl rfl rfl rfl) rfl (so rfl (op_alloc (cs := [.slice none 0 0, .int .i64 0]) (by kernel_rfl) rfl fun b5 => (so rfl (op_st (cs' := [.slice A_4 ((rd_T80 l0_0 x2_9).f0).length c_4, .int .i64 ((rd_T80 l0_0 x2_9).f1)]) 2 rfl rfl rfl rfl rfl rfl (re ?_)))))))
  revert H; refine ggI ?_; intro g5 H
  refine dr [0, 1, 2] [1, 2, 3, 4] [9] 10 rfl rfl rfl rfl (xv 0 [0, 1, 2] [1, 2, 3, 4] rfl (EV.mv rfl) rfl rfl rfl rfl (xv 1 [0, 1, 2] [1, 2, 3, 4] rfl (EV.fa 0 rfl) rfl rfl rfl rfl (xv 2 [0, 1, 2] [1, 2, 3, 4] rfl (EV.ld 2 none rfl rfl rfl) rfl rfl rfl rfl (xv 4 [0, 1, 2] [1, 2, 3, 4] rfl (EV.fa 1 rfl) rfl rfl rfl rfl (xv 5 [0, 1, 2] [1, 2, 3, 4] rfl (EV.ld 2 none rfl rfl rfl) rfl rfl rfl rfl (one1 3 rfl rfl ?_))))))
  revert H; refine bdI ?_; rintro t6 A6 H
  refine op_call (impl_clone.ok ((rd_T80 l0_0 x2_9).f0) A_4 c_4 _ A6) [⟨4, 0, 0, false⟩] 3 rfl rfl rfl rfl rfl ?_
  rintro _ _ _ ⟨At6, ct6, rfl, rfl, rfl⟩
  exact xs [0, 1, 2] [1, 2, 3, 4] rfl rfl rfl (xv 6 [0, 1, 2] [1, 2, 3, 4] rfl (EV.bd (v := .agg #[.slice At6 t6.length ct6, .int .i64 ((rd_T80 l0_0 x2_9).f1)]) rfl (by kernel_rfl)) rfl rfl rfl rfl (one1 7 rfl rfl (op_lit (s := 2) (by_ := 32) k80 ([(⟨t6, (rd_T80 l0_0 x2_9).f1⟩ : S80)] : List S80) [[(At6, ct6)]] [5] 5 [.tmp 19] rfl rfl rfl rfl rfl rfl rfl rfl rfl rfl rfl rfl rfl dq rfl fun A20_7 c20_7 => (nmE (en := [.sl 2 k80 Ax2_3 cx2_3 x2_3 1 true, .sl 2 k80 Ax2_2_0 cx2_2_0 x2_2_0 2 true, .sl 0 k80 Al0_0 cl0_0 l0_0 0 false, celE Al0_0 (x2_9.toNat * 2) [.slice A_4 ((rd_T80 l0_0 x2_9).f0).length c_4, .int .i64 ((rd_T80 l0_0 x2_9).f1)] 0, .sl 0 k73 A_4 c_4 ((rd_T80 l0_0 x2_9).f0) 0 false, .sl 2 k73 At6 ct6 t6 5 true, .sl 2 k80 A20_7 c20_7 ([(⟨t6, (rd_T80 l0_0 x2_9).f1⟩ : S80)] : List S80) 5 true]) (by kernel_rfl) (xs [0, 1, 2] [1, 2, 3, 4] rfl rfl rfl (one1 8 rfl rfl (op_app (k := k80) (s := 2) (by_ := 32) 0 6 rfl rfl rfl rfl (ap1 g5 dq) (ap1n g5 dq) (.inr ⟨dq, dq, rfl, dq⟩) true (fun _ => .inr ⟨rfl, rfl, dq⟩) rfl rfl fun A21_8 c21_8 => (nmE (en := [.sl 2 k80 Ax2_2_0 cx2_2_0 x2_2_0 2 true, .sl 0 k80 Al0_0 cl0_0 l0_0 0 false, celE Al0_0 (x2_9.toNat * 2) [.slice A_4 ((rd_T80 l0_0 x2_9).f0).length c_4, .int .i64 ((rd_T80 l0_0 x2_9).f1)] 0, .sl 0 k73 A_4 c_4 ((rd_T80 l0_0 x2_9).f0) 0 false, .sl 2 k73 At6 ct6 t6 1 true, .sl 2 k80 A20_7 c20_7 ([(⟨t6, (rd_T80 l0_0 x2_9).f1⟩ : S80)] : List S80) 1 true, .sl 2 k80 A21_8 c21_8 (x2_3 ++ ([(⟨t6, (rd_T80 l0_0 x2_9).f1⟩ : S80)] : List S80)) 1 true]) (by kernel_rfl) (xs [0, 1, 2] [0, 1, 2, 3] rfl rfl rfl (one1 9 rfl rfl (ov (EV.as rfl) rfl (xn rfl (xd (pr [1, 2, 3, 7, 8, 9] [0, 1] [0, 1, 6] rfl rfl rfl rfl (ge (rg (sv (EV.add rfl rfl) rfl (sv (EV.mv rfl) rfl (re (wk [1, 2, 3, 7, 8, 9] [0, 1] [⟨2, 2, 1, true⟩, ⟨0, 2, 2, true⟩, ⟨1, 0, 0, false⟩] (ih0 _ (by omega) _ ⟨x2_3 ++ ([(⟨t6, (rd_T80 l0_0 x2_9).f1⟩ : S80)] : List S80), A21_8, c21_8, x2_8, wrap64 (x2_9 + 1), x2_1_1, x2_1_2, x2_2_0, Ax2_2_0, cx2_2_0, x2_2_1, x2_2_2, H, rfl⟩)))))))))))))))))))))
 ·
  refine gf rfl (dF c1) (gx rfl (gs (rg (sv (EV.mv rfl) rfl (sv (EV.fa 0 rfl) rfl (so rfl (op_st (cs' := [.slice Ax2_3 x2_3.length cx2_3, .int .i64 x2_1_1, .bool x2_1_2]) 0 rfl rfl rfl rfl rfl rfl (re (pr [1, 2] [0, 1] [0, 1] rfl rfl rfl rfl (gs (rg (sv (EV.ld (v := .agg #[.slice Ax2_3 x2_3.length cx2_3, .int .i64 x2_1_1, .bool x2_1_2]) 0 (some 3) rfl rfl rfl) rfl (so rfl (op_st (cs' := [.slice Ax2_3 x2_3.length cx2_3, .int .i64 x2_1_1, .bool x2_1_2]) 1 rfl rfl rfl rfl rfl rfl (re ?_)))))))))))))))
  cases H
  exact rt Try.func80 rfl (.cell 1 (some 3) rfl rfl rfl .nil) rfl [] [⟨0, 2, 1, true⟩] rfl rfl rfl rfl rfl ⟨_, _, rfl, rfl, rfl⟩
end Go.Proofs.Ytoncjohnkiilcaa.K
namespace Go.Proofs.Ytoncjohnkiilcaa.K
open Go Go.RowKit
set_option linter.unusedVariables false
set_option linter.unusedSimpArgs false
def impl_isGrant.f (a0 : Int) : Option (Bool) := (impl_within.f a0 8 60).bind fun t1 => (some t1)
set_option maxHeartbeats 4000000 in
set_option maxRecDepth 100000 in
theorem impl_isGrant.ok (a0 : Int) (r0 : Bool) (H : impl_isGrant.f a0 = some r0) : Fn Try.prog 81 [.int .i64 a0] [] [] (fun v bx en => v = .bool r0 ∧ bx = [] ∧ en = []) := by
 refine fn_ 5 Try.func81 rfl rfl rfl (fun base T w0 => ?_)
 rw [impl_isGrant.f] at H
 refine gs (rg (sv (EV.as rfl) rfl (re (gs (rg (sv (EV.mv rfl) rfl ?_))))))
 revert H; refine bdI ?_; rintro t1 A1 H
 refine so rfl (op_call (impl_within.ok a0 8 60 _ A1) [] 1 rfl rfl rfl rfl rfl ?_)
 rintro _ _ _ ⟨rfl, rfl, rfl⟩
 refine sv (EV.as rfl) rfl (re ?_)
 cases H
 exact rt Try.func81 rfl (.tmp rfl .nil) rfl [] [] rfl rfl rfl rfl rfl ⟨rfl, rfl, rfl⟩
end Go.Proofs.Ytoncjohnkiilcaa.K
namespace Go.Proofs.Ytoncjohnkiilcaa.K
open Go Go.RowKit
set_option linter.unusedVariables false
set_option linter.unusedSimpArgs false
def impl_RowCost.f (a0_0 : Int) (a0_1 : Int) (a0_2 : Int) : Option (Int) := (impl_IsValidRow.f a0_0 a0_1 a0_2).bind fun t1 => (if t1 = true then (some (wrap64 (1 + a0_2))) else (some 0))
set_option maxHeartbeats 4000000 in
set_option maxRecDepth 100000 in
theorem impl_RowCost.ok (a0_0 : Int) (a0_1 : Int) (a0_2 : Int) (r0 : Int) (H : impl_RowCost.f a0_0 a0_1 a0_2 = some r0) : Fn Try.prog 99 [.agg #[.int .i64 a0_0, .int .i64 a0_1, .int .i64 a0_2]] [] [] (fun v bx en => v = .int .i64 r0 ∧ bx = [] ∧ en = []) := by
 refine fn_ 9 Try.func99 rfl rfl rfl (fun base T w0 => ?_)
 rw [impl_RowCost.f] at H
 refine gs (rg (so rfl (op_box (cs := [.int .i64 a0_0, .int .i64 a0_1, .int .i64 a0_2]) rfl rfl rfl fun b1 => (sv (EV.as rfl) rfl (re (gs (gs (rg (sv (EV.ld (v := .agg #[.int .i64 a0_0, .int .i64 a0_1, .int .i64 a0_2]) 0 (some 3) rfl rfl rfl) rfl ?_)))))))))
 revert H; refine bdI ?_; rintro t1 A1 H
 refine so rfl (op_call (impl_IsValidRow.ok a0_0 a0_1 a0_2 _ A1) [] 1 rfl rfl rfl rfl rfl ?_)
 rintro _ _ _ ⟨rfl, rfl, rfl⟩
 refine sv (EV.nt rfl) rfl (re ?_)
 revert H; refine ifsI ?_ ?_ <;> intro c2 H
 ·
  subst c2
  refine gf rfl rfl (gk (gs (rg (sv (EV.fa 2 rfl) rfl (sv (EV.ld 0 none rfl rfl rfl) rfl (sv (EV.add rfl rfl) rfl (sv (EV.as rfl) rfl (re (pr [2] [] [] rfl rfl rfl rfl ?_)))))))))
  cases H
  exact rt Try.func99 rfl (.tmp rfl .nil) rfl [] [] rfl rfl rfl rfl rfl ⟨rfl, rfl, rfl⟩
 ·
  obtain rfl := bF c2
  refine gt rfl rfl (gs (rg (sv (EV.as rfl) rfl (re ?_))))
  cases H
  exact rt Try.func99 rfl (.tmp rfl .nil) rfl [] [] rfl rfl rfl rfl rfl ⟨rfl, rfl, rfl⟩
end Go.Proofs.Ytoncjohnkiilcaa.K
namespace Go.Proofs.Ytoncjohnkiilcaa.K
open Go Go.RowKit
set_option linter.unusedVariables false
set_option linter.unusedSimpArgs false
def impl_TotalCost.l0 : Nat → Int → Int → Int → (List S73) → Option (Int)
 | 0, _, _, _, _ => none
 | k + 1, x2_3, x2_7, x2_8, l0 => if x2_8 < x2_7 then (if 0 ≤ x2_8 then (if x2_8 < (l0.length : Int) then ((impl_RowCost.f ((rd_T73 l0 x2_8).f0) ((rd_T73 l0 x2_8).f1) ((rd_T73 l0 x2_8).f2)).bind fun t4 => (impl_TotalCost.l0 k (wrap64 (x2_3 + t4)) x2_7 (wrap64 (x2_8 + 1)) l0)) else none) else none) else (some x2_3)
def impl_TotalCost.f (k : Nat) (l0 : List S73) : Option (Int) := impl_TotalCost.l0 k 0 (l0.length : Int) 0 l0
set_option maxHeartbeats 4000000 in
set_option maxRecDepth 100000 in
theorem impl_TotalCost.ok (k : Nat) (l0 : List S73) (Al0 : Option Addr) (cl0 : Nat) (r0 : Int) (H : impl_TotalCost.f k l0 = some r0) : Fn Try.prog 82 [.slice Al0 l0.length cl0] [] [.sl 0 k73 Al0 cl0 l0 0 false] (fun v bx en => v = .int .i64 r0 ∧ bx = [] ∧ en = []) := by
 refine fn_ 18 Try.func82 rfl rfl rfl (fun base T w0 => ?_)
 rw [impl_TotalCost.f] at H
 refine gs (rg (sv (EV.as rfl) rfl (re (gs (rg (sv (EV.as rfl) rfl (re (gs (gs (rg (sv (EV.mv rfl) rfl (sv (EV.ln rfl) rfl (sv (EV.mv rfl) rfl (re (gb ?_)))))))))))))))
 refine lo (fun kk S => ∃ (x2_3 : Int) (x2_7 : Int) (x2_8 : Int), impl_TotalCost.l0 kk x2_3 x2_7 x2_8 l0 = some r0 ∧ S = ⟨[(3, .int .i64 x2_3), (6, .slice Al0 l0.length cl0), (7, .int .i64 x2_7), (8, .int .i64 x2_8)], [], [.sl 0 k73 Al0 cl0 l0 0 false]⟩) (fun S hS => ?_) (fun n0 ih0 S hS => ?_) ⟨0, (l0.length : Int), 0, H, rfl⟩ (fun h => wk [3, 6, 7, 8] [] [⟨0, 0, 0, false⟩] h)
 · clear H; obtain ⟨_, _, _, H, _⟩ := hS; rw [impl_TotalCost.l0] at H; cases H
 clear H
 obtain ⟨x2_3, x2_7, x2_8, H, rfl⟩ := hS
 rw [impl_TotalCost.l0] at H
 refine gs (rg (sv (EV.lss rfl rfl) rfl (re (gs ?_))))
 revert H; refine ifsI ?_ ?_ <;> intro c1 H
 ·
  refine gt rfl (dT c1) (gk (gs (gb (gs (rg ?_)))))
  revert H; refine ggI ?_; intro g2 H
  revert H; refine ggI ?_; intro g3 H
  refine sv (EV.ix 0 rfl rfl rfl g2 g3 rfl) rfl (sv (EV.le (v := .agg #[.int .i64 ((rd_T73 l0 x2_8).f0), .int .i64 ((rd_T73 l0 x2_8).f1), .int .i64 ((rd_T73 l0 x2_8).f2)]) x2_8 0 (some 3) 0 z73 rfl rfl rfl g2 g3 rfl rfl rfl) rfl (so rfl (op_alloc (cs := [.int .i64 0, .int .i64 0, .int .i64 0]) (by kernel_rfl) rfl fun b5 => (so rfl (op_st (cs' := [.int .i64 ((rd_T73 l0 x2_8).f0), .int .i64 ((rd_T73 l0 x2_8).f1), .int .i64 ((rd_T73 l0 x2_8).f2)]) 0 rfl rfl rfl rfl rfl rfl (re (rg (sv (EV.mv rfl) rfl (sv (EV.ld (v := .agg #[.int .i64 ((rd_T73 l0 x2_8).f0), .int .i64 ((rd_T73 l0 x2_8).f1), .int .i64 ((rd_T73 l0 x2_8).f2)]) 0 (some 3) rfl rfl rfl) rfl ?_)))))))))
  revert H; refine bdI ?_; rintro t4 A4 H
  refine so rfl (op_call (impl_RowCost.ok ((rd_T73 l0 x2_8).f0) ((rd_T73 l0 x2_8).f1) ((rd_T73 l0 x2_8).f2) _ A4) [] 1 rfl rfl rfl rfl rfl ?_)
  rintro _ _ _ ⟨rfl, rfl, rfl⟩
  exact sv (EV.add rfl rfl) rfl (sv (EV.as rfl) rfl (re (pr [3, 6, 7, 8] [] [0] rfl rfl rfl rfl (ge (rg (sv (EV.add rfl rfl) rfl (sv (EV.mv rfl) rfl (re (wk [3, 6, 7, 8] [] [⟨0, 0, 0, false⟩] (ih0 _ (by omega) _ ⟨wrap64 (x2_3 + t4), x2_7, wrap64 (x2_8 + 1), H, rfl⟩))))))))))
 ·
  refine gf rfl (dF c1) (gx rfl (gs (rg (sv (EV.mv rfl) rfl (sv (EV.as rfl) rfl (re (pr [2] [] [] rfl rfl rfl rfl ?_)))))))
  cases H
  exact rt Try.func82 rfl (.tmp rfl .nil) rfl [] [] rfl rfl rfl rfl rfl ⟨rfl, rfl, rfl⟩
end Go.Proofs.Ytoncjohnkiilcaa.K
namespace Go.Proofs.Ytoncjohnkiilcaa.K
open Go Go.RowKit
set_option linter.unusedVariables false
set_option linter.unusedSimpArgs false
def impl_HashBit.f (a0 : Int) (a1 : Int) : Option (Int) := (impl_within.f a1 0 3).bind fun t1 => (if t1 = true then ((impl_within.f a0 0 9).bind fun t3 => (if t3 = true then (if 0 ≤ a1 then (some (andI (shrI (Int.tmod (wrap64 (7 * a0)) 16) a1) 1)) else none) else (some 0))) else (some 0))
set_option maxHeartbeats 4000000 in
set_option maxRecDepth 100000 in
theorem impl_HashBit.ok (a0 : Int) (a1 : Int) (r0 : Int) (H : impl_HashBit.f a0 a1 = some r0) : Fn Try.prog 100 [.int .i64 a0, .int .i64 a1] [] [] (fun v bx en => v = .int .i64 r0 ∧ bx = [] ∧ en = []) := by
 refine fn_ 19 Try.func100 rfl rfl rfl (fun base T w0 => ?_)
 rw [impl_HashBit.f] at H
 refine gs (rg (sv (EV.as rfl) rfl (re (gs (gs (rg (sv (EV.mv rfl) rfl ?_)))))))
 revert H; refine bdI ?_; rintro t1 A1 H
 refine so rfl (op_call (impl_within.ok a1 0 3 _ A1) [] 1 rfl rfl rfl rfl rfl ?_)
 rintro _ _ _ ⟨rfl, rfl, rfl⟩
 refine sv (EV.nt rfl) rfl (sv (EV.mv rfl) rfl ?_)
 revert H; refine ifsI ?_ ?_ <;> intro c2 H
 ·
  subst c2
  refine ts 8 rfl rfl (sv (EV.mv rfl) rfl ?_)
  revert H; refine bdI ?_; rintro t3 A3 H
  refine so rfl (op_call (impl_within.ok a0 0 9 _ A3) [] 1 rfl rfl rfl rfl rfl ?_)
  rintro _ _ _ ⟨rfl, rfl, rfl⟩
  refine sv (EV.nt rfl) rfl (sv (EV.pf rfl rfl rfl) rfl (re (pr [0, 1, 12] [] [] rfl rfl rfl rfl ?_)))
  revert H; refine ifsI ?_ ?_ <;> intro c4 H
  ·
   subst c4
   refine gf rfl rfl (gk (gs (rg (sv (EV.mv rfl) rfl (sv (EV.mul rfl rfl) rfl (sv (EV.rem rfl rfl dq) rfl (sv (EV.mv rfl) rfl ?_)))))))
   revert H; refine ggI ?_; intro g5 H
   refine sv (EV.shr rfl rfl g5) rfl (sv (EV.andI rfl rfl) rfl (sv (EV.as rfl) rfl (re (pr [4] [] [] rfl rfl rfl rfl ?_))))
   cases H
   exact rt Try.func100 rfl (.tmp rfl .nil) rfl [] [] rfl rfl rfl rfl rfl ⟨rfl, rfl, rfl⟩
  ·
   obtain rfl := bF c4
   refine gt rfl rfl (gs (rg (sv (EV.as rfl) rfl (re ?_))))
   cases H
   exact rt Try.func100 rfl (.tmp rfl .nil) rfl [] [] rfl rfl rfl rfl rfl ⟨rfl, rfl, rfl⟩
 ·
  obtain rfl := bF c2
  refine ts 8 rfl rfl (sk rfl (sk rfl (sk rfl (sv (EV.pt rfl rfl rfl) rfl (re (pr [0, 1, 12] [] [] rfl rfl rfl rfl (gt rfl rfl (gs (rg (sv (EV.as rfl) rfl (re ?_)))))))))))
  cases H
  exact rt Try.func100 rfl (.tmp rfl .nil) rfl [] [] rfl rfl rfl rfl rfl ⟨rfl, rfl, rfl⟩
end Go.Proofs.Ytoncjohnkiilcaa.K
namespace Go.Proofs.Ytoncjohnkiilcaa.K
open Go Go.RowKit
set_option linter.unusedVariables false
set_option linter.unusedSimpArgs false
def impl_SplitByHashBit.l0 : Nat → Int → (List S73) → (List S73) → Int → Int → (List S73) → Option ((List S73) × (List S73))
 | 0, _, _, _, _, _, _ => none
 | k + 1, x2_1, x2_6, x2_7, x2_13, x2_14, l0 => if x2_14 < x2_13 then (if 0 ≤ x2_14 then (if x2_14 < (l0.length : Int) then ((impl_HashBit.f ((rd_T73 l0 x2_14).f0) x2_1).bind fun t6 => (if t6 = 0 then (if x2_6.length < 5864062014805 then (impl_SplitByHashBit.l0 k x2_1 (x2_6 ++ ([(⟨(rd_T73 l0 x2_14).f0, (rd_T73 l0 x2_14).f1, (rd_T73 l0 x2_14).f2⟩ : S73)] : List S73)) x2_7 x2_13 (wrap64 (x2_14 + 1)) l0) else none) else (if x2_7.length < 5864062014805 then (impl_SplitByHashBit.l0 k x2_1 x2_6 (x2_7 ++ ([(⟨(rd_T73 l0 x2_14).f0, (rd_T73 l0 x2_14).f1, (rd_T73 l0 x2_14).f2⟩ : S73)] : List S73)) x2_13 (wrap64 (x2_14 + 1)) l0) else none))) else none) else none) else (some (x2_6, x2_7))
def impl_SplitByHashBit.f (k : Nat) (l0 : List S73) (a1 : Int) : Option ((List S73) × (List S73)) := impl_SplitByHashBit.l0 k a1 [] [] (l0.length : Int) 0 l0
set_option maxHeartbeats 4000000 in
set_option maxRecDepth 100000 in
theorem impl_SplitByHashBit.ok (k : Nat) (l0 : List S73) (Al0 : Option Addr) (cl0 : Nat) (a1 : Int) (r0 : List S73) (r1 : List S73) (H : impl_SplitByHashBit.f k l0 a1 = some (r0, r1)) : Fn Try.prog 83 [.slice Al0 l0.length cl0, .int .i64 a1] [] [.sl 0 k73 Al0 cl0 l0 0 false] (fun v bx en => ∃ A0 c0 A1 c1, v = .tuple #[.slice A0 r0.length c0, .slice A1 r1.length c1] ∧ bx = [] ∧ en = [.sl 2 k73 A0 c0 r0 1 true, .sl 2 k73 A1 c1 r1 2 true]) := by
 refine fn_ 34 Try.func83 rfl rfl rfl (fun base T w0 => ?_)
 rw [impl_SplitByHashBit.f] at H
 refine gs (rg (sv (EV.as rfl) rfl (sv (EV.as rfl) rfl (re (gs (rg (so rfl (op_lit (s := 3) (by_ := 24) k73 ([] : List S73) [] [] 1 [] rfl rfl rfl rfl rfl rfl rfl rfl rfl rfl rfl rfl rfl dq rfl fun A10_1 c10_1 => (so rfl (op_lit (s := 3) (by_ := 24) k73 ([] : List S73) [] [] 2 [] rfl rfl rfl rfl rfl rfl rfl rfl rfl rfl rfl rfl rfl dq rfl fun A11_2 c11_2 => (sv (EV.as rfl) rfl (sv (EV.as rfl) rfl (re (gs (gs (rg (sv (EV.mv rfl) rfl (sv (EV.ln rfl) rfl (sv (EV.mv rfl) rfl (re (gb ?_)))))))))))))))))))))
 refine lo (fun kk S => ∃ (x2_1 : Int) (x2_6 : List S73) (Ax2_6 : Option Addr) (cx2_6 : Nat) (x2_7 : List S73) (Ax2_7 : Option Addr) (cx2_7 : Nat) (x2_13 : Int) (x2_14 : Int), impl_SplitByHashBit.l0 kk x2_1 x2_6 x2_7 x2_13 x2_14 l0 = some (r0, r1) ∧ S = ⟨[(1, .int .i64 x2_1), (6, .slice Ax2_6 x2_6.length cx2_6), (7, .slice Ax2_7 x2_7.length cx2_7), (12, .slice Al0 l0.length cl0), (13, .int .i64 x2_13), (14, .int .i64 x2_14)], [], [.sl 2 k73 Ax2_6 cx2_6 x2_6 1 true, .sl 2 k73 Ax2_7 cx2_7 x2_7 2 true, .sl 0 k73 Al0 cl0 l0 0 false]⟩) (fun S hS => ?_) (fun n0 ih0 S hS => ?_) ⟨a1, [], A10_1, c10_1, [], A11_2, c11_2, (l0.length : Int), 0, H, rfl⟩ (fun h => wk [1, 6, 7, 12, 13, 14] [] [⟨1, 2, 1, true⟩, ⟨2, 2, 2, true⟩, ⟨0, 0, 0, false⟩] h)
 · clear H; obtain ⟨_, _, _, _, _, _, _, _, _, H, _⟩ := hS; rw [impl_SplitByHashBit.l0] at H; cases H
 clear H
 obtain ⟨x2_1, x2_6, Ax2_6, cx2_6, x2_7, Ax2_7, cx2_7, x2_13, x2_14, H, rfl⟩ := hS
 rw [impl_SplitByHashBit.l0] at H
 refine gs (rg (sv (EV.lss rfl rfl) rfl (re (gs ?_))))
 revert H; refine ifsI ?_ ?_ <;> intro c3 H
 ·
  refine gt rfl (dT c3) (gk (gs (gb (gs (rg ?_)))))
  revert H; refine ggI ?_; intro g4 H
  revert H; refine ggI ?_; intro g5 H
  refine sv (EV.ix 2 rfl rfl rfl g4 g5 rfl) rfl (sv (EV.le (v := .agg #[.int .i64 ((rd_T73 l0 x2_14).f0), .int .i64 ((rd_T73 l0 x2_14).f1), .int .i64 ((rd_T73 l0 x2_14).f2)]) x2_14 0 (some 3) 2 z73 rfl rfl rfl g4 g5 rfl rfl rfl) rfl (so rfl (op_alloc (cs := [.int .i64 0, .int .i64 0, .int .i64 0]) (by kernel_rfl) rfl fun b9 => (so rfl (op_st (cs' := [.int .i64 ((rd_T73 l0 x2_14).f0), .int .i64 ((rd_T73 l0 x2_14).f1), .int .i64 ((rd_T73 l0 x2_14).f2)]) 0 rfl rfl rfl rfl rfl rfl (re (gs (rg (sv (EV.fa 0 rfl) rfl (sv (EV.ld 0 none rfl rfl rfl) rfl (sv (EV.mv rfl) rfl ?_)))))))))))
  revert H; refine bdI ?_; rintro t6 A6 H
  refine so rfl (op_call (impl_HashBit.ok ((rd_T73 l0 x2_14).f0) x2_1 _ A6) [] 3 rfl rfl rfl rfl rfl ?_)
  rintro _ _ _ ⟨rfl, rfl, rfl⟩
  refine sv (EV.eql rfl rfl) rfl (re (pr [1, 6, 7, 9, 12, 13, 14, 22] [0] [0, 1, 2] rfl rfl rfl rfl ?_))
  revert H; refine ifsI ?_ ?_ <;> intro c7 H
  ·
   refine gt rfl (dT c7) (rg (sv (EV.mv rfl) rfl (sv (EV.ld (v := .agg #[.int .i64 ((rd_T73 l0 x2_14).f0), .int .i64 ((rd_T73 l0 x2_14).f1), .int .i64 ((rd_T73 l0 x2_14).f2)]) 0 (some 3) rfl rfl rfl) rfl (so rfl (op_lit (s := 3) (by_ := 24) k73 ([(⟨(rd_T73 l0 x2_14).f0, (rd_T73 l0 x2_14).f1, (rd_T73 l0 x2_14).f2⟩ : S73)] : List S73) [[]] [] 3 [.tmp 24] rfl rfl rfl rfl rfl rfl rfl rfl rfl rfl rfl rfl rfl dq rfl fun A25_8 c25_8 => ?_)))))
   revert H; refine ggI ?_; intro g9 H
   exact so rfl (op_app (k := k73) (s := 3) (by_ := 24) 0 3 rfl rfl rfl rfl (ap1 g9 dq) (ap1n g9 dq) (.inl rfl) true (fun _ => .inl rfl) rfl rfl fun A26_10 c26_10 => (nmE (en := [.sl 2 k73 Ax2_7 cx2_7 x2_7 2 true, .sl 0 k73 Al0 cl0 l0 0 false, .sl 2 k73 A25_8 c25_8 ([(⟨(rd_T73 l0 x2_14).f0, (rd_T73 l0 x2_14).f1, (rd_T73 l0 x2_14).f2⟩ : S73)] : List S73) 3 true, .sl 2 k73 A26_10 c26_10 (x2_6 ++ ([(⟨(rd_T73 l0 x2_14).f0, (rd_T73 l0 x2_14).f1, (rd_T73 l0 x2_14).f2⟩ : S73)] : List S73)) 1 true]) (by kernel_rfl) (sv (EV.as rfl) rfl (re (pr [1, 6, 7, 12, 13, 14] [] [0, 1, 3] rfl rfl rfl rfl (ge (rg (sv (EV.add rfl rfl) rfl (sv (EV.mv rfl) rfl (re (wk [1, 6, 7, 12, 13, 14] [] [⟨2, 2, 1, true⟩, ⟨0, 2, 2, true⟩, ⟨1, 0, 0, false⟩] (ih0 _ (by omega) _ ⟨x2_1, x2_6 ++ ([(⟨(rd_T73 l0 x2_14).f0, (rd_T73 l0 x2_14).f1, (rd_T73 l0 x2_14).f2⟩ : S73)] : List S73), A26_10, c26_10, x2_7, Ax2_7, cx2_7, x2_13, wrap64 (x2_14 + 1), H, rfl⟩))))))))))))
  ·
   refine gf rfl (dF c7) (rg (sv (EV.mv rfl) rfl (sv (EV.ld (v := .agg #[.int .i64 ((rd_T73 l0 x2_14).f0), .int .i64 ((rd_T73 l0 x2_14).f1), .int .i64 ((rd_T73 l0 x2_14).f2)]) 0 (some 3) rfl rfl rfl) rfl (so rfl (op_lit (s := 3) (by_ := 24) k73 ([(⟨(rd_T73 l0 x2_14).f0, (rd_T73 l0 x2_14).f1, (rd_T73 l0 x2_14).f2⟩ : S73)] : List S73) [[]] [] 3 [.tmp 28] rfl rfl rfl rfl rfl rfl rfl rfl rfl rfl rfl rfl rfl dq rfl fun A29_11 c29_11 => ?_)))))
   revert H; refine ggI ?_; intro g12 H
   exact so rfl (op_app (k := k73) (s := 3) (by_ := 24) 1 3 rfl rfl rfl rfl (ap1 g12 dq) (ap1n g12 dq) (.inl rfl) true (fun _ => .inl rfl) rfl rfl fun A30_13 c30_13 => (nmE (en := [.sl 2 k73 Ax2_6 cx2_6 x2_6 1 true, .sl 0 k73 Al0 cl0 l0 0 false, .sl 2 k73 A29_11 c29_11 ([(⟨(rd_T73 l0 x2_14).f0, (rd_T73 l0 x2_14).f1, (rd_T73 l0 x2_14).f2⟩ : S73)] : List S73) 3 true, .sl 2 k73 A30_13 c30_13 (x2_7 ++ ([(⟨(rd_T73 l0 x2_14).f0, (rd_T73 l0 x2_14).f1, (rd_T73 l0 x2_14).f2⟩ : S73)] : List S73)) 2 true]) (by kernel_rfl) (sv (EV.as rfl) rfl (re (pr [1, 6, 7, 12, 13, 14] [] [0, 1, 3] rfl rfl rfl rfl (ge (rg (sv (EV.add rfl rfl) rfl (sv (EV.mv rfl) rfl (re (wk [1, 6, 7, 12, 13, 14] [] [⟨0, 2, 1, true⟩, ⟨2, 2, 2, true⟩, ⟨1, 0, 0, false⟩] (ih0 _ (by omega) _ ⟨x2_1, x2_6, Ax2_6, cx2_6, x2_7 ++ ([(⟨(rd_T73 l0 x2_14).f0, (rd_T73 l0 x2_14).f1, (rd_T73 l0 x2_14).f2⟩ : S73)] : List S73), A30_13, c30_13, x2_13, wrap64 (x2_14 + 1), H, rfl⟩))))))))))))
 ·
  refine gf rfl (dF c3) (gx rfl (gs (rg (sv (EV.mv rfl) rfl (sv (EV.mv rfl) rfl (sv (EV.as rfl) rfl (sv (EV.as rfl) rfl (re (pr [4, 5] [] [0, 1] rfl rfl rfl rfl ?_)))))))))
  cases H
  exact rt Try.func83 rfl (.tmp rfl (.tmp rfl .nil)) rfl [] [⟨0, 2, 1, true⟩, ⟨1, 2, 2, true⟩] rfl rfl rfl rfl rfl ⟨_, _, _, _, rfl, rfl, rfl⟩
end Go.Proofs.Ytoncjohnkiilcaa.K
namespace Go.Proofs.Ytoncjohnkiilcaa.K
open Go Go.RowKit
set_option linter.unusedVariables false
set_option linter.unusedSimpArgs false
mutual
def impl_StepAggregator.j1 : Nat → Int → (List (Int × Bool)) → (List S73) → (List S73) → (List S73) → Int → Int → (List S80) → Int → Bool → (List S80) → Int → Bool → (List S73) → Int → Int → Int → Int → Option ((List S80) × Int × Bool × (List S88) × Int × Bool)
 | 0, _, _, _, _, _, _, _, _, _, _, _, _, _, _, _, _, _, _ => none
 | k + 1, x21_10, x21_11, x21_12, x21_13, x21_52, x21_53, x21_54, x21_4_0, x21_4_1, x21_4_2, x21_8_0, x21_8_1, x21_8_2, x21_9_0, x21_9_1, x21_16_0, x21_16_1, x21_16_2 => if x21_12.length < 5864062014805 then (impl_StepAggregator.l0 k x21_10 x21_11 (x21_12 ++ ([(⟨x21_16_0, x21_16_1, x21_16_2⟩ : S73)] : List S73)) x21_13 (!x21_8_2) x21_52 x21_53 (wrap64 (x21_54 + 1)) x21_4_0 x21_4_1 x21_4_2 x21_8_0 x21_8_1 x21_8_2 x21_9_0 x21_9_1) else none
def impl_StepAggregator.j0 : Nat → Int → (List (Int × Bool)) → (List S73) → (List S73) → Bool → (List S73) → Int → Int → (List S80) → Int → Bool → (List S80) → Int → Bool → (List S73) → Int → Int → Int → Int → Option ((List S80) × Int × Bool × (List S88) × Int × Bool)
 | 0, _, _, _, _, _, _, _, _, _, _, _, _, _, _, _, _, _, _, _ => none
 | k + 1, x20_10, x20_11, x20_12, x20_13, x20_14, x20_52, x20_53, x20_54, x20_4_0, x20_4_1, x20_4_2, x20_8_0, x20_8_1, x20_8_2, x20_9_0, x20_9_1, x20_16_0, x20_16_1, x20_16_2 => if x20_14 = true then (if ((mGet x20_11 x20_16_0).getD false) = true then (if x20_13.length < 5864062014805 then (impl_StepAggregator.l0 k x20_10 x20_11 x20_12 (x20_13 ++ ([(⟨x20_16_0, x20_16_1, x20_16_2⟩ : S73)] : List S73)) true x20_52 x20_53 (wrap64 (x20_54 + 1)) x20_4_0 x20_4_1 x20_4_2 x20_8_0 x20_8_1 x20_8_2 x20_9_0 x20_9_1) else none) else (impl_StepAggregator.j1 k x20_10 x20_11 x20_12 x20_13 x20_52 x20_53 x20_54 x20_4_0 x20_4_1 x20_4_2 x20_8_0 x20_8_1 x20_8_2 x20_9_0 x20_9_1 x20_16_0 x20_16_1 x20_16_2)) else (impl_StepAggregator.j1 k x20_10 x20_11 x20_12 x20_13 x20_52 x20_53 x20_54 x20_4_0 x20_4_1 x20_4_2 x20_8_0 x20_8_1 x20_8_2 x20_9_0 x20_9_1 x20_16_0 x20_16_1 x20_16_2)
def impl_StepAggregator.j2 : Nat → (List S88) → (List S80) → Int → Bool → (List S80) → Int → Bool → Option ((List S80) × Int × Bool × (List S88) × Int × Bool)
 | 0, _, _, _, _, _, _, _ => none
 | k + 1, x23_17, x23_4_0, x23_4_1, x23_4_2, x23_8_0, x23_8_1, x23_8_2 => some (x23_8_0, x23_8_1, x23_8_2, x23_17, wrap64 (3 * (x23_17.length : Int)), true)
def impl_StepAggregator.j3 : Nat → (List S88) → (List S80) → (List S80) → Int → Bool → (List S80) → Int → Bool → Option ((List S80) × Int × Bool × (List S88) × Int × Bool)
 | 0, _, _, _, _, _, _, _, _ => none
 | k + 1, x24_17, x24_18, x24_4_0, x24_4_1, x24_4_2, x24_8_0, x24_8_1, x24_8_2 => if x24_18.length + x24_8_0.length ≤ 4398046511104 then (impl_StepAggregator.j2 k x24_17 x24_4_0 x24_4_1 x24_4_2 (x24_18 ++ x24_8_0) x24_8_1 x24_8_2) else none
def impl_StepAggregator.l0 : Nat → Int → (List (Int × Bool)) → (List S73) → (List S73) → Bool → (List S73) → Int → Int → (List S80) → Int → Bool → (List S80) → Int → Bool → (List S73) → Int → Option ((List S80) × Int × Bool × (List S88) × Int × Bool)
 | 0, _, _, _, _, _, _, _, _, _, _, _, _, _, _, _, _ => none
 | k + 1, x10_10, x10_11, x10_12, x10_13, x10_14, x10_52, x10_53, x10_54, x10_4_0, x10_4_1, x10_4_2, x10_8_0, x10_8_1, x10_8_2, x10_9_0, x10_9_1 => if x10_54 < x10_53 then (if 0 ≤ x10_54 then (if x10_54 < (x10_52.length : Int) then (if x10_14 = true then (if ((mGet x10_11 ((rd_T73 x10_52 x10_54).f0)).getD false) = true then (impl_StepAggregator.j0 k x10_10 x10_11 x10_12 x10_13 true x10_52 x10_53 x10_54 x10_4_0 x10_4_1 x10_4_2 x10_8_0 x10_8_1 x10_8_2 x10_9_0 x10_9_1 ((rd_T73 x10_52 x10_54).f0) ((rd_T73 x10_52 x10_54).f1) ((rd_T73 x10_52 x10_54).f2)) else (if (x10_11.length : Int) < x10_10 then (impl_StepAggregator.j0 k x10_10 (mSet x10_11 ((rd_T73 x10_52 x10_54).f0) true) x10_12 x10_13 true x10_52 x10_53 x10_54 x10_4_0 x10_4_1 x10_4_2 x10_8_0 x10_8_1 x10_8_2 x10_9_0 x10_9_1 ((rd_T73 x10_52 x10_54).f0) ((rd_T73 x10_52 x10_54).f1) ((rd_T73 x10_52 x10_54).f2)) else (impl_StepAggregator.j0 k x10_10 x10_11 x10_12 x10_13 true x10_52 x10_53 x10_54 x10_4_0 x10_4_1 x10_4_2 x10_8_0 x10_8_1 x10_8_2 x10_9_0 x10_9_1 ((rd_T73 x10_52 x10_54).f0) ((rd_T73 x10_52 x10_54).f1) ((rd_T73 x10_52 x10_54).f2)))) else (impl_StepAggregator.j0 k x10_10 x10_11 x10_12 x10_13 false x10_52 x10_53 x10_54 x10_4_0 x10_4_1 x10_4_2 x10_8_0 x10_8_1 x10_8_2 x10_9_0 x10_9_1 ((rd_T73 x10_52 x10_54).f0) ((rd_T73 x10_52 x10_54).f1) ((rd_T73 x10_52 x10_54).f2))) else none) else none) else ((impl_ReferenceGroups.f k x10_13).bind fun t29 => (if (x10_12.length : Int) > 0 then (if x10_8_2 = true then (impl_StepAggregator.j3 k t29 ([(⟨x10_12, x10_9_1⟩ : S80)] : List S80) x10_4_0 x10_4_1 x10_4_2 x10_8_0 x10_8_1 true) else ((impl_TotalCost.f k x10_12).bind fun t37 => (if x10_9_1 < 4 then ((impl_SplitByHashBit.f k x10_12 x10_9_1).bind fun bt39 => (impl_StepAggregator.j3 k t29 ([(⟨bt39.1, wrap64 (x10_9_1 + 1)⟩ : S80), (⟨bt39.2, wrap64 (x10_9_1 + 1)⟩ : S80)] : List S80) x10_4_0 x10_4_1 x10_4_2 x10_8_0 (wrap64 (x10_8_1 + t37)) false)) else (impl_StepAggregator.j3 k t29 ([(⟨x10_12, x10_9_1⟩ : S80)] : List S80) x10_4_0 x10_4_1 x10_4_2 x10_8_0 (wrap64 (x10_8_1 + t37)) false)))) else (impl_StepAggregator.j2 k t29 x10_4_0 x10_4_1 x10_4_2 x10_8_0 x10_8_1 x10_8_2)))
end
def impl_StepAggregator.f (k : Nat) (l0_0 : List S80) (a0_1 : Int) (a0_2 : Bool) (a1 : Int) : Option ((List S80) × Int × Bool × (List S88) × Int × Bool) := (impl_cloneAggregator.f k l0_0 a0_1 a0_2).bind fun bt1 => ((impl_IsValidAggregator.f k l0_0 a0_1 a0_2).bind fun t2 => (if t2 = true then (if (l0_0.length : Int) = 0 then (some (bt1.1, bt1.2.1, bt1.2.2, [], 0, false)) else ((impl_isGrant.f a1).bind fun t5 => (if t5 = true then (if 0 < (bt1.1.length : Int) then (if 1 ≤ (bt1.1.length : Int) then (impl_StepAggregator.l0 k (wrap64 (Int.tdiv a1 3)) ([] : List (Int × Bool)) [] [] true ((rd_T80 bt1.1 0).f0) (((rd_T80 bt1.1 0).f0).length : Int) 0 [] 0 false (bt1.1.drop (1 : Int).toNat) bt1.2.1 bt1.2.2 ((rd_T80 bt1.1 0).f0) ((rd_T80 bt1.1 0).f1)) else none) else none) else (some (bt1.1, bt1.2.1, bt1.2.2, [], 0, false))))) else (some (bt1.1, bt1.2.1, bt1.2.2, [], 0, false))))
set_option maxHeartbeats 4000000 in
set_option maxRecDepth 100000 in
theorem impl_StepAggregator.ok (k : Nat) (l0_0 : List S80) (Al0_0 : Option Addr) (cl0_0 : Nat) (a0_1 : Int) (a0_2 : Bool) (a1 : Int) (r0 : List S80) (r1 : Int) (r2 : Bool) (r3 : List S88) (r4 : Int) (r5 : Bool) (H : impl_StepAggregator.f k l0_0 a0_1 a0_2 a1 = some (r0, r1, r2, r3, r4, r5)) : Fn Try.prog 49 [.agg #[.slice Al0_0 l0_0.length cl0_0, .int .i64 a0_1, .bool a0_2], .int .i64 a1] [] [.sl 0 k80 Al0_0 cl0_0 l0_0 0 false] (fun v bx en => ∃ A0 c0 A3 c3, v = .tuple #[.agg #[.slice A0 r0.length c0, .int .i64 r1, .bool r2], .slice A3 r3.length c3, .int .i64 r4, .bool r5] ∧ bx = [] ∧ en = [.sl 1 k80 A0 c0 r0 1 true, .sl 1 k88 A3 c3 r3 2 false]) := by
 refine fn_ 144 Try.func49 rfl rfl rfl (fun base T w0 => ?_)
 rw [impl_StepAggregator.f] at H
 refine gs (rg (so rfl (op_box (cs := [.slice Al0_0 l0_0.length cl0_0, .int .i64 a0_1, .bool a0_2]) rfl rfl rfl fun b2 => (so rfl (op_alloc (cs := [.slice none 0 0, .int .i64 0, .bool false]) (by kernel_rfl) rfl fun b4 => (sv (EV.as rfl) rfl (sv (EV.as rfl) rfl (sv (EV.as rfl) rfl (re (gs (rg (sv (EV.ld (v := .agg #[.slice Al0_0 l0_0.length cl0_0, .int .i64 a0_1, .bool a0_2]) 0 (some 3) rfl rfl rfl) rfl ?_))))))))))))
 revert H; refine bdI ?_; rintro ⟨t1_0, t1_1, t1_2⟩ A1 H
 refine so rfl (op_call (impl_cloneAggregator.ok k l0_0 Al0_0 cl0_0 a0_1 a0_2 _ _ _ A1) [⟨0, 0, 0, false⟩] 1 rfl rfl rfl rfl rfl ?_)
 rintro _ _ _ ⟨At1_0, ct1_0, rfl, rfl, rfl⟩
 refine so rfl (op_alloc (cs := [.slice none 0 0, .int .i64 0, .bool false]) (by kernel_rfl) rfl fun b8 => (so rfl (op_st (cs' := [.slice At1_0 t1_0.length ct1_0, .int .i64 t1_1, .bool t1_2]) 2 rfl rfl rfl rfl rfl rfl (re (pr [1, 2, 4, 8] [0, 1, 2] [0, 1] rfl rfl rfl rfl (gs (gs (rg (sv (EV.ld (v := .agg #[.slice Al0_0 l0_0.length cl0_0, .int .i64 a0_1, .bool a0_2]) 0 (some 3) rfl rfl rfl) rfl ?_)))))))))
 revert H; refine bdI ?_; rintro t2 A2 H
 refine so rfl (op_call (impl_IsValidAggregator.ok k l0_0 Al0_0 cl0_0 a0_1 a0_2 _ A2) [⟨0, 0, 0, false⟩] 3 rfl rfl rfl rfl rfl ?_)
 rintro _ _ _ ⟨rfl, rfl, rfl⟩
 refine sv (EV.nt rfl) rfl (sv (EV.mv rfl) rfl ?_)
 revert H; refine ifsI ?_ ?_ <;> intro c3 H
 ·
  subst c3
  refine ts 26 rfl rfl (sv (EV.fa 0 rfl) rfl (sv (EV.ld 0 none rfl rfl rfl) rfl (sv (EV.ln rfl) rfl (sv (EV.eql rfl rfl) rfl (sv (EV.pf rfl rfl rfl) rfl (sv (EV.mv rfl) rfl ?_))))))
  revert H; refine ifsI ?_ ?_ <;> intro c4 H
  ·
   refine ts 32 rfl (dT c4) (sk rfl (sk rfl (sk rfl (sv (EV.pt rfl rfl rfl) rfl (re (pr [1, 4, 8, 36] [1, 2] [1] rfl rfl rfl rfl (gt rfl rfl (gs (rg (sv (EV.ld (v := .agg #[.slice At1_0 t1_0.length ct1_0, .int .i64 t1_1, .bool t1_2]) 1 (some 3) rfl rfl rfl) rfl (so rfl (op_st (cs' := [.slice At1_0 t1_0.length ct1_0, .int .i64 t1_1, .bool t1_2]) 0 rfl rfl rfl rfl rfl rfl (sv (EV.as rfl) rfl (sv (EV.as rfl) rfl (sv (EV.as rfl) rfl (re (nil_ k88 3 dq ?_)))))))))))))))))
   cases H
   exact rt Try.func49 rfl (.cell 0 (some 3) rfl rfl rfl (.tmp rfl (.tmp rfl (.tmp rfl .nil)))) rfl [] [⟨0, 1, 1, true⟩, ⟨1, 1, 2, false⟩] rfl rfl rfl rfl rfl ⟨_, _, _, _, rfl, rfl, rfl⟩
  ·
   refine ts 32 rfl (dF c4) (sv (EV.mv rfl) rfl ?_)
   revert H; refine bdI ?_; rintro t5 A5 H
   refine so rfl (op_call (impl_isGrant.ok a1 _ A5) [] 3 rfl rfl rfl rfl rfl ?_)
   rintro _ _ _ ⟨rfl, rfl, rfl⟩
   refine sv (EV.nt rfl) rfl (sv (EV.pf rfl rfl rfl) rfl (re (pr [1, 4, 8, 36] [1, 2] [1] rfl rfl rfl rfl ?_)))
   revert H; refine ifsI ?_ ?_ <;> intro c6 H
   ·
    subst c6
    refine gf rfl rfl (gk (gs (rg (sv (EV.fa 0 rfl) rfl (sv (EV.ld 1 none rfl rfl rfl) rfl ?_)))))
    revert H; refine ggI ?_; intro g7 H
    refine sv (EV.ix 0 rfl rfl rfl dq g7 rfl) rfl (opn (i := 0) 0 z80 rfl dq g7 fun A_8 c_8 => (sv (EV.lc (v := .agg #[.slice A_8 ((rd_T80 t1_0 0).f0).length c_8, .int .i64 ((rd_T80 t1_0 0).f1)]) 0 (some 2) 1 rfl rfl rfl rfl) rfl (sv (EV.mv rfl) rfl (sv (EV.quo rfl rfl dq) rfl (so rfl (op_alloc (cs := [.slice none 0 0, .int .i64 0]) (by kernel_rfl) rfl fun b9 => (so rfl (op_st (cs' := [.slice A_8 ((rd_T80 t1_0 0).f0).length c_8, .int .i64 ((rd_T80 t1_0 0).f1)]) 2 rfl rfl rfl rfl rfl rfl (sv (EV.as rfl) rfl (re (pr [4, 8, 9, 10] [0, 1, 2] [0, 1, 2] rfl rfl rfl rfl (gs (rg (sv (EV.fa 0 rfl) rfl (sv (EV.ld 1 none rfl rfl rfl) rfl ?_)))))))))))))))
    revert H; refine ggI ?_; intro g9 H
    refine cutp (l' := t1_0.drop (1 : Int).toNat) 1 (t1_0.length : Int) 0 rfl dq g9 (Int.le_refl _) rfl 1 dq (.inl dq) ctl (sv (EV.ct 1 (t1_0.length : Int) 0 rfl rfl rfl rfl dq g9 (Int.le_refl _) rfl rfl ctnl) rfl (sv (EV.fa 0 rfl) rfl (so rfl (op_st (cs' := [.slice (cutA At1_0 ct1_0 (1 : Int).toNat 2) (t1_0.drop (1 : Int).toNat).length (ct1_0 - (1 : Int).toNat), .int .i64 t1_1, .bool t1_2]) 1 rfl rfl rfl rfl rfl rfl (re (gs (rg (so rfl (op_mkm (β := Bool) .i64 Value.bool 3 rfl dq rfl fun r48_10 => (so rfl (op_lit (s := 3) (by_ := 24) k73 ([] : List S73) [] [] 4 [] rfl rfl rfl rfl rfl rfl rfl rfl rfl rfl rfl rfl rfl dq rfl fun A49_11 c49_11 => (sv (EV.as rfl) rfl (sv (EV.as rfl) rfl (re (pr [4, 8, 9, 10, 11, 12] [0, 1, 2] [2, 3, 4, 5] rfl rfl rfl rfl (gs (rg (so rfl (op_lit (s := 3) (by_ := 24) k73 ([] : List S73) [] [] 5 [] rfl rfl rfl rfl rfl rfl rfl rfl rfl rfl rfl rfl rfl dq rfl fun A50_12 c50_12 => (sv (EV.as rfl) rfl (sv (EV.as rfl) rfl (re (gs (gs (rg (sv (EV.fa 0 rfl) rfl (sv (EV.ld 2 none rfl rfl rfl) rfl (sv (EV.ln rfl) rfl (sv (EV.mv rfl) rfl ?_)))))))))))))))))))))))))))))
    refine re (gb (nil_ k80 6 dq ?_))
    refine lo (fun kk S => ∃ (x10_10 : Int) (x10_11 : List (Int × Bool)) (rx10_11 : Nat) (x10_12 : List S73) (Ax10_12 : Option Addr) (cx10_12 : Nat) (x10_13 : List S73) (Ax10_13 : Option Addr) (cx10_13 : Nat) (x10_14 : Bool) (x10_52 : List S73) (Ax10_52 : Option Addr) (cx10_52 : Nat) (x10_53 : Int) (x10_54 : Int) (x10_4_0 : List S80) (Ax10_4_0 : Option Addr) (cx10_4_0 : Nat) (x10_4_1 : Int) (x10_4_2 : Bool) (x10_8_0 : List S80) (Ax10_8_0 : Option Addr) (cx10_8_0 : Nat) (x10_8_1 : Int) (x10_8_2 : Bool) (x10_9_0 : List S73) (Ax10_9_0 : Option Addr) (cx10_9_0 : Nat) (x10_9_1 : Int), impl_StepAggregator.l0 kk x10_10 x10_11 x10_12 x10_13 x10_14 x10_52 x10_53 x10_54 x10_4_0 x10_4_1 x10_4_2 x10_8_0 x10_8_1 x10_8_2 x10_9_0 x10_9_1 = some (r0, r1, r2, r3, r4, r5) ∧ S = ⟨[(4, .pointer (some ⟨b4, 0, none⟩)), (8, .pointer (some ⟨b8, 0, none⟩)), (9, .pointer (some ⟨b9, 0, none⟩)), (10, .int .i64 x10_10), (11, .map (some rx10_11)), (12, .slice Ax10_12 x10_12.length cx10_12), (13, .slice Ax10_13 x10_13.length cx10_13), (14, .bool x10_14), (52, .slice Ax10_52 x10_52.length cx10_52), (53, .int .i64 x10_53), (54, .int .i64 x10_54)], [⟨b4, 40, [.slice Ax10_4_0 x10_4_0.length cx10_4_0, .int .i64 x10_4_1, .bool x10_4_2]⟩, ⟨b8, 40, [.slice Ax10_8_0 x10_8_0.length cx10_8_0, .int .i64 x10_8_1, .bool x10_8_2]⟩, ⟨b9, 80, [.slice Ax10_9_0 x10_9_0.length cx10_9_0, .int .i64 x10_9_1]⟩], [mapE .i64 Value.bool rx10_11 x10_11 1, .sl 2 k73 Ax10_12 cx10_12 x10_12 2 true, .sl 2 k73 Ax10_13 cx10_13 x10_13 3 true, .sl 1 k73 Ax10_52 cx10_52 x10_52 4 true, .sl 2 k80 Ax10_4_0 cx10_4_0 x10_4_0 5 true, .sl 1 k80 Ax10_8_0 cx10_8_0 x10_8_0 4 true, .sl 1 k73 Ax10_9_0 cx10_9_0 x10_9_0 4 true]⟩) (fun S hS => ?_) (fun n0 ih0 S hS => ?_) ⟨wrap64 (Int.tdiv a1 3), ([] : List (Int × Bool)), r48_10, [], A49_11, c49_11, [], A50_12, c50_12, true, (rd_T80 t1_0 0).f0, A_8, c_8, (((rd_T80 t1_0 0).f0).length : Int), 0, [], none, 0, 0, false, t1_0.drop (1 : Int).toNat, (cutA At1_0 ct1_0 (1 : Int).toNat 2), (ct1_0 - (1 : Int).toNat), t1_1, t1_2, (rd_T80 t1_0 0).f0, A_8, c_8, (rd_T80 t1_0 0).f1, H, rfl⟩ (fun h => wk [4, 8, 9, 10, 11, 12, 13, 14, 52, 53, 54] [0, 1, 2] [⟨2, 1, 1, false⟩, ⟨3, 2, 2, true⟩, ⟨4, 2, 3, true⟩, ⟨0, 1, 4, true⟩, ⟨5, 2, 5, true⟩, ⟨1, 1, 4, true⟩, ⟨0, 1, 4, true⟩] h)
    · clear H; obtain ⟨_, _, _, _, _, _, _, _, _, _, _, _, _, _, _, _, _, _, _, _, _, _, _, _, _, _, _, _, _, H, _⟩ := hS; rw [impl_StepAggregator.l0] at H; cases H
    clear H
    obtain ⟨x10_10, x10_11, rx10_11, x10_12, Ax10_12, cx10_12, x10_13, Ax10_13, cx10_13, x10_14, x10_52, Ax10_52, cx10_52, x10_53, x10_54, x10_4_0, Ax10_4_0, cx10_4_0, x10_4_1, x10_4_2, x10_8_0, Ax10_8_0, cx10_8_0, x10_8_1, x10_8_2, x10_9_0, Ax10_9_0, cx10_9_0, x10_9_1, H, rfl⟩ := hS
    rw [impl_StepAggregator.l0] at H
    refine gs (rg (sv (EV.lss rfl rfl) rfl (re (gs ?_))))
    revert H; refine ifsI ?_ ?_ <;> intro c13 H
    ·
     refine gt rfl (dT c13) (gk (gs (gb (gs (rg ?_)))))
     revert H; refine ggI ?_; intro g14 H
     revert H; refine ggI ?_; intro g15 H
     refine sv (EV.ix 3 rfl rfl rfl g14 g15 rfl) rfl (sv (EV.le (v := .agg #[.int .i64 ((rd_T73 x10_52 x10_54).f0), .int .i64 ((rd_T73 x10_52 x10_54).f1), .int .i64 ((rd_T73 x10_52 x10_54).f2)]) x10_54 0 (some 3) 3 z73 rfl rfl rfl g14 g15 rfl rfl rfl) rfl (so rfl (op_alloc (cs := [.int .i64 0, .int .i64 0, .int .i64 0]) (by kernel_rfl) rfl fun b16 => (so rfl (op_st (cs' := [.int .i64 ((rd_T73 x10_52 x10_54).f0), .int .i64 ((rd_T73 x10_52 x10_54).f1), .int .i64 ((rd_T73 x10_52 x10_54).f2)]) 3 rfl rfl rfl rfl rfl rfl (re ?_))))))
     refine jo (fun S => ∃ (m : Nat) (x20_10 : Int) (x20_11 : List (Int × Bool)) (rx20_11 : Nat) (x20_12 : List S73) (Ax20_12 : Option Addr) (cx20_12 : Nat) (x20_13 : List S73) (Ax20_13 : Option Addr) (cx20_13 : Nat) (x20_14 : Bool) (x20_52 : List S73) (Ax20_52 : Option Addr) (cx20_52 : Nat) (x20_53 : Int) (x20_54 : Int) (x20_4_0 : List S80) (Ax20_4_0 : Option Addr) (cx20_4_0 : Nat) (x20_4_1 : Int) (x20_4_2 : Bool) (x20_8_0 : List S80) (Ax20_8_0 : Option Addr) (cx20_8_0 : Nat) (x20_8_1 : Int) (x20_8_2 : Bool) (x20_9_0 : List S73) (Ax20_9_0 : Option Addr) (cx20_9_0 : Nat) (x20_9_1 : Int) (x20_16_0 : Int) (x20_16_1 : Int) (x20_16_2 : Int), m ≤ n0 ∧ impl_StepAggregator.j0 m x20_10 x20_11 x20_12 x20_13 x20_14 x20_52 x20_53 x20_54 x20_4_0 x20_4_1 x20_4_2 x20_8_0 x20_8_1 x20_8_2 x20_9_0 x20_9_1 x20_16_0 x20_16_1 x20_16_2 = some (r0, r1, r2, r3, r4, r5) ∧ S = ⟨[(4, .pointer (some ⟨b4, 0, none⟩)), (8, .pointer (some ⟨b8, 0, none⟩)), (9, .pointer (some ⟨b9, 0, none⟩)), (10, .int .i64 x20_10), (11, .map (some rx20_11)), (12, .slice Ax20_12 x20_12.length cx20_12), (13, .slice Ax20_13 x20_13.length cx20_13), (14, .bool x20_14), (16, .pointer (some ⟨b16, 0, none⟩)), (52, .slice Ax20_52 x20_52.length cx20_52), (53, .int .i64 x20_53), (54, .int .i64 x20_54)], [⟨b4, 40, [.slice Ax20_4_0 x20_4_0.length cx20_4_0, .int .i64 x20_4_1, .bool x20_4_2]⟩, ⟨b8, 40, [.slice Ax20_8_0 x20_8_0.length cx20_8_0, .int .i64 x20_8_1, .bool x20_8_2]⟩, ⟨b9, 80, [.slice Ax20_9_0 x20_9_0.length cx20_9_0, .int .i64 x20_9_1]⟩, ⟨b16, 73, [.int .i64 x20_16_0, .int .i64 x20_16_1, .int .i64 x20_16_2]⟩], [mapE .i64 Value.bool rx20_11 x20_11 1, .sl 2 k73 Ax20_12 cx20_12 x20_12 2 true, .sl 2 k73 Ax20_13 cx20_13 x20_13 3 true, .sl 1 k73 Ax20_52 cx20_52 x20_52 4 true, .sl 2 k80 Ax20_4_0 cx20_4_0 x20_4_0 5 true, .sl 1 k80 Ax20_8_0 cx20_8_0 x20_8_0 4 true, .sl 1 k73 Ax20_9_0 cx20_9_0 x20_9_0 4 true]⟩) (fun S hS => ?_) (fun jh0 => ?_)
     ·
      clear H
      obtain ⟨m16, x20_10, x20_11, rx20_11, x20_12, Ax20_12, cx20_12, x20_13, Ax20_13, cx20_13, x20_14, x20_52, Ax20_52, cx20_52, x20_53, x20_54, x20_4_0, Ax20_4_0, cx20_4_0, x20_4_1, x20_4_2, x20_8_0, Ax20_8_0, cx20_8_0, x20_8_1, x20_8_2, x20_9_0, Ax20_9_0, cx20_9_0, x20_9_1, x20_16_0, x20_16_1, x20_16_2, lm16, H, rfl⟩ := hS
      rcases m16 with _ | m16
      · rw [impl_StepAggregator.j0] at H; cases H
      rw [impl_StepAggregator.j0] at H
      refine jo (fun S => ∃ (m : Nat) (x21_10 : Int) (x21_11 : List (Int × Bool)) (rx21_11 : Nat) (x21_12 : List S73) (Ax21_12 : Option Addr) (cx21_12 : Nat) (x21_13 : List S73) (Ax21_13 : Option Addr) (cx21_13 : Nat) (x21_52 : List S73) (Ax21_52 : Option Addr) (cx21_52 : Nat) (x21_53 : Int) (x21_54 : Int) (x21_4_0 : List S80) (Ax21_4_0 : Option Addr) (cx21_4_0 : Nat) (x21_4_1 : Int) (x21_4_2 : Bool) (x21_8_0 : List S80) (Ax21_8_0 : Option Addr) (cx21_8_0 : Nat) (x21_8_1 : Int) (x21_8_2 : Bool) (x21_9_0 : List S73) (Ax21_9_0 : Option Addr) (cx21_9_0 : Nat) (x21_9_1 : Int) (x21_16_0 : Int) (x21_16_1 : Int) (x21_16_2 : Int), m ≤ m16 ∧ impl_StepAggregator.j1 m x21_10 x21_11 x21_12 x21_13 x21_52 x21_53 x21_54 x21_4_0 x21_4_1 x21_4_2 x21_8_0 x21_8_1 x21_8_2 x21_9_0 x21_9_1 x21_16_0 x21_16_1 x21_16_2 = some (r0, r1, r2, r3, r4, r5) ∧ S = ⟨[(4, .pointer (some ⟨b4, 0, none⟩)), (8, .pointer (some ⟨b8, 0, none⟩)), (9, .pointer (some ⟨b9, 0, none⟩)), (10, .int .i64 x21_10), (11, .map (some rx21_11)), (12, .slice Ax21_12 x21_12.length cx21_12), (13, .slice Ax21_13 x21_13.length cx21_13), (16, .pointer (some ⟨b16, 0, none⟩)), (52, .slice Ax21_52 x21_52.length cx21_52), (53, .int .i64 x21_53), (54, .int .i64 x21_54)], [⟨b4, 40, [.slice Ax21_4_0 x21_4_0.length cx21_4_0, .int .i64 x21_4_1, .bool x21_4_2]⟩, ⟨b8, 40, [.slice Ax21_8_0 x21_8_0.length cx21_8_0, .int .i64 x21_8_1, .bool x21_8_2]⟩, ⟨b9, 80, [.slice Ax21_9_0 x21_9_0.length cx21_9_0, .int .i64 x21_9_1]⟩, ⟨b16, 73, [.int .i64 x21_16_0, .int .i64 x21_16_1, .int .i64 x21_16_2]⟩], [mapE .i64 Value.bool rx21_11 x21_11 1, .sl 2 k73 Ax21_12 cx21_12 x21_12 2 true, .sl 2 k73 Ax21_13 cx21_13 x21_13 3 true, .sl 1 k73 Ax21_52 cx21_52 x21_52 4 true, .sl 2 k80 Ax21_4_0 cx21_4_0 x21_4_0 5 true, .sl 1 k80 Ax21_8_0 cx21_8_0 x21_8_0 4 true, .sl 1 k73 Ax21_9_0 cx21_9_0 x21_9_0 4 true]⟩) (fun S hS => ?_) (fun jh1 => ?_)
      ·
       clear H
       obtain ⟨m17, x21_10, x21_11, rx21_11, x21_12, Ax21_12, cx21_12, x21_13, Ax21_13, cx21_13, x21_52, Ax21_52, cx21_52, x21_53, x21_54, x21_4_0, Ax21_4_0, cx21_4_0, x21_4_1, x21_4_2, x21_8_0, Ax21_8_0, cx21_8_0, x21_8_1, x21_8_2, x21_9_0, Ax21_9_0, cx21_9_0, x21_9_1, x21_16_0, x21_16_1, x21_16_2, lm17, H, rfl⟩ := hS
       rcases m17 with _ | m17
       · rw [impl_StepAggregator.j1] at H; cases H
       rw [impl_StepAggregator.j1] at H
       refine gs (rg (sv (EV.mv rfl) rfl (sv (EV.ld (v := .agg #[.int .i64 x21_16_0, .int .i64 x21_16_1, .int .i64 x21_16_2]) 3 (some 3) rfl rfl rfl) rfl (so rfl (op_lit (s := 3) (by_ := 24) k73 ([(⟨x21_16_0, x21_16_1, x21_16_2⟩ : S73)] : List S73) [[]] [] 6 [.tmp 87] rfl rfl rfl rfl rfl rfl rfl rfl rfl rfl rfl rfl rfl dq rfl fun A88_18 c88_18 => ?_)))))
       revert H; refine ggI ?_; intro g19 H
       exact so rfl (op_app (k := k73) (s := 3) (by_ := 24) 1 7 rfl rfl rfl rfl (ap1 g19 dq) (ap1n g19 dq) (.inl rfl) true (fun _ => .inl rfl) rfl rfl fun A89_20 c89_20 => (nmE (en := [mapE .i64 Value.bool rx21_11 x21_11 1, .sl 2 k73 Ax21_13 cx21_13 x21_13 3 true, .sl 1 k73 Ax21_52 cx21_52 x21_52 4 true, .sl 2 k80 Ax21_4_0 cx21_4_0 x21_4_0 5 true, .sl 1 k80 Ax21_8_0 cx21_8_0 x21_8_0 4 true, .sl 1 k73 Ax21_9_0 cx21_9_0 x21_9_0 4 true, .sl 2 k73 A88_18 c88_18 ([(⟨x21_16_0, x21_16_1, x21_16_2⟩ : S73)] : List S73) 6 true, .sl 2 k73 A89_20 c89_20 (x21_12 ++ ([(⟨x21_16_0, x21_16_1, x21_16_2⟩ : S73)] : List S73)) 2 true]) (by kernel_rfl) (sv (EV.as rfl) rfl (re (rg (sv (EV.fa 2 rfl) rfl (sv (EV.ld 1 none rfl rfl rfl) rfl (sv (EV.nt rfl) rfl (sv (EV.as rfl) rfl (re (pr [4, 8, 9, 10, 11, 12, 13, 14, 52, 53, 54] [0, 1, 2] [0, 1, 2, 3, 4, 5, 7] rfl rfl rfl rfl (ge (rg (sv (EV.add rfl rfl) rfl (sv (EV.mv rfl) rfl (re (wk [4, 8, 9, 10, 11, 12, 13, 14, 52, 53, 54] [0, 1, 2] [⟨0, 1, 1, false⟩, ⟨6, 2, 2, true⟩, ⟨1, 2, 3, true⟩, ⟨2, 1, 4, true⟩, ⟨3, 2, 5, true⟩, ⟨4, 1, 4, true⟩, ⟨5, 1, 4, true⟩] (ih0 _ (by omega) _ ⟨x21_10, x21_11, rx21_11, x21_12 ++ ([(⟨x21_16_0, x21_16_1, x21_16_2⟩ : S73)] : List S73), A89_20, c89_20, x21_13, Ax21_13, cx21_13, !x21_8_2, x21_52, Ax21_52, cx21_52, x21_53, wrap64 (x21_54 + 1), x21_4_0, Ax21_4_0, cx21_4_0, x21_4_1, x21_4_2, x21_8_0, Ax21_8_0, cx21_8_0, x21_8_1, x21_8_2, x21_9_0, Ax21_9_0, cx21_9_0, x21_9_1, H, rfl⟩))))))))))))))))))
      ·
       refine gs (rg (sv (EV.mv rfl) rfl (sv (EV.mv rfl) rfl ?_)))
       revert H; refine ifsI ?_ ?_ <;> intro c21 H
       ·
        subst c21
        refine ts 76 rfl rfl (sv (EV.mv rfl) rfl (sv (EV.fa 0 rfl) rfl (sv (EV.ld 3 none rfl rfl rfl) rfl (sv (EV.lk (vf := Value.bool) (zz := false) 0 rfl rfl rfl) rfl (sv (EV.pt rfl rfl rfl) rfl (re ?_))))))
        revert H; refine ifsI ?_ ?_ <;> intro c22 H
        ·
         refine gt rfl (c22) (gs (rg (sv (EV.mv rfl) rfl (sv (EV.ld (v := .agg #[.int .i64 x20_16_0, .int .i64 x20_16_1, .int .i64 x20_16_2]) 3 (some 3) rfl rfl rfl) rfl (so rfl (op_lit (s := 3) (by_ := 24) k73 ([(⟨x20_16_0, x20_16_1, x20_16_2⟩ : S73)] : List S73) [[]] [] 6 [.tmp 83] rfl rfl rfl rfl rfl rfl rfl rfl rfl rfl rfl rfl rfl dq rfl fun A84_23 c84_23 => ?_))))))
         revert H; refine ggI ?_; intro g24 H
         exact so rfl (op_app (k := k73) (s := 3) (by_ := 24) 2 7 rfl rfl rfl rfl (ap1 g24 dq) (ap1n g24 dq) (.inl rfl) true (fun _ => .inl rfl) rfl rfl fun A85_25 c85_25 => (nmE (en := [mapE .i64 Value.bool rx20_11 x20_11 1, .sl 2 k73 Ax20_12 cx20_12 x20_12 2 true, .sl 1 k73 Ax20_52 cx20_52 x20_52 4 true, .sl 2 k80 Ax20_4_0 cx20_4_0 x20_4_0 5 true, .sl 1 k80 Ax20_8_0 cx20_8_0 x20_8_0 4 true, .sl 1 k73 Ax20_9_0 cx20_9_0 x20_9_0 4 true, .sl 2 k73 A84_23 c84_23 ([(⟨x20_16_0, x20_16_1, x20_16_2⟩ : S73)] : List S73) 6 true, .sl 2 k73 A85_25 c85_25 (x20_13 ++ ([(⟨x20_16_0, x20_16_1, x20_16_2⟩ : S73)] : List S73)) 3 true]) (by kernel_rfl) (sv (EV.as rfl) rfl (re (pr [4, 8, 9, 10, 11, 12, 13, 14, 52, 53, 54, 77, 78, 79, 80] [0, 1, 2, 3] [0, 1, 2, 3, 4, 5, 7] rfl rfl rfl rfl (gx rfl (rg (sv (EV.add rfl rfl) rfl (sv (EV.mv rfl) rfl (re (wk [4, 8, 9, 10, 11, 12, 13, 14, 52, 53, 54] [0, 1, 2] [⟨0, 1, 1, false⟩, ⟨1, 2, 2, true⟩, ⟨6, 2, 3, true⟩, ⟨2, 1, 4, true⟩, ⟨3, 2, 5, true⟩, ⟨4, 1, 4, true⟩, ⟨5, 1, 4, true⟩] (ih0 _ (by omega) _ ⟨x20_10, x20_11, rx20_11, x20_12, Ax20_12, cx20_12, x20_13 ++ ([(⟨x20_16_0, x20_16_1, x20_16_2⟩ : S73)] : List S73), A85_25, c85_25, true, x20_52, Ax20_52, cx20_52, x20_53, wrap64 (x20_54 + 1), x20_4_0, Ax20_4_0, cx20_4_0, x20_4_1, x20_4_2, x20_8_0, Ax20_8_0, cx20_8_0, x20_8_1, x20_8_2, x20_9_0, Ax20_9_0, cx20_9_0, x20_9_1, H, rfl⟩))))))))))))
        ·
         exact gf rfl (bF c22) (gk (wk [4, 8, 9, 10, 11, 12, 13, 16, 52, 53, 54] [0, 1, 2, 3] [⟨0, 1, 1, false⟩, ⟨1, 2, 2, true⟩, ⟨2, 2, 3, true⟩, ⟨3, 1, 4, true⟩, ⟨4, 2, 5, true⟩, ⟨5, 1, 4, true⟩, ⟨6, 1, 4, true⟩] (jh1 _ ⟨_, x20_10, x20_11, rx20_11, x20_12, Ax20_12, cx20_12, x20_13, Ax20_13, cx20_13, x20_52, Ax20_52, cx20_52, x20_53, x20_54, x20_4_0, Ax20_4_0, cx20_4_0, x20_4_1, x20_4_2, x20_8_0, Ax20_8_0, cx20_8_0, x20_8_1, x20_8_2, x20_9_0, Ax20_9_0, cx20_9_0, x20_9_1, x20_16_0, x20_16_1, x20_16_2, by omega, H, rfl⟩)))
       ·
        obtain rfl := bF c21
        exact ts 76 rfl rfl (sk rfl (sk rfl (sk rfl (sk rfl (sv (EV.pf rfl rfl rfl) rfl (re (pr [4, 8, 9, 10, 11, 12, 13, 14, 16, 52, 53, 54, 81] [0, 1, 2, 3] [0, 1, 2, 3, 4, 5, 6] rfl rfl rfl rfl (gf rfl rfl (gk (wk [4, 8, 9, 10, 11, 12, 13, 16, 52, 53, 54] [0, 1, 2, 3] [⟨0, 1, 1, false⟩, ⟨1, 2, 2, true⟩, ⟨2, 2, 3, true⟩, ⟨3, 1, 4, true⟩, ⟨4, 2, 5, true⟩, ⟨5, 1, 4, true⟩, ⟨6, 1, 4, true⟩] (jh1 _ ⟨_, x20_10, x20_11, rx20_11, x20_12, Ax20_12, cx20_12, x20_13, Ax20_13, cx20_13, x20_52, Ax20_52, cx20_52, x20_53, x20_54, x20_4_0, Ax20_4_0, cx20_4_0, x20_4_1, x20_4_2, x20_8_0, Ax20_8_0, cx20_8_0, x20_8_1, x20_8_2, x20_9_0, Ax20_9_0, cx20_9_0, x20_9_1, x20_16_0, x20_16_1, x20_16_2, by omega, H, rfl⟩)))))))))))
     ·
      refine gs (rg (sv (EV.mv rfl) rfl (sv (EV.mv rfl) rfl ?_)))
      revert H; refine ifsI ?_ ?_ <;> intro c26 H
      ·
       subst c26
       refine ts 59 rfl rfl (sv (EV.mv rfl) rfl (sv (EV.fa 0 rfl) rfl (sv (EV.ld 3 none rfl rfl rfl) rfl (sv (EV.lk (vf := Value.bool) (zz := false) 0 rfl rfl rfl) rfl (sv (EV.nt rfl) rfl (sv (EV.pt rfl rfl rfl) rfl (sv (EV.mv rfl) rfl ?_)))))))
       revert H; refine ifsI ?_ ?_ <;> intro c27 H
       ·
        exact ts 66 rfl (bN c27) (sk rfl (sk rfl (sk rfl (sk rfl (sv (EV.pf rfl rfl rfl) rfl (re (pr [4, 8, 9, 10, 11, 12, 13, 14, 16, 52, 53, 54, 60, 61, 62, 63, 64, 71] [0, 1, 2, 3] [0, 1, 2, 3, 4, 5, 6] rfl rfl rfl rfl (gf rfl rfl (gk (wk [4, 8, 9, 10, 11, 12, 13, 14, 16, 52, 53, 54] [0, 1, 2, 3] [⟨0, 1, 1, false⟩, ⟨1, 2, 2, true⟩, ⟨2, 2, 3, true⟩, ⟨3, 1, 4, true⟩, ⟨4, 2, 5, true⟩, ⟨5, 1, 4, true⟩, ⟨6, 1, 4, true⟩] (jh0 _ ⟨_, x10_10, x10_11, rx10_11, x10_12, Ax10_12, cx10_12, x10_13, Ax10_13, cx10_13, true, x10_52, Ax10_52, cx10_52, x10_53, x10_54, x10_4_0, Ax10_4_0, cx10_4_0, x10_4_1, x10_4_2, x10_8_0, Ax10_8_0, cx10_8_0, x10_8_1, x10_8_2, x10_9_0, Ax10_9_0, cx10_9_0, x10_9_1, (rd_T73 x10_52 x10_54).f0, (rd_T73 x10_52 x10_54).f1, (rd_T73 x10_52 x10_54).f2, by omega, H, rfl⟩)))))))))))
       ·
        refine ts 66 rfl (bM c27) (sv (EV.mv rfl) rfl (sv (EV.lm 0 rfl rfl) rfl (sv (EV.mv rfl) rfl (sv (EV.lss rfl rfl) rfl (sv (EV.pt rfl rfl rfl) rfl (re (pr [4, 8, 9, 10, 11, 12, 13, 14, 16, 52, 53, 54, 60, 61, 62, 63, 64, 67, 68, 69, 70, 71] [0, 1, 2, 3] [0, 1, 2, 3, 4, 5, 6] rfl rfl rfl rfl ?_)))))))
        revert H; refine ifsI ?_ ?_ <;> intro c28 H
        ·
         exact gt rfl (dT c28) (rg (sv (EV.mv rfl) rfl (sv (EV.fa 0 rfl) rfl (sv (EV.ld 3 none rfl rfl rfl) rfl (so rfl (op_mu 0 true rfl rfl rfl rfl rfl (nmE (en := [.sl 2 k73 Ax10_12 cx10_12 x10_12 2 true, .sl 2 k73 Ax10_13 cx10_13 x10_13 3 true, .sl 1 k73 Ax10_52 cx10_52 x10_52 4 true, .sl 2 k80 Ax10_4_0 cx10_4_0 x10_4_0 5 true, .sl 1 k80 Ax10_8_0 cx10_8_0 x10_8_0 4 true, .sl 1 k73 Ax10_9_0 cx10_9_0 x10_9_0 4 true, mapE .i64 Value.bool rx10_11 (mSet x10_11 ((rd_T73 x10_52 x10_54).f0) true) 1]) (by kernel_rfl) (re (wk [4, 8, 9, 10, 11, 12, 13, 14, 16, 52, 53, 54] [0, 1, 2, 3] [⟨6, 1, 1, false⟩, ⟨0, 2, 2, true⟩, ⟨1, 2, 3, true⟩, ⟨2, 1, 4, true⟩, ⟨3, 2, 5, true⟩, ⟨4, 1, 4, true⟩, ⟨5, 1, 4, true⟩] (jh0 _ ⟨_, x10_10, mSet x10_11 ((rd_T73 x10_52 x10_54).f0) true, rx10_11, x10_12, Ax10_12, cx10_12, x10_13, Ax10_13, cx10_13, true, x10_52, Ax10_52, cx10_52, x10_53, x10_54, x10_4_0, Ax10_4_0, cx10_4_0, x10_4_1, x10_4_2, x10_8_0, Ax10_8_0, cx10_8_0, x10_8_1, x10_8_2, x10_9_0, Ax10_9_0, cx10_9_0, x10_9_1, (rd_T73 x10_52 x10_54).f0, (rd_T73 x10_52 x10_54).f1, (rd_T73 x10_52 x10_54).f2, by omega, H, rfl⟩))))))))))
        ·
         exact gf rfl (dF c28) (gk (wk [4, 8, 9, 10, 11, 12, 13, 14, 16, 52, 53, 54] [0, 1, 2, 3] [⟨0, 1, 1, false⟩, ⟨1, 2, 2, true⟩, ⟨2, 2, 3, true⟩, ⟨3, 1, 4, true⟩, ⟨4, 2, 5, true⟩, ⟨5, 1, 4, true⟩, ⟨6, 1, 4, true⟩] (jh0 _ ⟨_, x10_10, x10_11, rx10_11, x10_12, Ax10_12, cx10_12, x10_13, Ax10_13, cx10_13, true, x10_52, Ax10_52, cx10_52, x10_53, x10_54, x10_4_0, Ax10_4_0, cx10_4_0, x10_4_1, x10_4_2, x10_8_0, Ax10_8_0, cx10_8_0, x10_8_1, x10_8_2, x10_9_0, Ax10_9_0, cx10_9_0, x10_9_1, (rd_T73 x10_52 x10_54).f0, (rd_T73 x10_52 x10_54).f1, (rd_T73 x10_52 x10_54).f2, by omega, H, rfl⟩)))
      ·
       obtain rfl := bF c26
       exact ts 59 rfl rfl (sk rfl (sk rfl (sk rfl (sk rfl (sk rfl (sv (EV.pf rfl rfl rfl) rfl (sv (EV.mv rfl) rfl (sk rfl (sk rfl (sk rfl (sk rfl (sv (EV.pf rfl rfl rfl) rfl (re (pr [4, 8, 9, 10, 11, 12, 13, 14, 16, 52, 53, 54, 71] [0, 1, 2, 3] [0, 1, 2, 3, 4, 5, 6] rfl rfl rfl rfl (gf rfl rfl (gk (wk [4, 8, 9, 10, 11, 12, 13, 14, 16, 52, 53, 54] [0, 1, 2, 3] [⟨0, 1, 1, false⟩, ⟨1, 2, 2, true⟩, ⟨2, 2, 3, true⟩, ⟨3, 1, 4, true⟩, ⟨4, 2, 5, true⟩, ⟨5, 1, 4, true⟩, ⟨6, 1, 4, true⟩] (jh0 _ ⟨_, x10_10, x10_11, rx10_11, x10_12, Ax10_12, cx10_12, x10_13, Ax10_13, cx10_13, false, x10_52, Ax10_52, cx10_52, x10_53, x10_54, x10_4_0, Ax10_4_0, cx10_4_0, x10_4_1, x10_4_2, x10_8_0, Ax10_8_0, cx10_8_0, x10_8_1, x10_8_2, x10_9_0, Ax10_9_0, cx10_9_0, x10_9_1, (rd_T73 x10_52 x10_54).f0, (rd_T73 x10_52 x10_54).f1, (rd_T73 x10_52 x10_54).f2, by omega, H, rfl⟩))))))))))))))))))
    ·
     refine gf rfl (dF c13) (gx rfl (gs (rg (sv (EV.mv rfl) rfl ?_))))
     revert H; refine bdI ?_; rintro t29 A29 H
     refine so rfl (op_call (impl_ReferenceGroups.ok n0 x10_13 Ax10_13 cx10_13 _ A29) [⟨2, 0, 0, false⟩] 6 rfl rfl rfl rfl rfl ?_)
     rintro _ _ _ ⟨At29, ct29, rfl, rfl, rfl⟩
     refine sv (EV.as rfl) rfl (re (pr [4, 8, 9, 12, 17] [0, 1, 2] [1, 4, 5, 6, 7] rfl rfl rfl rfl ?_))
     refine jo (fun S => ∃ (m : Nat) (x23_17 : List S88) (Ax23_17 : Option Addr) (cx23_17 : Nat) (x23_4_0 : List S80) (Ax23_4_0 : Option Addr) (cx23_4_0 : Nat) (x23_4_1 : Int) (x23_4_2 : Bool) (x23_8_0 : List S80) (Ax23_8_0 : Option Addr) (cx23_8_0 : Nat) (x23_8_1 : Int) (x23_8_2 : Bool), m ≤ n0 ∧ impl_StepAggregator.j2 m x23_17 x23_4_0 x23_4_1 x23_4_2 x23_8_0 x23_8_1 x23_8_2 = some (r0, r1, r2, r3, r4, r5) ∧ S = ⟨[(4, .pointer (some ⟨b4, 0, none⟩)), (8, .pointer (some ⟨b8, 0, none⟩)), (17, .slice Ax23_17 x23_17.length cx23_17)], [⟨b4, 40, [.slice Ax23_4_0 x23_4_0.length cx23_4_0, .int .i64 x23_4_1, .bool x23_4_2]⟩, ⟨b8, 40, [.slice Ax23_8_0 x23_8_0.length cx23_8_0, .int .i64 x23_8_1, .bool x23_8_2]⟩], [.sl 1 k88 Ax23_17 cx23_17 x23_17 1 false, .sl 2 k80 Ax23_4_0 cx23_4_0 x23_4_0 2 true, .sl 1 k80 Ax23_8_0 cx23_8_0 x23_8_0 3 true]⟩) (fun S hS => ?_) (fun jh2 => ?_)
     ·
      clear H
      obtain ⟨m30, x23_17, Ax23_17, cx23_17, x23_4_0, Ax23_4_0, cx23_4_0, x23_4_1, x23_4_2, x23_8_0, Ax23_8_0, cx23_8_0, x23_8_1, x23_8_2, lm30, H, rfl⟩ := hS
      rcases m30 with _ | m30
      · rw [impl_StepAggregator.j2] at H; cases H
      rw [impl_StepAggregator.j2] at H
      refine gs (rg (sv (EV.ld (v := .agg #[.slice Ax23_8_0 x23_8_0.length cx23_8_0, .int .i64 x23_8_1, .bool x23_8_2]) 1 (some 3) rfl rfl rfl) rfl (sv (EV.mv rfl) rfl (sv (EV.mv rfl) rfl (sv (EV.ln rfl) rfl (sv (EV.mul rfl rfl) rfl (so rfl (op_st (cs' := [.slice Ax23_8_0 x23_8_0.length cx23_8_0, .int .i64 x23_8_1, .bool x23_8_2]) 0 rfl rfl rfl rfl rfl rfl (sv (EV.as rfl) rfl (sv (EV.as rfl) rfl (sv (EV.as rfl) rfl (re (pr [4, 5, 6, 7] [0] [0, 2] rfl rfl rfl rfl ?_)))))))))))))
      cases H
      exact rt Try.func49 rfl (.cell 0 (some 3) rfl rfl rfl (.tmp rfl (.tmp rfl (.tmp rfl .nil)))) rfl [] [⟨1, 1, 1, true⟩, ⟨0, 1, 2, false⟩] rfl rfl rfl rfl rfl ⟨_, _, _, _, rfl, rfl, rfl⟩
     ·
      refine gs (rg (sv (EV.mv rfl) rfl (sv (EV.ln rfl) rfl (sv (EV.gtr rfl rfl) rfl (re ?_)))))
      revert H; refine ifsI ?_ ?_ <;> intro c31 H
      ·
       refine gt rfl (dT c31) (gs (rg (sv (EV.mv rfl) rfl (sv (EV.fa 1 rfl) rfl (sv (EV.ld 2 none rfl rfl rfl) rfl (sv (EV.bd (v := .agg #[.slice Ax10_12 x10_12.length cx10_12, .int .i64 x10_9_1]) rfl (by kernel_rfl)) rfl (so rfl (op_lit (s := 2) (by_ := 32) k80 ([(⟨x10_12, x10_9_1⟩ : S80)] : List S80) [[(Ax10_12, cx10_12)]] [0] 8 [.tmp 102] rfl rfl rfl rfl rfl rfl rfl rfl rfl rfl rfl rfl rfl dq rfl fun A103_32 c103_32 => (nmE (en := [.sl 2 k73 Ax10_12 cx10_12 x10_12 8 true, .sl 2 k80 Ax10_4_0 cx10_4_0 x10_4_0 5 true, .sl 1 k80 Ax10_8_0 cx10_8_0 x10_8_0 4 true, .sl 1 k73 Ax10_9_0 cx10_9_0 x10_9_0 4 true, .sl 1 k88 At29 ct29 t29 7 false, .sl 2 k80 A103_32 c103_32 ([(⟨x10_12, x10_9_1⟩ : S80)] : List S80) 8 true]) (by kernel_rfl) (sv (EV.as rfl) rfl (re (pr [4, 8, 9, 12, 17, 18] [0, 1, 2] [0, 1, 2, 3, 4, 5] rfl rfl rfl rfl ?_))))))))))))
       refine jo (fun S => ∃ (m : Nat) (x24_17 : List S88) (Ax24_17 : Option Addr) (cx24_17 : Nat) (x24_18 : List S80) (Ax24_18 : Option Addr) (cx24_18 : Nat) (x24_4_0 : List S80) (Ax24_4_0 : Option Addr) (cx24_4_0 : Nat) (x24_4_1 : Int) (x24_4_2 : Bool) (x24_8_0 : List S80) (Ax24_8_0 : Option Addr) (cx24_8_0 : Nat) (x24_8_1 : Int) (x24_8_2 : Bool), m ≤ n0 ∧ impl_StepAggregator.j3 m x24_17 x24_18 x24_4_0 x24_4_1 x24_4_2 x24_8_0 x24_8_1 x24_8_2 = some (r0, r1, r2, r3, r4, r5) ∧ S = ⟨[(4, .pointer (some ⟨b4, 0, none⟩)), (8, .pointer (some ⟨b8, 0, none⟩)), (17, .slice Ax24_17 x24_17.length cx24_17), (18, .slice Ax24_18 x24_18.length cx24_18)], [⟨b4, 40, [.slice Ax24_4_0 x24_4_0.length cx24_4_0, .int .i64 x24_4_1, .bool x24_4_2]⟩, ⟨b8, 40, [.slice Ax24_8_0 x24_8_0.length cx24_8_0, .int .i64 x24_8_1, .bool x24_8_2]⟩], [.sl 1 k88 Ax24_17 cx24_17 x24_17 1 false, .sl 2 k80 Ax24_18 cx24_18 x24_18 2 true, .sl 2 k80 Ax24_4_0 cx24_4_0 x24_4_0 3 true, .sl 1 k80 Ax24_8_0 cx24_8_0 x24_8_0 4 true]⟩) (fun S hS => ?_) (fun jh3 => ?_)
       ·
        clear H
        obtain ⟨m33, x24_17, Ax24_17, cx24_17, x24_18, Ax24_18, cx24_18, x24_4_0, Ax24_4_0, cx24_4_0, x24_4_1, x24_4_2, x24_8_0, Ax24_8_0, cx24_8_0, x24_8_1, x24_8_2, lm33, H, rfl⟩ := hS
        rcases m33 with _ | m33
        · rw [impl_StepAggregator.j3] at H; cases H
        rw [impl_StepAggregator.j3] at H
        refine rg (sv (EV.mv rfl) rfl (sv (EV.fa 0 rfl) rfl (sv (EV.ld 1 none rfl rfl rfl) rfl ?_)))
        revert H; refine ggI ?_; intro g34 H
        exact so rfl (op_app (k := k80) (s := 2) (by_ := 32) 1 3 rfl rfl rfl rfl (ap2 g34 dq) (ap2n g34 dq) (.inr ⟨dq, dq, rfl, dq⟩) true (fun _ => .inr ⟨rfl, rfl, dq⟩) rfl rfl fun A137_35 c137_35 => (nmE (en := [.sl 1 k88 Ax24_17 cx24_17 x24_17 1 false, .sl 2 k80 Ax24_4_0 cx24_4_0 x24_4_0 3 true, .sl 1 k80 Ax24_8_0 cx24_8_0 x24_8_0 2 true, .sl 2 k80 A137_35 c137_35 (x24_18 ++ x24_8_0) 2 true]) (by kernel_rfl) (sv (EV.fa 0 rfl) rfl (so rfl (op_st (cs' := [.slice A137_35 (x24_18 ++ x24_8_0).length c137_35, .int .i64 x24_8_1, .bool x24_8_2]) 1 rfl rfl rfl rfl rfl rfl (re (pr [4, 8, 17] [0, 1] [0, 1, 3] rfl rfl rfl rfl (wk [4, 8, 17] [0, 1] [⟨0, 1, 1, false⟩, ⟨1, 2, 2, true⟩, ⟨2, 1, 3, true⟩] (jh2 _ ⟨_, x24_17, Ax24_17, cx24_17, x24_4_0, Ax24_4_0, cx24_4_0, x24_4_1, x24_4_2, x24_18 ++ x24_8_0, A137_35, c137_35, x24_8_1, x24_8_2, by omega, H, rfl⟩)))))))))
       ·
        refine gs (rg (sv (EV.fa 2 rfl) rfl (sv (EV.ld 1 none rfl rfl rfl) rfl (sv (EV.nt rfl) rfl (re ?_)))))
        revert H; refine ifsI ?_ ?_ <;> intro c36 H
        ·
         subst c36
         exact gf rfl rfl (gk (wk [4, 8, 17, 18] [0, 1] [⟨4, 1, 1, false⟩, ⟨5, 2, 2, true⟩, ⟨1, 2, 3, true⟩, ⟨2, 1, 4, true⟩] (jh3 _ ⟨_, t29, At29, ct29, ([(⟨x10_12, x10_9_1⟩ : S80)] : List S80), A103_32, c103_32, x10_4_0, Ax10_4_0, cx10_4_0, x10_4_1, x10_4_2, x10_8_0, Ax10_8_0, cx10_8_0, x10_8_1, true, by omega, H, rfl⟩)))
        ·
         obtain rfl := bF c36
         refine gt rfl rfl (gs (dr [0, 1, 2] [0, 1, 2, 3, 4, 5] [6] 7 rfl rfl rfl rfl (xv 0 [0, 1, 2] [0, 1, 2, 3, 4, 5] rfl (EV.fa 1 rfl) rfl rfl rfl rfl (xv 1 [0, 1, 2] [0, 1, 2, 3, 4, 5] rfl (EV.ld 1 none rfl rfl rfl) rfl rfl rfl rfl (xv 2 [0, 1, 2] [0, 1, 2, 3, 4, 5] rfl (EV.mv rfl) rfl rfl rfl rfl (one1 3 rfl rfl ?_))))))
         revert H; refine bdI ?_; rintro t37 A37 H
         refine op_call (impl_TotalCost.ok n0 x10_12 Ax10_12 cx10_12 _ A37) [⟨0, 0, 0, false⟩] 9 rfl rfl rfl rfl rfl ?_
         rintro _ _ _ ⟨rfl, rfl, rfl⟩
         refine xs [0, 1, 2] [0, 1, 2, 3, 4, 5] rfl rfl rfl (xv 4 [0, 1, 2] [0, 1, 2, 3, 4, 5] rfl (EV.add rfl rfl) rfl rfl rfl rfl (xv 5 [0, 1, 2] [0, 1, 2, 3, 4, 5] rfl (EV.fa 1 rfl) rfl rfl rfl rfl (one1 6 rfl rfl (op_st (cs' := [.slice Ax10_8_0 x10_8_0.length cx10_8_0, .int .i64 (wrap64 (x10_8_1 + t37)), .bool false]) 1 rfl rfl rfl rfl rfl rfl (xn rfl (xd (pr [4, 8, 9, 12, 17, 18] [0, 1, 2] [0, 1, 2, 3, 4, 5] rfl rfl rfl rfl (gs (rg (sv (EV.fa 1 rfl) rfl (sv (EV.ld 2 none rfl rfl rfl) rfl (sv (EV.lss rfl rfl) rfl (re ?_)))))))))))))
         revert H; refine ifsI ?_ ?_ <;> intro c38 H
         ·
          refine gt rfl (dT c38) (gs (rg (sv (EV.mv rfl) rfl (sv (EV.fa 1 rfl) rfl (sv (EV.ld 2 none rfl rfl rfl) rfl ?_)))))
          revert H; refine bdI ?_; rintro ⟨t39_0, t39_1⟩ A39 H
          refine so rfl (op_call (impl_SplitByHashBit.ok n0 x10_12 Ax10_12 cx10_12 x10_9_1 _ _ A39) [⟨0, 0, 0, false⟩] 9 rfl rfl rfl rfl rfl ?_)
          rintro _ _ _ ⟨At39_0, ct39_0, At39_1, ct39_1, rfl, rfl, rfl⟩
          exact sv (EV.mv rfl) rfl (sv (EV.ex rfl rfl) rfl (sv (EV.ex rfl rfl) rfl (sv (EV.as rfl) rfl (sv (EV.as rfl) rfl (re (pr [4, 8, 9, 17, 19, 20] [0, 1, 2] [1, 2, 3, 4, 6, 7] rfl rfl rfl rfl (rg (sv (EV.mv rfl) rfl (sv (EV.fa 1 rfl) rfl (sv (EV.ld 2 none rfl rfl rfl) rfl (sv (EV.add rfl rfl) rfl (sv (EV.bd (v := .agg #[.slice At39_0 t39_0.length ct39_0, .int .i64 (wrap64 (x10_9_1 + 1))]) rfl (by kernel_rfl)) rfl (sv (EV.mv rfl) rfl (sv (EV.fa 1 rfl) rfl (sv (EV.ld 2 none rfl rfl rfl) rfl (sv (EV.add rfl rfl) rfl (sv (EV.bd (v := .agg #[.slice At39_1 t39_1.length ct39_1, .int .i64 (wrap64 (x10_9_1 + 1))]) rfl (by kernel_rfl)) rfl (so rfl (op_lit (s := 2) (by_ := 32) k80 ([(⟨t39_0, wrap64 (x10_9_1 + 1)⟩ : S80), (⟨t39_1, wrap64 (x10_9_1 + 1)⟩ : S80)] : List S80) [[(At39_0, ct39_0)], [(At39_1, ct39_1)]] [4, 5] 12 [.tmp 127, .tmp 132] rfl rfl rfl rfl rfl rfl rfl rfl rfl rfl rfl rfl rfl dq rfl fun A133_40 c133_40 => (nmE (en := [.sl 2 k80 Ax10_4_0 cx10_4_0 x10_4_0 5 true, .sl 1 k80 Ax10_8_0 cx10_8_0 x10_8_0 4 true, .sl 1 k73 Ax10_9_0 cx10_9_0 x10_9_0 4 true, .sl 1 k88 At29 ct29 t29 7 false, .sl 2 k73 At39_0 ct39_0 t39_0 12 true, .sl 2 k73 At39_1 ct39_1 t39_1 12 true, .sl 2 k80 A133_40 c133_40 ([(⟨t39_0, wrap64 (x10_9_1 + 1)⟩ : S80), (⟨t39_1, wrap64 (x10_9_1 + 1)⟩ : S80)] : List S80) 12 true]) (by kernel_rfl) (sv (EV.as rfl) rfl (re (pr [4, 8, 17, 18] [0, 1] [0, 1, 3, 6] rfl rfl rfl rfl (wk [4, 8, 17, 18] [0, 1] [⟨2, 1, 1, false⟩, ⟨3, 2, 2, true⟩, ⟨0, 2, 3, true⟩, ⟨1, 1, 4, true⟩] (jh3 _ ⟨_, t29, At29, ct29, ([(⟨t39_0, wrap64 (x10_9_1 + 1)⟩ : S80), (⟨t39_1, wrap64 (x10_9_1 + 1)⟩ : S80)] : List S80), A133_40, c133_40, x10_4_0, Ax10_4_0, cx10_4_0, x10_4_1, x10_4_2, x10_8_0, Ax10_8_0, cx10_8_0, wrap64 (x10_8_1 + t37), false, by omega, H, rfl⟩)))))))))))))))))))))))))
         ·
          exact gf rfl (dF c38) (gk (wk [4, 8, 17, 18] [0, 1] [⟨4, 1, 1, false⟩, ⟨5, 2, 2, true⟩, ⟨1, 2, 3, true⟩, ⟨2, 1, 4, true⟩] (jh3 _ ⟨_, t29, At29, ct29, ([(⟨x10_12, x10_9_1⟩ : S80)] : List S80), A103_32, c103_32, x10_4_0, Ax10_4_0, cx10_4_0, x10_4_1, x10_4_2, x10_8_0, Ax10_8_0, cx10_8_0, wrap64 (x10_8_1 + t37), false, by omega, H, rfl⟩)))
      ·
       exact gf rfl (dF c31) (gk (wk [4, 8, 17] [0, 1] [⟨4, 1, 1, false⟩, ⟨1, 2, 2, true⟩, ⟨2, 1, 3, true⟩] (jh2 _ ⟨_, t29, At29, ct29, x10_4_0, Ax10_4_0, cx10_4_0, x10_4_1, x10_4_2, x10_8_0, Ax10_8_0, cx10_8_0, x10_8_1, x10_8_2, by omega, H, rfl⟩)))
   ·
    obtain rfl := bF c6
    refine gt rfl rfl (gs (rg (sv (EV.ld (v := .agg #[.slice At1_0 t1_0.length ct1_0, .int .i64 t1_1, .bool t1_2]) 1 (some 3) rfl rfl rfl) rfl (so rfl (op_st (cs' := [.slice At1_0 t1_0.length ct1_0, .int .i64 t1_1, .bool t1_2]) 0 rfl rfl rfl rfl rfl rfl (sv (EV.as rfl) rfl (sv (EV.as rfl) rfl (sv (EV.as rfl) rfl (re (nil_ k88 3 dq ?_))))))))))
    cases H
    exact rt Try.func49 rfl (.cell 0 (some 3) rfl rfl rfl (.tmp rfl (.tmp rfl (.tmp rfl .nil)))) rfl [] [⟨0, 1, 1, true⟩, ⟨1, 1, 2, false⟩] rfl rfl rfl rfl rfl ⟨_, _, _, _, rfl, rfl, rfl⟩
 ·
  obtain rfl := bF c3
  refine ts 26 rfl rfl (sk rfl (sk rfl (sk rfl (sk rfl (sv (EV.pt rfl rfl rfl) rfl (sv (EV.mv rfl) rfl (sk rfl (sk rfl (sk rfl (sv (EV.pt rfl rfl rfl) rfl (re (pr [1, 4, 8, 36] [1, 2] [1] rfl rfl rfl rfl (gt rfl rfl (gs (rg (sv (EV.ld (v := .agg #[.slice At1_0 t1_0.length ct1_0, .int .i64 t1_1, .bool t1_2]) 1 (some 3) rfl rfl rfl) rfl (so rfl (op_st (cs' := [.slice At1_0 t1_0.length ct1_0, .int .i64 t1_1, .bool t1_2]) 0 rfl rfl rfl rfl rfl rfl (sv (EV.as rfl) rfl (sv (EV.as rfl) rfl (sv (EV.as rfl) rfl (re (nil_ k88 3 dq ?_)))))))))))))))))))))))
  cases H
  exact rt Try.func49 rfl (.cell 0 (some 3) rfl rfl rfl (.tmp rfl (.tmp rfl (.tmp rfl .nil)))) rfl [] [⟨0, 1, 1, true⟩, ⟨1, 1, 2, false⟩] rfl rfl rfl rfl rfl ⟨_, _, _, _, rfl, rfl, rfl⟩
end Go.Proofs.Ytoncjohnkiilcaa.K
namespace Go.Proofs.Ytoncjohnkiilcaa.K
open Go Go.RowKit
set_option linter.unusedVariables false
set_option linter.unusedSimpArgs false
def impl_areGrants.l0 : Nat → Int → Int → (List Int) → Option (Bool)
 | 0, _, _, _ => none
 | k + 1, x2_6, x2_7, l0 => if x2_7 < x2_6 then (if 0 ≤ x2_7 then (if x2_7 < (l0.length : Int) then ((impl_isGrant.f (rdOf 0 l0 x2_7)).bind fun t4 => (if t4 = true then (impl_areGrants.l0 k x2_6 (wrap64 (x2_7 + 1)) l0) else (some false))) else none) else none) else (some (decide ((l0.length : Int) > 0)))
def impl_areGrants.f (k : Nat) (l0 : List Int) : Option (Bool) := impl_areGrants.l0 k (l0.length : Int) 0 l0
set_option maxHeartbeats 4000000 in
set_option maxRecDepth 100000 in
theorem impl_areGrants.ok (k : Nat) (l0 : List Int) (Al0 : Option Addr) (cl0 : Nat) (r0 : Bool) (H : impl_areGrants.f k l0 = some r0) : Fn Try.prog 75 [.slice Al0 l0.length cl0] [] [.sl 0 (.int .i64) Al0 cl0 l0 0 false] (fun v bx en => v = .bool r0 ∧ bx = [] ∧ en = []) := by
 refine fn_ 18 Try.func75 rfl rfl rfl (fun base T w0 => ?_)
 rw [impl_areGrants.f] at H
 refine gs (rg (sv (EV.as rfl) rfl (re (gs (gs (rg (sv (EV.mv rfl) rfl (sv (EV.ln rfl) rfl (sv (EV.mv rfl) rfl (re (gb ?_)))))))))))
 refine lo (fun kk S => ∃ (x2_6 : Int) (x2_7 : Int), impl_areGrants.l0 kk x2_6 x2_7 l0 = some r0 ∧ S = ⟨[(0, .slice Al0 l0.length cl0), (5, .slice Al0 l0.length cl0), (6, .int .i64 x2_6), (7, .int .i64 x2_7)], [], [.sl 0 (.int .i64) Al0 cl0 l0 0 false]⟩) (fun S hS => ?_) (fun n0 ih0 S hS => ?_) ⟨(l0.length : Int), 0, H, rfl⟩ (fun h => wk [0, 5, 6, 7] [] [⟨0, 0, 0, false⟩] h)
 · clear H; obtain ⟨_, _, H, _⟩ := hS; rw [impl_areGrants.l0] at H; cases H
 clear H
 obtain ⟨x2_6, x2_7, H, rfl⟩ := hS
 rw [impl_areGrants.l0] at H
 refine gs (rg (sv (EV.lss rfl rfl) rfl (re (gs ?_))))
 revert H; refine ifsI ?_ ?_ <;> intro c1 H
 ·
  refine gt rfl (dT c1) (gk (gs (gb (gs (rg ?_)))))
  revert H; refine ggI ?_; intro g2 H
  revert H; refine ggI ?_; intro g3 H
  refine sv (EV.ix 0 rfl rfl rfl g2 g3 rfl) rfl (sv (EV.le (v := .int .i64 (rdOf 0 l0 x2_7)) x2_7 0 none 0 0 rfl rfl rfl g2 g3 rfl rfl rfl) rfl (sv (EV.as rfl) rfl (re (gs (rg (sv (EV.mv rfl) rfl ?_))))))
  revert H; refine bdI ?_; rintro t4 A4 H
  refine so rfl (op_call (impl_isGrant.ok (rdOf 0 l0 x2_7) _ A4) [] 1 rfl rfl rfl rfl rfl ?_)
  rintro _ _ _ ⟨rfl, rfl, rfl⟩
  refine sv (EV.nt rfl) rfl (re (pr [0, 5, 6, 7, 13] [] [0] rfl rfl rfl rfl ?_))
  revert H; refine ifsI ?_ ?_ <;> intro c5 H
  ·
   subst c5
   exact gf rfl rfl (gk (ge (rg (sv (EV.add rfl rfl) rfl (sv (EV.mv rfl) rfl (re (wk [0, 5, 6, 7] [] [⟨0, 0, 0, false⟩] (ih0 _ (by omega) _ ⟨x2_6, wrap64 (x2_7 + 1), H, rfl⟩))))))))
  ·
   obtain rfl := bF c5
   refine gt rfl rfl (gs (rg (sv (EV.as rfl) rfl (re ?_))))
   cases H
   exact rt Try.func75 rfl (.tmp rfl .nil) rfl [] [] rfl rfl rfl rfl rfl ⟨rfl, rfl, rfl⟩
 ·
  refine gf rfl (dF c1) (gx rfl (gs (rg (sv (EV.mv rfl) rfl (sv (EV.ln rfl) rfl (sv (EV.gtr rfl rfl) rfl (sv (EV.as rfl) rfl (re (pr [2] [] [] rfl rfl rfl rfl ?_)))))))))
  cases H
  exact rt Try.func75 rfl (.tmp rfl .nil) rfl [] [] rfl rfl rfl rfl rfl ⟨rfl, rfl, rfl⟩
end Go.Proofs.Ytoncjohnkiilcaa.K
namespace Go.Proofs.Ytoncjohnkiilcaa.K
open Go Go.RowKit
set_option linter.unusedVariables false
set_option linter.unusedSimpArgs false
def impl_RunGroup.l0 : Nat → (List S88) → (List S88) → Int → Int → Int → (List S80) → Int → Bool → (List S88) → Int → Int → Int → (List Int) → Option ((List S88) × Int × Int × Int × Bool)
 | 0, _, _, _, _, _, _, _, _, _, _, _, _, _ => none
 | k + 1, x4_11, x4_6_0, x4_6_1, x4_6_2, x4_6_3, x4_8_0, x4_8_1, x4_8_2, x4_10_0, x4_10_1, x4_10_2, x4_10_3, l2 => if (x4_8_0.length : Int) > 0 then (if (l2.length : Int) ≠ 0 then (if 0 ≤ (Int.tmod x4_10_1 (l2.length : Int)) then (if (Int.tmod x4_10_1 (l2.length : Int)) < (l2.length : Int) then ((impl_StepAggregator.f k x4_8_0 x4_8_1 x4_8_2 (rdOf 0 l2 (Int.tmod x4_10_1 (l2.length : Int)))).bind fun bt10 => (if bt10.2.2.2.2.2 = true then (if x4_11.length + bt10.2.2.2.1.length ≤ 3518437208883 then (impl_RunGroup.l0 k (x4_11 ++ bt10.2.2.2.1) x4_6_0 x4_6_1 x4_6_2 x4_6_3 bt10.1 bt10.2.1 bt10.2.2.1 x4_10_0 (wrap64 (x4_10_1 + 1)) (mx x4_10_2 bt10.2.2.2.2.1) x4_10_3 l2) else none) else (some ([], 0, 0, 0, false)))) else none) else none) else none) else ((impl_MergeGroups.f k x4_11).bind fun t18 => (some (t18, x4_10_1, x4_10_2, x4_8_1, true)))
def impl_RunGroup.f (k : Nat) (l0 : List S73) (a1 : Bool) (l2 : List Int) : Option ((List S88) × Int × Int × Int × Bool) := (impl_NewAggregator.f k l0 a1).bind fun bt1 => (if bt1.2.2.2 = true then ((impl_areGrants.f k l2).bind fun t3 => (if t3 = true then (impl_RunGroup.l0 k [] [] 0 0 0 bt1.1 bt1.2.1 bt1.2.2.1 [] 0 0 0 l2) else (some ([], 0, 0, 0, false)))) else (some ([], 0, 0, 0, false)))
set_option maxHeartbeats 4000000 in
set_option maxRecDepth 100000 in
theorem impl_RunGroup.ok (k : Nat) (l0 : List S73) (Al0 : Option Addr) (cl0 : Nat) (a1 : Bool) (l2 : List Int) (Al2 : Option Addr) (cl2 : Nat) (r0 : List S88) (r1 : Int) (r2 : Int) (r3 : Int) (r4 : Bool) (H : impl_RunGroup.f k l0 a1 l2 = some (r0, r1, r2, r3, r4)) : Fn Try.prog 44 [.slice Al0 l0.length cl0, .bool a1, .slice Al2 l2.length cl2] [] [.sl 0 k73 Al0 cl0 l0 0 false, .sl 0 (.int .i64) Al2 cl2 l2 0 false] (fun v bx en => ∃ A0 c0, v = .tuple #[.agg #[.slice A0 r0.length c0, .int .i64 r1, .int .i64 r2, .int .i64 r3], .bool r4] ∧ bx = [] ∧ en = [.sl 1 k88 A0 c0 r0 1 false]) := by
 refine fn_ 74 Try.func44 rfl rfl rfl (fun base T w0 => ?_)
 rw [impl_RunGroup.f] at H
 refine gs (rg (so rfl (op_alloc (cs := [.slice none 0 0, .int .i64 0, .int .i64 0, .int .i64 0]) (by kernel_rfl) rfl fun b6 => (sv (EV.as rfl) rfl (re (gs (rg (sv (EV.mv rfl) rfl (sv (EV.mv rfl) rfl ?_)))))))))
 revert H; refine bdI ?_; rintro ⟨t1_0, t1_1, t1_2, t1_3⟩ A1 H
 refine so rfl (op_call (impl_NewAggregator.ok k l0 Al0 cl0 a1 _ _ _ _ A1) [⟨0, 0, 0, false⟩] 1 rfl rfl rfl rfl rfl ?_)
 rintro _ _ _ ⟨At1_0, ct1_0, rfl, rfl, rfl⟩
 refine sv (EV.mv rfl) rfl (sv (EV.ex rfl rfl) rfl (sv (EV.ex rfl rfl) rfl (so rfl (op_alloc (cs := [.slice none 0 0, .int .i64 0, .bool false]) (by kernel_rfl) rfl fun b8 => (so rfl (op_st (cs' := [.slice At1_0 t1_0.length ct1_0, .int .i64 t1_1, .bool t1_2]) 1 rfl rfl rfl rfl rfl rfl (sv (EV.as rfl) rfl (re (pr [2, 6, 8, 9] [0, 1] [1, 2] rfl rfl rfl rfl (gs (gs (rg (sv (EV.mv rfl) rfl (sv (EV.nt rfl) rfl (sv (EV.mv rfl) rfl ?_)))))))))))))))
 revert H; refine ifsI ?_ ?_ <;> intro c2 H
 ·
  subst c2
  refine ts 24 rfl rfl (sv (EV.mv rfl) rfl ?_)
  revert H; refine bdI ?_; rintro t3 A3 H
  refine so rfl (op_call (impl_areGrants.ok k l2 Al2 cl2 _ A3) [⟨0, 0, 0, false⟩] 3 rfl rfl rfl rfl rfl ?_)
  rintro _ _ _ ⟨rfl, rfl, rfl⟩
  refine sv (EV.nt rfl) rfl (sv (EV.pf rfl rfl rfl) rfl (re (pr [2, 6, 8, 28] [0, 1] [0, 1] rfl rfl rfl rfl ?_)))
  revert H; refine ifsI ?_ ?_ <;> intro c4 H
  ·
   subst c4
   refine gf rfl rfl (gk (gs (rg (sv (EV.bd (v := .agg #[.slice none 0 0, .int .i64 0, .int .i64 0, .int .i64 0]) rfl (by kernel_rfl)) rfl (so rfl (op_lit (s := 5) (by_ := 40) k88 ([] : List S88) [] [] 3 [] rfl rfl rfl rfl rfl rfl rfl rfl rfl rfl rfl rfl rfl dq rfl fun A31_5 c31_5 => (so rfl (op_alloc (cs := [.slice none 0 0, .int .i64 0, .int .i64 0, .int .i64 0]) (by kernel_rfl) rfl fun b10 => (so rfl (op_st (cs' := [.slice none 0 0, .int .i64 0, .int .i64 0, .int .i64 0]) 2 rfl rfl rfl rfl rfl rfl (sv (EV.as rfl) rfl (re (gs (gb (nil_ k88 4 dq (nil_ k88 5 dq ?_))))))))))))))))
   refine lo (fun kk S => ∃ (x4_11 : List S88) (Ax4_11 : Option Addr) (cx4_11 : Nat) (x4_6_0 : List S88) (Ax4_6_0 : Option Addr) (cx4_6_0 : Nat) (x4_6_1 : Int) (x4_6_2 : Int) (x4_6_3 : Int) (x4_8_0 : List S80) (Ax4_8_0 : Option Addr) (cx4_8_0 : Nat) (x4_8_1 : Int) (x4_8_2 : Bool) (x4_10_0 : List S88) (Ax4_10_0 : Option Addr) (cx4_10_0 : Nat) (x4_10_1 : Int) (x4_10_2 : Int) (x4_10_3 : Int), impl_RunGroup.l0 kk x4_11 x4_6_0 x4_6_1 x4_6_2 x4_6_3 x4_8_0 x4_8_1 x4_8_2 x4_10_0 x4_10_1 x4_10_2 x4_10_3 l2 = some (r0, r1, r2, r3, r4) ∧ S = ⟨[(2, .slice Al2 l2.length cl2), (6, .pointer (some ⟨b6, 0, none⟩)), (8, .pointer (some ⟨b8, 0, none⟩)), (10, .pointer (some ⟨b10, 0, none⟩)), (11, .slice Ax4_11 x4_11.length cx4_11)], [⟨b6, 62, [.slice Ax4_6_0 x4_6_0.length cx4_6_0, .int .i64 x4_6_1, .int .i64 x4_6_2, .int .i64 x4_6_3]⟩, ⟨b8, 40, [.slice Ax4_8_0 x4_8_0.length cx4_8_0, .int .i64 x4_8_1, .bool x4_8_2]⟩, ⟨b10, 62, [.slice Ax4_10_0 x4_10_0.length cx4_10_0, .int .i64 x4_10_1, .int .i64 x4_10_2, .int .i64 x4_10_3]⟩], [.sl 2 k88 Ax4_11 cx4_11 x4_11 1 true, .sl 2 k88 Ax4_6_0 cx4_6_0 x4_6_0 2 true, .sl 1 k80 Ax4_8_0 cx4_8_0 x4_8_0 3 true, .sl 2 k88 Ax4_10_0 cx4_10_0 x4_10_0 4 true, .sl 0 (.int .i64) Al2 cl2 l2 0 false]⟩) (fun S hS => ?_) (fun n0 ih0 S hS => ?_) ⟨[], A31_5, c31_5, [], none, 0, 0, 0, 0, t1_0, At1_0, ct1_0, t1_1, t1_2, [], none, 0, 0, 0, 0, H, rfl⟩ (fun h => wk [2, 6, 8, 10, 11] [0, 1, 2] [⟨2, 2, 1, true⟩, ⟨3, 2, 2, true⟩, ⟨1, 1, 3, true⟩, ⟨4, 2, 4, true⟩, ⟨0, 0, 0, false⟩] h)
   · clear H; obtain ⟨_, _, _, _, _, _, _, _, _, _, _, _, _, _, _, _, _, _, _, _, H, _⟩ := hS; rw [impl_RunGroup.l0] at H; cases H
   clear H
   obtain ⟨x4_11, Ax4_11, cx4_11, x4_6_0, Ax4_6_0, cx4_6_0, x4_6_1, x4_6_2, x4_6_3, x4_8_0, Ax4_8_0, cx4_8_0, x4_8_1, x4_8_2, x4_10_0, Ax4_10_0, cx4_10_0, x4_10_1, x4_10_2, x4_10_3, H, rfl⟩ := hS
   rw [impl_RunGroup.l0] at H
   refine gs (gs (rg (sv (EV.fa 0 rfl) rfl (sv (EV.ld 1 none rfl rfl rfl) rfl (sv (EV.ln rfl) rfl (sv (EV.gtr rfl rfl) rfl (re ?_)))))))
   revert H; refine ifsI ?_ ?_ <;> intro c6 H
   ·
    refine gt rfl (dT c6) (gk (gb (gs ?_)))
    revert H; refine ggI ?_; intro g7 H
    refine dr [0, 1, 2] [0, 1, 2, 3, 4] [19] 20 rfl rfl rfl rfl (xv 0 [0, 1, 2] [0, 1, 2, 3, 4] rfl (EV.ld (v := .agg #[.slice Ax4_8_0 x4_8_0.length cx4_8_0, .int .i64 x4_8_1, .bool x4_8_2]) 1 (some 3) rfl rfl rfl) rfl rfl rfl rfl (xv 1 [0, 1, 2] [0, 1, 2, 3, 4] rfl (EV.mv rfl) rfl rfl rfl rfl (xv 2 [0, 1, 2] [0, 1, 2, 3, 4] rfl (EV.fa 1 rfl) rfl rfl rfl rfl (xv 3 [0, 1, 2] [0, 1, 2, 3, 4] rfl (EV.ld 2 none rfl rfl rfl) rfl rfl rfl rfl (xv 4 [0, 1, 2] [0, 1, 2, 3, 4] rfl (EV.mv rfl) rfl rfl rfl rfl (xv 5 [0, 1, 2] [0, 1, 2, 3, 4] rfl (EV.ln rfl) rfl rfl rfl rfl (xv 6 [0, 1, 2] [0, 1, 2, 3, 4] rfl (EV.rem rfl rfl g7) rfl rfl rfl rfl ?_)))))))
    revert H; refine ggI ?_; intro g8 H
    revert H; refine ggI ?_; intro g9 H
    refine xv 7 [0, 1, 2] [0, 1, 2, 3, 4] rfl (EV.ix 4 rfl rfl rfl g8 g9 rfl) rfl rfl rfl rfl (xv 8 [0, 1, 2] [0, 1, 2, 3, 4] rfl (EV.le (v := .int .i64 (rdOf 0 l2 (Int.tmod x4_10_1 (l2.length : Int)))) (Int.tmod x4_10_1 (l2.length : Int)) 0 none 4 0 rfl rfl rfl g8 g9 rfl rfl rfl) rfl rfl rfl rfl ?_)
    refine one2 9 15 rfl rfl rfl rfl ?_ ?_
    ·
     revert H; refine bdI ?_; rintro ⟨t10_0, t10_1, t10_2, t10_3, t10_4, t10_5⟩ A10 H
     refine op_call (impl_StepAggregator.ok n0 x4_8_0 Ax4_8_0 cx4_8_0 x4_8_1 x4_8_2 (rdOf 0 l2 (Int.tmod x4_10_1 (l2.length : Int))) _ _ _ _ _ _ A10) [⟨2, 0, 0, false⟩] 5 rfl rfl rfl rfl rfl ?_
     rintro _ _ _ ⟨At10_0, ct10_0, At10_3, ct10_3, rfl, rfl, rfl⟩
     refine xs [0, 1, 2] [0, 1, 2, 3, 4] rfl rfl rfl (xv 10 [0, 1, 2] [0, 1, 2, 3, 4] rfl (EV.mv rfl) rfl rfl rfl rfl (xv 11 [0, 1, 2] [0, 1, 2, 3, 4] rfl (EV.ex rfl rfl) rfl rfl rfl rfl (xv 12 [0, 1, 2] [0, 1, 2, 3, 4] rfl (EV.ex rfl rfl) rfl rfl rfl rfl (xv 13 [0, 1, 2] [0, 1, 2, 3, 4] rfl (EV.ex rfl rfl) rfl rfl rfl rfl (xv 14 [0, 1, 2] [0, 1, 2, 3, 4] rfl (EV.ex rfl rfl) rfl rfl rfl rfl (one1 15 rfl rfl (op_alloc (cs := [.slice none 0 0, .int .i64 0, .bool false]) (by kernel_rfl) rfl fun b12 => (xs [0, 1, 2] [0, 1, 2, 3, 4] rfl rfl rfl (one1 16 rfl rfl (op_st (cs' := [.slice At10_0 t10_0.length ct10_0, .int .i64 t10_1, .bool t10_2]) 3 rfl rfl rfl rfl rfl rfl (xs [0, 1, 2] [0, 1, 2, 3, 4] rfl rfl rfl (one1 17 rfl rfl (ov (EV.as rfl) rfl (xs [0, 1, 2] [0, 1, 2, 3, 4] rfl rfl rfl (one1 18 rfl rfl (ov (EV.as rfl) rfl (xs [0, 1, 2] [0, 1, 2, 3, 4] rfl rfl rfl (one1 19 rfl rfl (ov (EV.as rfl) rfl (xn rfl (xd (pr [2, 6, 8, 10, 11, 12, 13, 14, 15] [0, 1, 2, 3] [0, 1, 2, 3, 4, 5, 6] rfl rfl rfl rfl (gs (gs (rg (sv (EV.mv rfl) rfl (sv (EV.nt rfl) rfl (re ?_))))))))))))))))))))))))))))
     revert H; refine ifsI ?_ ?_ <;> intro c11 H
     ·
      subst c11
      refine gf rfl rfl (gk (gs (rg (sv (EV.ld (v := .agg #[.slice At10_0 t10_0.length ct10_0, .int .i64 t10_1, .bool t10_2]) 3 (some 3) rfl rfl rfl) rfl (so rfl (op_st (cs' := [.slice At10_0 t10_0.length ct10_0, .int .i64 t10_1, .bool t10_2]) 1 rfl rfl rfl rfl rfl rfl (re (gs (rg (sv (EV.mv rfl) rfl (sv (EV.mv rfl) rfl ?_)))))))))))
      revert H; refine ggI ?_; intro g12 H
      exact so rfl (op_app (k := k88) (s := 5) (by_ := 40) 0 6 rfl rfl rfl rfl (ap2 g12 dq) (ap2n g12 dq) (.inl rfl) true (fun _ => .inl rfl) rfl rfl fun A57_13 c57_13 => (nmE (en := [.sl 2 k88 Ax4_6_0 cx4_6_0 x4_6_0 2 true, .sl 1 k80 Ax4_8_0 cx4_8_0 x4_8_0 3 true, .sl 2 k88 Ax4_10_0 cx4_10_0 x4_10_0 4 true, .sl 0 (.int .i64) Al2 cl2 l2 0 false, .sl 1 k80 At10_0 ct10_0 t10_0 6 true, .sl 1 k88 At10_3 ct10_3 t10_3 7 false, .sl 2 k88 A57_13 c57_13 (x4_11 ++ t10_3) 1 true]) (by kernel_rfl) (sv (EV.as rfl) rfl (re (pr [2, 6, 8, 10, 11, 14] [0, 1, 2] [0, 2, 3, 4, 6] rfl rfl rfl rfl (gs (rg (sv (EV.fa 1 rfl) rfl (sv (EV.ld 2 none rfl rfl rfl) rfl (sv (EV.add rfl rfl) rfl (sv (EV.fa 1 rfl) rfl (so rfl (op_st (cs' := [.slice Ax4_10_0 x4_10_0.length cx4_10_0, .int .i64 (wrap64 (x4_10_1 + 1)), .int .i64 x4_10_2, .int .i64 x4_10_3]) 2 rfl rfl rfl rfl rfl rfl (re (rg (sv (EV.fa 2 rfl) rfl (sv (EV.ld 2 none rfl rfl rfl) rfl (sv (EV.mv rfl) rfl (sv (EV.mx rfl rfl) rfl (sv (EV.fa 2 rfl) rfl (so rfl (op_st (cs' := [.slice Ax4_10_0 x4_10_0.length cx4_10_0, .int .i64 (wrap64 (x4_10_1 + 1)), .int .i64 (mx x4_10_2 t10_4), .int .i64 x4_10_3]) 2 rfl rfl rfl rfl rfl rfl (re (pr [2, 6, 8, 10, 11] [0, 1, 2] [0, 1, 2, 3, 4] rfl rfl rfl rfl (ge (wk [2, 6, 8, 10, 11] [0, 1, 2] [⟨4, 2, 1, true⟩, ⟨0, 2, 2, true⟩, ⟨3, 1, 3, true⟩, ⟨1, 2, 4, true⟩, ⟨2, 0, 0, false⟩] (ih0 _ (by omega) _ ⟨x4_11 ++ t10_3, A57_13, c57_13, x4_6_0, Ax4_6_0, cx4_6_0, x4_6_1, x4_6_2, x4_6_3, t10_0, At10_0, ct10_0, t10_1, t10_2, x4_10_0, Ax4_10_0, cx4_10_0, wrap64 (x4_10_1 + 1), mx x4_10_2 t10_4, x4_10_3, H, rfl⟩)))))))))))))))))))))))))))
     ·
      obtain rfl := bF c11
      refine gt rfl rfl (gs (rg (sv (EV.bd (v := .agg #[.slice none 0 0, .int .i64 0, .int .i64 0, .int .i64 0]) rfl (by kernel_rfl)) rfl (so rfl (op_st (cs' := [.slice none 0 0, .int .i64 0, .int .i64 0, .int .i64 0]) 0 rfl rfl rfl rfl rfl rfl (sv (EV.as rfl) rfl (re (pr [6, 7] [0] [] rfl rfl rfl rfl (nil_ k88 1 dq ?_)))))))))
      cases H
      exact rt Try.func44 rfl (.cell 0 (some 4) rfl rfl rfl (.tmp rfl .nil)) rfl [] [⟨0, 1, 1, false⟩] rfl rfl rfl rfl rfl ⟨_, _, rfl, rfl, rfl⟩
    ·
     refine op_alloc (cs := [.slice none 0 0, .int .i64 0, .bool false]) (by kernel_rfl) rfl fun b12 => (xs [0, 1, 2] [0, 1, 2, 3, 4] rfl rfl rfl (one1 9 rfl rfl ?_))
     revert H; refine bdI ?_; rintro ⟨t14_0, t14_1, t14_2, t14_3, t14_4, t14_5⟩ A14 H
     refine op_call (impl_StepAggregator.ok n0 x4_8_0 Ax4_8_0 cx4_8_0 x4_8_1 x4_8_2 (rdOf 0 l2 (Int.tmod x4_10_1 (l2.length : Int))) _ _ _ _ _ _ A14) [⟨2, 0, 0, false⟩] 5 rfl rfl rfl rfl rfl ?_
     rintro _ _ _ ⟨At14_0, ct14_0, At14_3, ct14_3, rfl, rfl, rfl⟩
     refine xs [0, 1, 2] [0, 1, 2, 3, 4] rfl rfl rfl (xv 10 [0, 1, 2] [0, 1, 2, 3, 4] rfl (EV.mv rfl) rfl rfl rfl rfl (xv 11 [0, 1, 2] [0, 1, 2, 3, 4] rfl (EV.ex rfl rfl) rfl rfl rfl rfl (xv 12 [0, 1, 2] [0, 1, 2, 3, 4] rfl (EV.ex rfl rfl) rfl rfl rfl rfl (xv 13 [0, 1, 2] [0, 1, 2, 3, 4] rfl (EV.ex rfl rfl) rfl rfl rfl rfl (xv 14 [0, 1, 2] [0, 1, 2, 3, 4] rfl (EV.ex rfl rfl) rfl rfl rfl rfl (one1 16 rfl rfl (op_st (cs' := [.slice At14_0 t14_0.length ct14_0, .int .i64 t14_1, .bool t14_2]) 3 rfl rfl rfl rfl rfl rfl (xs [0, 1, 2] [0, 1, 2, 3, 4] rfl rfl rfl (one1 17 rfl rfl (ov (EV.as rfl) rfl (xs [0, 1, 2] [0, 1, 2, 3, 4] rfl rfl rfl (one1 18 rfl rfl (ov (EV.as rfl) rfl (xs [0, 1, 2] [0, 1, 2, 3, 4] rfl rfl rfl (one1 19 rfl rfl (ov (EV.as rfl) rfl (xn rfl (xd (pr [2, 6, 8, 10, 11, 12, 13, 14, 15] [0, 1, 2, 3] [0, 1, 2, 3, 4, 5, 6] rfl rfl rfl rfl (gs (gs (rg (sv (EV.mv rfl) rfl (sv (EV.nt rfl) rfl (re ?_)))))))))))))))))))))))))
     revert H; refine ifsI ?_ ?_ <;> intro c15 H
     ·
      subst c15
      refine gf rfl rfl (gk (gs (rg (sv (EV.ld (v := .agg #[.slice At14_0 t14_0.length ct14_0, .int .i64 t14_1, .bool t14_2]) 3 (some 3) rfl rfl rfl) rfl (so rfl (op_st (cs' := [.slice At14_0 t14_0.length ct14_0, .int .i64 t14_1, .bool t14_2]) 1 rfl rfl rfl rfl rfl rfl (re (gs (rg (sv (EV.mv rfl) rfl (sv (EV.mv rfl) rfl ?_)))))))))))
      revert H; refine ggI ?_; intro g16 H
      exact so rfl (op_app (k := k88) (s := 5) (by_ := 40) 0 6 rfl rfl rfl rfl (ap2 g16 dq) (ap2n g16 dq) (.inl rfl) true (fun _ => .inl rfl) rfl rfl fun A57_17 c57_17 => (nmE (en := [.sl 2 k88 Ax4_6_0 cx4_6_0 x4_6_0 2 true, .sl 1 k80 Ax4_8_0 cx4_8_0 x4_8_0 3 true, .sl 2 k88 Ax4_10_0 cx4_10_0 x4_10_0 4 true, .sl 0 (.int .i64) Al2 cl2 l2 0 false, .sl 1 k80 At14_0 ct14_0 t14_0 6 true, .sl 1 k88 At14_3 ct14_3 t14_3 7 false, .sl 2 k88 A57_17 c57_17 (x4_11 ++ t14_3) 1 true]) (by kernel_rfl) (sv (EV.as rfl) rfl (re (pr [2, 6, 8, 10, 11, 14] [0, 1, 2] [0, 2, 3, 4, 6] rfl rfl rfl rfl (gs (rg (sv (EV.fa 1 rfl) rfl (sv (EV.ld 2 none rfl rfl rfl) rfl (sv (EV.add rfl rfl) rfl (sv (EV.fa 1 rfl) rfl (so rfl (op_st (cs' := [.slice Ax4_10_0 x4_10_0.length cx4_10_0, .int .i64 (wrap64 (x4_10_1 + 1)), .int .i64 x4_10_2, .int .i64 x4_10_3]) 2 rfl rfl rfl rfl rfl rfl (re (rg (sv (EV.fa 2 rfl) rfl (sv (EV.ld 2 none rfl rfl rfl) rfl (sv (EV.mv rfl) rfl (sv (EV.mx rfl rfl) rfl (sv (EV.fa 2 rfl) rfl (so rfl (op_st (cs' := [.slice Ax4_10_0 x4_10_0.length cx4_10_0, .int .i64 (wrap64 (x4_10_1 + 1)), .int .i64 (mx x4_10_2 t14_4), .int .i64 x4_10_3]) 2 rfl rfl rfl rfl rfl rfl (re (pr [2, 6, 8, 10, 11] [0, 1, 2] [0, 1, 2, 3, 4] rfl rfl rfl rfl (ge (wk [2, 6, 8, 10, 11] [0, 1, 2] [⟨4, 2, 1, true⟩, ⟨0, 2, 2, true⟩, ⟨3, 1, 3, true⟩, ⟨1, 2, 4, true⟩, ⟨2, 0, 0, false⟩] (ih0 _ (by omega) _ ⟨x4_11 ++ t14_3, A57_17, c57_17, x4_6_0, Ax4_6_0, cx4_6_0, x4_6_1, x4_6_2, x4_6_3, t14_0, At14_0, ct14_0, t14_1, t14_2, x4_10_0, Ax4_10_0, cx4_10_0, wrap64 (x4_10_1 + 1), mx x4_10_2 t14_4, x4_10_3, H, rfl⟩)))))))))))))))))))))))))))
     ·
      obtain rfl := bF c15
      refine gt rfl rfl (gs (rg (sv (EV.bd (v := .agg #[.slice none 0 0, .int .i64 0, .int .i64 0, .int .i64 0]) rfl (by kernel_rfl)) rfl (so rfl (op_st (cs' := [.slice none 0 0, .int .i64 0, .int .i64 0, .int .i64 0]) 0 rfl rfl rfl rfl rfl rfl (sv (EV.as rfl) rfl (re (pr [6, 7] [0] [] rfl rfl rfl rfl (nil_ k88 1 dq ?_)))))))))
      cases H
      exact rt Try.func44 rfl (.cell 0 (some 4) rfl rfl rfl (.tmp rfl .nil)) rfl [] [⟨0, 1, 1, false⟩] rfl rfl rfl rfl rfl ⟨_, _, rfl, rfl, rfl⟩
   ·
    refine gf rfl (dF c6) (gx rfl (gs (dr [0, 1] [0, 1, 2, 3, 4] [6, 7] 8 rfl rfl rfl rfl (xv 0 [0, 1] [0, 1, 2, 3, 4] rfl (EV.mv rfl) rfl rfl rfl rfl (xv 2 [0, 1] [0, 1, 2, 3, 4] rfl (EV.fa 1 rfl) rfl rfl rfl rfl (xv 3 [0, 1] [0, 1, 2, 3, 4] rfl (EV.ld 1 none rfl rfl rfl) rfl rfl rfl rfl (one1 1 rfl rfl ?_)))))))
    revert H; refine bdI ?_; rintro t18 A18 H
    refine op_call (impl_MergeGroups.ok n0 x4_11 Ax4_11 cx4_11 _ A18) [⟨0, 0, 0, false⟩] 5 rfl rfl rfl rfl rfl ?_
    rintro _ _ _ ⟨At18, ct18, rfl, rfl, rfl⟩
    refine xs [0, 1] [0, 1, 2, 3, 4] rfl rfl rfl (xv 4 [0, 1] [0, 1, 2, 3, 4] rfl (EV.fa 0 rfl) rfl rfl rfl rfl (one1 5 rfl rfl (op_st (cs' := [.slice At18 t18.length ct18, .int .i64 x4_10_1, .int .i64 x4_10_2, .int .i64 x4_10_3]) 2 rfl rfl rfl rfl rfl rfl (xs [0, 1] [0, 1, 2, 3, 4] rfl rfl rfl (one1 6 rfl rfl (ov (EV.fa 3 rfl) rfl (xn rfl (one1 7 rfl rfl (op_st (cs' := [.slice At18 t18.length ct18, .int .i64 x4_10_1, .int .i64 x4_10_2, .int .i64 x4_8_1]) 2 rfl rfl rfl rfl rfl rfl (xn rfl (xd (pr [6, 10] [0, 2] [1, 5] rfl rfl rfl rfl (gs (rg (sv (EV.ld (v := .agg #[.slice At18 t18.length ct18, .int .i64 x4_10_1, .int .i64 x4_10_2, .int .i64 x4_8_1]) 1 (some 4) rfl rfl rfl) rfl (so rfl (op_st (cs' := [.slice At18 t18.length ct18, .int .i64 x4_10_1, .int .i64 x4_10_2, .int .i64 x4_8_1]) 0 rfl rfl rfl rfl rfl rfl (sv (EV.as rfl) rfl (re ?_)))))))))))))))))))
    cases H
    exact rt Try.func44 rfl (.cell 0 (some 4) rfl rfl rfl (.tmp rfl .nil)) rfl [] [⟨1, 1, 1, false⟩] rfl rfl rfl rfl rfl ⟨_, _, rfl, rfl, rfl⟩
  ·
   obtain rfl := bF c4
   refine gt rfl rfl (gs (rg (sv (EV.bd (v := .agg #[.slice none 0 0, .int .i64 0, .int .i64 0, .int .i64 0]) rfl (by kernel_rfl)) rfl (so rfl (op_st (cs' := [.slice none 0 0, .int .i64 0, .int .i64 0, .int .i64 0]) 0 rfl rfl rfl rfl rfl rfl (sv (EV.as rfl) rfl (re (nil_ k88 3 dq ?_))))))))
   cases H
   exact rt Try.func44 rfl (.cell 0 (some 4) rfl rfl rfl (.tmp rfl .nil)) rfl [] [⟨2, 1, 1, false⟩] rfl rfl rfl rfl rfl ⟨_, _, rfl, rfl, rfl⟩
 ·
  obtain rfl := bF c2
  refine ts 24 rfl rfl (sk rfl (sk rfl (sk rfl (sv (EV.pt rfl rfl rfl) rfl (re (pr [2, 6, 8, 28] [0, 1] [0, 1] rfl rfl rfl rfl (gt rfl rfl (gs (rg (sv (EV.bd (v := .agg #[.slice none 0 0, .int .i64 0, .int .i64 0, .int .i64 0]) rfl (by kernel_rfl)) rfl (so rfl (op_st (cs' := [.slice none 0 0, .int .i64 0, .int .i64 0, .int .i64 0]) 0 rfl rfl rfl rfl rfl rfl (sv (EV.as rfl) rfl (re (nil_ k88 3 dq ?_)))))))))))))))
  cases H
  exact rt Try.func44 rfl (.cell 0 (some 4) rfl rfl rfl (.tmp rfl .nil)) rfl [] [⟨2, 1, 1, false⟩] rfl rfl rfl rfl rfl ⟨_, _, rfl, rfl, rfl⟩
end Go.Proofs.Ytoncjohnkiilcaa.K
namespace Go.Proofs.Ytoncjohnkiilcaa.K
open Go Go.RowKit
set_option linter.unusedVariables false
set_option linter.unusedSimpArgs false
def laws_eqGroup.f (a0_0 : Int) (a0_1 : Int) (a0_2 : Int) (a0_3 : Int) (a0_4 : Int) (a1_0 : Int) (a1_1 : Int) (a1_2 : Int) (a1_3 : Int) (a1_4 : Int) : Option (Bool) := if a0_0 = a1_0 then (if a0_1 = a1_1 then (if a0_2 = a1_2 then (if a0_3 = a1_3 then (if a0_4 = a1_4 then (some true) else (some false)) else (some false)) else (some false)) else (some false)) else (some false)
set_option maxHeartbeats 4000000 in
set_option maxRecDepth 100000 in
theorem laws_eqGroup.ok (a0_0 : Int) (a0_1 : Int) (a0_2 : Int) (a0_3 : Int) (a0_4 : Int) (a1_0 : Int) (a1_1 : Int) (a1_2 : Int) (a1_3 : Int) (a1_4 : Int) (r0 : Bool) (H : laws_eqGroup.f a0_0 a0_1 a0_2 a0_3 a0_4 a1_0 a1_1 a1_2 a1_3 a1_4 = some r0) : Fn Try.prog 71 [.agg #[.int .i64 a0_0, .int .i64 a0_1, .int .i64 a0_2, .int .i64 a0_3, .int .i64 a0_4], .agg #[.int .i64 a1_0, .int .i64 a1_1, .int .i64 a1_2, .int .i64 a1_3, .int .i64 a1_4]] [] [] (fun v bx en => v = .bool r0 ∧ bx = [] ∧ en = []) := by
 refine fn_ 30 Try.func71 rfl rfl rfl (fun base T w0 => ?_)
 rw [laws_eqGroup.f] at H
 refine gs (rg (so rfl (op_box (cs := [.int .i64 a0_0, .int .i64 a0_1, .int .i64 a0_2, .int .i64 a0_3, .int .i64 a0_4]) rfl rfl rfl fun b2 => (so rfl (op_box (cs := [.int .i64 a1_0, .int .i64 a1_1, .int .i64 a1_2, .int .i64 a1_3, .int .i64 a1_4]) rfl rfl rfl fun b3 => (sv (EV.as rfl) rfl (re (gs (gs (rg (sv (EV.fa 0 rfl) rfl (sv (EV.ld 0 none rfl rfl rfl) rfl (sv (EV.fa 0 rfl) rfl (sv (EV.ld 1 none rfl rfl rfl) rfl (sv (EV.neq rfl rfl) rfl (re (pr [2, 3, 9] [0, 1] [] rfl rfl rfl rfl ?_)))))))))))))))))
 revert H; refine ifsI ?_ ?_ <;> intro c1 H
 ·
  refine gf rfl (nF c1) (gk (gs (gs (rg (sv (EV.fa 1 rfl) rfl (sv (EV.ld 0 none rfl rfl rfl) rfl (sv (EV.fa 1 rfl) rfl (sv (EV.ld 1 none rfl rfl rfl) rfl (sv (EV.neq rfl rfl) rfl (re ?_))))))))))
  revert H; refine ifsI ?_ ?_ <;> intro c2 H
  ·
   refine gf rfl (nF c2) (gk (gs (gs (rg (sv (EV.fa 2 rfl) rfl (sv (EV.ld 0 none rfl rfl rfl) rfl (sv (EV.fa 2 rfl) rfl (sv (EV.ld 1 none rfl rfl rfl) rfl (sv (EV.neq rfl rfl) rfl (re (pr [2, 3, 19] [0, 1] [] rfl rfl rfl rfl ?_)))))))))))
   revert H; refine ifsI ?_ ?_ <;> intro c3 H
   ·
    refine gf rfl (nF c3) (gk (gs (gs (rg (sv (EV.fa 3 rfl) rfl (sv (EV.ld 0 none rfl rfl rfl) rfl (sv (EV.fa 3 rfl) rfl (sv (EV.ld 1 none rfl rfl rfl) rfl (sv (EV.neq rfl rfl) rfl (re ?_))))))))))
    revert H; refine ifsI ?_ ?_ <;> intro c4 H
    ·
     refine gf rfl (nF c4) (gk (gs (gs (rg (sv (EV.fa 4 rfl) rfl (sv (EV.ld 0 none rfl rfl rfl) rfl (sv (EV.fa 4 rfl) rfl (sv (EV.ld 1 none rfl rfl rfl) rfl (sv (EV.neq rfl rfl) rfl (re (pr [29] [] [] rfl rfl rfl rfl ?_)))))))))))
     revert H; refine ifsI ?_ ?_ <;> intro c5 H
     ·
      refine gf rfl (nF c5) (gk (gs (rg (sv (EV.as rfl) rfl (re ?_)))))
      cases H
      exact rt Try.func71 rfl (.tmp rfl .nil) rfl [] [] rfl rfl rfl rfl rfl ⟨rfl, rfl, rfl⟩
     ·
      refine gt rfl (nT c5) (gs (rg (sv (EV.as rfl) rfl (re ?_))))
      cases H
      exact rt Try.func71 rfl (.tmp rfl .nil) rfl [] [] rfl rfl rfl rfl rfl ⟨rfl, rfl, rfl⟩
    ·
     refine gt rfl (nT c4) (gs (rg (sv (EV.as rfl) rfl (re (pr [4] [] [] rfl rfl rfl rfl ?_)))))
     cases H
     exact rt Try.func71 rfl (.tmp rfl .nil) rfl [] [] rfl rfl rfl rfl rfl ⟨rfl, rfl, rfl⟩
   ·
    refine gt rfl (nT c3) (gs (rg (sv (EV.as rfl) rfl (re ?_))))
    cases H
    exact rt Try.func71 rfl (.tmp rfl .nil) rfl [] [] rfl rfl rfl rfl rfl ⟨rfl, rfl, rfl⟩
  ·
   refine gt rfl (nT c2) (gs (rg (sv (EV.as rfl) rfl (re (pr [4] [] [] rfl rfl rfl rfl ?_)))))
   cases H
   exact rt Try.func71 rfl (.tmp rfl .nil) rfl [] [] rfl rfl rfl rfl rfl ⟨rfl, rfl, rfl⟩
 ·
  refine gt rfl (nT c1) (gs (rg (sv (EV.as rfl) rfl (re ?_))))
  cases H
  exact rt Try.func71 rfl (.tmp rfl .nil) rfl [] [] rfl rfl rfl rfl rfl ⟨rfl, rfl, rfl⟩
end Go.Proofs.Ytoncjohnkiilcaa.K
namespace Go.Proofs.Ytoncjohnkiilcaa.K
open Go Go.RowKit
set_option linter.unusedVariables false
set_option linter.unusedSimpArgs false
def laws_eqGroupS.l0 : Nat → Int → (List S88) → (List S88) → Option (Bool)
 | 0, _, _, _ => none
 | k + 1, x2_5, l0, l1 => if x2_5 < (l0.length : Int) then (if 0 ≤ x2_5 then (if x2_5 < (l1.length : Int) then ((laws_eqGroup.f ((rd_T88 l0 x2_5).f0) ((rd_T88 l0 x2_5).f1) ((rd_T88 l0 x2_5).f2) ((rd_T88 l0 x2_5).f3) ((rd_T88 l0 x2_5).f4) ((rd_T88 l1 x2_5).f0) ((rd_T88 l1 x2_5).f1) ((rd_T88 l1 x2_5).f2) ((rd_T88 l1 x2_5).f3) ((rd_T88 l1 x2_5).f4)).bind fun t5 => (if t5 = true then (laws_eqGroupS.l0 k (wrap64 (x2_5 + 1)) l0 l1) else (some false))) else none) else none) else (some true)
def laws_eqGroupS.f (k : Nat) (l0 : List S88) (l1 : List S88) : Option (Bool) := if (l0.length : Int) = (l1.length : Int) then (laws_eqGroupS.l0 k 0 l0 l1) else (some false)
set_option maxHeartbeats 4000000 in
set_option maxRecDepth 100000 in
theorem laws_eqGroupS.ok (k : Nat) (l0 : List S88) (Al0 : Option Addr) (cl0 : Nat) (l1 : List S88) (Al1 : Option Addr) (cl1 : Nat) (r0 : Bool) (H : laws_eqGroupS.f k l0 l1 = some r0) : Fn Try.prog 36 [.slice Al0 l0.length cl0, .slice Al1 l1.length cl1] [] [.sl 0 k88 Al0 cl0 l0 0 false, .sl 0 k88 Al1 cl1 l1 0 false] (fun v bx en => v = .bool r0 ∧ bx = [] ∧ en = []) := by
 refine fn_ 27 Try.func36 rfl rfl rfl (fun base T w0 => ?_)
 rw [laws_eqGroupS.f] at H
 refine gs (rg (sv (EV.as rfl) rfl (re (gs (gs (rg (sv (EV.mv rfl) rfl (sv (EV.ln rfl) rfl (sv (EV.mv rfl) rfl (sv (EV.ln rfl) rfl (sv (EV.neq rfl rfl) rfl (re ?_))))))))))))
 revert H; refine ifsI ?_ ?_ <;> intro c1 H
 ·
  refine gf rfl (nF c1) (gk (gs (gs (rg (sv (EV.as rfl) rfl (re (pr [0, 1, 5] [] [0, 1] rfl rfl rfl rfl (gb ?_))))))))
  refine lo (fun kk S => ∃ (x2_5 : Int), laws_eqGroupS.l0 kk x2_5 l0 l1 = some r0 ∧ S = ⟨[(0, .slice Al0 l0.length cl0), (1, .slice Al1 l1.length cl1), (5, .int .i64 x2_5)], [], [.sl 0 k88 Al0 cl0 l0 0 false, .sl 0 k88 Al1 cl1 l1 0 false]⟩) (fun S hS => ?_) (fun n0 ih0 S hS => ?_) ⟨0, H, rfl⟩ (fun h => wk [0, 1, 5] [] [⟨0, 0, 0, false⟩, ⟨1, 0, 0, false⟩] h)
  · clear H; obtain ⟨_, H, _⟩ := hS; rw [laws_eqGroupS.l0] at H; cases H
  clear H
  obtain ⟨x2_5, H, rfl⟩ := hS
  rw [laws_eqGroupS.l0] at H
  refine gs (gs (rg (sv (EV.mv rfl) rfl (sv (EV.mv rfl) rfl (sv (EV.ln rfl) rfl (sv (EV.lss rfl rfl) rfl (re ?_)))))))
  revert H; refine ifsI ?_ ?_ <;> intro c2 H
  ·
   refine gt rfl (dT c2) (gk (gs (gb (gs ?_))))
   revert H; refine ggI ?_; intro g3 H
   revert H; refine ggI ?_; intro g4 H
   refine dr [] [0, 1] [] 10 rfl rfl rfl rfl (xv 0 [] [0, 1] rfl (EV.mv rfl) rfl rfl rfl rfl (xv 1 [] [0, 1] rfl (EV.mv rfl) rfl rfl rfl rfl (xv 2 [] [0, 1] rfl (EV.ix 0 rfl rfl rfl g3 c2 rfl) rfl rfl rfl rfl (xv 3 [] [0, 1] rfl (EV.le (v := .agg #[.int .i64 ((rd_T88 l0 x2_5).f0), .int .i64 ((rd_T88 l0 x2_5).f1), .int .i64 ((rd_T88 l0 x2_5).f2), .int .i64 ((rd_T88 l0 x2_5).f3), .int .i64 ((rd_T88 l0 x2_5).f4)]) x2_5 0 (some 5) 0 z88 rfl rfl rfl g3 c2 rfl rfl rfl) rfl rfl rfl rfl (xv 4 [] [0, 1] rfl (EV.mv rfl) rfl rfl rfl rfl (xv 5 [] [0, 1] rfl (EV.mv rfl) rfl rfl rfl rfl (xv 6 [] [0, 1] rfl (EV.ix 1 rfl rfl rfl g3 g4 rfl) rfl rfl rfl rfl (xv 7 [] [0, 1] rfl (EV.le (v := .agg #[.int .i64 ((rd_T88 l1 x2_5).f0), .int .i64 ((rd_T88 l1 x2_5).f1), .int .i64 ((rd_T88 l1 x2_5).f2), .int .i64 ((rd_T88 l1 x2_5).f3), .int .i64 ((rd_T88 l1 x2_5).f4)]) x2_5 0 (some 5) 1 z88 rfl rfl rfl g3 g4 rfl rfl rfl) rfl rfl rfl rfl (one1 8 rfl rfl ?_)))))))))
   revert H; refine bdI ?_; rintro t5 A5 H
   refine op_call (laws_eqGroup.ok ((rd_T88 l0 x2_5).f0) ((rd_T88 l0 x2_5).f1) ((rd_T88 l0 x2_5).f2) ((rd_T88 l0 x2_5).f3) ((rd_T88 l0 x2_5).f4) ((rd_T88 l1 x2_5).f0) ((rd_T88 l1 x2_5).f1) ((rd_T88 l1 x2_5).f2) ((rd_T88 l1 x2_5).f3) ((rd_T88 l1 x2_5).f4) _ A5) [] 1 rfl rfl rfl rfl rfl ?_
   rintro _ _ _ ⟨rfl, rfl, rfl⟩
   refine xs [] [0, 1] rfl rfl rfl (xv 9 [] [0, 1] rfl (EV.nt rfl) rfl rfl rfl rfl (xd (pr [0, 1, 5, 26] [] [0, 1] rfl rfl rfl rfl ?_)))
   revert H; refine ifsI ?_ ?_ <;> intro c6 H
   ·
    subst c6
    exact gf rfl rfl (gk (ge (rg (sv (EV.mv rfl) rfl (sv (EV.add rfl rfl) rfl (sv (EV.as rfl) rfl (re (wk [0, 1, 5] [] [⟨0, 0, 0, false⟩, ⟨1, 0, 0, false⟩] (ih0 _ (by omega) _ ⟨wrap64 (x2_5 + 1), H, rfl⟩)))))))))
   ·
    obtain rfl := bF c6
    refine gt rfl rfl (gs (rg (sv (EV.as rfl) rfl (re ?_))))
    cases H
    exact rt Try.func36 rfl (.tmp rfl .nil) rfl [] [] rfl rfl rfl rfl rfl ⟨rfl, rfl, rfl⟩
  ·
   refine gf rfl (dF c2) (gx rfl (gs (rg (sv (EV.as rfl) rfl (re (pr [4] [] [] rfl rfl rfl rfl ?_))))))
   cases H
   exact rt Try.func36 rfl (.tmp rfl .nil) rfl [] [] rfl rfl rfl rfl rfl ⟨rfl, rfl, rfl⟩
 ·
  refine gt rfl (nT c1) (gs (rg (sv (EV.as rfl) rfl (re (pr [4] [] [] rfl rfl rfl rfl ?_)))))
  cases H
  exact rt Try.func36 rfl (.tmp rfl .nil) rfl [] [] rfl rfl rfl rfl rfl ⟨rfl, rfl, rfl⟩
end Go.Proofs.Ytoncjohnkiilcaa.K
namespace Go.Proofs.Ytoncjohnkiilcaa.K
open Go Go.RowKit
set_option linter.unusedVariables false
set_option linter.unusedSimpArgs false
def laws_eqGroupResult.f (k : Nat) (l0_0 : List S88) (a0_1 : Int) (a0_2 : Int) (a0_3 : Int) (l1_0 : List S88) (a1_1 : Int) (a1_2 : Int) (a1_3 : Int) : Option (Bool) := (laws_eqGroupS.f k l0_0 l1_0).bind fun t1 => (if t1 = true then (if a0_1 = a1_1 then (if a0_2 = a1_2 then (if a0_3 = a1_3 then (some true) else (some false)) else (some false)) else (some false)) else (some false))
set_option maxHeartbeats 4000000 in
set_option maxRecDepth 100000 in
theorem laws_eqGroupResult.ok (k : Nat) (l0_0 : List S88) (Al0_0 : Option Addr) (cl0_0 : Nat) (a0_1 : Int) (a0_2 : Int) (a0_3 : Int) (l1_0 : List S88) (Al1_0 : Option Addr) (cl1_0 : Nat) (a1_1 : Int) (a1_2 : Int) (a1_3 : Int) (r0 : Bool) (H : laws_eqGroupResult.f k l0_0 a0_1 a0_2 a0_3 l1_0 a1_1 a1_2 a1_3 = some r0) : Fn Try.prog 45 [.agg #[.slice Al0_0 l0_0.length cl0_0, .int .i64 a0_1, .int .i64 a0_2, .int .i64 a0_3], .agg #[.slice Al1_0 l1_0.length cl1_0, .int .i64 a1_1, .int .i64 a1_2, .int .i64 a1_3]] [] [.sl 0 k88 Al0_0 cl0_0 l0_0 0 false, .sl 0 k88 Al1_0 cl1_0 l1_0 0 false] (fun v bx en => v = .bool r0 ∧ bx = [] ∧ en = []) := by
 refine fn_ 26 Try.func45 rfl rfl rfl (fun base T w0 => ?_)
 rw [laws_eqGroupResult.f] at H
 refine gs (rg (so rfl (op_box (cs := [.slice Al0_0 l0_0.length cl0_0, .int .i64 a0_1, .int .i64 a0_2, .int .i64 a0_3]) rfl rfl rfl fun b2 => (so rfl (op_box (cs := [.slice Al1_0 l1_0.length cl1_0, .int .i64 a1_1, .int .i64 a1_2, .int .i64 a1_3]) rfl rfl rfl fun b3 => (sv (EV.as rfl) rfl (re (gs (gs (rg (sv (EV.fa 0 rfl) rfl (sv (EV.ld 0 none rfl rfl rfl) rfl (sv (EV.fa 0 rfl) rfl (sv (EV.ld 1 none rfl rfl rfl) rfl ?_))))))))))))))
 revert H; refine bdI ?_; rintro t1 A1 H
 refine so rfl (op_call (laws_eqGroupS.ok k l0_0 Al0_0 cl0_0 l1_0 Al1_0 cl1_0 _ A1) [⟨0, 0, 0, false⟩, ⟨1, 0, 0, false⟩] 1 rfl rfl rfl rfl rfl ?_)
 rintro _ _ _ ⟨rfl, rfl, rfl⟩
 refine sv (EV.nt rfl) rfl (re (pr [2, 3, 10] [0, 1] [0, 1] rfl rfl rfl rfl ?_))
 revert H; refine ifsI ?_ ?_ <;> intro c2 H
 ·
  subst c2
  refine gf rfl rfl (gk (gs (gs (rg (sv (EV.fa 1 rfl) rfl (sv (EV.ld 0 none rfl rfl rfl) rfl (sv (EV.fa 1 rfl) rfl (sv (EV.ld 1 none rfl rfl rfl) rfl (sv (EV.neq rfl rfl) rfl (re ?_))))))))))
  revert H; refine ifsI ?_ ?_ <;> intro c3 H
  ·
   refine gf rfl (nF c3) (gk (gs (gs (rg (sv (EV.fa 2 rfl) rfl (sv (EV.ld 0 none rfl rfl rfl) rfl (sv (EV.fa 2 rfl) rfl (sv (EV.ld 1 none rfl rfl rfl) rfl (sv (EV.neq rfl rfl) rfl (re (pr [2, 3, 20] [0, 1] [0, 1] rfl rfl rfl rfl ?_)))))))))))
   revert H; refine ifsI ?_ ?_ <;> intro c4 H
   ·
    refine gf rfl (nF c4) (gk (gs (gs (rg (sv (EV.fa 3 rfl) rfl (sv (EV.ld 0 none rfl rfl rfl) rfl (sv (EV.fa 3 rfl) rfl (sv (EV.ld 1 none rfl rfl rfl) rfl (sv (EV.neq rfl rfl) rfl (re (pr [25] [] [] rfl rfl rfl rfl ?_)))))))))))
    revert H; refine ifsI ?_ ?_ <;> intro c5 H
    ·
     refine gf rfl (nF c5) (gk (gs (rg (sv (EV.as rfl) rfl (re ?_)))))
     cases H
     exact rt Try.func45 rfl (.tmp rfl .nil) rfl [] [] rfl rfl rfl rfl rfl ⟨rfl, rfl, rfl⟩
    ·
     refine gt rfl (nT c5) (gs (rg (sv (EV.as rfl) rfl (re ?_))))
     cases H
     exact rt Try.func45 rfl (.tmp rfl .nil) rfl [] [] rfl rfl rfl rfl rfl ⟨rfl, rfl, rfl⟩
   ·
    refine gt rfl (nT c4) (gs (rg (sv (EV.as rfl) rfl (re ?_))))
    cases H
    exact rt Try.func45 rfl (.tmp rfl .nil) rfl [] [] rfl rfl rfl rfl rfl ⟨rfl, rfl, rfl⟩
  ·
   refine gt rfl (nT c3) (gs (rg (sv (EV.as rfl) rfl (re (pr [4] [] [] rfl rfl rfl rfl ?_)))))
   cases H
   exact rt Try.func45 rfl (.tmp rfl .nil) rfl [] [] rfl rfl rfl rfl rfl ⟨rfl, rfl, rfl⟩
 ·
  obtain rfl := bF c2
  refine gt rfl rfl (gs (rg (sv (EV.as rfl) rfl (re ?_))))
  cases H
  exact rt Try.func45 rfl (.tmp rfl .nil) rfl [] [] rfl rfl rfl rfl rfl ⟨rfl, rfl, rfl⟩
end Go.Proofs.Ytoncjohnkiilcaa.K
namespace Go.Proofs.Ytoncjohnkiilcaa.K
open Go Go.RowKit
set_option linter.unusedVariables false
set_option linter.unusedSimpArgs false
def laws_markGroupS.l0 : Nat → (List S88) → Int → Int → Option (Int × (List S88))
 | 0, _, _, _ => none
 | k + 1, x2_ml0, x2_1, x2_5 => if x2_5 < (x2_ml0.length : Int) then (if 0 ≤ x2_5 then ((some (x2_ml0.set x2_5.toNat (⟨x2_1, (rd_T88 x2_ml0 x2_5).f1, (rd_T88 x2_ml0 x2_5).f2, (rd_T88 x2_ml0 x2_5).f3, (rd_T88 x2_ml0 x2_5).f4⟩ : S88))).bind fun s3 => (if x2_5 < (s3.length : Int) then ((some (s3.set x2_5.toNat (⟨(rd_T88 s3 x2_5).f0, wrap64 (x2_1 + 1), (rd_T88 s3 x2_5).f2, (rd_T88 s3 x2_5).f3, (rd_T88 s3 x2_5).f4⟩ : S88))).bind fun s5 => (if x2_5 < (s5.length : Int) then ((some (s5.set x2_5.toNat (⟨(rd_T88 s5 x2_5).f0, (rd_T88 s5 x2_5).f1, wrap64 ((wrap64 (x2_1 + 1)) + 1), (rd_T88 s5 x2_5).f3, (rd_T88 s5 x2_5).f4⟩ : S88))).bind fun s7 => (if x2_5 < (s7.length : Int) then ((some (s7.set x2_5.toNat (⟨(rd_T88 s7 x2_5).f0, (rd_T88 s7 x2_5).f1, (rd_T88 s7 x2_5).f2, wrap64 ((wrap64 ((wrap64 (x2_1 + 1)) + 1)) + 1), (rd_T88 s7 x2_5).f4⟩ : S88))).bind fun s9 => (if x2_5 < (s9.length : Int) then ((some (s9.set x2_5.toNat (⟨(rd_T88 s9 x2_5).f0, (rd_T88 s9 x2_5).f1, (rd_T88 s9 x2_5).f2, (rd_T88 s9 x2_5).f3, wrap64 ((wrap64 ((wrap64 ((wrap64 (x2_1 + 1)) + 1)) + 1)) + 1)⟩ : S88))).bind fun s11 => (laws_markGroupS.l0 k s11 (wrap64 ((wrap64 ((wrap64 ((wrap64 ((wrap64 (x2_1 + 1)) + 1)) + 1)) + 1)) + 1)) (wrap64 (x2_5 + 1)))) else none)) else none)) else none)) else none)) else none) else (some (x2_1, x2_ml0))
def laws_markGroupS.f (k : Nat) (l0 : List S88) (a1 : Int) : Option (Int × (List S88)) := laws_markGroupS.l0 k l0 a1 0
set_option maxHeartbeats 4000000 in
set_option maxRecDepth 100000 in
theorem laws_markGroupS.ok (k : Nat) (l0 : List S88) (Al0 : Option Addr) (cl0 : Nat) (a1 : Int) (r0 : Int) (r1 : List S88) (H : laws_markGroupS.f k l0 a1 = some (r0, r1)) : Fn Try.prog 37 [.slice Al0 l0.length cl0, .int .i64 a1] [] [.sl 1 k88 Al0 cl0 l0 1 false] (fun v bx en => v = .int .i64 r0 ∧ bx = [] ∧ en = [.sl 1 k88 Al0 cl0 r1 1 false] ∧ r1.length = l0.length) := by
 refine fn_ 48 Try.func37 rfl rfl rfl (fun base T w0 => ?_)
 rw [laws_markGroupS.f] at H
 refine gs (rg (sv (EV.as rfl) rfl (re (gs (gs (rg (sv (EV.as rfl) rfl (re (gb ?_)))))))))
 refine lo (fun kk S => ∃ (x2_ml0 : List S88) (x2_1 : Int) (x2_5 : Int), laws_markGroupS.l0 kk x2_ml0 x2_1 x2_5 = some (r0, r1) ∧ x2_ml0.length = l0.length ∧ S = ⟨[(0, .slice Al0 x2_ml0.length cl0), (1, .int .i64 x2_1), (5, .int .i64 x2_5)], [], [.sl 1 k88 Al0 cl0 x2_ml0 1 false]⟩) (fun S hS => ?_) (fun n0 ih0 S hS => ?_) ⟨l0, a1, 0, H, (by first | rfl | assumption | omega | (simp only [List.length_set]; first | done | assumption | omega)), rfl⟩ (fun h => wk [0, 1, 5] [] [⟨0, 1, 1, false⟩] h)
 · clear H; obtain ⟨_, _, _, H, _⟩ := hS; rw [laws_markGroupS.l0] at H; cases H
 clear H
 obtain ⟨x2_ml0, x2_1, x2_5, H, ex2_ml0, rfl⟩ := hS
 rw [laws_markGroupS.l0] at H
 refine gs (gs (rg (sv (EV.mv rfl) rfl (sv (EV.mv rfl) rfl (sv (EV.ln rfl) rfl (sv (EV.lss rfl rfl) rfl (re ?_)))))))
 revert H; refine ifsI ?_ ?_ <;> intro c1 H
 ·
  refine gt rfl (dT c1) (gk (gs (gb (gs (rg (sv (EV.mv rfl) rfl (sv (EV.mv rfl) rfl (sv (EV.mv rfl) rfl ?_))))))))
  revert H; refine ggI ?_; intro g2 H
  refine sv (EV.ix 0 rfl rfl rfl g2 c1 rfl) rfl (sv (EV.fa 0 rfl) rfl ?_)
  revert H; refine bdI ?_; intro s3 A3 H; have q3 := stl (Option.some.inj A3)
  refine so rfl (op_stg x2_5 0 0 z88 (⟨x2_1, (rd_T88 x2_ml0 x2_5).f1, (rd_T88 x2_ml0 x2_5).f2, (rd_T88 x2_ml0 x2_5).f3, (rd_T88 x2_ml0 x2_5).f4⟩ : S88) (Option.some.inj A3) rfl rfl rfl rfl g2 c1 rfl rfl rfl rfl dq rfl (rlT 0 (v' := .slice Al0 s3.length cl0) rfl (slq _ _ q3) (rlT 7 (v' := .slice Al0 s3.length cl0) rfl (slq _ _ q3) (rlT 12 (v' := .slice Al0 s3.length cl0) rfl (slq _ _ q3) (nmE (en := [.sl 1 k88 Al0 cl0 s3 1 true]) (by kernel_rfl) (re (pr [0, 1, 5] [] [0] rfl rfl rfl rfl (gs (rg (sv (EV.mv rfl) rfl (sv (EV.add rfl rfl) rfl (sv (EV.as rfl) rfl (re (gs (rg (sv (EV.mv rfl) rfl (sv (EV.mv rfl) rfl (sv (EV.mv rfl) rfl ?_))))))))))))))))))
  revert H; refine ggI ?_; intro g4 H
  refine sv (EV.ix 0 rfl rfl rfl g2 g4 rfl) rfl (sv (EV.fa 1 rfl) rfl ?_)
  revert H; refine bdI ?_; intro s5 A5 H; have q5 := stl (Option.some.inj A5)
  refine so rfl (op_stg x2_5 1 0 z88 (⟨(rd_T88 s3 x2_5).f0, wrap64 (x2_1 + 1), (rd_T88 s3 x2_5).f2, (rd_T88 s3 x2_5).f3, (rd_T88 s3 x2_5).f4⟩ : S88) (Option.some.inj A5) rfl rfl rfl rfl g2 g4 rfl rfl rfl rfl dq rfl (rlT 0 (v' := .slice Al0 s5.length cl0) rfl (slq _ _ q5) (rlT 19 (v' := .slice Al0 s5.length cl0) rfl (slq _ _ q5) (nmE (en := [.sl 1 k88 Al0 cl0 s5 1 true]) (by kernel_rfl) (re (gs (rg (sv (EV.mv rfl) rfl (sv (EV.add rfl rfl) rfl (sv (EV.as rfl) rfl (re (pr [0, 1, 5] [] [0] rfl rfl rfl rfl (gs (rg (sv (EV.mv rfl) rfl (sv (EV.mv rfl) rfl (sv (EV.mv rfl) rfl ?_)))))))))))))))))
  revert H; refine ggI ?_; intro g6 H
  refine sv (EV.ix 0 rfl rfl rfl g2 g6 rfl) rfl (sv (EV.fa 2 rfl) rfl ?_)
  revert H; refine bdI ?_; intro s7 A7 H; have q7 := stl (Option.some.inj A7)
  refine so rfl (op_stg x2_5 2 0 z88 (⟨(rd_T88 s5 x2_5).f0, (rd_T88 s5 x2_5).f1, wrap64 ((wrap64 (x2_1 + 1)) + 1), (rd_T88 s5 x2_5).f3, (rd_T88 s5 x2_5).f4⟩ : S88) (Option.some.inj A7) rfl rfl rfl rfl g2 g6 rfl rfl rfl rfl dq rfl (rlT 0 (v' := .slice Al0 s7.length cl0) rfl (slq _ _ q7) (rlT 26 (v' := .slice Al0 s7.length cl0) rfl (slq _ _ q7) (nmE (en := [.sl 1 k88 Al0 cl0 s7 1 true]) (by kernel_rfl) (re (gs (rg (sv (EV.mv rfl) rfl (sv (EV.add rfl rfl) rfl (sv (EV.as rfl) rfl (re (gs (rg (sv (EV.mv rfl) rfl (sv (EV.mv rfl) rfl (sv (EV.mv rfl) rfl ?_))))))))))))))))
  revert H; refine ggI ?_; intro g8 H
  refine sv (EV.ix 0 rfl rfl rfl g2 g8 rfl) rfl (sv (EV.fa 3 rfl) rfl ?_)
  revert H; refine bdI ?_; intro s9 A9 H; have q9 := stl (Option.some.inj A9)
  refine so rfl (op_stg x2_5 3 0 z88 (⟨(rd_T88 s7 x2_5).f0, (rd_T88 s7 x2_5).f1, (rd_T88 s7 x2_5).f2, wrap64 ((wrap64 ((wrap64 (x2_1 + 1)) + 1)) + 1), (rd_T88 s7 x2_5).f4⟩ : S88) (Option.some.inj A9) rfl rfl rfl rfl g2 g8 rfl rfl rfl rfl dq rfl (rlT 0 (v' := .slice Al0 s9.length cl0) rfl (slq _ _ q9) (rlT 26 (v' := .slice Al0 s9.length cl0) rfl (slq _ _ q9) (rlT 33 (v' := .slice Al0 s9.length cl0) rfl (slq _ _ q9) (nmE (en := [.sl 1 k88 Al0 cl0 s9 1 true]) (by kernel_rfl) (re (pr [0, 1, 5] [] [0] rfl rfl rfl rfl (gs (rg (sv (EV.mv rfl) rfl (sv (EV.add rfl rfl) rfl (sv (EV.as rfl) rfl (re (gs (rg (sv (EV.mv rfl) rfl (sv (EV.mv rfl) rfl (sv (EV.mv rfl) rfl ?_))))))))))))))))))
  revert H; refine ggI ?_; intro g10 H
  refine sv (EV.ix 0 rfl rfl rfl g2 g10 rfl) rfl (sv (EV.fa 4 rfl) rfl ?_)
  revert H; refine bdI ?_; intro s11 A11 H; have q11 := stl (Option.some.inj A11)
  exact so rfl (op_stg x2_5 4 0 z88 (⟨(rd_T88 s9 x2_5).f0, (rd_T88 s9 x2_5).f1, (rd_T88 s9 x2_5).f2, (rd_T88 s9 x2_5).f3, wrap64 ((wrap64 ((wrap64 ((wrap64 (x2_1 + 1)) + 1)) + 1)) + 1)⟩ : S88) (Option.some.inj A11) rfl rfl rfl rfl g2 g10 rfl rfl rfl rfl dq rfl (rlT 0 (v' := .slice Al0 s11.length cl0) rfl (slq _ _ q11) (rlT 40 (v' := .slice Al0 s11.length cl0) rfl (slq _ _ q11) (nmE (en := [.sl 1 k88 Al0 cl0 s11 1 true]) (by kernel_rfl) (re (rg (sv (EV.mv rfl) rfl (sv (EV.add rfl rfl) rfl (sv (EV.as rfl) rfl (re (pr [0, 1, 5] [] [0] rfl rfl rfl rfl (ge (rg (sv (EV.mv rfl) rfl (sv (EV.add rfl rfl) rfl (sv (EV.as rfl) rfl (re (wk [0, 1, 5] [] [⟨0, 1, 1, false⟩] (ih0 _ (by omega) _ ⟨s11, wrap64 ((wrap64 ((wrap64 ((wrap64 ((wrap64 (x2_1 + 1)) + 1)) + 1)) + 1)) + 1), wrap64 (x2_5 + 1), H, (by first | rfl | assumption | omega | (simp only [List.length_set]; first | done | assumption | omega)), rfl⟩)))))))))))))))))))
 ·
  refine gf rfl (dF c1) (gx rfl (gs (rg (sv (EV.mv rfl) rfl (sv (EV.as rfl) rfl (re (pr [4] [] [0] rfl rfl rfl rfl ?_)))))))
  cases H
  exact rt Try.func37 rfl (.tmp rfl .nil) rfl [] [⟨0, 1, 1, false⟩] rfl rfl rfl rfl rfl ⟨rfl, rfl, rfl, by first | rfl | assumption | omega | (simp only [List.length_set]; first | done | assumption | omega)⟩
end Go.Proofs.Ytoncjohnkiilcaa.K
namespace Go.Proofs.Ytoncjohnkiilcaa.K
open Go Go.RowKit
set_option linter.unusedVariables false
set_option linter.unusedSimpArgs false
def laws_markGroupResult.f (k : Nat) (l0_0 : List S88) (a0_1 : Int) (a0_2 : Int) (a0_3 : Int) (a1 : Int) : Option (Int × (List S88)) := (laws_markGroupS.f k l0_0 a1).bind fun bt1 => (some (bt1.1, bt1.2))
set_option maxHeartbeats 4000000 in
set_option maxRecDepth 100000 in
theorem laws_markGroupResult.ok (k : Nat) (l0_0 : List S88) (Al0_0 : Option Addr) (cl0_0 : Nat) (a0_1 : Int) (a0_2 : Int) (a0_3 : Int) (a1 : Int) (r0 : Int) (r1 : List S88) (H : laws_markGroupResult.f k l0_0 a0_1 a0_2 a0_3 a1 = some (r0, r1)) : Fn Try.prog 46 [.agg #[.slice Al0_0 l0_0.length cl0_0, .int .i64 a0_1, .int .i64 a0_2, .int .i64 a0_3], .int .i64 a1] [] [.sl 1 k88 Al0_0 cl0_0 l0_0 1 false] (fun v bx en => v = .int .i64 r0 ∧ bx = [] ∧ en = [.sl 1 k88 Al0_0 cl0_0 r1 1 false] ∧ r1.length = l0_0.length) := by
 refine fn_ 10 Try.func46 rfl rfl rfl (fun base T w0 => ?_)
 rw [laws_markGroupResult.f] at H
 refine gs (rg (so rfl (op_box (cs := [.slice Al0_0 l0_0.length cl0_0, .int .i64 a0_1, .int .i64 a0_2, .int .i64 a0_3]) rfl rfl rfl fun b2 => (sv (EV.as rfl) rfl (re (gs (rg (sv (EV.fa 0 rfl) rfl (sv (EV.ld 0 none rfl rfl rfl) rfl (sv (EV.mv rfl) rfl ?_))))))))))
 revert H; refine bdI ?_; rintro ⟨t1_0, t1_1⟩ A1 H
 refine so rfl (op_callM (laws_markGroupS.ok k l0_0 Al0_0 cl0_0 a1 _ _ A1) [⟨0, 1, 1, false⟩] [] [0] 2 rfl rfl rfl rfl rfl rfl rfl rfl ?_)
 rintro _ _ _ ⟨rfl, rfl, rfl, q1_0⟩
 refine rlT 0 (v' := .agg #[.slice Al0_0 t1_1.length cl0_0, .int .i64 a0_1, .int .i64 a0_2, .int .i64 a0_3]) rfl (by simp only [q1_0]) (rlT 6 (v' := .slice Al0_0 t1_1.length cl0_0) rfl (slq _ _ q1_0) (rlB 0 (cs' := [.slice Al0_0 t1_1.length cl0_0, .int .i64 a0_1, .int .i64 a0_2, .int .i64 a0_3]) rfl (by simp only [q1_0]) (nmE (en := [.sl 1 k88 Al0_0 cl0_0 t1_1 3 false]) (by kernel_rfl) (sv (EV.as rfl) rfl (re (pr [1] [] [0] rfl rfl rfl rfl (gs (rg (sv (EV.mv rfl) rfl (sv (EV.as rfl) rfl (re ?_)))))))))))
 cases H
 exact rt Try.func46 rfl (.tmp rfl .nil) rfl [] [⟨0, 1, 1, false⟩] rfl rfl rfl rfl rfl ⟨rfl, rfl, rfl, by first | rfl | assumption | omega | (simp only [List.length_set]; first | done | assumption | omega)⟩
end Go.Proofs.Ytoncjohnkiilcaa.K
namespace Go.Proofs.Ytoncjohnkiilcaa.K
open Go Go.RowKit
set_option linter.unusedVariables false
set_option linter.unusedSimpArgs false
def laws_heldGroupS.l0 : Nat → Int → Int → (List S88) → Option (Int)
 | 0, _, _, _ => none
 | k + 1, x2_1, x2_5, l0 => if x2_5 < (l0.length : Int) then (if 0 ≤ x2_5 then (if ((rd_T88 l0 x2_5).f0) = x2_1 then (if ((rd_T88 l0 x2_5).f1) = (wrap64 (x2_1 + 1)) then (if ((rd_T88 l0 x2_5).f2) = (wrap64 ((wrap64 (x2_1 + 1)) + 1)) then (if ((rd_T88 l0 x2_5).f3) = (wrap64 ((wrap64 ((wrap64 (x2_1 + 1)) + 1)) + 1)) then (if ((rd_T88 l0 x2_5).f4) = (wrap64 ((wrap64 ((wrap64 ((wrap64 (x2_1 + 1)) + 1)) + 1)) + 1)) then (laws_heldGroupS.l0 k (wrap64 ((wrap64 ((wrap64 ((wrap64 ((wrap64 (x2_1 + 1)) + 1)) + 1)) + 1)) + 1)) (wrap64 (x2_5 + 1)) l0) else (some (-1))) else (some (-1))) else (some (-1))) else (some (-1))) else (some (-1))) else none) else (some x2_1)
def laws_heldGroupS.f (k : Nat) (l0 : List S88) (a1 : Int) : Option (Int) := laws_heldGroupS.l0 k a1 0 l0
set_option maxHeartbeats 4000000 in
set_option maxRecDepth 100000 in
theorem laws_heldGroupS.ok (k : Nat) (l0 : List S88) (Al0 : Option Addr) (cl0 : Nat) (a1 : Int) (r0 : Int) (H : laws_heldGroupS.f k l0 a1 = some r0) : Fn Try.prog 50 [.slice Al0 l0.length cl0, .int .i64 a1] [] [.sl 0 k88 Al0 cl0 l0 0 false] (fun v bx en => v = .int .i64 r0 ∧ bx = [] ∧ en = []) := by
 refine fn_ 58 Try.func50 rfl rfl rfl (fun base T w0 => ?_)
 rw [laws_heldGroupS.f] at H
 refine gs (rg (sv (EV.as rfl) rfl (re (gs (gs (rg (sv (EV.as rfl) rfl (re (gb ?_)))))))))
 refine lo (fun kk S => ∃ (x2_1 : Int) (x2_5 : Int), laws_heldGroupS.l0 kk x2_1 x2_5 l0 = some r0 ∧ S = ⟨[(0, .slice Al0 l0.length cl0), (1, .int .i64 x2_1), (5, .int .i64 x2_5)], [], [.sl 0 k88 Al0 cl0 l0 0 false]⟩) (fun S hS => ?_) (fun n0 ih0 S hS => ?_) ⟨a1, 0, H, rfl⟩ (fun h => wk [0, 1, 5] [] [⟨0, 0, 0, false⟩] h)
 · clear H; obtain ⟨_, _, H, _⟩ := hS; rw [laws_heldGroupS.l0] at H; cases H
 clear H
 obtain ⟨x2_1, x2_5, H, rfl⟩ := hS
 rw [laws_heldGroupS.l0] at H
 refine gs (gs (rg (sv (EV.mv rfl) rfl (sv (EV.mv rfl) rfl (sv (EV.ln rfl) rfl (sv (EV.lss rfl rfl) rfl (re ?_)))))))
 revert H; refine ifsI ?_ ?_ <;> intro c1 H
 ·
  refine gt rfl (dT c1) (gk (gs (gb (gs (gs (rg (sv (EV.mv rfl) rfl (sv (EV.mv rfl) rfl ?_))))))))
  revert H; refine ggI ?_; intro g2 H
  refine sv (EV.ix 0 rfl rfl rfl g2 c1 rfl) rfl (sv (EV.fa 0 rfl) rfl (sv (EV.le (v := .int .i64 ((rd_T88 l0 x2_5).f0)) x2_5 0 none 0 z88 rfl rfl rfl g2 c1 rfl rfl rfl) rfl (sv (EV.mv rfl) rfl (sv (EV.neq rfl rfl) rfl (re (pr [0, 1, 5, 18] [] [0] rfl rfl rfl rfl ?_))))))
  revert H; refine ifsI ?_ ?_ <;> intro c3 H
  ·
   refine gf rfl (nF c3) (gk (gs (rg (sv (EV.mv rfl) rfl (sv (EV.add rfl rfl) rfl (sv (EV.as rfl) rfl (re (gs (gs (rg (sv (EV.mv rfl) rfl (sv (EV.mv rfl) rfl (sv (EV.ix 0 rfl rfl rfl g2 c1 rfl) rfl (sv (EV.fa 1 rfl) rfl (sv (EV.le (v := .int .i64 ((rd_T88 l0 x2_5).f1)) x2_5 1 none 0 z88 rfl rfl rfl g2 c1 rfl rfl rfl) rfl (sv (EV.mv rfl) rfl (sv (EV.neq rfl rfl) rfl (re (pr [0, 1, 5, 27] [] [0] rfl rfl rfl rfl ?_)))))))))))))))))))
   revert H; refine ifsI ?_ ?_ <;> intro c4 H
   ·
    refine gf rfl (nF c4) (gk (gs (rg (sv (EV.mv rfl) rfl (sv (EV.add rfl rfl) rfl (sv (EV.as rfl) rfl (re (gs (gs (rg (sv (EV.mv rfl) rfl (sv (EV.mv rfl) rfl (sv (EV.ix 0 rfl rfl rfl g2 c1 rfl) rfl (sv (EV.fa 2 rfl) rfl (sv (EV.le (v := .int .i64 ((rd_T88 l0 x2_5).f2)) x2_5 2 none 0 z88 rfl rfl rfl g2 c1 rfl rfl rfl) rfl (sv (EV.mv rfl) rfl (sv (EV.neq rfl rfl) rfl (re (pr [0, 1, 5, 36] [] [0] rfl rfl rfl rfl ?_)))))))))))))))))))
    revert H; refine ifsI ?_ ?_ <;> intro c5 H
    ·
     refine gf rfl (nF c5) (gk (gs (rg (sv (EV.mv rfl) rfl (sv (EV.add rfl rfl) rfl (sv (EV.as rfl) rfl (re (gs (gs (rg (sv (EV.mv rfl) rfl (sv (EV.mv rfl) rfl (sv (EV.ix 0 rfl rfl rfl g2 c1 rfl) rfl (sv (EV.fa 3 rfl) rfl (sv (EV.le (v := .int .i64 ((rd_T88 l0 x2_5).f3)) x2_5 3 none 0 z88 rfl rfl rfl g2 c1 rfl rfl rfl) rfl (sv (EV.mv rfl) rfl (sv (EV.neq rfl rfl) rfl (re (pr [0, 1, 5, 45] [] [0] rfl rfl rfl rfl ?_)))))))))))))))))))
     revert H; refine ifsI ?_ ?_ <;> intro c6 H
     ·
      refine gf rfl (nF c6) (gk (gs (rg (sv (EV.mv rfl) rfl (sv (EV.add rfl rfl) rfl (sv (EV.as rfl) rfl (re (gs (gs (rg (sv (EV.mv rfl) rfl (sv (EV.mv rfl) rfl (sv (EV.ix 0 rfl rfl rfl g2 c1 rfl) rfl (sv (EV.fa 4 rfl) rfl (sv (EV.le (v := .int .i64 ((rd_T88 l0 x2_5).f4)) x2_5 4 none 0 z88 rfl rfl rfl g2 c1 rfl rfl rfl) rfl (sv (EV.mv rfl) rfl (sv (EV.neq rfl rfl) rfl (re (pr [0, 1, 5, 54] [] [0] rfl rfl rfl rfl ?_)))))))))))))))))))
      revert H; refine ifsI ?_ ?_ <;> intro c7 H
      ·
       exact gf rfl (nF c7) (gk (rg (sv (EV.mv rfl) rfl (sv (EV.add rfl rfl) rfl (sv (EV.as rfl) rfl (re (ge (rg (sv (EV.mv rfl) rfl (sv (EV.add rfl rfl) rfl (sv (EV.as rfl) rfl (re (wk [0, 1, 5] [] [⟨0, 0, 0, false⟩] (ih0 _ (by omega) _ ⟨wrap64 ((wrap64 ((wrap64 ((wrap64 ((wrap64 (x2_1 + 1)) + 1)) + 1)) + 1)) + 1), wrap64 (x2_5 + 1), H, rfl⟩))))))))))))))
      ·
       refine gt rfl (nT c7) (gs (rg (sv (EV.as rfl) rfl (re ?_))))
       cases H
       exact rt Try.func50 rfl (.tmp rfl .nil) rfl [] [] rfl rfl rfl rfl rfl ⟨rfl, rfl, rfl⟩
     ·
      refine gt rfl (nT c6) (gs (rg (sv (EV.as rfl) rfl (re ?_))))
      cases H
      exact rt Try.func50 rfl (.tmp rfl .nil) rfl [] [] rfl rfl rfl rfl rfl ⟨rfl, rfl, rfl⟩
    ·
     refine gt rfl (nT c5) (gs (rg (sv (EV.as rfl) rfl (re ?_))))
     cases H
     exact rt Try.func50 rfl (.tmp rfl .nil) rfl [] [] rfl rfl rfl rfl rfl ⟨rfl, rfl, rfl⟩
   ·
    refine gt rfl (nT c4) (gs (rg (sv (EV.as rfl) rfl (re ?_))))
    cases H
    exact rt Try.func50 rfl (.tmp rfl .nil) rfl [] [] rfl rfl rfl rfl rfl ⟨rfl, rfl, rfl⟩
  ·
   refine gt rfl (nT c3) (gs (rg (sv (EV.as rfl) rfl (re ?_))))
   cases H
   exact rt Try.func50 rfl (.tmp rfl .nil) rfl [] [] rfl rfl rfl rfl rfl ⟨rfl, rfl, rfl⟩
 ·
  refine gf rfl (dF c1) (gx rfl (gs (rg (sv (EV.mv rfl) rfl (sv (EV.as rfl) rfl (re (pr [4] [] [] rfl rfl rfl rfl ?_)))))))
  cases H
  exact rt Try.func50 rfl (.tmp rfl .nil) rfl [] [] rfl rfl rfl rfl rfl ⟨rfl, rfl, rfl⟩
end Go.Proofs.Ytoncjohnkiilcaa.K
namespace Go.Proofs.Ytoncjohnkiilcaa.K
open Go Go.RowKit
set_option linter.unusedVariables false
set_option linter.unusedSimpArgs false
def laws_heldGroupResult.f (k : Nat) (l0_0 : List S88) (a0_1 : Int) (a0_2 : Int) (a0_3 : Int) (a1 : Int) : Option (Int) := (laws_heldGroupS.f k l0_0 a1).bind fun t1 => (if t1 < 0 then (some (-1)) else (some t1))
set_option maxHeartbeats 4000000 in
set_option maxRecDepth 100000 in
theorem laws_heldGroupResult.ok (k : Nat) (l0_0 : List S88) (Al0_0 : Option Addr) (cl0_0 : Nat) (a0_1 : Int) (a0_2 : Int) (a0_3 : Int) (a1 : Int) (r0 : Int) (H : laws_heldGroupResult.f k l0_0 a0_1 a0_2 a0_3 a1 = some r0) : Fn Try.prog 47 [.agg #[.slice Al0_0 l0_0.length cl0_0, .int .i64 a0_1, .int .i64 a0_2, .int .i64 a0_3], .int .i64 a1] [] [.sl 0 k88 Al0_0 cl0_0 l0_0 0 false] (fun v bx en => v = .int .i64 r0 ∧ bx = [] ∧ en = []) := by
 refine fn_ 12 Try.func47 rfl rfl rfl (fun base T w0 => ?_)
 rw [laws_heldGroupResult.f] at H
 refine gs (rg (so rfl (op_box (cs := [.slice Al0_0 l0_0.length cl0_0, .int .i64 a0_1, .int .i64 a0_2, .int .i64 a0_3]) rfl rfl rfl fun b2 => (sv (EV.as rfl) rfl (re (gs (rg (sv (EV.fa 0 rfl) rfl (sv (EV.ld 0 none rfl rfl rfl) rfl (sv (EV.mv rfl) rfl ?_))))))))))
 revert H; refine bdI ?_; rintro t1 A1 H
 refine so rfl (op_call (laws_heldGroupS.ok k l0_0 Al0_0 cl0_0 a1 _ A1) [⟨0, 0, 0, false⟩] 1 rfl rfl rfl rfl rfl ?_)
 rintro _ _ _ ⟨rfl, rfl, rfl⟩
 refine sv (EV.as rfl) rfl (re (pr [1] [] [] rfl rfl rfl rfl (gs (gs (rg (sv (EV.mv rfl) rfl (sv (EV.lss rfl rfl) rfl (re ?_))))))))
 revert H; refine ifsI ?_ ?_ <;> intro c2 H
 ·
  refine gt rfl (dT c2) (gs (rg (sv (EV.as rfl) rfl (re ?_))))
  cases H
  exact rt Try.func47 rfl (.tmp rfl .nil) rfl [] [] rfl rfl rfl rfl rfl ⟨rfl, rfl, rfl⟩
 ·
  refine gf rfl (dF c2) (gk (gs (rg (sv (EV.mv rfl) rfl (sv (EV.as rfl) rfl (re ?_))))))
  cases H
  exact rt Try.func47 rfl (.tmp rfl .nil) rfl [] [] rfl rfl rfl rfl rfl ⟨rfl, rfl, rfl⟩
end Go.Proofs.Ytoncjohnkiilcaa.K
namespace Go.Proofs.Ytoncjohnkiilcaa.K
open Go Go.RowKit
set_option linter.unusedVariables false
set_option linter.unusedSimpArgs false
def laws_FnExactRunGroup.f (k : Nat) (l0 : List S75) (a1 : Bool) (l2 : List Int) : Option (Bool) := if (l2.length : Int) > 1048576 then (some true) else ((laws_szRowS.f l0 1048576).bind fun t2 => (if t2 < 0 then (some true) else ((laws_toRowS.f k l0).bind fun t4 => ((laws_toIntS.f k l2).bind fun t5 => ((spec_RunGroup.f k t4 a1 t5).bind fun bt6 => ((laws_toRowS.f k l0).bind fun t7 => ((laws_toIntS.f k l2).bind fun t8 => ((impl_RunGroup.f k t7 a1 t8).bind fun bt9 => ((laws_eqGroupResult.f k bt9.1 bt9.2.1 bt9.2.2.1 bt9.2.2.2.1 bt6.1 bt6.2.1 bt6.2.2.1 bt6.2.2.2.1).bind fun t10 => (if t10 = true then (if (bt9.2.2.2.2 == bt6.2.2.2.2) = true then ((laws_toRowS.f k l0).bind fun t13 => ((laws_eqRowS.f k t7 t13).bind fun t14 => (if t14 = true then ((laws_toIntS.f k l2).bind fun t16 => ((laws_eqIntS.f k t8 t16).bind fun t17 => (if t17 = true then ((laws_markRowS.f k t7 1).bind fun bt19 => ((laws_markIntS.f k t8 bt19.1).bind fun bt20 => (if bt20.1 < 0 then (some false) else ((laws_eqGroupResult.f k bt9.1 bt9.2.1 bt9.2.2.1 bt9.2.2.2.1 bt6.1 bt6.2.1 bt6.2.2.1 bt6.2.2.2.1).bind fun t22 => (if t22 = true then ((laws_markGroupResult.f k bt9.1 bt9.2.1 bt9.2.2.1 bt9.2.2.2.1 1).bind fun bt24 => ((laws_heldGroupResult.f k bt24.2 bt9.2.1 bt9.2.2.1 bt9.2.2.2.1 1).bind fun t25 => (if t25 < 0 then (some false) else (if t25 = bt24.1 then ((laws_toRowS.f k l0).bind fun t28 => ((laws_toIntS.f k l2).bind fun t29 => ((impl_RunGroup.f k t28 a1 t29).bind fun bt30 => ((laws_eqGroupResult.f k bt30.1 bt30.2.1 bt30.2.2.1 bt30.2.2.2.1 bt6.1 bt6.2.1 bt6.2.2.1 bt6.2.2.2.1).bind fun t31 => (if t31 = true then (if (bt30.2.2.2.2 == bt6.2.2.2.2) = true then ((laws_heldGroupResult.f k bt24.2 bt9.2.1 bt9.2.2.1 bt9.2.2.2.1 1).bind fun t34 => (if t34 < 0 then (some false) else (if t34 = bt24.1 then (some true) else (some false)))) else (some false)) else (some false)))))) else (some false))))) else (some false)))))) else (some false)))) else (some false)))) else (some false)) else (some false)))))))))))
set_option maxHeartbeats 4000000 in
set_option maxRecDepth 100000 in
theorem laws_FnExactRunGroup.ok (k : Nat) (l0 : List S75) (Al0 : Option Addr) (cl0 : Nat) (a1 : Bool) (l2 : List Int) (Al2 : Option Addr) (cl2 : Nat) (r0 : Bool) (H : laws_FnExactRunGroup.f k l0 a1 l2 = some r0) : Fn Try.prog 9 [.slice Al0 l0.length cl0, .bool a1, .slice Al2 l2.length cl2] [] [.sl 0 k75 Al0 cl0 l0 0 false, .sl 0 (.int .i64) Al2 cl2 l2 0 false] (fun v bx en => v = .bool r0 ∧ bx = [] ∧ en = []) := by
 refine fn_ 122 Try.func9 rfl rfl rfl (fun base T w0 => ?_)
 rw [laws_FnExactRunGroup.f] at H
 refine gs (rg (sv (EV.as rfl) rfl (re (gs (gs (rg (sv (EV.mv rfl) rfl (sv (EV.ln rfl) rfl (sv (EV.gtr rfl rfl) rfl (re ?_))))))))))
 revert H; refine ifsI ?_ ?_ <;> intro c1 H
 ·
  refine gt rfl (dT c1) (gs (rg (sv (EV.as rfl) rfl (re (pr [6] [] [] rfl rfl rfl rfl ?_)))))
  cases H
  exact rt Try.func9 rfl (.tmp rfl .nil) rfl [] [] rfl rfl rfl rfl rfl ⟨rfl, rfl, rfl⟩
 ·
  refine gf rfl (dF c1) (gk (gs (rg (sv (EV.as rfl) rfl (re (gs (rg (sv (EV.mv rfl) rfl (sv (EV.mv rfl) rfl ?_)))))))))
  revert H; refine bdI ?_; rintro t2 A2 H
  refine so rfl (op_call (laws_szRowS.ok l0 Al0 cl0 1048576 _ A2) [⟨0, 0, 0, false⟩] 1 rfl rfl rfl rfl rfl ?_)
  rintro _ _ _ ⟨rfl, rfl, rfl⟩
  refine sv (EV.as rfl) rfl (re (pr [0, 1, 2, 7] [] [0, 1] rfl rfl rfl rfl (gs (gs (rg (sv (EV.mv rfl) rfl (sv (EV.lss rfl rfl) rfl (re ?_))))))))
  revert H; refine ifsI ?_ ?_ <;> intro c3 H
  ·
   refine gt rfl (dT c3) (gs (rg (sv (EV.as rfl) rfl (re (pr [6] [] [] rfl rfl rfl rfl ?_)))))
   cases H
   exact rt Try.func9 rfl (.tmp rfl .nil) rfl [] [] rfl rfl rfl rfl rfl ⟨rfl, rfl, rfl⟩
  ·
   refine gf rfl (dF c3) (gk (gs (rg (sv (EV.mv rfl) rfl ?_))))
   revert H; refine bdI ?_; rintro t4 A4 H
   refine so rfl (op_call (laws_toRowS.ok k l0 Al0 cl0 _ A4) [⟨0, 0, 0, false⟩] 1 rfl rfl rfl rfl rfl ?_)
   rintro _ _ _ ⟨At4, ct4, rfl, rfl, rfl⟩
   refine sv (EV.mv rfl) rfl (sv (EV.mv rfl) rfl ?_)
   revert H; refine bdI ?_; rintro t5 A5 H
   refine so rfl (op_call (laws_toIntS.ok k l2 Al2 cl2 _ A5) [⟨1, 0, 0, false⟩] 3 rfl rfl rfl rfl rfl ?_)
   rintro _ _ _ ⟨At5, ct5, rfl, rfl, rfl⟩
   revert H; refine bdI ?_; rintro ⟨t6_0, t6_1, t6_2, t6_3, t6_4⟩ A6 H
   refine so rfl (op_call (spec_RunGroup.ok k t4 At4 ct4 a1 t5 At5 ct5 _ _ _ _ _ A6) [⟨2, 0, 0, false⟩, ⟨3, 0, 0, false⟩] 5 rfl rfl rfl rfl rfl ?_)
   rintro _ _ _ ⟨At6_0, ct6_0, rfl, rfl, rfl⟩
   refine sv (EV.mv rfl) rfl (sv (EV.ex rfl rfl) rfl (sv (EV.ex rfl rfl) rfl (so rfl (op_alloc (cs := [.slice none 0 0, .int .i64 0, .int .i64 0, .int .i64 0]) (by kernel_rfl) rfl fun b8 => (so rfl (op_st (cs' := [.slice At6_0 t6_0.length ct6_0, .int .i64 t6_1, .int .i64 t6_2, .int .i64 t6_3]) 0 rfl rfl rfl rfl rfl rfl (sv (EV.as rfl) rfl (re (pr [0, 1, 2, 8, 9] [0] [0, 1, 4] rfl rfl rfl rfl (gs (rg (sv (EV.mv rfl) rfl ?_))))))))))))
   revert H; refine bdI ?_; rintro t7 A7 H
   refine so rfl (op_call (laws_toRowS.ok k l0 Al0 cl0 _ A7) [⟨0, 0, 0, false⟩] 7 rfl rfl rfl rfl rfl ?_)
   rintro _ _ _ ⟨At7, ct7, rfl, rfl, rfl⟩
   refine sv (EV.as rfl) rfl (re (gs (rg (sv (EV.mv rfl) rfl ?_))))
   revert H; refine bdI ?_; rintro t8 A8 H
   refine so rfl (op_call (laws_toIntS.ok k l2 Al2 cl2 _ A8) [⟨1, 0, 0, false⟩] 9 rfl rfl rfl rfl rfl ?_)
   rintro _ _ _ ⟨At8, ct8, rfl, rfl, rfl⟩
   refine sv (EV.as rfl) rfl (re (gs (rg (sv (EV.mv rfl) rfl (sv (EV.mv rfl) rfl (sv (EV.mv rfl) rfl ?_))))))
   revert H; refine bdI ?_; rintro ⟨t9_0, t9_1, t9_2, t9_3, t9_4⟩ A9 H
   refine so rfl (op_call (impl_RunGroup.ok k t7 At7 ct7 a1 t8 At8 ct8 _ _ _ _ _ A9) [⟨3, 0, 0, false⟩, ⟨4, 0, 0, false⟩] 11 rfl rfl rfl rfl rfl ?_)
   rintro _ _ _ ⟨At9_0, ct9_0, rfl, rfl, rfl⟩
   refine sv (EV.mv rfl) rfl (sv (EV.ex rfl rfl) rfl (sv (EV.ex rfl rfl) rfl (so rfl (op_alloc (cs := [.slice none 0 0, .int .i64 0, .int .i64 0, .int .i64 0]) (by kernel_rfl) rfl fun b12 => (so rfl (op_st (cs' := [.slice At9_0 t9_0.length ct9_0, .int .i64 t9_1, .int .i64 t9_2, .int .i64 t9_3]) 1 rfl rfl rfl rfl rfl rfl (sv (EV.as rfl) rfl (re (pr [0, 1, 2, 8, 9, 10, 11, 12, 13] [0, 1] [0, 1, 2, 3, 4, 5] rfl rfl rfl rfl (gs (gs (rg (sv (EV.ld (v := .agg #[.slice At9_0 t9_0.length ct9_0, .int .i64 t9_1, .int .i64 t9_2, .int .i64 t9_3]) 1 (some 4) rfl rfl rfl) rfl (sv (EV.ld (v := .agg #[.slice At6_0 t6_0.length ct6_0, .int .i64 t6_1, .int .i64 t6_2, .int .i64 t6_3]) 0 (some 4) rfl rfl rfl) rfl ?_))))))))))))))
   revert H; refine bdI ?_; rintro t10 A10 H
   refine so rfl (op_call (laws_eqGroupResult.ok k t9_0 At9_0 ct9_0 t9_1 t9_2 t9_3 t6_0 At6_0 ct6_0 t6_1 t6_2 t6_3 _ A10) [⟨5, 0, 0, false⟩, ⟨2, 0, 0, false⟩] 13 rfl rfl rfl rfl rfl ?_)
   rintro _ _ _ ⟨rfl, rfl, rfl⟩
   refine sv (EV.nt rfl) rfl (sv (EV.mv rfl) rfl ?_)
   revert H; refine ifsI ?_ ?_ <;> intro c11 H
   ·
    subst c11
    refine ts 51 rfl rfl (sv (EV.mv rfl) rfl (sv (EV.mv rfl) rfl (sv (EV.neb rfl rfl) rfl (sv (EV.pf rfl rfl rfl) rfl (re (pr [0, 1, 2, 8, 9, 10, 11, 12, 13, 55] [0, 1] [0, 1, 2, 3, 4, 5] rfl rfl rfl rfl ?_))))))
    revert H; refine ifsI ?_ ?_ <;> intro c12 H
    ·
     refine gf rfl (bN c12) (gk (gs (gs (rg (sv (EV.mv rfl) rfl (sv (EV.mv rfl) rfl ?_))))))
     revert H; refine bdI ?_; rintro t13 A13 H
     refine so rfl (op_call (laws_toRowS.ok k l0 Al0 cl0 _ A13) [⟨0, 0, 0, false⟩] 13 rfl rfl rfl rfl rfl ?_)
     rintro _ _ _ ⟨At13, ct13, rfl, rfl, rfl⟩
     revert H; refine bdI ?_; rintro t14 A14 H
     refine so rfl (op_call (laws_eqRowS.ok k t7 At7 ct7 t13 At13 ct13 _ A14) [⟨3, 0, 0, false⟩, ⟨6, 0, 0, false⟩] 15 rfl rfl rfl rfl rfl ?_)
     rintro _ _ _ ⟨rfl, rfl, rfl⟩
     refine sv (EV.nt rfl) rfl (re ?_)
     revert H; refine ifsI ?_ ?_ <;> intro c15 H
     ·
      subst c15
      refine gf rfl rfl (gk (gs (gs (rg (sv (EV.mv rfl) rfl (sv (EV.mv rfl) rfl ?_))))))
      revert H; refine bdI ?_; rintro t16 A16 H
      refine so rfl (op_call (laws_toIntS.ok k l2 Al2 cl2 _ A16) [⟨1, 0, 0, false⟩] 15 rfl rfl rfl rfl rfl ?_)
      rintro _ _ _ ⟨At16, ct16, rfl, rfl, rfl⟩
      revert H; refine bdI ?_; rintro t17 A17 H
      refine so rfl (op_call (laws_eqIntS.ok k t8 At8 ct8 t16 At16 ct16 _ A17) [⟨4, 0, 0, false⟩, ⟨7, 0, 0, false⟩] 17 rfl rfl rfl rfl rfl ?_)
      rintro _ _ _ ⟨rfl, rfl, rfl⟩
      refine sv (EV.nt rfl) rfl (re (pr [0, 1, 2, 8, 9, 10, 11, 12, 13, 65] [0, 1] [0, 1, 2, 3, 4, 5] rfl rfl rfl rfl ?_))
      revert H; refine ifsI ?_ ?_ <;> intro c18 H
      ·
       subst c18
       refine gf rfl rfl (gk (gs (rg (sv (EV.as rfl) rfl (re (gs (rg (sv (EV.mv rfl) rfl (sv (EV.mv rfl) rfl ?_)))))))))
       revert H; refine bdI ?_; rintro ⟨t19_0, t19_1⟩ A19 H
       refine so rfl (op_callM (laws_markRowS.ok k t7 At7 ct7 1 _ _ A19) [⟨3, 1, 1, false⟩] [] [0, 1] 13 rfl rfl rfl rfl rfl rfl rfl rfl ?_)
       rintro _ _ _ ⟨rfl, rfl, rfl, q19_0⟩
       refine rlT 10 (v' := .slice At7 t19_1.length ct7) rfl (slq _ _ q19_0) (rlT 66 (v' := .slice At7 t19_1.length ct7) rfl (slq _ _ q19_0) (nmE (en := [.sl 0 k75 Al0 cl0 l0 0 false, .sl 0 (.int .i64) Al2 cl2 l2 0 false, .sl 2 k88 At6_0 ct6_0 t6_0 6 true, .sl 2 (.int .i64) At8 ct8 t8 10 true, .sl 1 k88 At9_0 ct9_0 t9_0 12 false, .sl 1 k73 At7 ct7 t19_1 14 false]) (by kernel_rfl) (sv (EV.as rfl) rfl (re (gs (rg (sv (EV.mv rfl) rfl (sv (EV.mv rfl) rfl ?_))))))))
       revert H; refine bdI ?_; rintro ⟨t20_0, t20_1⟩ A20 H
       refine so rfl (op_callM (laws_markIntS.ok k t8 At8 ct8 t19_0 _ _ A20) [⟨3, 1, 1, false⟩] [] [0, 1] 15 rfl rfl rfl rfl rfl rfl rfl rfl ?_)
       rintro _ _ _ ⟨rfl, rfl, rfl, q20_0⟩
       refine rlT 11 (v' := .slice At8 t20_1.length ct8) rfl (slq _ _ q20_0) (rlT 69 (v' := .slice At8 t20_1.length ct8) rfl (slq _ _ q20_0) (nmE (en := [.sl 0 k75 Al0 cl0 l0 0 false, .sl 0 (.int .i64) Al2 cl2 l2 0 false, .sl 2 k88 At6_0 ct6_0 t6_0 6 true, .sl 1 k88 At9_0 ct9_0 t9_0 12 false, .sl 1 k73 At7 ct7 t19_1 14 false, .sl 1 (.int .i64) At8 ct8 t20_1 16 false]) (by kernel_rfl) (sv (EV.as rfl) rfl (re (pr [0, 1, 2, 8, 9, 12, 13, 14] [0, 1] [0, 1, 2, 3] rfl rfl rfl rfl (gs (gs (rg (sv (EV.mv rfl) rfl (sv (EV.lss rfl rfl) rfl (sv (EV.mv rfl) rfl ?_)))))))))))
       revert H; refine ifsI ?_ ?_ <;> intro c21 H
       ·
        refine ts 74 rfl (dT c21) (sk rfl (sk rfl (sk rfl (sk rfl (sv (EV.pt rfl rfl rfl) rfl (sv (EV.mv rfl) rfl (sk rfl (sk rfl (sk rfl (sv (EV.pt rfl rfl rfl) rfl (re (pr [0, 1, 2, 8, 9, 12, 84] [0, 1] [0, 1, 2, 3] rfl rfl rfl rfl (gt rfl rfl (gs (rg (sv (EV.as rfl) rfl (re (pr [6] [] [] rfl rfl rfl rfl ?_))))))))))))))))))
        cases H
        exact rt Try.func9 rfl (.tmp rfl .nil) rfl [] [] rfl rfl rfl rfl rfl ⟨rfl, rfl, rfl⟩
       ·
        refine ts 74 rfl (dF c21) (sv (EV.ld (v := .agg #[.slice At9_0 t9_0.length ct9_0, .int .i64 t9_1, .int .i64 t9_2, .int .i64 t9_3]) 1 (some 4) rfl rfl rfl) rfl (sv (EV.ld (v := .agg #[.slice At6_0 t6_0.length ct6_0, .int .i64 t6_1, .int .i64 t6_2, .int .i64 t6_3]) 0 (some 4) rfl rfl rfl) rfl ?_))
        revert H; refine bdI ?_; rintro t22 A22 H
        refine so rfl (op_call (laws_eqGroupResult.ok k t9_0 At9_0 ct9_0 t9_1 t9_2 t9_3 t6_0 At6_0 ct6_0 t6_1 t6_2 t6_3 _ A22) [⟨3, 0, 0, false⟩, ⟨2, 0, 0, false⟩] 13 rfl rfl rfl rfl rfl ?_)
        rintro _ _ _ ⟨rfl, rfl, rfl⟩
        refine sv (EV.nt rfl) rfl (sv (EV.pf rfl rfl rfl) rfl (sv (EV.mv rfl) rfl ?_))
        revert H; refine ifsI ?_ ?_ <;> intro c23 H
        ·
         subst c23
         refine ts 80 rfl rfl (sv (EV.mv rfl) rfl (sv (EV.mv rfl) rfl (sv (EV.neb rfl rfl) rfl (sv (EV.pf rfl rfl rfl) rfl (re (pr [0, 1, 2, 8, 9, 12, 84] [0, 1] [0, 1, 2, 3] rfl rfl rfl rfl (gf rfl (bN c12) (gk (gs (rg (sv (EV.as rfl) rfl (re (gs (rg (sv (EV.ld (v := .agg #[.slice At9_0 t9_0.length ct9_0, .int .i64 t9_1, .int .i64 t9_2, .int .i64 t9_3]) 1 (some 4) rfl rfl rfl) rfl (sv (EV.mv rfl) rfl ?_))))))))))))))))
         revert H; refine bdI ?_; rintro ⟨t24_0, t24_1⟩ A24 H
         refine so rfl (op_callM (laws_markGroupResult.ok k t9_0 At9_0 ct9_0 t9_1 t9_2 t9_3 1 _ _ A24) [⟨3, 1, 1, false⟩] [] [0, 1] 13 rfl rfl rfl rfl rfl rfl rfl rfl ?_)
         rintro _ _ _ ⟨rfl, rfl, rfl, q24_0⟩
         refine rlT 85 (v' := .agg #[.slice At9_0 t24_1.length ct9_0, .int .i64 t9_1, .int .i64 t9_2, .int .i64 t9_3]) rfl (by simp only [q24_0]) (rlB 1 (cs' := [.slice At9_0 t24_1.length ct9_0, .int .i64 t9_1, .int .i64 t9_2, .int .i64 t9_3]) rfl (by simp only [q24_0]) (nmE (en := [.sl 0 k75 Al0 cl0 l0 0 false, .sl 0 (.int .i64) Al2 cl2 l2 0 false, .sl 2 k88 At6_0 ct6_0 t6_0 6 true, .sl 1 k88 At9_0 ct9_0 t24_1 14 false]) (by kernel_rfl) (sv (EV.as rfl) rfl (re (gs (rg (sv (EV.as rfl) rfl (re (gs (rg (sv (EV.ld (v := .agg #[.slice At9_0 t24_1.length ct9_0, .int .i64 t9_1, .int .i64 t9_2, .int .i64 t9_3]) 1 (some 4) rfl rfl rfl) rfl (sv (EV.mv rfl) rfl ?_))))))))))))
         revert H; refine bdI ?_; rintro t25 A25 H
         refine so rfl (op_call (laws_heldGroupResult.ok k t24_1 At9_0 ct9_0 t9_1 t9_2 t9_3 1 _ A25) [⟨3, 0, 0, false⟩] 15 rfl rfl rfl rfl rfl ?_)
         rintro _ _ _ ⟨rfl, rfl, rfl⟩
         refine sv (EV.as rfl) rfl (re (pr [0, 1, 2, 8, 9, 12, 15, 16] [0, 1] [0, 1, 2, 3] rfl rfl rfl rfl (gs (gs (rg (sv (EV.mv rfl) rfl (sv (EV.lss rfl rfl) rfl (re ?_))))))))
         revert H; refine ifsI ?_ ?_ <;> intro c26 H
         ·
          refine gt rfl (dT c26) (gs (rg (sv (EV.as rfl) rfl (re (pr [6] [] [] rfl rfl rfl rfl ?_)))))
          cases H
          exact rt Try.func9 rfl (.tmp rfl .nil) rfl [] [] rfl rfl rfl rfl rfl ⟨rfl, rfl, rfl⟩
         ·
          refine gf rfl (dF c26) (gk (gs (gs (rg (sv (EV.mv rfl) rfl (sv (EV.mv rfl) rfl (sv (EV.neq rfl rfl) rfl (re ?_))))))))
          revert H; refine ifsI ?_ ?_ <;> intro c27 H
          ·
           refine gf rfl (nF c27) (gk (gs (rg (sv (EV.mv rfl) rfl ?_))))
           revert H; refine bdI ?_; rintro t28 A28 H
           refine so rfl (op_call (laws_toRowS.ok k l0 Al0 cl0 _ A28) [⟨0, 0, 0, false⟩] 15 rfl rfl rfl rfl rfl ?_)
           rintro _ _ _ ⟨At28, ct28, rfl, rfl, rfl⟩
           refine sv (EV.mv rfl) rfl (sv (EV.mv rfl) rfl ?_)
           revert H; refine bdI ?_; rintro t29 A29 H
           refine so rfl (op_call (laws_toIntS.ok k l2 Al2 cl2 _ A29) [⟨1, 0, 0, false⟩] 17 rfl rfl rfl rfl rfl ?_)
           rintro _ _ _ ⟨At29, ct29, rfl, rfl, rfl⟩
           revert H; refine bdI ?_; rintro ⟨t30_0, t30_1, t30_2, t30_3, t30_4⟩ A30 H
           refine so rfl (op_call (impl_RunGroup.ok k t28 At28 ct28 a1 t29 At29 ct29 _ _ _ _ _ A30) [⟨4, 0, 0, false⟩, ⟨5, 0, 0, false⟩] 19 rfl rfl rfl rfl rfl ?_)
           rintro _ _ _ ⟨At30_0, ct30_0, rfl, rfl, rfl⟩
           refine sv (EV.mv rfl) rfl (sv (EV.ex rfl rfl) rfl (sv (EV.ex rfl rfl) rfl (so rfl (op_alloc (cs := [.slice none 0 0, .int .i64 0, .int .i64 0, .int .i64 0]) (by kernel_rfl) rfl fun b17 => (so rfl (op_st (cs' := [.slice At30_0 t30_0.length ct30_0, .int .i64 t30_1, .int .i64 t30_2, .int .i64 t30_3]) 2 rfl rfl rfl rfl rfl rfl (sv (EV.as rfl) rfl (re (pr [8, 9, 12, 15, 17, 18] [0, 1, 2] [2, 3, 6] rfl rfl rfl rfl (gs (gs (rg (sv (EV.ld (v := .agg #[.slice At30_0 t30_0.length ct30_0, .int .i64 t30_1, .int .i64 t30_2, .int .i64 t30_3]) 2 (some 4) rfl rfl rfl) rfl (sv (EV.ld (v := .agg #[.slice At6_0 t6_0.length ct6_0, .int .i64 t6_1, .int .i64 t6_2, .int .i64 t6_3]) 0 (some 4) rfl rfl rfl) rfl ?_))))))))))))))
           revert H; refine bdI ?_; rintro t31 A31 H
           refine so rfl (op_call (laws_eqGroupResult.ok k t30_0 At30_0 ct30_0 t30_1 t30_2 t30_3 t6_0 At6_0 ct6_0 t6_1 t6_2 t6_3 _ A31) [⟨2, 0, 0, false⟩, ⟨0, 0, 0, false⟩] 21 rfl rfl rfl rfl rfl ?_)
           rintro _ _ _ ⟨rfl, rfl, rfl⟩
           refine sv (EV.nt rfl) rfl (sv (EV.mv rfl) rfl ?_)
           revert H; refine ifsI ?_ ?_ <;> intro c32 H
           ·
            subst c32
            refine ts 109 rfl rfl (sv (EV.mv rfl) rfl (sv (EV.mv rfl) rfl (sv (EV.neb rfl rfl) rfl (sv (EV.pf rfl rfl rfl) rfl (re (pr [12, 15, 113] [1] [1] rfl rfl rfl rfl ?_))))))
            revert H; refine ifsI ?_ ?_ <;> intro c33 H
            ·
             refine gf rfl (bN c33) (gk (gs (rg (sv (EV.as rfl) rfl (re (gs (rg (sv (EV.ld (v := .agg #[.slice At9_0 t24_1.length ct9_0, .int .i64 t9_1, .int .i64 t9_2, .int .i64 t9_3]) 0 (some 4) rfl rfl rfl) rfl (sv (EV.mv rfl) rfl ?_)))))))))
             revert H; refine bdI ?_; rintro t34 A34 H
             refine so rfl (op_call (laws_heldGroupResult.ok k t24_1 At9_0 ct9_0 t9_1 t9_2 t9_3 1 _ A34) [⟨0, 0, 0, false⟩] 15 rfl rfl rfl rfl rfl ?_)
             rintro _ _ _ ⟨rfl, rfl, rfl⟩
             refine sv (EV.as rfl) rfl (re (gs (gs (rg (sv (EV.mv rfl) rfl (sv (EV.lss rfl rfl) rfl (re (pr [15, 16, 118] [] [] rfl rfl rfl rfl ?_))))))))
             revert H; refine ifsI ?_ ?_ <;> intro c35 H
             ·
              refine gt rfl (dT c35) (gs (rg (sv (EV.as rfl) rfl (re ?_))))
              cases H
              exact rt Try.func9 rfl (.tmp rfl .nil) rfl [] [] rfl rfl rfl rfl rfl ⟨rfl, rfl, rfl⟩
             ·
              refine gf rfl (dF c35) (gk (gs (gs (rg (sv (EV.mv rfl) rfl (sv (EV.mv rfl) rfl (sv (EV.neq rfl rfl) rfl (re ?_))))))))
              revert H; refine ifsI ?_ ?_ <;> intro c36 H
              ·
               refine gf rfl (nF c36) (gk (gs (rg (sv (EV.as rfl) rfl (re (pr [6] [] [] rfl rfl rfl rfl ?_))))))
               cases H
               exact rt Try.func9 rfl (.tmp rfl .nil) rfl [] [] rfl rfl rfl rfl rfl ⟨rfl, rfl, rfl⟩
              ·
               refine gt rfl (nT c36) (gs (rg (sv (EV.as rfl) rfl (re (pr [6] [] [] rfl rfl rfl rfl ?_)))))
               cases H
               exact rt Try.func9 rfl (.tmp rfl .nil) rfl [] [] rfl rfl rfl rfl rfl ⟨rfl, rfl, rfl⟩
            ·
             refine gt rfl (bM c33) (gs (rg (sv (EV.as rfl) rfl (re ?_))))
             cases H
             exact rt Try.func9 rfl (.tmp rfl .nil) rfl [] [] rfl rfl rfl rfl rfl ⟨rfl, rfl, rfl⟩
           ·
            obtain rfl := bF c32
            refine ts 109 rfl rfl (sk rfl (sk rfl (sk rfl (sv (EV.pt rfl rfl rfl) rfl (re (pr [12, 15, 113] [1] [1] rfl rfl rfl rfl (gt rfl rfl (gs (rg (sv (EV.as rfl) rfl (re ?_)))))))))))
            cases H
            exact rt Try.func9 rfl (.tmp rfl .nil) rfl [] [] rfl rfl rfl rfl rfl ⟨rfl, rfl, rfl⟩
          ·
           refine gt rfl (nT c27) (gs (rg (sv (EV.as rfl) rfl (re (pr [6] [] [] rfl rfl rfl rfl ?_)))))
           cases H
           exact rt Try.func9 rfl (.tmp rfl .nil) rfl [] [] rfl rfl rfl rfl rfl ⟨rfl, rfl, rfl⟩
        ·
         obtain rfl := bF c23
         refine ts 80 rfl rfl (sk rfl (sk rfl (sk rfl (sv (EV.pt rfl rfl rfl) rfl (re (pr [0, 1, 2, 8, 9, 12, 84] [0, 1] [0, 1, 2, 3] rfl rfl rfl rfl (gt rfl rfl (gs (rg (sv (EV.as rfl) rfl (re (pr [6] [] [] rfl rfl rfl rfl ?_))))))))))))
         cases H
         exact rt Try.func9 rfl (.tmp rfl .nil) rfl [] [] rfl rfl rfl rfl rfl ⟨rfl, rfl, rfl⟩
      ·
       obtain rfl := bF c18
       refine gt rfl rfl (gs (rg (sv (EV.as rfl) rfl (re (pr [6] [] [] rfl rfl rfl rfl ?_)))))
       cases H
       exact rt Try.func9 rfl (.tmp rfl .nil) rfl [] [] rfl rfl rfl rfl rfl ⟨rfl, rfl, rfl⟩
     ·
      obtain rfl := bF c15
      refine gt rfl rfl (gs (rg (sv (EV.as rfl) rfl (re (pr [6] [] [] rfl rfl rfl rfl ?_)))))
      cases H
      exact rt Try.func9 rfl (.tmp rfl .nil) rfl [] [] rfl rfl rfl rfl rfl ⟨rfl, rfl, rfl⟩
    ·
     refine gt rfl (bM c12) (gs (rg (sv (EV.as rfl) rfl (re (pr [6] [] [] rfl rfl rfl rfl ?_)))))
     cases H
     exact rt Try.func9 rfl (.tmp rfl .nil) rfl [] [] rfl rfl rfl rfl rfl ⟨rfl, rfl, rfl⟩
   ·
    obtain rfl := bF c11
    refine ts 51 rfl rfl (sk rfl (sk rfl (sk rfl (sv (EV.pt rfl rfl rfl) rfl (re (pr [0, 1, 2, 8, 9, 10, 11, 12, 13, 55] [0, 1] [0, 1, 2, 3, 4, 5] rfl rfl rfl rfl (gt rfl rfl (gs (rg (sv (EV.as rfl) rfl (re (pr [6] [] [] rfl rfl rfl rfl ?_))))))))))))
    cases H
    exact rt Try.func9 rfl (.tmp rfl .nil) rfl [] [] rfl rfl rfl rfl rfl ⟨rfl, rfl, rfl⟩
end Go.Proofs.Ytoncjohnkiilcaa.K
