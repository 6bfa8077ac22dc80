/- Walks: what the functions compute. Printed by gen.py; no condition. -/
import Derived.Test.YtoncjohnkiilcaaVFnExactRollupRowsb
namespace Go.Proofs.Ytoncjohnkiilcaa.K
open Go Go.RowKit
set_option linter.unusedVariables false
set_option linter.unusedSimpArgs false
mutual
def slices_partitionCmpFunc_impl_Group_at93.j3 : Nat → (List S88) → Int → Option (Int × Bool × (List S88))
 | 0, _, _ => none
 | k + 1, x7_ml0, x7_13 => some (x7_13, true, x7_ml0)
def slices_partitionCmpFunc_impl_Group_at93.j7 : Nat → (List S88) → Int → Option (Int × Bool × (List S88))
 | 0, _, _ => none
 | k + 1, x37_ml0, x37_13 => some (x37_13, false, x37_ml0)
def slices_partitionCmpFunc_impl_Group_at93.j8 : Nat → (List S88) → Int → Int → Int → Option (Int × Bool × (List S88))
 | 0, _, _, _, _ => none
 | k + 1, x38_ml0, x38_1, x38_12, x38_13 => slices_partitionCmpFunc_impl_Group_at93.l0 k x38_ml0 x38_1 (wrap64 (x38_12 + 1)) (wrap64 (x38_13 - 1))
def slices_partitionCmpFunc_impl_Group_at93.j6 : Nat → (List S88) → Int → Int → Int → Option (Int × Bool × (List S88))
 | 0, _, _, _, _ => none
 | k + 1, x36_ml0, x36_1, x36_12, x36_13 => if x36_12 > x36_13 then (if 0 ≤ x36_1 then (if x36_1 < (x36_ml0.length : Int) then (if 0 ≤ x36_13 then (if x36_13 < (x36_ml0.length : Int) then ((some (x36_ml0.set x36_13.toNat (⟨(rd_T88 x36_ml0 x36_1).f0, (rd_T88 x36_ml0 x36_1).f1, (rd_T88 x36_ml0 x36_1).f2, (rd_T88 x36_ml0 x36_1).f3, (rd_T88 x36_ml0 x36_1).f4⟩ : S88))).bind fun s37 => (if x36_1 < (s37.length : Int) then ((some (s37.set x36_1.toNat (⟨(rd_T88 x36_ml0 x36_13).f0, (rd_T88 x36_ml0 x36_13).f1, (rd_T88 x36_ml0 x36_13).f2, (rd_T88 x36_ml0 x36_13).f3, (rd_T88 x36_ml0 x36_13).f4⟩ : S88))).bind fun s39 => (slices_partitionCmpFunc_impl_Group_at93.j7 k s39 x36_13)) else none)) else none) else none) else none) else none) else (if 0 ≤ x36_13 then (if x36_13 < (x36_ml0.length : Int) then (if 0 ≤ x36_12 then (if x36_12 < (x36_ml0.length : Int) then ((some (x36_ml0.set x36_12.toNat (⟨(rd_T88 x36_ml0 x36_13).f0, (rd_T88 x36_ml0 x36_13).f1, (rd_T88 x36_ml0 x36_13).f2, (rd_T88 x36_ml0 x36_13).f3, (rd_T88 x36_ml0 x36_13).f4⟩ : S88))).bind fun s60 => (if x36_13 < (s60.length : Int) then ((some (s60.set x36_13.toNat (⟨(rd_T88 x36_ml0 x36_12).f0, (rd_T88 x36_ml0 x36_12).f1, (rd_T88 x36_ml0 x36_12).f2, (rd_T88 x36_ml0 x36_12).f3, (rd_T88 x36_ml0 x36_12).f4⟩ : S88))).bind fun s62 => (slices_partitionCmpFunc_impl_Group_at93.j8 k s62 x36_1 x36_12 x36_13)) else none)) else none) else none) else none) else none)
def slices_partitionCmpFunc_impl_Group_at93.l1 : Nat → (List S88) → Int → Int → Int → Option (Int × Bool × (List S88))
 | 0, _, _, _, _ => none
 | k + 1, x39_ml0, x39_1, x39_12, x39_13 => if x39_12 ≤ x39_13 then (if 0 ≤ x39_13 then (if x39_13 < (x39_ml0.length : Int) then (if 0 ≤ x39_1 then (if x39_1 < (x39_ml0.length : Int) then ((impl_MergeGroups_1.f ((rd_T88 x39_ml0 x39_13).f0) ((rd_T88 x39_ml0 x39_13).f1) ((rd_T88 x39_ml0 x39_13).f2) ((rd_T88 x39_ml0 x39_13).f3) ((rd_T88 x39_ml0 x39_13).f4) ((rd_T88 x39_ml0 x39_1).f0) ((rd_T88 x39_ml0 x39_1).f1) ((rd_T88 x39_ml0 x39_1).f2) ((rd_T88 x39_ml0 x39_1).f3) ((rd_T88 x39_ml0 x39_1).f4)).bind fun t83 => (if t83 < 0 then (slices_partitionCmpFunc_impl_Group_at93.j6 k x39_ml0 x39_1 x39_12 x39_13) else (slices_partitionCmpFunc_impl_Group_at93.l1 k x39_ml0 x39_1 x39_12 (wrap64 (x39_13 - 1))))) else none) else none) else none) else none) else (slices_partitionCmpFunc_impl_Group_at93.j6 k x39_ml0 x39_1 x39_12 x39_13)
def slices_partitionCmpFunc_impl_Group_at93.j5 : Nat → (List S88) → Int → Int → Int → Option (Int × Bool × (List S88))
 | 0, _, _, _, _ => none
 | k + 1, x34_ml0, x34_1, x34_12, x34_13 => slices_partitionCmpFunc_impl_Group_at93.l1 k x34_ml0 x34_1 x34_12 x34_13
def slices_partitionCmpFunc_impl_Group_at93.l2 : Nat → (List S88) → Int → Int → Int → Option (Int × Bool × (List S88))
 | 0, _, _, _, _ => none
 | k + 1, x40_ml0, x40_1, x40_12, x40_13 => if x40_12 ≤ x40_13 then (if 0 ≤ x40_12 then (if x40_12 < (x40_ml0.length : Int) then (if 0 ≤ x40_1 then (if x40_1 < (x40_ml0.length : Int) then ((impl_MergeGroups_1.f ((rd_T88 x40_ml0 x40_12).f0) ((rd_T88 x40_ml0 x40_12).f1) ((rd_T88 x40_ml0 x40_12).f2) ((rd_T88 x40_ml0 x40_12).f3) ((rd_T88 x40_ml0 x40_12).f4) ((rd_T88 x40_ml0 x40_1).f0) ((rd_T88 x40_ml0 x40_1).f1) ((rd_T88 x40_ml0 x40_1).f2) ((rd_T88 x40_ml0 x40_1).f3) ((rd_T88 x40_ml0 x40_1).f4)).bind fun t90 => (if t90 < 0 then (slices_partitionCmpFunc_impl_Group_at93.l2 k x40_ml0 x40_1 (wrap64 (x40_12 + 1)) x40_13) else (slices_partitionCmpFunc_impl_Group_at93.j5 k x40_ml0 x40_1 x40_12 x40_13))) else none) else none) else none) else none) else (slices_partitionCmpFunc_impl_Group_at93.j5 k x40_ml0 x40_1 x40_12 x40_13)
def slices_partitionCmpFunc_impl_Group_at93.l0 : Nat → (List S88) → Int → Int → Int → Option (Int × Bool × (List S88))
 | 0, _, _, _, _ => none
 | k + 1, x24_ml0, x24_1, x24_12, x24_13 => slices_partitionCmpFunc_impl_Group_at93.l2 k x24_ml0 x24_1 x24_12 x24_13
def slices_partitionCmpFunc_impl_Group_at93.j4 : Nat → (List S88) → Int → Int → Int → Option (Int × Bool × (List S88))
 | 0, _, _, _, _ => none
 | k + 1, x8_ml0, x8_1, x8_12, x8_13 => slices_partitionCmpFunc_impl_Group_at93.l0 k x8_ml0 x8_1 (wrap64 (x8_12 + 1)) (wrap64 (x8_13 - 1))
def slices_partitionCmpFunc_impl_Group_at93.j2 : Nat → (List S88) → Int → Int → Int → Option (Int × Bool × (List S88))
 | 0, _, _, _, _ => none
 | k + 1, x5_ml0, x5_1, x5_12, x5_13 => if x5_12 > x5_13 then (if 0 ≤ x5_1 then (if x5_1 < (x5_ml0.length : Int) then (if 0 ≤ x5_13 then (if x5_13 < (x5_ml0.length : Int) then ((some (x5_ml0.set x5_13.toNat (⟨(rd_T88 x5_ml0 x5_1).f0, (rd_T88 x5_ml0 x5_1).f1, (rd_T88 x5_ml0 x5_1).f2, (rd_T88 x5_ml0 x5_1).f3, (rd_T88 x5_ml0 x5_1).f4⟩ : S88))).bind fun s10 => (if x5_1 < (s10.length : Int) then ((some (s10.set x5_1.toNat (⟨(rd_T88 x5_ml0 x5_13).f0, (rd_T88 x5_ml0 x5_13).f1, (rd_T88 x5_ml0 x5_13).f2, (rd_T88 x5_ml0 x5_13).f3, (rd_T88 x5_ml0 x5_13).f4⟩ : S88))).bind fun s12 => (slices_partitionCmpFunc_impl_Group_at93.j3 k s12 x5_13)) else none)) else none) else none) else none) else none) else (if 0 ≤ x5_13 then (if x5_13 < (x5_ml0.length : Int) then (if 0 ≤ x5_12 then (if x5_12 < (x5_ml0.length : Int) then ((some (x5_ml0.set x5_12.toNat (⟨(rd_T88 x5_ml0 x5_13).f0, (rd_T88 x5_ml0 x5_13).f1, (rd_T88 x5_ml0 x5_13).f2, (rd_T88 x5_ml0 x5_13).f3, (rd_T88 x5_ml0 x5_13).f4⟩ : S88))).bind fun s96 => (if x5_13 < (s96.length : Int) then ((some (s96.set x5_13.toNat (⟨(rd_T88 x5_ml0 x5_12).f0, (rd_T88 x5_ml0 x5_12).f1, (rd_T88 x5_ml0 x5_12).f2, (rd_T88 x5_ml0 x5_12).f3, (rd_T88 x5_ml0 x5_12).f4⟩ : S88))).bind fun s98 => (slices_partitionCmpFunc_impl_Group_at93.j4 k s98 x5_1 x5_12 x5_13)) else none)) else none) else none) else none) else none)
def slices_partitionCmpFunc_impl_Group_at93.l3 : Nat → (List S88) → Int → Int → Int → Option (Int × Bool × (List S88))
 | 0, _, _, _, _ => none
 | k + 1, x41_ml0, x41_1, x41_12, x41_13 => if x41_12 ≤ x41_13 then (if 0 ≤ x41_13 then (if x41_13 < (x41_ml0.length : Int) then (if 0 ≤ x41_1 then (if x41_1 < (x41_ml0.length : Int) then ((impl_MergeGroups_1.f ((rd_T88 x41_ml0 x41_13).f0) ((rd_T88 x41_ml0 x41_13).f1) ((rd_T88 x41_ml0 x41_13).f2) ((rd_T88 x41_ml0 x41_13).f3) ((rd_T88 x41_ml0 x41_13).f4) ((rd_T88 x41_ml0 x41_1).f0) ((rd_T88 x41_ml0 x41_1).f1) ((rd_T88 x41_ml0 x41_1).f2) ((rd_T88 x41_ml0 x41_1).f3) ((rd_T88 x41_ml0 x41_1).f4)).bind fun t119 => (if t119 < 0 then (slices_partitionCmpFunc_impl_Group_at93.j2 k x41_ml0 x41_1 x41_12 x41_13) else (slices_partitionCmpFunc_impl_Group_at93.l3 k x41_ml0 x41_1 x41_12 (wrap64 (x41_13 - 1))))) else none) else none) else none) else none) else (slices_partitionCmpFunc_impl_Group_at93.j2 k x41_ml0 x41_1 x41_12 x41_13)
def slices_partitionCmpFunc_impl_Group_at93.j1 : Nat → (List S88) → Int → Int → Int → Option (Int × Bool × (List S88))
 | 0, _, _, _, _ => none
 | k + 1, x3_ml0, x3_1, x3_12, x3_13 => slices_partitionCmpFunc_impl_Group_at93.l3 k x3_ml0 x3_1 x3_12 x3_13
def slices_partitionCmpFunc_impl_Group_at93.l4 : Nat → (List S88) → Int → Int → Int → Option (Int × Bool × (List S88))
 | 0, _, _, _, _ => none
 | k + 1, x42_ml0, x42_1, x42_12, x42_13 => if x42_12 ≤ x42_13 then (if 0 ≤ x42_12 then (if x42_12 < (x42_ml0.length : Int) then (if 0 ≤ x42_1 then (if x42_1 < (x42_ml0.length : Int) then ((impl_MergeGroups_1.f ((rd_T88 x42_ml0 x42_12).f0) ((rd_T88 x42_ml0 x42_12).f1) ((rd_T88 x42_ml0 x42_12).f2) ((rd_T88 x42_ml0 x42_12).f3) ((rd_T88 x42_ml0 x42_12).f4) ((rd_T88 x42_ml0 x42_1).f0) ((rd_T88 x42_ml0 x42_1).f1) ((rd_T88 x42_ml0 x42_1).f2) ((rd_T88 x42_ml0 x42_1).f3) ((rd_T88 x42_ml0 x42_1).f4)).bind fun t126 => (if t126 < 0 then (slices_partitionCmpFunc_impl_Group_at93.l4 k x42_ml0 x42_1 (wrap64 (x42_12 + 1)) x42_13) else (slices_partitionCmpFunc_impl_Group_at93.j1 k x42_ml0 x42_1 x42_12 x42_13))) else none) else none) else none) else none) else (slices_partitionCmpFunc_impl_Group_at93.j1 k x42_ml0 x42_1 x42_12 x42_13)
def slices_partitionCmpFunc_impl_Group_at93.j0 : Nat → (List S88) → Int → Int → Option (Int × Bool × (List S88))
 | 0, _, _, _ => none
 | k + 1, x1_ml0, x1_1, x1_2 => slices_partitionCmpFunc_impl_Group_at93.l4 k x1_ml0 x1_1 (wrap64 (x1_1 + 1)) (wrap64 (x1_2 - 1))
end
def slices_partitionCmpFunc_impl_Group_at93.f (k : Nat) (l0 : List S88) (a1 : Int) (a2 : Int) (a3 : Int) : Option (Int × Bool × (List S88)) := if 0 ≤ a3 then (if a3 < (l0.length : Int) then (if 0 ≤ a1 then (if a1 < (l0.length : Int) then ((some (l0.set a1.toNat (⟨(rd_T88 l0 a3).f0, (rd_T88 l0 a3).f1, (rd_T88 l0 a3).f2, (rd_T88 l0 a3).f3, (rd_T88 l0 a3).f4⟩ : S88))).bind fun s132 => (if a3 < (s132.length : Int) then ((some (s132.set a3.toNat (⟨(rd_T88 l0 a1).f0, (rd_T88 l0 a1).f1, (rd_T88 l0 a1).f2, (rd_T88 l0 a1).f3, (rd_T88 l0 a1).f4⟩ : S88))).bind fun s134 => (slices_partitionCmpFunc_impl_Group_at93.j0 k s134 a1 a2)) else none)) else none) else none) else none) else none
set_option maxHeartbeats 4000000 in
set_option maxRecDepth 100000 in
theorem slices_partitionCmpFunc_impl_Group_at93.ok (k : Nat) (l0 : List S88) (Al0 : Option Addr) (cl0 : Nat) (a1 : Int) (a2 : Int) (a3 : Int) (r0 : Int) (r1 : Bool) (r2 : List S88) (H : slices_partitionCmpFunc_impl_Group_at93.f k l0 a1 a2 a3 = some (r0, r1, r2)) : Fn Try.prog 111 [.slice Al0 l0.length cl0, .int .i64 a1, .int .i64 a2, .int .i64 a3, .func (.func 93) #[] #[]] [] [.sl 1 k88 Al0 cl0 l0 1 false] (fun v bx en => v = .tuple #[.int .i64 r0, .bool r1] ∧ bx = [] ∧ en = [.sl 1 k88 Al0 cl0 r2 1 false] ∧ r2.length = l0.length) := by
 refine fn_ 178 Try.func111 rfl rfl rfl (fun base T w0 => ?_)
 rw [slices_partitionCmpFunc_impl_Group_at93.f] at H
 refine gs (rg (sv (EV.as rfl) rfl (sv (EV.as rfl) rfl (re ?_))))
 refine jo (fun S => ∃ (m : Nat) (x1_ml0 : List S88) (x1_1 : Int) (x1_2 : Int), slices_partitionCmpFunc_impl_Group_at93.j0 m x1_ml0 x1_1 x1_2 = some (r0, r1, r2) ∧ x1_ml0.length = l0.length ∧ S = ⟨[(0, .slice Al0 x1_ml0.length cl0), (1, .int .i64 x1_1), (2, .int .i64 x1_2), (4, .func (.func 93) #[] #[])], [], [.sl 1 k88 Al0 cl0 x1_ml0 1 false]⟩) (fun S hS => ?_) (fun jh0 => ?_)
 ·
  clear H
  obtain ⟨m1, x1_ml0, x1_1, x1_2, H, ex1_ml0, rfl⟩ := hS
  rcases m1 with _ | m1
  · rw [slices_partitionCmpFunc_impl_Group_at93.j0] at H; cases H
  rw [slices_partitionCmpFunc_impl_Group_at93.j0] at H
  refine gs (rg (sv (EV.mv rfl) rfl (sv (EV.add rfl rfl) rfl (sv (EV.mv rfl) rfl (sv (EV.sub rfl rfl) rfl (sv (EV.as rfl) rfl (sv (EV.as rfl) rfl (re ?_))))))))
  refine jo (fun S => ∃ (m : Nat) (x3_ml0 : List S88) (x3_1 : Int) (x3_12 : Int) (x3_13 : Int), m ≤ m1 ∧ slices_partitionCmpFunc_impl_Group_at93.j1 m x3_ml0 x3_1 x3_12 x3_13 = some (r0, r1, r2) ∧ x3_ml0.length = l0.length ∧ S = ⟨[(0, .slice Al0 x3_ml0.length cl0), (1, .int .i64 x3_1), (4, .func (.func 93) #[] #[]), (12, .int .i64 x3_12), (13, .int .i64 x3_13)], [], [.sl 1 k88 Al0 cl0 x3_ml0 1 false]⟩) (fun S hS => ?_) (fun jh1 => ?_)
  ·
   clear H
   obtain ⟨m2, x3_ml0, x3_1, x3_12, x3_13, lm2, H, ex3_ml0, rfl⟩ := hS
   rcases m2 with _ | m2
   · rw [slices_partitionCmpFunc_impl_Group_at93.j1] at H; cases H
   rw [slices_partitionCmpFunc_impl_Group_at93.j1] at H
   refine jo (fun S => ∃ (m : Nat) (x5_ml0 : List S88) (x5_1 : Int) (x5_12 : Int) (x5_13 : Int), m ≤ m2 ∧ slices_partitionCmpFunc_impl_Group_at93.j2 m x5_ml0 x5_1 x5_12 x5_13 = some (r0, r1, r2) ∧ x5_ml0.length = l0.length ∧ S = ⟨[(0, .slice Al0 x5_ml0.length cl0), (1, .int .i64 x5_1), (4, .func (.func 93) #[] #[]), (12, .int .i64 x5_12), (13, .int .i64 x5_13)], [], [.sl 1 k88 Al0 cl0 x5_ml0 1 false]⟩) (fun S hS => ?_) (fun jh2 => ?_)
   ·
    clear H
    obtain ⟨m3, x5_ml0, x5_1, x5_12, x5_13, lm3, H, ex5_ml0, rfl⟩ := hS
    rcases m3 with _ | m3
    · rw [slices_partitionCmpFunc_impl_Group_at93.j2] at H; cases H
    rw [slices_partitionCmpFunc_impl_Group_at93.j2] at H
    refine gs (gs (rg (sv (EV.mv rfl) rfl (sv (EV.mv rfl) rfl (sv (EV.gtr rfl rfl) rfl (re ?_))))))
    revert H; refine ifsI ?_ ?_ <;> intro c4 H
    ·
     refine gt rfl (dT c4) ?_
     refine jo (fun S => ∃ (m : Nat) (x7_ml0 : List S88) (x7_13 : Int), m ≤ m3 ∧ slices_partitionCmpFunc_impl_Group_at93.j3 m x7_ml0 x7_13 = some (r0, r1, r2) ∧ x7_ml0.length = l0.length ∧ S = ⟨[(13, .int .i64 x7_13)], [], [.sl 1 k88 Al0 cl0 x7_ml0 1 false]⟩) (fun S hS => ?_) (fun jh3 => ?_)
     ·
      clear H
      obtain ⟨m5, x7_ml0, x7_13, lm5, H, ex7_ml0, rfl⟩ := hS
      rcases m5 with _ | m5
      · rw [slices_partitionCmpFunc_impl_Group_at93.j3] at H; cases H
      rw [slices_partitionCmpFunc_impl_Group_at93.j3] at H
      refine gs (rg (sv (EV.mv rfl) rfl (sv (EV.as rfl) rfl (sv (EV.as rfl) rfl (re ?_)))))
      cases H
      exact rt Try.func111 rfl (.tmp rfl (.tmp rfl .nil)) rfl [] [⟨0, 1, 1, false⟩] rfl rfl rfl rfl rfl ⟨rfl, rfl, rfl, by first | rfl | assumption | omega | (simp only [List.length_set]; first | done | assumption | omega)⟩
     ·
      revert H; refine ggI ?_; intro g6 H
      revert H; refine ggI ?_; intro g7 H
      revert H; refine ggI ?_; intro g8 H
      revert H; refine ggI ?_; intro g9 H
      refine dr [] [] [14, 15] 16 rfl rfl rfl rfl (xv 0 [] [] rfl (EV.mv rfl) rfl rfl rfl rfl (xv 1 [] [] rfl (EV.mv rfl) rfl rfl rfl rfl (xv 2 [] [] rfl (EV.mv rfl) rfl rfl rfl rfl (xv 3 [] [] rfl (EV.mv rfl) rfl rfl rfl rfl (xv 4 [] [] rfl (EV.mv rfl) rfl rfl rfl rfl (xv 5 [] [] rfl (EV.mv rfl) rfl rfl rfl rfl (xv 8 [] [] rfl (EV.mv rfl) rfl rfl rfl rfl (xv 9 [] [] rfl (EV.mv rfl) rfl rfl rfl rfl ?_))))))))
      refine one2 6 10 rfl rfl rfl rfl ?_ ?_
      ·
       refine ov (EV.ix 0 rfl rfl rfl g6 g7 rfl) rfl (xs [] [] rfl rfl rfl ?_)
       refine one2 7 10 rfl rfl rfl rfl ?_ ?_
       ·
        refine ov (EV.le (v := .agg #[.int .i64 ((rd_T88 x5_ml0 x5_1).f0), .int .i64 ((rd_T88 x5_ml0 x5_1).f1), .int .i64 ((rd_T88 x5_ml0 x5_1).f2), .int .i64 ((rd_T88 x5_ml0 x5_1).f3), .int .i64 ((rd_T88 x5_ml0 x5_1).f4)]) x5_1 0 (some 5) 0 z88 rfl rfl rfl g6 g7 rfl rfl rfl) rfl (xs [] [] rfl rfl rfl (one1 10 rfl rfl (ov (EV.ix 0 rfl rfl rfl g8 g9 rfl) rfl (xs [] [] rfl rfl rfl (one1 11 rfl rfl (ov (EV.le (v := .agg #[.int .i64 ((rd_T88 x5_ml0 x5_13).f0), .int .i64 ((rd_T88 x5_ml0 x5_13).f1), .int .i64 ((rd_T88 x5_ml0 x5_13).f2), .int .i64 ((rd_T88 x5_ml0 x5_13).f3), .int .i64 ((rd_T88 x5_ml0 x5_13).f4)]) x5_13 0 (some 5) 0 z88 rfl rfl rfl g8 g9 rfl rfl rfl) rfl (xs [] [] rfl rfl rfl (one1 12 rfl rfl (ov (EV.ix 0 rfl rfl rfl g8 g9 rfl) rfl (xs [] [] rfl rfl rfl (one1 13 rfl rfl ?_)))))))))))
        revert H; refine bdI ?_; intro s10 A10 H; have q10 := stl (Option.some.inj A10)
        refine op_stg x5_13 0 0 z88 (⟨(rd_T88 x5_ml0 x5_1).f0, (rd_T88 x5_ml0 x5_1).f1, (rd_T88 x5_ml0 x5_1).f2, (rd_T88 x5_ml0 x5_1).f3, (rd_T88 x5_ml0 x5_1).f4⟩ : S88) (Option.some.inj A10) rfl rfl rfl rfl g8 g9 rfl rfl rfl rfl dq rfl (rlT 0 (v' := .slice Al0 s10.length cl0) rfl (slq _ _ q10) (rlT 72 (v' := .slice Al0 s10.length cl0) rfl (slq _ _ q10) (rlT 74 (v' := .slice Al0 s10.length cl0) rfl (slq _ _ q10) (rlT 76 (v' := .slice Al0 s10.length cl0) rfl (slq _ _ q10) (rlT 80 (v' := .slice Al0 s10.length cl0) rfl (slq _ _ q10) (nmE (en := [.sl 1 k88 Al0 cl0 s10 1 true]) (by kernel_rfl) (xs [] [] rfl rfl rfl (one1 14 rfl rfl ?_))))))))
        revert H; refine ggI ?_; intro g11 H
        refine ov (EV.ix 0 rfl rfl rfl g6 g11 rfl) rfl (xn rfl (one1 15 rfl rfl ?_))
        revert H; refine bdI ?_; intro s12 A12 H; have q12 := stl (Option.some.inj A12)
        exact op_stg x5_1 0 0 z88 (⟨(rd_T88 x5_ml0 x5_13).f0, (rd_T88 x5_ml0 x5_13).f1, (rd_T88 x5_ml0 x5_13).f2, (rd_T88 x5_ml0 x5_13).f3, (rd_T88 x5_ml0 x5_13).f4⟩ : S88) (Option.some.inj A12) rfl rfl rfl rfl g6 g11 rfl rfl rfl rfl dq rfl (rlT 0 (v' := .slice Al0 s12.length cl0) rfl (slq _ _ q12) (rlT 72 (v' := .slice Al0 s12.length cl0) rfl (slq _ _ q12) (rlT 74 (v' := .slice Al0 s12.length cl0) rfl (slq _ _ q12) (rlT 76 (v' := .slice Al0 s12.length cl0) rfl (slq _ _ q12) (rlT 80 (v' := .slice Al0 s12.length cl0) rfl (slq _ _ q12) (nmE (en := [.sl 1 k88 Al0 cl0 s12 1 true]) (by kernel_rfl) (xn rfl (xd (pr [13] [] [0] rfl rfl rfl rfl (wk [13] [] [⟨0, 1, 1, false⟩] (jh3 _ ⟨_, s12, x5_13, by omega, H, (by first | rfl | assumption | omega | (simp only [List.length_set]; first | done | assumption | omega)), rfl⟩)))))))))))
       ·
        refine ov (EV.ix 0 rfl rfl rfl g8 g9 rfl) rfl (xs [] [] rfl rfl rfl ?_)
        refine one2 7 11 rfl rfl rfl rfl ?_ ?_
        ·
         refine ov (EV.le (v := .agg #[.int .i64 ((rd_T88 x5_ml0 x5_1).f0), .int .i64 ((rd_T88 x5_ml0 x5_1).f1), .int .i64 ((rd_T88 x5_ml0 x5_1).f2), .int .i64 ((rd_T88 x5_ml0 x5_1).f3), .int .i64 ((rd_T88 x5_ml0 x5_1).f4)]) x5_1 0 (some 5) 0 z88 rfl rfl rfl g6 g7 rfl rfl rfl) rfl (xs [] [] rfl rfl rfl (one1 11 rfl rfl (ov (EV.le (v := .agg #[.int .i64 ((rd_T88 x5_ml0 x5_13).f0), .int .i64 ((rd_T88 x5_ml0 x5_13).f1), .int .i64 ((rd_T88 x5_ml0 x5_13).f2), .int .i64 ((rd_T88 x5_ml0 x5_13).f3), .int .i64 ((rd_T88 x5_ml0 x5_13).f4)]) x5_13 0 (some 5) 0 z88 rfl rfl rfl g8 g9 rfl rfl rfl) rfl (xs [] [] rfl rfl rfl (one1 12 rfl rfl (ov (EV.ix 0 rfl rfl rfl g8 g9 rfl) rfl (xs [] [] rfl rfl rfl (one1 13 rfl rfl ?_))))))))
         revert H; refine bdI ?_; intro s13 A13 H; have q13 := stl (Option.some.inj A13)
         refine op_stg x5_13 0 0 z88 (⟨(rd_T88 x5_ml0 x5_1).f0, (rd_T88 x5_ml0 x5_1).f1, (rd_T88 x5_ml0 x5_1).f2, (rd_T88 x5_ml0 x5_1).f3, (rd_T88 x5_ml0 x5_1).f4⟩ : S88) (Option.some.inj A13) rfl rfl rfl rfl g8 g9 rfl rfl rfl rfl dq rfl (rlT 0 (v' := .slice Al0 s13.length cl0) rfl (slq _ _ q13) (rlT 72 (v' := .slice Al0 s13.length cl0) rfl (slq _ _ q13) (rlT 74 (v' := .slice Al0 s13.length cl0) rfl (slq _ _ q13) (rlT 76 (v' := .slice Al0 s13.length cl0) rfl (slq _ _ q13) (rlT 80 (v' := .slice Al0 s13.length cl0) rfl (slq _ _ q13) (nmE (en := [.sl 1 k88 Al0 cl0 s13 1 true]) (by kernel_rfl) (xs [] [] rfl rfl rfl (one1 14 rfl rfl ?_))))))))
         revert H; refine ggI ?_; intro g14 H
         refine ov (EV.ix 0 rfl rfl rfl g6 g14 rfl) rfl (xn rfl (one1 15 rfl rfl ?_))
         revert H; refine bdI ?_; intro s15 A15 H; have q15 := stl (Option.some.inj A15)
         exact op_stg x5_1 0 0 z88 (⟨(rd_T88 x5_ml0 x5_13).f0, (rd_T88 x5_ml0 x5_13).f1, (rd_T88 x5_ml0 x5_13).f2, (rd_T88 x5_ml0 x5_13).f3, (rd_T88 x5_ml0 x5_13).f4⟩ : S88) (Option.some.inj A15) rfl rfl rfl rfl g6 g14 rfl rfl rfl rfl dq rfl (rlT 0 (v' := .slice Al0 s15.length cl0) rfl (slq _ _ q15) (rlT 72 (v' := .slice Al0 s15.length cl0) rfl (slq _ _ q15) (rlT 74 (v' := .slice Al0 s15.length cl0) rfl (slq _ _ q15) (rlT 76 (v' := .slice Al0 s15.length cl0) rfl (slq _ _ q15) (rlT 80 (v' := .slice Al0 s15.length cl0) rfl (slq _ _ q15) (nmE (en := [.sl 1 k88 Al0 cl0 s15 1 true]) (by kernel_rfl) (xn rfl (xd (pr [13] [] [0] rfl rfl rfl rfl (wk [13] [] [⟨0, 1, 1, false⟩] (jh3 _ ⟨_, s15, x5_13, by omega, H, (by first | rfl | assumption | omega | (simp only [List.length_set]; first | done | assumption | omega)), rfl⟩)))))))))))
        ·
         refine ov (EV.le (v := .agg #[.int .i64 ((rd_T88 x5_ml0 x5_13).f0), .int .i64 ((rd_T88 x5_ml0 x5_13).f1), .int .i64 ((rd_T88 x5_ml0 x5_13).f2), .int .i64 ((rd_T88 x5_ml0 x5_13).f3), .int .i64 ((rd_T88 x5_ml0 x5_13).f4)]) x5_13 0 (some 5) 0 z88 rfl rfl rfl g8 g9 rfl rfl rfl) rfl (xs [] [] rfl rfl rfl (one1 7 rfl rfl (ov (EV.le (v := .agg #[.int .i64 ((rd_T88 x5_ml0 x5_1).f0), .int .i64 ((rd_T88 x5_ml0 x5_1).f1), .int .i64 ((rd_T88 x5_ml0 x5_1).f2), .int .i64 ((rd_T88 x5_ml0 x5_1).f3), .int .i64 ((rd_T88 x5_ml0 x5_1).f4)]) x5_1 0 (some 5) 0 z88 rfl rfl rfl g6 g7 rfl rfl rfl) rfl (xs [] [] rfl rfl rfl (one1 12 rfl rfl (ov (EV.ix 0 rfl rfl rfl g8 g9 rfl) rfl (xs [] [] rfl rfl rfl (one1 13 rfl rfl ?_))))))))
         revert H; refine bdI ?_; intro s16 A16 H; have q16 := stl (Option.some.inj A16)
         refine op_stg x5_13 0 0 z88 (⟨(rd_T88 x5_ml0 x5_1).f0, (rd_T88 x5_ml0 x5_1).f1, (rd_T88 x5_ml0 x5_1).f2, (rd_T88 x5_ml0 x5_1).f3, (rd_T88 x5_ml0 x5_1).f4⟩ : S88) (Option.some.inj A16) rfl rfl rfl rfl g8 g9 rfl rfl rfl rfl dq rfl (rlT 0 (v' := .slice Al0 s16.length cl0) rfl (slq _ _ q16) (rlT 72 (v' := .slice Al0 s16.length cl0) rfl (slq _ _ q16) (rlT 74 (v' := .slice Al0 s16.length cl0) rfl (slq _ _ q16) (rlT 76 (v' := .slice Al0 s16.length cl0) rfl (slq _ _ q16) (rlT 80 (v' := .slice Al0 s16.length cl0) rfl (slq _ _ q16) (nmE (en := [.sl 1 k88 Al0 cl0 s16 1 true]) (by kernel_rfl) (xs [] [] rfl rfl rfl (one1 14 rfl rfl ?_))))))))
         revert H; refine ggI ?_; intro g17 H
         refine ov (EV.ix 0 rfl rfl rfl g6 g17 rfl) rfl (xn rfl (one1 15 rfl rfl ?_))
         revert H; refine bdI ?_; intro s18 A18 H; have q18 := stl (Option.some.inj A18)
         exact op_stg x5_1 0 0 z88 (⟨(rd_T88 x5_ml0 x5_13).f0, (rd_T88 x5_ml0 x5_13).f1, (rd_T88 x5_ml0 x5_13).f2, (rd_T88 x5_ml0 x5_13).f3, (rd_T88 x5_ml0 x5_13).f4⟩ : S88) (Option.some.inj A18) rfl rfl rfl rfl g6 g17 rfl rfl rfl rfl dq rfl (rlT 0 (v' := .slice Al0 s18.length cl0) rfl (slq _ _ q18) (rlT 72 (v' := .slice Al0 s18.length cl0) rfl (slq _ _ q18) (rlT 74 (v' := .slice Al0 s18.length cl0) rfl (slq _ _ q18) (rlT 76 (v' := .slice Al0 s18.length cl0) rfl (slq _ _ q18) (rlT 80 (v' := .slice Al0 s18.length cl0) rfl (slq _ _ q18) (nmE (en := [.sl 1 k88 Al0 cl0 s18 1 true]) (by kernel_rfl) (xn rfl (xd (pr [13] [] [0] rfl rfl rfl rfl (wk [13] [] [⟨0, 1, 1, false⟩] (jh3 _ ⟨_, s18, x5_13, by omega, H, (by first | rfl | assumption | omega | (simp only [List.length_set]; first | done | assumption | omega)), rfl⟩)))))))))))
      ·
       refine ov (EV.ix 0 rfl rfl rfl g8 g9 rfl) rfl (xs [] [] rfl rfl rfl ?_)
       refine one2 6 11 rfl rfl rfl rfl ?_ ?_
       ·
        refine ov (EV.ix 0 rfl rfl rfl g6 g7 rfl) rfl (xs [] [] rfl rfl rfl ?_)
        refine one2 7 11 rfl rfl rfl rfl ?_ ?_
        ·
         refine ov (EV.le (v := .agg #[.int .i64 ((rd_T88 x5_ml0 x5_1).f0), .int .i64 ((rd_T88 x5_ml0 x5_1).f1), .int .i64 ((rd_T88 x5_ml0 x5_1).f2), .int .i64 ((rd_T88 x5_ml0 x5_1).f3), .int .i64 ((rd_T88 x5_ml0 x5_1).f4)]) x5_1 0 (some 5) 0 z88 rfl rfl rfl g6 g7 rfl rfl rfl) rfl (xs [] [] rfl rfl rfl (one1 11 rfl rfl (ov (EV.le (v := .agg #[.int .i64 ((rd_T88 x5_ml0 x5_13).f0), .int .i64 ((rd_T88 x5_ml0 x5_13).f1), .int .i64 ((rd_T88 x5_ml0 x5_13).f2), .int .i64 ((rd_T88 x5_ml0 x5_13).f3), .int .i64 ((rd_T88 x5_ml0 x5_13).f4)]) x5_13 0 (some 5) 0 z88 rfl rfl rfl g8 g9 rfl rfl rfl) rfl (xs [] [] rfl rfl rfl (one1 12 rfl rfl (ov (EV.ix 0 rfl rfl rfl g8 g9 rfl) rfl (xs [] [] rfl rfl rfl (one1 13 rfl rfl ?_))))))))
         revert H; refine bdI ?_; intro s19 A19 H; have q19 := stl (Option.some.inj A19)
         refine op_stg x5_13 0 0 z88 (⟨(rd_T88 x5_ml0 x5_1).f0, (rd_T88 x5_ml0 x5_1).f1, (rd_T88 x5_ml0 x5_1).f2, (rd_T88 x5_ml0 x5_1).f3, (rd_T88 x5_ml0 x5_1).f4⟩ : S88) (Option.some.inj A19) rfl rfl rfl rfl g8 g9 rfl rfl rfl rfl dq rfl (rlT 0 (v' := .slice Al0 s19.length cl0) rfl (slq _ _ q19) (rlT 72 (v' := .slice Al0 s19.length cl0) rfl (slq _ _ q19) (rlT 74 (v' := .slice Al0 s19.length cl0) rfl (slq _ _ q19) (rlT 76 (v' := .slice Al0 s19.length cl0) rfl (slq _ _ q19) (rlT 80 (v' := .slice Al0 s19.length cl0) rfl (slq _ _ q19) (nmE (en := [.sl 1 k88 Al0 cl0 s19 1 true]) (by kernel_rfl) (xs [] [] rfl rfl rfl (one1 14 rfl rfl ?_))))))))
         revert H; refine ggI ?_; intro g20 H
         refine ov (EV.ix 0 rfl rfl rfl g6 g20 rfl) rfl (xn rfl (one1 15 rfl rfl ?_))
         revert H; refine bdI ?_; intro s21 A21 H; have q21 := stl (Option.some.inj A21)
         exact op_stg x5_1 0 0 z88 (⟨(rd_T88 x5_ml0 x5_13).f0, (rd_T88 x5_ml0 x5_13).f1, (rd_T88 x5_ml0 x5_13).f2, (rd_T88 x5_ml0 x5_13).f3, (rd_T88 x5_ml0 x5_13).f4⟩ : S88) (Option.some.inj A21) rfl rfl rfl rfl g6 g20 rfl rfl rfl rfl dq rfl (rlT 0 (v' := .slice Al0 s21.length cl0) rfl (slq _ _ q21) (rlT 72 (v' := .slice Al0 s21.length cl0) rfl (slq _ _ q21) (rlT 74 (v' := .slice Al0 s21.length cl0) rfl (slq _ _ q21) (rlT 76 (v' := .slice Al0 s21.length cl0) rfl (slq _ _ q21) (rlT 80 (v' := .slice Al0 s21.length cl0) rfl (slq _ _ q21) (nmE (en := [.sl 1 k88 Al0 cl0 s21 1 true]) (by kernel_rfl) (xn rfl (xd (pr [13] [] [0] rfl rfl rfl rfl (wk [13] [] [⟨0, 1, 1, false⟩] (jh3 _ ⟨_, s21, x5_13, by omega, H, (by first | rfl | assumption | omega | (simp only [List.length_set]; first | done | assumption | omega)), rfl⟩)))))))))))
        ·
         refine ov (EV.le (v := .agg #[.int .i64 ((rd_T88 x5_ml0 x5_13).f0), .int .i64 ((rd_T88 x5_ml0 x5_13).f1), .int .i64 ((rd_T88 x5_ml0 x5_13).f2), .int .i64 ((rd_T88 x5_ml0 x5_13).f3), .int .i64 ((rd_T88 x5_ml0 x5_13).f4)]) x5_13 0 (some 5) 0 z88 rfl rfl rfl g8 g9 rfl rfl rfl) rfl (xs [] [] rfl rfl rfl (one1 7 rfl rfl (ov (EV.le (v := .agg #[.int .i64 ((rd_T88 x5_ml0 x5_1).f0), .int .i64 ((rd_T88 x5_ml0 x5_1).f1), .int .i64 ((rd_T88 x5_ml0 x5_1).f2), .int .i64 ((rd_T88 x5_ml0 x5_1).f3), .int .i64 ((rd_T88 x5_ml0 x5_1).f4)]) x5_1 0 (some 5) 0 z88 rfl rfl rfl g6 g7 rfl rfl rfl) rfl (xs [] [] rfl rfl rfl (one1 12 rfl rfl (ov (EV.ix 0 rfl rfl rfl g8 g9 rfl) rfl (xs [] [] rfl rfl rfl (one1 13 rfl rfl ?_))))))))
         revert H; refine bdI ?_; intro s22 A22 H; have q22 := stl (Option.some.inj A22)
         refine op_stg x5_13 0 0 z88 (⟨(rd_T88 x5_ml0 x5_1).f0, (rd_T88 x5_ml0 x5_1).f1, (rd_T88 x5_ml0 x5_1).f2, (rd_T88 x5_ml0 x5_1).f3, (rd_T88 x5_ml0 x5_1).f4⟩ : S88) (Option.some.inj A22) rfl rfl rfl rfl g8 g9 rfl rfl rfl rfl dq rfl (rlT 0 (v' := .slice Al0 s22.length cl0) rfl (slq _ _ q22) (rlT 72 (v' := .slice Al0 s22.length cl0) rfl (slq _ _ q22) (rlT 74 (v' := .slice Al0 s22.length cl0) rfl (slq _ _ q22) (rlT 76 (v' := .slice Al0 s22.length cl0) rfl (slq _ _ q22) (rlT 80 (v' := .slice Al0 s22.length cl0) rfl (slq _ _ q22) (nmE (en := [.sl 1 k88 Al0 cl0 s22 1 true]) (by kernel_rfl) (xs [] [] rfl rfl rfl (one1 14 rfl rfl ?_))))))))
         revert H; refine ggI ?_; intro g23 H
         refine ov (EV.ix 0 rfl rfl rfl g6 g23 rfl) rfl (xn rfl (one1 15 rfl rfl ?_))
         revert H; refine bdI ?_; intro s24 A24 H; have q24 := stl (Option.some.inj A24)
         exact op_stg x5_1 0 0 z88 (⟨(rd_T88 x5_ml0 x5_13).f0, (rd_T88 x5_ml0 x5_13).f1, (rd_T88 x5_ml0 x5_13).f2, (rd_T88 x5_ml0 x5_13).f3, (rd_T88 x5_ml0 x5_13).f4⟩ : S88) (Option.some.inj A24) rfl rfl rfl rfl g6 g23 rfl rfl rfl rfl dq rfl (rlT 0 (v' := .slice Al0 s24.length cl0) rfl (slq _ _ q24) (rlT 72 (v' := .slice Al0 s24.length cl0) rfl (slq _ _ q24) (rlT 74 (v' := .slice Al0 s24.length cl0) rfl (slq _ _ q24) (rlT 76 (v' := .slice Al0 s24.length cl0) rfl (slq _ _ q24) (rlT 80 (v' := .slice Al0 s24.length cl0) rfl (slq _ _ q24) (nmE (en := [.sl 1 k88 Al0 cl0 s24 1 true]) (by kernel_rfl) (xn rfl (xd (pr [13] [] [0] rfl rfl rfl rfl (wk [13] [] [⟨0, 1, 1, false⟩] (jh3 _ ⟨_, s24, x5_13, by omega, H, (by first | rfl | assumption | omega | (simp only [List.length_set]; first | done | assumption | omega)), rfl⟩)))))))))))
       ·
        refine ov (EV.le (v := .agg #[.int .i64 ((rd_T88 x5_ml0 x5_13).f0), .int .i64 ((rd_T88 x5_ml0 x5_13).f1), .int .i64 ((rd_T88 x5_ml0 x5_13).f2), .int .i64 ((rd_T88 x5_ml0 x5_13).f3), .int .i64 ((rd_T88 x5_ml0 x5_13).f4)]) x5_13 0 (some 5) 0 z88 rfl rfl rfl g8 g9 rfl rfl rfl) rfl (xs [] [] rfl rfl rfl (one1 6 rfl rfl (ov (EV.ix 0 rfl rfl rfl g6 g7 rfl) rfl (xs [] [] rfl rfl rfl (one1 7 rfl rfl (ov (EV.le (v := .agg #[.int .i64 ((rd_T88 x5_ml0 x5_1).f0), .int .i64 ((rd_T88 x5_ml0 x5_1).f1), .int .i64 ((rd_T88 x5_ml0 x5_1).f2), .int .i64 ((rd_T88 x5_ml0 x5_1).f3), .int .i64 ((rd_T88 x5_ml0 x5_1).f4)]) x5_1 0 (some 5) 0 z88 rfl rfl rfl g6 g7 rfl rfl rfl) rfl (xs [] [] rfl rfl rfl (one1 12 rfl rfl (ov (EV.ix 0 rfl rfl rfl g8 g9 rfl) rfl (xs [] [] rfl rfl rfl (one1 13 rfl rfl ?_)))))))))))
        revert H; refine bdI ?_; intro s25 A25 H; have q25 := stl (Option.some.inj A25)
        refine op_stg x5_13 0 0 z88 (⟨(rd_T88 x5_ml0 x5_1).f0, (rd_T88 x5_ml0 x5_1).f1, (rd_T88 x5_ml0 x5_1).f2, (rd_T88 x5_ml0 x5_1).f3, (rd_T88 x5_ml0 x5_1).f4⟩ : S88) (Option.some.inj A25) rfl rfl rfl rfl g8 g9 rfl rfl rfl rfl dq rfl (rlT 0 (v' := .slice Al0 s25.length cl0) rfl (slq _ _ q25) (rlT 72 (v' := .slice Al0 s25.length cl0) rfl (slq _ _ q25) (rlT 74 (v' := .slice Al0 s25.length cl0) rfl (slq _ _ q25) (rlT 76 (v' := .slice Al0 s25.length cl0) rfl (slq _ _ q25) (rlT 80 (v' := .slice Al0 s25.length cl0) rfl (slq _ _ q25) (nmE (en := [.sl 1 k88 Al0 cl0 s25 1 true]) (by kernel_rfl) (xs [] [] rfl rfl rfl (one1 14 rfl rfl ?_))))))))
        revert H; refine ggI ?_; intro g26 H
        refine ov (EV.ix 0 rfl rfl rfl g6 g26 rfl) rfl (xn rfl (one1 15 rfl rfl ?_))
        revert H; refine bdI ?_; intro s27 A27 H; have q27 := stl (Option.some.inj A27)
        exact op_stg x5_1 0 0 z88 (⟨(rd_T88 x5_ml0 x5_13).f0, (rd_T88 x5_ml0 x5_13).f1, (rd_T88 x5_ml0 x5_13).f2, (rd_T88 x5_ml0 x5_13).f3, (rd_T88 x5_ml0 x5_13).f4⟩ : S88) (Option.some.inj A27) rfl rfl rfl rfl g6 g26 rfl rfl rfl rfl dq rfl (rlT 0 (v' := .slice Al0 s27.length cl0) rfl (slq _ _ q27) (rlT 72 (v' := .slice Al0 s27.length cl0) rfl (slq _ _ q27) (rlT 74 (v' := .slice Al0 s27.length cl0) rfl (slq _ _ q27) (rlT 76 (v' := .slice Al0 s27.length cl0) rfl (slq _ _ q27) (rlT 80 (v' := .slice Al0 s27.length cl0) rfl (slq _ _ q27) (nmE (en := [.sl 1 k88 Al0 cl0 s27 1 true]) (by kernel_rfl) (xn rfl (xd (pr [13] [] [0] rfl rfl rfl rfl (wk [13] [] [⟨0, 1, 1, false⟩] (jh3 _ ⟨_, s27, x5_13, by omega, H, (by first | rfl | assumption | omega | (simp only [List.length_set]; first | done | assumption | omega)), rfl⟩)))))))))))
    ·
     refine gf rfl (dF c4) (gk ?_)
     refine jo (fun S => ∃ (m : Nat) (x8_ml0 : List S88) (x8_1 : Int) (x8_12 : Int) (x8_13 : Int), m ≤ m3 ∧ slices_partitionCmpFunc_impl_Group_at93.j4 m x8_ml0 x8_1 x8_12 x8_13 = some (r0, r1, r2) ∧ x8_ml0.length = l0.length ∧ S = ⟨[(0, .slice Al0 x8_ml0.length cl0), (1, .int .i64 x8_1), (4, .func (.func 93) #[] #[]), (12, .int .i64 x8_12), (13, .int .i64 x8_13)], [], [.sl 1 k88 Al0 cl0 x8_ml0 1 false]⟩) (fun S hS => ?_) (fun jh4 => ?_)
     ·
      clear H
      obtain ⟨m28, x8_ml0, x8_1, x8_12, x8_13, lm28, H, ex8_ml0, rfl⟩ := hS
      rcases m28 with _ | m28
      · rw [slices_partitionCmpFunc_impl_Group_at93.j4] at H; cases H
      rw [slices_partitionCmpFunc_impl_Group_at93.j4] at H
      refine gs (rg (sv (EV.mv rfl) rfl (sv (EV.add rfl rfl) rfl (sv (EV.as rfl) rfl (re (gs (rg (sv (EV.mv rfl) rfl (sv (EV.sub rfl rfl) rfl (sv (EV.as rfl) rfl (re (gs (gb ?_)))))))))))))
      refine lo (fun kk S => ∃ (x24_ml0 : List S88) (x24_1 : Int) (x24_12 : Int) (x24_13 : Int), kk ≤ m28 ∧ slices_partitionCmpFunc_impl_Group_at93.l0 kk x24_ml0 x24_1 x24_12 x24_13 = some (r0, r1, r2) ∧ x24_ml0.length = l0.length ∧ S = ⟨[(0, .slice Al0 x24_ml0.length cl0), (1, .int .i64 x24_1), (4, .func (.func 93) #[] #[]), (12, .int .i64 x24_12), (13, .int .i64 x24_13)], [], [.sl 1 k88 Al0 cl0 x24_ml0 1 false]⟩) (fun S hS => ?_) (fun n0 ih0 S hS => ?_) ⟨x8_ml0, x8_1, wrap64 (x8_12 + 1), wrap64 (x8_13 - 1), by omega, H, (by first | rfl | assumption | omega | (simp only [List.length_set]; first | done | assumption | omega)), rfl⟩ (fun h => wk [0, 1, 4, 12, 13] [] [⟨0, 1, 1, false⟩] h)
      · clear H; obtain ⟨_, _, _, _, _, H, _⟩ := hS; rw [slices_partitionCmpFunc_impl_Group_at93.l0] at H; cases H
      clear H
      obtain ⟨x24_ml0, x24_1, x24_12, x24_13, lk0, H, ex24_ml0, rfl⟩ := hS
      rw [slices_partitionCmpFunc_impl_Group_at93.l0] at H
      refine gb ?_
      refine jo (fun S => ∃ (m : Nat) (x34_ml0 : List S88) (x34_1 : Int) (x34_12 : Int) (x34_13 : Int), m ≤ n0 ∧ slices_partitionCmpFunc_impl_Group_at93.j5 m x34_ml0 x34_1 x34_12 x34_13 = some (r0, r1, r2) ∧ x34_ml0.length = l0.length ∧ S = ⟨[(0, .slice Al0 x34_ml0.length cl0), (1, .int .i64 x34_1), (4, .func (.func 93) #[] #[]), (12, .int .i64 x34_12), (13, .int .i64 x34_13)], [], [.sl 1 k88 Al0 cl0 x34_ml0 1 false]⟩) (fun S hS => ?_) (fun jh5 => ?_)
      ·
       clear H
       obtain ⟨m29, x34_ml0, x34_1, x34_12, x34_13, lm29, H, ex34_ml0, rfl⟩ := hS
       rcases m29 with _ | m29
       · rw [slices_partitionCmpFunc_impl_Group_at93.j5] at H; cases H
       rw [slices_partitionCmpFunc_impl_Group_at93.j5] at H
       refine jo (fun S => ∃ (m : Nat) (x36_ml0 : List S88) (x36_1 : Int) (x36_12 : Int) (x36_13 : Int), m ≤ m29 ∧ slices_partitionCmpFunc_impl_Group_at93.j6 m x36_ml0 x36_1 x36_12 x36_13 = some (r0, r1, r2) ∧ x36_ml0.length = l0.length ∧ S = ⟨[(0, .slice Al0 x36_ml0.length cl0), (1, .int .i64 x36_1), (4, .func (.func 93) #[] #[]), (12, .int .i64 x36_12), (13, .int .i64 x36_13)], [], [.sl 1 k88 Al0 cl0 x36_ml0 1 false]⟩) (fun S hS => ?_) (fun jh6 => ?_)
       ·
        clear H
        obtain ⟨m30, x36_ml0, x36_1, x36_12, x36_13, lm30, H, ex36_ml0, rfl⟩ := hS
        rcases m30 with _ | m30
        · rw [slices_partitionCmpFunc_impl_Group_at93.j6] at H; cases H
        rw [slices_partitionCmpFunc_impl_Group_at93.j6] at H
        refine gs (gs (rg (sv (EV.mv rfl) rfl (sv (EV.mv rfl) rfl (sv (EV.gtr rfl rfl) rfl (re ?_))))))
        revert H; refine ifsI ?_ ?_ <;> intro c31 H
        ·
         refine gt rfl (dT c31) (gx rfl ?_)
         refine jo (fun S => ∃ (m : Nat) (x37_ml0 : List S88) (x37_13 : Int), m ≤ m30 ∧ slices_partitionCmpFunc_impl_Group_at93.j7 m x37_ml0 x37_13 = some (r0, r1, r2) ∧ x37_ml0.length = l0.length ∧ S = ⟨[(13, .int .i64 x37_13)], [], [.sl 1 k88 Al0 cl0 x37_ml0 1 false]⟩) (fun S hS => ?_) (fun jh7 => ?_)
         ·
          clear H
          obtain ⟨m32, x37_ml0, x37_13, lm32, H, ex37_ml0, rfl⟩ := hS
          rcases m32 with _ | m32
          · rw [slices_partitionCmpFunc_impl_Group_at93.j7] at H; cases H
          rw [slices_partitionCmpFunc_impl_Group_at93.j7] at H
          refine gs (rg (sv (EV.mv rfl) rfl (sv (EV.as rfl) rfl (sv (EV.as rfl) rfl (re ?_)))))
          cases H
          exact rt Try.func111 rfl (.tmp rfl (.tmp rfl .nil)) rfl [] [⟨0, 1, 1, false⟩] rfl rfl rfl rfl rfl ⟨rfl, rfl, rfl, by first | rfl | assumption | omega | (simp only [List.length_set]; first | done | assumption | omega)⟩
         ·
          revert H; refine ggI ?_; intro g33 H
          revert H; refine ggI ?_; intro g34 H
          revert H; refine ggI ?_; intro g35 H
          revert H; refine ggI ?_; intro g36 H
          refine dr [] [] [14, 15] 16 rfl rfl rfl rfl (xv 0 [] [] rfl (EV.mv rfl) rfl rfl rfl rfl (xv 1 [] [] rfl (EV.mv rfl) rfl rfl rfl rfl (xv 2 [] [] rfl (EV.mv rfl) rfl rfl rfl rfl (xv 3 [] [] rfl (EV.mv rfl) rfl rfl rfl rfl (xv 4 [] [] rfl (EV.mv rfl) rfl rfl rfl rfl (xv 5 [] [] rfl (EV.mv rfl) rfl rfl rfl rfl (xv 8 [] [] rfl (EV.mv rfl) rfl rfl rfl rfl (xv 9 [] [] rfl (EV.mv rfl) rfl rfl rfl rfl ?_))))))))
          refine one2 6 10 rfl rfl rfl rfl ?_ ?_
          ·
           refine ov (EV.ix 0 rfl rfl rfl g33 g34 rfl) rfl (xs [] [] rfl rfl rfl ?_)
           refine one2 7 10 rfl rfl rfl rfl ?_ ?_
           ·
            refine ov (EV.le (v := .agg #[.int .i64 ((rd_T88 x36_ml0 x36_1).f0), .int .i64 ((rd_T88 x36_ml0 x36_1).f1), .int .i64 ((rd_T88 x36_ml0 x36_1).f2), .int .i64 ((rd_T88 x36_ml0 x36_1).f3), .int .i64 ((rd_T88 x36_ml0 x36_1).f4)]) x36_1 0 (some 5) 0 z88 rfl rfl rfl g33 g34 rfl rfl rfl) rfl (xs [] [] rfl rfl rfl (one1 10 rfl rfl (ov (EV.ix 0 rfl rfl rfl g35 g36 rfl) rfl (xs [] [] rfl rfl rfl (one1 11 rfl rfl (ov (EV.le (v := .agg #[.int .i64 ((rd_T88 x36_ml0 x36_13).f0), .int .i64 ((rd_T88 x36_ml0 x36_13).f1), .int .i64 ((rd_T88 x36_ml0 x36_13).f2), .int .i64 ((rd_T88 x36_ml0 x36_13).f3), .int .i64 ((rd_T88 x36_ml0 x36_13).f4)]) x36_13 0 (some 5) 0 z88 rfl rfl rfl g35 g36 rfl rfl rfl) rfl (xs [] [] rfl rfl rfl (one1 12 rfl rfl (ov (EV.ix 0 rfl rfl rfl g35 g36 rfl) rfl (xs [] [] rfl rfl rfl (one1 13 rfl rfl ?_)))))))))))
            revert H; refine bdI ?_; intro s37 A37 H; have q37 := stl (Option.some.inj A37)
            refine op_stg x36_13 0 0 z88 (⟨(rd_T88 x36_ml0 x36_1).f0, (rd_T88 x36_ml0 x36_1).f1, (rd_T88 x36_ml0 x36_1).f2, (rd_T88 x36_ml0 x36_1).f3, (rd_T88 x36_ml0 x36_1).f4⟩ : S88) (Option.some.inj A37) rfl rfl rfl rfl g35 g36 rfl rfl rfl rfl dq rfl (rlT 0 (v' := .slice Al0 s37.length cl0) rfl (slq _ _ q37) (rlT 163 (v' := .slice Al0 s37.length cl0) rfl (slq _ _ q37) (rlT 165 (v' := .slice Al0 s37.length cl0) rfl (slq _ _ q37) (rlT 167 (v' := .slice Al0 s37.length cl0) rfl (slq _ _ q37) (rlT 171 (v' := .slice Al0 s37.length cl0) rfl (slq _ _ q37) (nmE (en := [.sl 1 k88 Al0 cl0 s37 1 true]) (by kernel_rfl) (xs [] [] rfl rfl rfl (one1 14 rfl rfl ?_))))))))
            revert H; refine ggI ?_; intro g38 H
            refine ov (EV.ix 0 rfl rfl rfl g33 g38 rfl) rfl (xn rfl (one1 15 rfl rfl ?_))
            revert H; refine bdI ?_; intro s39 A39 H; have q39 := stl (Option.some.inj A39)
            exact op_stg x36_1 0 0 z88 (⟨(rd_T88 x36_ml0 x36_13).f0, (rd_T88 x36_ml0 x36_13).f1, (rd_T88 x36_ml0 x36_13).f2, (rd_T88 x36_ml0 x36_13).f3, (rd_T88 x36_ml0 x36_13).f4⟩ : S88) (Option.some.inj A39) rfl rfl rfl rfl g33 g38 rfl rfl rfl rfl dq rfl (rlT 0 (v' := .slice Al0 s39.length cl0) rfl (slq _ _ q39) (rlT 163 (v' := .slice Al0 s39.length cl0) rfl (slq _ _ q39) (rlT 165 (v' := .slice Al0 s39.length cl0) rfl (slq _ _ q39) (rlT 167 (v' := .slice Al0 s39.length cl0) rfl (slq _ _ q39) (rlT 171 (v' := .slice Al0 s39.length cl0) rfl (slq _ _ q39) (nmE (en := [.sl 1 k88 Al0 cl0 s39 1 true]) (by kernel_rfl) (xn rfl (xd (pr [13] [] [0] rfl rfl rfl rfl (wk [13] [] [⟨0, 1, 1, false⟩] (jh7 _ ⟨_, s39, x36_13, by omega, H, (by first | rfl | assumption | omega | (simp only [List.length_set]; first | done | assumption | omega)), rfl⟩)))))))))))
           ·
            refine ov (EV.ix 0 rfl rfl rfl g35 g36 rfl) rfl (xs [] [] rfl rfl rfl ?_)
            refine one2 7 11 rfl rfl rfl rfl ?_ ?_
            ·
             refine ov (EV.le (v := .agg #[.int .i64 ((rd_T88 x36_ml0 x36_1).f0), .int .i64 ((rd_T88 x36_ml0 x36_1).f1), .int .i64 ((rd_T88 x36_ml0 x36_1).f2), .int .i64 ((rd_T88 x36_ml0 x36_1).f3), .int .i64 ((rd_T88 x36_ml0 x36_1).f4)]) x36_1 0 (some 5) 0 z88 rfl rfl rfl g33 g34 rfl rfl rfl) rfl (xs [] [] rfl rfl rfl (one1 11 rfl rfl (ov (EV.le (v := .agg #[.int .i64 ((rd_T88 x36_ml0 x36_13).f0), .int .i64 ((rd_T88 x36_ml0 x36_13).f1), .int .i64 ((rd_T88 x36_ml0 x36_13).f2), .int .i64 ((rd_T88 x36_ml0 x36_13).f3), .int .i64 ((rd_T88 x36_ml0 x36_13).f4)]) x36_13 0 (some 5) 0 z88 rfl rfl rfl g35 g36 rfl rfl rfl) rfl (xs [] [] rfl rfl rfl (one1 12 rfl rfl (ov (EV.ix 0 rfl rfl rfl g35 g36 rfl) rfl (xs [] [] rfl rfl rfl (one1 13 rfl rfl ?_))))))))
             revert H; refine bdI ?_; intro s40 A40 H; have q40 := stl (Option.some.inj A40)
             refine op_stg x36_13 0 0 z88 (⟨(rd_T88 x36_ml0 x36_1).f0, (rd_T88 x36_ml0 x36_1).f1, (rd_T88 x36_ml0 x36_1).f2, (rd_T88 x36_ml0 x36_1).f3, (rd_T88 x36_ml0 x36_1).f4⟩ : S88) (Option.some.inj A40) rfl rfl rfl rfl g35 g36 rfl rfl rfl rfl dq rfl (rlT 0 (v' := .slice Al0 s40.length cl0) rfl (slq _ _ q40) (rlT 163 (v' := .slice Al0 s40.length cl0) rfl (slq _ _ q40) (rlT 165 (v' := .slice Al0 s40.length cl0) rfl (slq _ _ q40) (rlT 167 (v' := .slice Al0 s40.length cl0) rfl (slq _ _ q40) (rlT 171 (v' := .slice Al0 s40.length cl0) rfl (slq _ _ q40) (nmE (en := [.sl 1 k88 Al0 cl0 s40 1 true]) (by kernel_rfl) (xs [] [] rfl rfl rfl (one1 14 rfl rfl ?_))))))))
             revert H; refine ggI ?_; intro g41 H
             refine ov (EV.ix 0 rfl rfl rfl g33 g41 rfl) rfl (xn rfl (one1 15 rfl rfl ?_))
             revert H; refine bdI ?_; intro s42 A42 H; have q42 := stl (Option.some.inj A42)
             exact op_stg x36_1 0 0 z88 (⟨(rd_T88 x36_ml0 x36_13).f0, (rd_T88 x36_ml0 x36_13).f1, (rd_T88 x36_ml0 x36_13).f2, (rd_T88 x36_ml0 x36_13).f3, (rd_T88 x36_ml0 x36_13).f4⟩ : S88) (Option.some.inj A42) rfl rfl rfl rfl g33 g41 rfl rfl rfl rfl dq rfl (rlT 0 (v' := .slice Al0 s42.length cl0) rfl (slq _ _ q42) (rlT 163 (v' := .slice Al0 s42.length cl0) rfl (slq _ _ q42) (rlT 165 (v' := .slice Al0 s42.length cl0) rfl (slq _ _ q42) (rlT 167 (v' := .slice Al0 s42.length cl0) rfl (slq _ _ q42) (rlT 171 (v' := .slice Al0 s42.length cl0) rfl (slq _ _ q42) (nmE (en := [.sl 1 k88 Al0 cl0 s42 1 true]) (by kernel_rfl) (xn rfl (xd (pr [13] [] [0] rfl rfl rfl rfl (wk [13] [] [⟨0, 1, 1, false⟩] (jh7 _ ⟨_, s42, x36_13, by omega, H, (by first | rfl | assumption | omega | (simp only [List.length_set]; first | done | assumption | omega)), rfl⟩)))))))))))
            ·
             refine ov (EV.le (v := .agg #[.int .i64 ((rd_T88 x36_ml0 x36_13).f0), .int .i64 ((rd_T88 x36_ml0 x36_13).f1), .int .i64 ((rd_T88 x36_ml0 x36_13).f2), .int .i64 ((rd_T88 x36_ml0 x36_13).f3), .int .i64 ((rd_T88 x36_ml0 x36_13).f4)]) x36_13 0 (some 5) 0 z88 rfl rfl rfl g35 g36 rfl rfl rfl) rfl (xs [] [] rfl rfl rfl (one1 7 rfl rfl (ov (EV.le (v := .agg #[.int .i64 ((rd_T88 x36_ml0 x36_1).f0), .int .i64 ((rd_T88 x36_ml0 x36_1).f1), .int .i64 ((rd_T88 x36_ml0 x36_1).f2), .int .i64 ((rd_T88 x36_ml0 x36_1).f3), .int .i64 ((rd_T88 x36_ml0 x36_1).f4)]) x36_1 0 (some 5) 0 z88 rfl rfl rfl g33 g34 rfl rfl rfl) rfl (xs [] [] rfl rfl rfl (one1 12 rfl rfl (ov (EV.ix 0 rfl rfl rfl g35 g36 rfl) rfl (xs [] [] rfl rfl rfl (one1 13 rfl rfl ?_))))))))
             revert H; refine bdI ?_; intro s43 A43 H; have q43 := stl (Option.some.inj A43)
             refine op_stg x36_13 0 0 z88 (⟨(rd_T88 x36_ml0 x36_1).f0, (rd_T88 x36_ml0 x36_1).f1, (rd_T88 x36_ml0 x36_1).f2, (rd_T88 x36_ml0 x36_1).f3, (rd_T88 x36_ml0 x36_1).f4⟩ : S88) (Option.some.inj A43) rfl rfl rfl rfl g35 g36 rfl rfl rfl rfl dq rfl (rlT 0 (v' := .slice Al0 s43.length cl0) rfl (slq _ _ q43) (rlT 163 (v' := .slice Al0 s43.length cl0) rfl (slq _ _ q43) (rlT 165 (v' := .slice Al0 s43.length cl0) rfl (slq _ _ q43) (rlT 167 (v' := .slice Al0 s43.length cl0) rfl (slq _ _ q43) (rlT 171 (v' := .slice Al0 s43.length cl0) rfl (slq _ _ q43) (nmE (en := [.sl 1 k88 Al0 cl0 s43 1 true]) (by kernel_rfl) (xs [] [] rfl rfl rfl (one1 14 rfl rfl ?_))))))))
             revert H; refine ggI ?_; intro g44 H
             refine ov (EV.ix 0 rfl rfl rfl g33 g44 rfl) rfl (xn rfl (one1 15 rfl rfl ?_))
             revert H; refine bdI ?_; intro s45 A45 H; have q45 := stl (Option.some.inj A45)
             exact op_stg x36_1 0 0 z88 (⟨(rd_T88 x36_ml0 x36_13).f0, (rd_T88 x36_ml0 x36_13).f1, (rd_T88 x36_ml0 x36_13).f2, (rd_T88 x36_ml0 x36_13).f3, (rd_T88 x36_ml0 x36_13).f4⟩ : S88) (Option.some.inj A45) rfl rfl rfl rfl g33 g44 rfl rfl rfl rfl dq rfl (rlT 0 (v' := .slice Al0 s45.length cl0) rfl (slq _ _ q45) (rlT 163 (v' := .slice Al0 s45.length cl0) rfl (slq _ _ q45) (rlT 165 (v' := .slice Al0 s45.length cl0) rfl (slq _ _ q45) (rlT 167 (v' := .slice Al0 s45.length cl0) rfl (slq _ _ q45) (rlT 171 (v' := .slice Al0 s45.length cl0) rfl (slq _ _ q45) (nmE (en := [.sl 1 k88 Al0 cl0 s45 1 true]) (by kernel_rfl) (xn rfl (xd (pr [13] [] [0] rfl rfl rfl rfl (wk [13] [] [⟨0, 1, 1, false⟩] (jh7 _ ⟨_, s45, x36_13, by omega, H, (by first | rfl | assumption | omega | (simp only [List.length_set]; first | done | assumption | omega)), rfl⟩)))))))))))
          ·
           refine ov (EV.ix 0 rfl rfl rfl g35 g36 rfl) rfl (xs [] [] rfl rfl rfl ?_)
           refine one2 6 11 rfl rfl rfl rfl ?_ ?_
           ·
            refine ov (EV.ix 0 rfl rfl rfl g33 g34 rfl) rfl (xs [] [] rfl rfl rfl ?_)
            refine one2 7 11 rfl rfl rfl rfl ?_ ?_
            ·
             refine ov (EV.le (v := .agg #[.int .i64 ((rd_T88 x36_ml0 x36_1).f0), .int .i64 ((rd_T88 x36_ml0 x36_1).f1), .int .i64 ((rd_T88 x36_ml0 x36_1).f2), .int .i64 ((rd_T88 x36_ml0 x36_1).f3), .int .i64 ((rd_T88 x36_ml0 x36_1).f4)]) x36_1 0 (some 5) 0 z88 rfl rfl rfl g33 g34 rfl rfl rfl) rfl (xs [] [] rfl rfl rfl (one1 11 rfl rfl (ov (EV.le (v := .agg #[.int .i64 ((rd_T88 x36_ml0 x36_13).f0), .int .i64 ((rd_T88 x36_ml0 x36_13).f1), .int .i64 ((rd_T88 x36_ml0 x36_13).f2), .int .i64 ((rd_T88 x36_ml0 x36_13).f3), .int .i64 ((rd_T88 x36_ml0 x36_13).f4)]) x36_13 0 (some 5) 0 z88 rfl rfl rfl g35 g36 rfl rfl rfl) rfl (xs [] [] rfl rfl rfl (one1 12 rfl rfl (ov (EV.ix 0 rfl rfl rfl g35 g36 rfl) rfl (xs [] [] rfl rfl rfl (one1 13 rfl rfl ?_))))))))
             revert H; refine bdI ?_; intro s46 A46 H; have q46 := stl (Option.some.inj A46)
             refine op_stg x36_13 0 0 z88 (⟨(rd_T88 x36_ml0 x36_1).f0, (rd_T88 x36_ml0 x36_1).f1, (rd_T88 x36_ml0 x36_1).f2, (rd_T88 x36_ml0 x36_1).f3, (rd_T88 x36_ml0 x36_1).f4⟩ : S88) (Option.some.inj A46) rfl rfl rfl rfl g35 g36 rfl rfl rfl rfl dq rfl (rlT 0 (v' := .slice Al0 s46.length cl0) rfl (slq _ _ q46) (rlT 163 (v' := .slice Al0 s46.length cl0) rfl (slq _ _ q46) (rlT 165 (v' := .slice Al0 s46.length cl0) rfl (slq _ _ q46) (rlT 167 (v' := .slice Al0 s46.length cl0) rfl (slq _ _ q46) (rlT 171 (v' := .slice Al0 s46.length cl0) rfl (slq _ _ q46) (nmE (en := [.sl 1 k88 Al0 cl0 s46 1 true]) (by kernel_rfl) (xs [] [] rfl rfl rfl (one1 14 rfl rfl ?_))))))))
             revert H; refine ggI ?_; intro g47 H
             refine ov (EV.ix 0 rfl rfl rfl g33 g47 rfl) rfl (xn rfl (one1 15 rfl rfl ?_))
             revert H; refine bdI ?_; intro s48 A48 H; have q48 := stl (Option.some.inj A48)
             exact op_stg x36_1 0 0 z88 (⟨(rd_T88 x36_ml0 x36_13).f0, (rd_T88 x36_ml0 x36_13).f1, (rd_T88 x36_ml0 x36_13).f2, (rd_T88 x36_ml0 x36_13).f3, (rd_T88 x36_ml0 x36_13).f4⟩ : S88) (Option.some.inj A48) rfl rfl rfl rfl g33 g47 rfl rfl rfl rfl dq rfl (rlT 0 (v' := .slice Al0 s48.length cl0) rfl (slq _ _ q48) (rlT 163 (v' := .slice Al0 s48.length cl0) rfl (slq _ _ q48) (rlT 165 (v' := .slice Al0 s48.length cl0) rfl (slq _ _ q48) (rlT 167 (v' := .slice Al0 s48.length cl0) rfl (slq _ _ q48) (rlT 171 (v' := .slice Al0 s48.length cl0) rfl (slq _ _ q48) (nmE (en := [.sl 1 k88 Al0 cl0 s48 1 true]) (by kernel_rfl) (xn rfl (xd (pr [13] [] [0] rfl rfl rfl rfl (wk [13] [] [⟨0, 1, 1, false⟩] (jh7 _ ⟨_, s48, x36_13, by omega, H, (by first | rfl | assumption | omega | (simp only [List.length_set]; first | done | assumption | omega)), rfl⟩)))))))))))
            ·
             refine ov (EV.le (v := .agg #[.int .i64 ((rd_T88 x36_ml0 x36_13).f0), .int .i64 ((rd_T88 x36_ml0 x36_13).f1), .int .i64 ((rd_T88 x36_ml0 x36_13).f2), .int .i64 ((rd_T88 x36_ml0 x36_13).f3), .int .i64 ((rd_T88 x36_ml0 x36_13).f4)]) x36_13 0 (some 5) 0 z88 rfl rfl rfl g35 g36 rfl rfl rfl) rfl (xs [] [] rfl rfl rfl (one1 7 rfl rfl (ov (EV.le (v := .agg #[.int .i64 ((rd_T88 x36_ml0 x36_1).f0), .int .i64 ((rd_T88 x36_ml0 x36_1).f1), .int .i64 ((rd_T88 x36_ml0 x36_1).f2), .int .i64 ((rd_T88 x36_ml0 x36_1).f3), .int .i64 ((rd_T88 x36_ml0 x36_1).f4)]) x36_1 0 (some 5) 0 z88 rfl rfl rfl g33 g34 rfl rfl rfl) rfl (xs [] [] rfl rfl rfl (one1 12 rfl rfl (ov (EV.ix 0 rfl rfl rfl g35 g36 rfl) rfl (xs [] [] rfl rfl rfl (one1 13 rfl rfl ?_))))))))
             revert H; refine bdI ?_; intro s49 A49 H; have q49 := stl (Option.some.inj A49)
             refine op_stg x36_13 0 0 z88 (⟨(rd_T88 x36_ml0 x36_1).f0, (rd_T88 x36_ml0 x36_1).f1, (rd_T88 x36_ml0 x36_1).f2, (rd_T88 x36_ml0 x36_1).f3, (rd_T88 x36_ml0 x36_1).f4⟩ : S88) (Option.some.inj A49) rfl rfl rfl rfl g35 g36 rfl rfl rfl rfl dq rfl (rlT 0 (v' := .slice Al0 s49.length cl0) rfl (slq _ _ q49) (rlT 163 (v' := .slice Al0 s49.length cl0) rfl (slq _ _ q49) (rlT 165 (v' := .slice Al0 s49.length cl0) rfl (slq _ _ q49) (rlT 167 (v' := .slice Al0 s49.length cl0) rfl (slq _ _ q49) (rlT 171 (v' := .slice Al0 s49.length cl0) rfl (slq _ _ q49) (nmE (en := [.sl 1 k88 Al0 cl0 s49 1 true]) (by kernel_rfl) (xs [] [] rfl rfl rfl (one1 14 rfl rfl ?_))))))))
             revert H; refine ggI ?_; intro g50 H
             refine ov (EV.ix 0 rfl rfl rfl g33 g50 rfl) rfl (xn rfl (one1 15 rfl rfl ?_))
             revert H; refine bdI ?_; intro s51 A51 H; have q51 := stl (Option.some.inj A51)
             exact op_stg x36_1 0 0 z88 (⟨(rd_T88 x36_ml0 x36_13).f0, (rd_T88 x36_ml0 x36_13).f1, (rd_T88 x36_ml0 x36_13).f2, (rd_T88 x36_ml0 x36_13).f3, (rd_T88 x36_ml0 x36_13).f4⟩ : S88) (Option.some.inj A51) rfl rfl rfl rfl g33 g50 rfl rfl rfl rfl dq rfl (rlT 0 (v' := .slice Al0 s51.length cl0) rfl (slq _ _ q51) (rlT 163 (v' := .slice Al0 s51.length cl0) rfl (slq _ _ q51) (rlT 165 (v' := .slice Al0 s51.length cl0) rfl (slq _ _ q51) (rlT 167 (v' := .slice Al0 s51.length cl0) rfl (slq _ _ q51) (rlT 171 (v' := .slice Al0 s51.length cl0) rfl (slq _ _ q51) (nmE (en := [.sl 1 k88 Al0 cl0 s51 1 true]) (by kernel_rfl) (xn rfl (xd (pr [13] [] [0] rfl rfl rfl rfl (wk [13] [] [⟨0, 1, 1, false⟩] (jh7 _ ⟨_, s51, x36_13, by omega, H, (by first | rfl | assumption | omega | (simp only [List.length_set]; first | done | assumption | omega)), rfl⟩)))))))))))
           ·
            refine ov (EV.le (v := .agg #[.int .i64 ((rd_T88 x36_ml0 x36_13).f0), .int .i64 ((rd_T88 x36_ml0 x36_13).f1), .int .i64 ((rd_T88 x36_ml0 x36_13).f2), .int .i64 ((rd_T88 x36_ml0 x36_13).f3), .int .i64 ((rd_T88 x36_ml0 x36_13).f4)]) x36_13 0 (some 5) 0 z88 rfl rfl rfl g35 g36 rfl rfl rfl) rfl (xs [] [] rfl rfl rfl (one1 6 rfl rfl (ov (EV.ix 0 rfl rfl rfl g33 g34 rfl) rfl (xs [] [] rfl rfl rfl (one1 7 rfl rfl (ov (EV.le (v := .agg #[.int .i64 ((rd_T88 x36_ml0 x36_1).f0), .int .i64 ((rd_T88 x36_ml0 x36_1).f1), .int .i64 ((rd_T88 x36_ml0 x36_1).f2), .int .i64 ((rd_T88 x36_ml0 x36_1).f3), .int .i64 ((rd_T88 x36_ml0 x36_1).f4)]) x36_1 0 (some 5) 0 z88 rfl rfl rfl g33 g34 rfl rfl rfl) rfl (xs [] [] rfl rfl rfl (one1 12 rfl rfl (ov (EV.ix 0 rfl rfl rfl g35 g36 rfl) rfl (xs [] [] rfl rfl rfl (one1 13 rfl rfl ?_)))))))))))
            revert H; refine bdI ?_; intro s52 A52 H; have q52 := stl (Option.some.inj A52)
            refine op_stg x36_13 0 0 z88 (⟨(rd_T88 x36_ml0 x36_1).f0, (rd_T88 x36_ml0 x36_1).f1, (rd_T88 x36_ml0 x36_1).f2, (rd_T88 x36_ml0 x36_1).f3, (rd_T88 x36_ml0 x36_1).f4⟩ : S88) (Option.some.inj A52) rfl rfl rfl rfl g35 g36 rfl rfl rfl rfl dq rfl (rlT 0 (v' := .slice Al0 s52.length cl0) rfl (slq _ _ q52) (rlT 163 (v' := .slice Al0 s52.length cl0) rfl (slq _ _ q52) (rlT 165 (v' := .slice Al0 s52.length cl0) rfl (slq _ _ q52) (rlT 167 (v' := .slice Al0 s52.length cl0) rfl (slq _ _ q52) (rlT 171 (v' := .slice Al0 s52.length cl0) rfl (slq _ _ q52) (nmE (en := [.sl 1 k88 Al0 cl0 s52 1 true]) (by kernel_rfl) (xs [] [] rfl rfl rfl (one1 14 rfl rfl ?_))))))))
            revert H; refine ggI ?_; intro g53 H
            refine ov (EV.ix 0 rfl rfl rfl g33 g53 rfl) rfl (xn rfl (one1 15 rfl rfl ?_))
            revert H; refine bdI ?_; intro s54 A54 H; have q54 := stl (Option.some.inj A54)
            exact op_stg x36_1 0 0 z88 (⟨(rd_T88 x36_ml0 x36_13).f0, (rd_T88 x36_ml0 x36_13).f1, (rd_T88 x36_ml0 x36_13).f2, (rd_T88 x36_ml0 x36_13).f3, (rd_T88 x36_ml0 x36_13).f4⟩ : S88) (Option.some.inj A54) rfl rfl rfl rfl g33 g53 rfl rfl rfl rfl dq rfl (rlT 0 (v' := .slice Al0 s54.length cl0) rfl (slq _ _ q54) (rlT 163 (v' := .slice Al0 s54.length cl0) rfl (slq _ _ q54) (rlT 165 (v' := .slice Al0 s54.length cl0) rfl (slq _ _ q54) (rlT 167 (v' := .slice Al0 s54.length cl0) rfl (slq _ _ q54) (rlT 171 (v' := .slice Al0 s54.length cl0) rfl (slq _ _ q54) (nmE (en := [.sl 1 k88 Al0 cl0 s54 1 true]) (by kernel_rfl) (xn rfl (xd (pr [13] [] [0] rfl rfl rfl rfl (wk [13] [] [⟨0, 1, 1, false⟩] (jh7 _ ⟨_, s54, x36_13, by omega, H, (by first | rfl | assumption | omega | (simp only [List.length_set]; first | done | assumption | omega)), rfl⟩)))))))))))
        ·
         refine gf rfl (dF c31) (gk ?_)
         refine jo (fun S => ∃ (m : Nat) (x38_ml0 : List S88) (x38_1 : Int) (x38_12 : Int) (x38_13 : Int), m ≤ m30 ∧ slices_partitionCmpFunc_impl_Group_at93.j8 m x38_ml0 x38_1 x38_12 x38_13 = some (r0, r1, r2) ∧ x38_ml0.length = l0.length ∧ S = ⟨[(0, .slice Al0 x38_ml0.length cl0), (1, .int .i64 x38_1), (4, .func (.func 93) #[] #[]), (12, .int .i64 x38_12), (13, .int .i64 x38_13)], [], [.sl 1 k88 Al0 cl0 x38_ml0 1 false]⟩) (fun S hS => ?_) (fun jh8 => ?_)
         ·
          clear H
          obtain ⟨m55, x38_ml0, x38_1, x38_12, x38_13, lm55, H, ex38_ml0, rfl⟩ := hS
          rcases m55 with _ | m55
          · rw [slices_partitionCmpFunc_impl_Group_at93.j8] at H; cases H
          rw [slices_partitionCmpFunc_impl_Group_at93.j8] at H
          exact gs (rg (sv (EV.mv rfl) rfl (sv (EV.add rfl rfl) rfl (sv (EV.as rfl) rfl (re (rg (sv (EV.mv rfl) rfl (sv (EV.sub rfl rfl) rfl (sv (EV.as rfl) rfl (re (ge (wk [0, 1, 4, 12, 13] [] [⟨0, 1, 1, false⟩] (ih0 _ (by omega) _ ⟨x38_ml0, x38_1, wrap64 (x38_12 + 1), wrap64 (x38_13 - 1), by omega, H, (by first | rfl | assumption | omega | (simp only [List.length_set]; first | done | assumption | omega)), rfl⟩)))))))))))))
         ·
          revert H; refine ggI ?_; intro g56 H
          revert H; refine ggI ?_; intro g57 H
          revert H; refine ggI ?_; intro g58 H
          revert H; refine ggI ?_; intro g59 H
          refine dr [] [] [14, 15] 16 rfl rfl rfl rfl (xv 0 [] [] rfl (EV.mv rfl) rfl rfl rfl rfl (xv 1 [] [] rfl (EV.mv rfl) rfl rfl rfl rfl (xv 2 [] [] rfl (EV.mv rfl) rfl rfl rfl rfl (xv 3 [] [] rfl (EV.mv rfl) rfl rfl rfl rfl (xv 4 [] [] rfl (EV.mv rfl) rfl rfl rfl rfl (xv 5 [] [] rfl (EV.mv rfl) rfl rfl rfl rfl (xv 8 [] [] rfl (EV.mv rfl) rfl rfl rfl rfl (xv 9 [] [] rfl (EV.mv rfl) rfl rfl rfl rfl ?_))))))))
          refine one2 6 10 rfl rfl rfl rfl ?_ ?_
          ·
           refine ov (EV.ix 0 rfl rfl rfl g56 g57 rfl) rfl (xs [] [] rfl rfl rfl ?_)
           refine one2 7 10 rfl rfl rfl rfl ?_ ?_
           ·
            refine ov (EV.le (v := .agg #[.int .i64 ((rd_T88 x36_ml0 x36_13).f0), .int .i64 ((rd_T88 x36_ml0 x36_13).f1), .int .i64 ((rd_T88 x36_ml0 x36_13).f2), .int .i64 ((rd_T88 x36_ml0 x36_13).f3), .int .i64 ((rd_T88 x36_ml0 x36_13).f4)]) x36_13 0 (some 5) 0 z88 rfl rfl rfl g56 g57 rfl rfl rfl) rfl (xs [] [] rfl rfl rfl (one1 10 rfl rfl (ov (EV.ix 0 rfl rfl rfl g58 g59 rfl) rfl (xs [] [] rfl rfl rfl (one1 11 rfl rfl (ov (EV.le (v := .agg #[.int .i64 ((rd_T88 x36_ml0 x36_12).f0), .int .i64 ((rd_T88 x36_ml0 x36_12).f1), .int .i64 ((rd_T88 x36_ml0 x36_12).f2), .int .i64 ((rd_T88 x36_ml0 x36_12).f3), .int .i64 ((rd_T88 x36_ml0 x36_12).f4)]) x36_12 0 (some 5) 0 z88 rfl rfl rfl g58 g59 rfl rfl rfl) rfl (xs [] [] rfl rfl rfl (one1 12 rfl rfl (ov (EV.ix 0 rfl rfl rfl g58 g59 rfl) rfl (xs [] [] rfl rfl rfl (one1 13 rfl rfl ?_)))))))))))
            revert H; refine bdI ?_; intro s60 A60 H; have q60 := stl (Option.some.inj A60)
            refine op_stg x36_12 0 0 z88 (⟨(rd_T88 x36_ml0 x36_13).f0, (rd_T88 x36_ml0 x36_13).f1, (rd_T88 x36_ml0 x36_13).f2, (rd_T88 x36_ml0 x36_13).f3, (rd_T88 x36_ml0 x36_13).f4⟩ : S88) (Option.some.inj A60) rfl rfl rfl rfl g58 g59 rfl rfl rfl rfl dq rfl (rlT 0 (v' := .slice Al0 s60.length cl0) rfl (slq _ _ q60) (rlT 145 (v' := .slice Al0 s60.length cl0) rfl (slq _ _ q60) (rlT 147 (v' := .slice Al0 s60.length cl0) rfl (slq _ _ q60) (rlT 149 (v' := .slice Al0 s60.length cl0) rfl (slq _ _ q60) (rlT 153 (v' := .slice Al0 s60.length cl0) rfl (slq _ _ q60) (nmE (en := [.sl 1 k88 Al0 cl0 s60 1 true]) (by kernel_rfl) (xs [] [] rfl rfl rfl (one1 14 rfl rfl ?_))))))))
            revert H; refine ggI ?_; intro g61 H
            refine ov (EV.ix 0 rfl rfl rfl g56 g61 rfl) rfl (xn rfl (one1 15 rfl rfl ?_))
            revert H; refine bdI ?_; intro s62 A62 H; have q62 := stl (Option.some.inj A62)
            exact op_stg x36_13 0 0 z88 (⟨(rd_T88 x36_ml0 x36_12).f0, (rd_T88 x36_ml0 x36_12).f1, (rd_T88 x36_ml0 x36_12).f2, (rd_T88 x36_ml0 x36_12).f3, (rd_T88 x36_ml0 x36_12).f4⟩ : S88) (Option.some.inj A62) rfl rfl rfl rfl g56 g61 rfl rfl rfl rfl dq rfl (rlT 0 (v' := .slice Al0 s62.length cl0) rfl (slq _ _ q62) (rlT 145 (v' := .slice Al0 s62.length cl0) rfl (slq _ _ q62) (rlT 147 (v' := .slice Al0 s62.length cl0) rfl (slq _ _ q62) (rlT 149 (v' := .slice Al0 s62.length cl0) rfl (slq _ _ q62) (rlT 153 (v' := .slice Al0 s62.length cl0) rfl (slq _ _ q62) (nmE (en := [.sl 1 k88 Al0 cl0 s62 1 true]) (by kernel_rfl) (xn rfl (xd (pr [0, 1, 4, 12, 13] [] [0] rfl rfl rfl rfl (wk [0, 1, 4, 12, 13] [] [⟨0, 1, 1, false⟩] (jh8 _ ⟨_, s62, x36_1, x36_12, x36_13, by omega, H, (by first | rfl | assumption | omega | (simp only [List.length_set]; first | done | assumption | omega)), rfl⟩)))))))))))
           ·
            refine ov (EV.ix 0 rfl rfl rfl g58 g59 rfl) rfl (xs [] [] rfl rfl rfl ?_)
            refine one2 7 11 rfl rfl rfl rfl ?_ ?_
            ·
             refine ov (EV.le (v := .agg #[.int .i64 ((rd_T88 x36_ml0 x36_13).f0), .int .i64 ((rd_T88 x36_ml0 x36_13).f1), .int .i64 ((rd_T88 x36_ml0 x36_13).f2), .int .i64 ((rd_T88 x36_ml0 x36_13).f3), .int .i64 ((rd_T88 x36_ml0 x36_13).f4)]) x36_13 0 (some 5) 0 z88 rfl rfl rfl g56 g57 rfl rfl rfl) rfl (xs [] [] rfl rfl rfl (one1 11 rfl rfl (ov (EV.le (v := .agg #[.int .i64 ((rd_T88 x36_ml0 x36_12).f0), .int .i64 ((rd_T88 x36_ml0 x36_12).f1), .int .i64 ((rd_T88 x36_ml0 x36_12).f2), .int .i64 ((rd_T88 x36_ml0 x36_12).f3), .int .i64 ((rd_T88 x36_ml0 x36_12).f4)]) x36_12 0 (some 5) 0 z88 rfl rfl rfl g58 g59 rfl rfl rfl) rfl (xs [] [] rfl rfl rfl (one1 12 rfl rfl (ov (EV.ix 0 rfl rfl rfl g58 g59 rfl) rfl (xs [] [] rfl rfl rfl (one1 13 rfl rfl ?_))))))))
             revert H; refine bdI ?_; intro s63 A63 H; have q63 := stl (Option.some.inj A63)
             refine op_stg x36_12 0 0 z88 (⟨(rd_T88 x36_ml0 x36_13).f0, (rd_T88 x36_ml0 x36_13).f1, (rd_T88 x36_ml0 x36_13).f2, (rd_T88 x36_ml0 x36_13).f3, (rd_T88 x36_ml0 x36_13).f4⟩ : S88) (Option.some.inj A63) rfl rfl rfl rfl g58 g59 rfl rfl rfl rfl dq rfl (rlT 0 (v' := .slice Al0 s63.length cl0) rfl (slq _ _ q63) (rlT 145 (v' := .slice Al0 s63.length cl0) rfl (slq _ _ q63) (rlT 147 (v' := .slice Al0 s63.length cl0) rfl (slq _ _ q63) (rlT 149 (v' := .slice Al0 s63.length cl0) rfl (slq _ _ q63) (rlT 153 (v' := .slice Al0 s63.length cl0) rfl (slq _ _ q63) (nmE (en := [.sl 1 k88 Al0 cl0 s63 1 true]) (by kernel_rfl) (xs [] [] rfl rfl rfl (one1 14 rfl rfl ?_))))))))
             revert H; refine ggI ?_; intro g64 H
             refine ov (EV.ix 0 rfl rfl rfl g56 g64 rfl) rfl (xn rfl (one1 15 rfl rfl ?_))
             revert H; refine bdI ?_; intro s65 A65 H; have q65 := stl (Option.some.inj A65)
             exact op_stg x36_13 0 0 z88 (⟨(rd_T88 x36_ml0 x36_12).f0, (rd_T88 x36_ml0 x36_12).f1, (rd_T88 x36_ml0 x36_12).f2, (rd_T88 x36_ml0 x36_12).f3, (rd_T88 x36_ml0 x36_12).f4⟩ : S88) (Option.some.inj A65) rfl rfl rfl rfl g56 g64 rfl rfl rfl rfl dq rfl (rlT 0 (v' := .slice Al0 s65.length cl0) rfl (slq _ _ q65) (rlT 145 (v' := .slice Al0 s65.length cl0) rfl (slq _ _ q65) (rlT 147 (v' := .slice Al0 s65.length cl0) rfl (slq _ _ q65) (rlT 149 (v' := .slice Al0 s65.length cl0) rfl (slq _ _ q65) (rlT 153 (v' := .slice Al0 s65.length cl0) rfl (slq _ _ q65) (nmE (en := [.sl 1 k88 Al0 cl0 s65 1 true]) (by kernel_rfl) (xn rfl (xd (pr [0, 1, 4, 12, 13] [] [0] rfl rfl rfl rfl (wk [0, 1, 4, 12, 13] [] [⟨0, 1, 1, false⟩] (jh8 _ ⟨_, s65, x36_1, x36_12, x36_13, by omega, H, (by first | rfl | assumption | omega | (simp only [List.length_set]; first | done | assumption | omega)), rfl⟩)))))))))))
            ·
             refine ov (EV.le (v := .agg #[.int .i64 ((rd_T88 x36_ml0 x36_12).f0), .int .i64 ((rd_T88 x36_ml0 x36_12).f1), .int .i64 ((rd_T88 x36_ml0 x36_12).f2), .int .i64 ((rd_T88 x36_ml0 x36_12).f3), .int .i64 ((rd_T88 x36_ml0 x36_12).f4)]) x36_12 0 (some 5) 0 z88 rfl rfl rfl g58 g59 rfl rfl rfl) rfl (xs [] [] rfl rfl rfl (one1 7 rfl rfl (ov (EV.le (v := .agg #[.int .i64 ((rd_T88 x36_ml0 x36_13).f0), .int .i64 ((rd_T88 x36_ml0 x36_13).f1), .int .i64 ((rd_T88 x36_ml0 x36_13).f2), .int .i64 ((rd_T88 x36_ml0 x36_13).f3), .int .i64 ((rd_T88 x36_ml0 x36_13).f4)]) x36_13 0 (some 5) 0 z88 rfl rfl rfl g56 g57 rfl rfl rfl) rfl (xs [] [] rfl rfl rfl (one1 12 rfl rfl (ov (EV.ix 0 rfl rfl rfl g58 g59 rfl) rfl (xs [] [] rfl rfl rfl (one1 13 rfl rfl ?_))))))))
             revert H; refine bdI ?_; intro s66 A66 H; have q66 := stl (Option.some.inj A66)
             refine op_stg x36_12 0 0 z88 (⟨(rd_T88 x36_ml0 x36_13).f0, (rd_T88 x36_ml0 x36_13).f1, (rd_T88 x36_ml0 x36_13).f2, (rd_T88 x36_ml0 x36_13).f3, (rd_T88 x36_ml0 x36_13).f4⟩ : S88) (Option.some.inj A66) rfl rfl rfl rfl g58 g59 rfl rfl rfl rfl dq rfl (rlT 0 (v' := .slice Al0 s66.length cl0) rfl (slq _ _ q66) (rlT 145 (v' := .slice Al0 s66.length cl0) rfl (slq _ _ q66) (rlT 147 (v' := .slice Al0 s66.length cl0) rfl (slq _ _ q66) (rlT 149 (v' := .slice Al0 s66.length cl0) rfl (slq _ _ q66) (rlT 153 (v' := .slice Al0 s66.length cl0) rfl (slq _ _ q66) (nmE (en := [.sl 1 k88 Al0 cl0 s66 1 true]) (by kernel_rfl) (xs [] [] rfl rfl rfl (one1 14 rfl rfl ?_))))))))
             revert H; refine ggI ?_; intro g67 H
             refine ov (EV.ix 0 rfl rfl rfl g56 g67 rfl) rfl (xn rfl (one1 15 rfl rfl ?_))
             revert H; refine bdI ?_; intro s68 A68 H; have q68 := stl (Option.some.inj A68)
             exact op_stg x36_13 0 0 z88 (⟨(rd_T88 x36_ml0 x36_12).f0, (rd_T88 x36_ml0 x36_12).f1, (rd_T88 x36_ml0 x36_12).f2, (rd_T88 x36_ml0 x36_12).f3, (rd_T88 x36_ml0 x36_12).f4⟩ : S88) (Option.some.inj A68) rfl rfl rfl rfl g56 g67 rfl rfl rfl rfl dq rfl (rlT 0 (v' := .slice Al0 s68.length cl0) rfl (slq _ _ q68) (rlT 145 (v' := .slice Al0 s68.length cl0) rfl (slq _ _ q68) (rlT 147 (v' := .slice Al0 s68.length cl0) rfl (slq _ _ q68) (rlT 149 (v' := .slice Al0 s68.length cl0) rfl (slq _ _ q68) (rlT 153 (v' := .slice Al0 s68.length cl0) rfl (slq _ _ q68) (nmE (en := [.sl 1 k88 Al0 cl0 s68 1 true]) (by kernel_rfl) (xn rfl (xd (pr [0, 1, 4, 12, 13] [] [0] rfl rfl rfl rfl (wk [0, 1, 4, 12, 13] [] [⟨0, 1, 1, false⟩] (jh8 _ ⟨_, s68, x36_1, x36_12, x36_13, by omega, H, (by first | rfl | assumption | omega | (simp only [List.length_set]; first | done | assumption | omega)), rfl⟩)))))))))))
          ·
           refine ov (EV.ix 0 rfl rfl rfl g58 g59 rfl) rfl (xs [] [] rfl rfl rfl ?_)
           refine one2 6 11 rfl rfl rfl rfl ?_ ?_
           ·
            refine ov (EV.ix 0 rfl rfl rfl g56 g57 rfl) rfl (xs [] [] rfl rfl rfl ?_)
            refine one2 7 11 rfl rfl rfl rfl ?_ ?_
            ·
             refine ov (EV.le (v := .agg #[.int .i64 ((rd_T88 x36_ml0 x36_13).f0), .int .i64 ((rd_T88 x36_ml0 x36_13).f1), .int .i64 ((rd_T88 x36_ml0 x36_13).f2), .int .i64 ((rd_T88 x36_ml0 x36_13).f3), .int .i64 ((rd_T88 x36_ml0 x36_13).f4)]) x36_13 0 (some 5) 0 z88 rfl rfl rfl g56 g57 rfl rfl rfl) rfl (xs [] [] rfl rfl rfl (one1 11 rfl rfl (ov (EV.le (v := .agg #[.int .i64 ((rd_T88 x36_ml0 x36_12).f0), .int .i64 ((rd_T88 x36_ml0 x36_12).f1), .int .i64 ((rd_T88 x36_ml0 x36_12).f2), .int .i64 ((rd_T88 x36_ml0 x36_12).f3), .int .i64 ((rd_T88 x36_ml0 x36_12).f4)]) x36_12 0 (some 5) 0 z88 rfl rfl rfl g58 g59 rfl rfl rfl) rfl (xs [] [] rfl rfl rfl (one1 12 rfl rfl (ov (EV.ix 0 rfl rfl rfl g58 g59 rfl) rfl (xs [] [] rfl rfl rfl (one1 13 rfl rfl ?_))))))))
             revert H; refine bdI ?_; intro s69 A69 H; have q69 := stl (Option.some.inj A69)
             refine op_stg x36_12 0 0 z88 (⟨(rd_T88 x36_ml0 x36_13).f0, (rd_T88 x36_ml0 x36_13).f1, (rd_T88 x36_ml0 x36_13).f2, (rd_T88 x36_ml0 x36_13).f3, (rd_T88 x36_ml0 x36_13).f4⟩ : S88) (Option.some.inj A69) rfl rfl rfl rfl g58 g59 rfl rfl rfl rfl dq rfl (rlT 0 (v' := .slice Al0 s69.length cl0) rfl (slq _ _ q69) (rlT 145 (v' := .slice Al0 s69.length cl0) rfl (slq _ _ q69) (rlT 147 (v' := .slice Al0 s69.length cl0) rfl (slq _ _ q69) (rlT 149 (v' := .slice Al0 s69.length cl0) rfl (slq _ _ q69) (rlT 153 (v' := .slice Al0 s69.length cl0) rfl (slq _ _ q69) (nmE (en := [.sl 1 k88 Al0 cl0 s69 1 true]) (by kernel_rfl) (xs [] [] rfl rfl rfl (one1 14 rfl rfl ?_))))))))
             revert H; refine ggI ?_; intro g70 H
             refine ov (EV.ix 0 rfl rfl rfl g56 g70 rfl) rfl (xn rfl (one1 15 rfl rfl ?_))
             revert H; refine bdI ?_; intro s71 A71 H; have q71 := stl (Option.some.inj A71)
             exact op_stg x36_13 0 0 z88 (⟨(rd_T88 x36_ml0 x36_12).f0, (rd_T88 x36_ml0 x36_12).f1, (rd_T88 x36_ml0 x36_12).f2, (rd_T88 x36_ml0 x36_12).f3, (rd_T88 x36_ml0 x36_12).f4⟩ : S88) (Option.some.inj A71) rfl rfl rfl rfl g56 g70 rfl rfl rfl rfl dq rfl (rlT 0 (v' := .slice Al0 s71.length cl0) rfl (slq _ _ q71) (rlT 145 (v' := .slice Al0 s71.length cl0) rfl (slq _ _ q71) (rlT 147 (v' := .slice Al0 s71.length cl0) rfl (slq _ _ q71) (rlT 149 (v' := .slice Al0 s71.length cl0) rfl (slq _ _ q71) (rlT 153 (v' := .slice Al0 s71.length cl0) rfl (slq _ _ q71) (nmE (en := [.sl 1 k88 Al0 cl0 s71 1 true]) (by kernel_rfl) (xn rfl (xd (pr [0, 1, 4, 12, 13] [] [0] rfl rfl rfl rfl (wk [0, 1, 4, 12, 13] [] [⟨0, 1, 1, false⟩] (jh8 _ ⟨_, s71, x36_1, x36_12, x36_13, by omega, H, (by first | rfl | assumption | omega | (simp only [List.length_set]; first | done | assumption | omega)), rfl⟩)))))))))))
            ·
             refine ov (EV.le (v := .agg #[.int .i64 ((rd_T88 x36_ml0 x36_12).f0), .int .i64 ((rd_T88 x36_ml0 x36_12).f1), .int .i64 ((rd_T88 x36_ml0 x36_12).f2), .int .i64 ((rd_T88 x36_ml0 x36_12).f3), .int .i64 ((rd_T88 x36_ml0 x36_12).f4)]) x36_12 0 (some 5) 0 z88 rfl rfl rfl g58 g59 rfl rfl rfl) rfl (xs [] [] rfl rfl rfl (one1 7 rfl rfl (ov (EV.le (v := .agg #[.int .i64 ((rd_T88 x36_ml0 x36_13).f0), .int .i64 ((rd_T88 x36_ml0 x36_13).f1), .int .i64 ((rd_T88 x36_ml0 x36_13).f2), .int .i64 ((rd_T88 x36_ml0 x36_13).f3), .int .i64 ((rd_T88 x36_ml0 x36_13).f4)]) x36_13 0 (some 5) 0 z88 rfl rfl rfl g56 g57 rfl rfl rfl) rfl (xs [] [] rfl rfl rfl (one1 12 rfl rfl (ov (EV.ix 0 rfl rfl rfl g58 g59 rfl) rfl (xs [] [] rfl rfl rfl (one1 13 rfl rfl ?_))))))))
             revert H; refine bdI ?_; intro s72 A72 H; have q72 := stl (Option.some.inj A72)
             refine op_stg x36_12 0 0 z88 (⟨(rd_T88 x36_ml0 x36_13).f0, (rd_T88 x36_ml0 x36_13).f1, (rd_T88 x36_ml0 x36_13).f2, (rd_T88 x36_ml0 x36_13).f3, (rd_T88 x36_ml0 x36_13).f4⟩ : S88) (Option.some.inj A72) rfl rfl rfl rfl g58 g59 rfl rfl rfl rfl dq rfl (rlT 0 (v' := .slice Al0 s72.length cl0) rfl (slq _ _ q72) (rlT 145 (v' := .slice Al0 s72.length cl0) rfl (slq _ _ q72) (rlT 147 (v' := .slice Al0 s72.length cl0) rfl (slq _ _ q72) (rlT 149 (v' := .slice Al0 s72.length cl0) rfl (slq _ _ q72) (rlT 153 (v' := .slice Al0 s72.length cl0) rfl (slq _ _ q72) (nmE (en := [.sl 1 k88 Al0 cl0 s72 1 true]) (by kernel_rfl) (xs [] [] rfl rfl rfl (one1 14 rfl rfl ?_))))))))
             revert H; refine ggI ?_; intro g73 H
             refine ov (EV.ix 0 rfl rfl rfl g56 g73 rfl) rfl (xn rfl (one1 15 rfl rfl ?_))
             revert H; refine bdI ?_; intro s74 A74 H; have q74 := stl (Option.some.inj A74)
             exact op_stg x36_13 0 0 z88 (⟨(rd_T88 x36_ml0 x36_12).f0, (rd_T88 x36_ml0 x36_12).f1, (rd_T88 x36_ml0 x36_12).f2, (rd_T88 x36_ml0 x36_12).f3, (rd_T88 x36_ml0 x36_12).f4⟩ : S88) (Option.some.inj A74) rfl rfl rfl rfl g56 g73 rfl rfl rfl rfl dq rfl (rlT 0 (v' := .slice Al0 s74.length cl0) rfl (slq _ _ q74) (rlT 145 (v' := .slice Al0 s74.length cl0) rfl (slq _ _ q74) (rlT 147 (v' := .slice Al0 s74.length cl0) rfl (slq _ _ q74) (rlT 149 (v' := .slice Al0 s74.length cl0) rfl (slq _ _ q74) (rlT 153 (v' := .slice Al0 s74.length cl0) rfl (slq _ _ q74) (nmE (en := [.sl 1 k88 Al0 cl0 s74 1 true]) (by kernel_rfl) (xn rfl (xd (pr [0, 1, 4, 12, 13] [] [0] rfl rfl rfl rfl (wk [0, 1, 4, 12, 13] [] [⟨0, 1, 1, false⟩] (jh8 _ ⟨_, s74, x36_1, x36_12, x36_13, by omega, H, (by first | rfl | assumption | omega | (simp only [List.length_set]; first | done | assumption | omega)), rfl⟩)))))))))))
           ·
            refine ov (EV.le (v := .agg #[.int .i64 ((rd_T88 x36_ml0 x36_12).f0), .int .i64 ((rd_T88 x36_ml0 x36_12).f1), .int .i64 ((rd_T88 x36_ml0 x36_12).f2), .int .i64 ((rd_T88 x36_ml0 x36_12).f3), .int .i64 ((rd_T88 x36_ml0 x36_12).f4)]) x36_12 0 (some 5) 0 z88 rfl rfl rfl g58 g59 rfl rfl rfl) rfl (xs [] [] rfl rfl rfl (one1 6 rfl rfl (ov (EV.ix 0 rfl rfl rfl g56 g57 rfl) rfl (xs [] [] rfl rfl rfl (one1 7 rfl rfl (ov (EV.le (v := .agg #[.int .i64 ((rd_T88 x36_ml0 x36_13).f0), .int .i64 ((rd_T88 x36_ml0 x36_13).f1), .int .i64 ((rd_T88 x36_ml0 x36_13).f2), .int .i64 ((rd_T88 x36_ml0 x36_13).f3), .int .i64 ((rd_T88 x36_ml0 x36_13).f4)]) x36_13 0 (some 5) 0 z88 rfl rfl rfl g56 g57 rfl rfl rfl) rfl (xs [] [] rfl rfl rfl (one1 12 rfl rfl (ov (EV.ix 0 rfl rfl rfl g58 g59 rfl) rfl (xs [] [] rfl rfl rfl (one1 13 rfl rfl ?_)))))))))))
            revert H; refine bdI ?_; intro s75 A75 H; have q75 := stl (Option.some.inj A75)
            refine op_stg x36_12 0 0 z88 (⟨(rd_T88 x36_ml0 x36_13).f0, (rd_T88 x36_ml0 x36_13).f1, (rd_T88 x36_ml0 x36_13).f2, (rd_T88 x36_ml0 x36_13).f3, (rd_T88 x36_ml0 x36_13).f4⟩ : S88) (Option.some.inj A75) rfl rfl rfl rfl g58 g59 rfl rfl rfl rfl dq rfl (rlT 0 (v' := .slice Al0 s75.length cl0) rfl (slq _ _ q75) (rlT 145 (v' := .slice Al0 s75.length cl0) rfl (slq _ _ q75) (rlT 147 (v' := .slice Al0 s75.length cl0) rfl (slq _ _ q75) (rlT 149 (v' := .slice Al0 s75.length cl0) rfl (slq _ _ q75) (rlT 153 (v' := .slice Al0 s75.length cl0) rfl (slq _ _ q75) (nmE (en := [.sl 1 k88 Al0 cl0 s75 1 true]) (by kernel_rfl) (xs [] [] rfl rfl rfl (one1 14 rfl rfl ?_))))))))
            revert H; refine ggI ?_; intro g76 H
            refine ov (EV.ix 0 rfl rfl rfl g56 g76 rfl) rfl (xn rfl (one1 15 rfl rfl ?_))
            revert H; refine bdI ?_; intro s77 A77 H; have q77 := stl (Option.some.inj A77)
            exact op_stg x36_13 0 0 z88 (⟨(rd_T88 x36_ml0 x36_12).f0, (rd_T88 x36_ml0 x36_12).f1, (rd_T88 x36_ml0 x36_12).f2, (rd_T88 x36_ml0 x36_12).f3, (rd_T88 x36_ml0 x36_12).f4⟩ : S88) (Option.some.inj A77) rfl rfl rfl rfl g56 g76 rfl rfl rfl rfl dq rfl (rlT 0 (v' := .slice Al0 s77.length cl0) rfl (slq _ _ q77) (rlT 145 (v' := .slice Al0 s77.length cl0) rfl (slq _ _ q77) (rlT 147 (v' := .slice Al0 s77.length cl0) rfl (slq _ _ q77) (rlT 149 (v' := .slice Al0 s77.length cl0) rfl (slq _ _ q77) (rlT 153 (v' := .slice Al0 s77.length cl0) rfl (slq _ _ q77) (nmE (en := [.sl 1 k88 Al0 cl0 s77 1 true]) (by kernel_rfl) (xn rfl (xd (pr [0, 1, 4, 12, 13] [] [0] rfl rfl rfl rfl (wk [0, 1, 4, 12, 13] [] [⟨0, 1, 1, false⟩] (jh8 _ ⟨_, s77, x36_1, x36_12, x36_13, by omega, H, (by first | rfl | assumption | omega | (simp only [List.length_set]; first | done | assumption | omega)), rfl⟩)))))))))))
       ·
        refine gb ?_
        refine lo (fun kk S => ∃ (x39_ml0 : List S88) (x39_1 : Int) (x39_12 : Int) (x39_13 : Int), kk ≤ m29 ∧ slices_partitionCmpFunc_impl_Group_at93.l1 kk x39_ml0 x39_1 x39_12 x39_13 = some (r0, r1, r2) ∧ x39_ml0.length = l0.length ∧ S = ⟨[(0, .slice Al0 x39_ml0.length cl0), (1, .int .i64 x39_1), (4, .func (.func 93) #[] #[]), (12, .int .i64 x39_12), (13, .int .i64 x39_13)], [], [.sl 1 k88 Al0 cl0 x39_ml0 1 false]⟩) (fun S hS => ?_) (fun n1 ih1 S hS => ?_) ⟨x34_ml0, x34_1, x34_12, x34_13, by omega, H, (by first | rfl | assumption | omega | (simp only [List.length_set]; first | done | assumption | omega)), rfl⟩ (fun h => wk [0, 1, 4, 12, 13] [] [⟨0, 1, 1, false⟩] h)
        · clear H; obtain ⟨_, _, _, _, _, H, _⟩ := hS; rw [slices_partitionCmpFunc_impl_Group_at93.l1] at H; cases H
        clear H
        obtain ⟨x39_ml0, x39_1, x39_12, x39_13, lk1, H, ex39_ml0, rfl⟩ := hS
        rw [slices_partitionCmpFunc_impl_Group_at93.l1] at H
        refine gs (gs (dr [] [0] [] 17 rfl rfl rfl rfl (xv 0 [] [0] rfl (EV.mv rfl) rfl rfl rfl rfl (xv 1 [] [0] rfl (EV.mv rfl) rfl rfl rfl rfl (xv 2 [] [0] rfl (EV.leq rfl rfl) rfl rfl rfl rfl (xv 3 [] [0] rfl (EV.mv rfl) rfl rfl rfl rfl ?_))))))
        revert H; refine ifsI ?_ ?_ <;> intro c78 H
        ·
         refine ts 126 rfl (dT c78) (xv 4 [] [0] rfl (EV.mv rfl) rfl rfl rfl rfl (xv 5 [] [0] rfl (EV.mv rfl) rfl rfl rfl rfl (xv 6 [] [0] rfl (EV.mv rfl) rfl rfl rfl rfl ?_)))
         revert H; refine ggI ?_; intro g79 H
         revert H; refine ggI ?_; intro g80 H
         refine xv 7 [] [0] rfl (EV.ix 0 rfl rfl rfl g79 g80 rfl) rfl rfl rfl rfl (xv 8 [] [0] rfl (EV.le (v := .agg #[.int .i64 ((rd_T88 x39_ml0 x39_13).f0), .int .i64 ((rd_T88 x39_ml0 x39_13).f1), .int .i64 ((rd_T88 x39_ml0 x39_13).f2), .int .i64 ((rd_T88 x39_ml0 x39_13).f3), .int .i64 ((rd_T88 x39_ml0 x39_13).f4)]) x39_13 0 (some 5) 0 z88 rfl rfl rfl g79 g80 rfl rfl rfl) rfl rfl rfl rfl (xv 9 [] [0] rfl (EV.mv rfl) rfl rfl rfl rfl (xv 10 [] [0] rfl (EV.mv rfl) rfl rfl rfl rfl ?_)))
         revert H; refine ggI ?_; intro g81 H
         revert H; refine ggI ?_; intro g82 H
         refine xv 11 [] [0] rfl (EV.ix 0 rfl rfl rfl g81 g82 rfl) rfl rfl rfl rfl (xv 12 [] [0] rfl (EV.le (v := .agg #[.int .i64 ((rd_T88 x39_ml0 x39_1).f0), .int .i64 ((rd_T88 x39_ml0 x39_1).f1), .int .i64 ((rd_T88 x39_ml0 x39_1).f2), .int .i64 ((rd_T88 x39_ml0 x39_1).f3), .int .i64 ((rd_T88 x39_ml0 x39_1).f4)]) x39_1 0 (some 5) 0 z88 rfl rfl rfl g81 g82 rfl rfl rfl) rfl rfl rfl rfl (one1 13 rfl rfl ?_))
         revert H; refine bdI ?_; rintro t83 A83 H
         refine cvf (f := 93) rfl (op_call (impl_MergeGroups_1.ok ((rd_T88 x39_ml0 x39_13).f0) ((rd_T88 x39_ml0 x39_13).f1) ((rd_T88 x39_ml0 x39_13).f2) ((rd_T88 x39_ml0 x39_13).f3) ((rd_T88 x39_ml0 x39_13).f4) ((rd_T88 x39_ml0 x39_1).f0) ((rd_T88 x39_ml0 x39_1).f1) ((rd_T88 x39_ml0 x39_1).f2) ((rd_T88 x39_ml0 x39_1).f3) ((rd_T88 x39_ml0 x39_1).f4) _ A83) [] 2 rfl rfl rfl rfl rfl ?_)
         rintro _ _ _ ⟨rfl, rfl, rfl⟩
         refine xs [] [0] rfl rfl rfl (xv 14 [] [0] rfl (EV.lss rfl rfl) rfl rfl rfl rfl (xv 15 [] [0] rfl (EV.nt rfl) rfl rfl rfl rfl (xv 16 [] [0] rfl (EV.pt rfl rfl rfl) rfl rfl rfl rfl (xd ?_))))
         revert H; refine ifsI ?_ ?_ <;> intro c84 H
         ·
          exact gf rfl (nF c84) (gx rfl (wk [0, 1, 4, 12, 13] [] [⟨0, 1, 1, false⟩] (jh6 _ ⟨_, x39_ml0, x39_1, x39_12, x39_13, by omega, H, (by first | rfl | assumption | omega | (simp only [List.length_set]; first | done | assumption | omega)), rfl⟩)))
         ·
          exact gt rfl (nT c84) (gk (gb (rg (sv (EV.mv rfl) rfl (sv (EV.sub rfl rfl) rfl (sv (EV.as rfl) rfl (re (pr [0, 1, 4, 12, 13, 127, 128, 129, 130, 131, 132, 133, 134, 135, 136, 137, 138] [] [0] rfl rfl rfl rfl (ge (wk [0, 1, 4, 12, 13] [] [⟨0, 1, 1, false⟩] (ih1 _ (by omega) _ ⟨x39_ml0, x39_1, x39_12, wrap64 (x39_13 - 1), by omega, H, (by first | rfl | assumption | omega | (simp only [List.length_set]; first | done | assumption | omega)), rfl⟩)))))))))))
        ·
         exact ts 126 rfl (dF c78) (xk 4 [] [0] rfl rfl rfl rfl rfl (xk 5 [] [0] rfl rfl rfl rfl rfl (xk 6 [] [0] rfl rfl rfl rfl rfl (xk 7 [] [0] rfl rfl rfl rfl rfl (xk 8 [] [0] rfl rfl rfl rfl rfl (xk 9 [] [0] rfl rfl rfl rfl rfl (xk 10 [] [0] rfl rfl rfl rfl rfl (xk 11 [] [0] rfl rfl rfl rfl rfl (xk 12 [] [0] rfl rfl rfl rfl rfl (xk 13 [] [0] rfl rfl rfl rfl rfl (xk 14 [] [0] rfl rfl rfl rfl rfl (xk 15 [] [0] rfl rfl rfl rfl rfl (xv 16 [] [0] rfl (EV.pf rfl rfl rfl) rfl rfl rfl rfl (xd (pr [0, 1, 4, 12, 13, 139] [] [0] rfl rfl rfl rfl (gf rfl rfl (gx rfl (wk [0, 1, 4, 12, 13] [] [⟨0, 1, 1, false⟩] (jh6 _ ⟨_, x39_ml0, x39_1, x39_12, x39_13, by omega, H, (by first | rfl | assumption | omega | (simp only [List.length_set]; first | done | assumption | omega)), rfl⟩)))))))))))))))))))
      ·
       refine gb ?_
       refine lo (fun kk S => ∃ (x40_ml0 : List S88) (x40_1 : Int) (x40_12 : Int) (x40_13 : Int), kk ≤ n0 ∧ slices_partitionCmpFunc_impl_Group_at93.l2 kk x40_ml0 x40_1 x40_12 x40_13 = some (r0, r1, r2) ∧ x40_ml0.length = l0.length ∧ S = ⟨[(0, .slice Al0 x40_ml0.length cl0), (1, .int .i64 x40_1), (4, .func (.func 93) #[] #[]), (12, .int .i64 x40_12), (13, .int .i64 x40_13)], [], [.sl 1 k88 Al0 cl0 x40_ml0 1 false]⟩) (fun S hS => ?_) (fun n2 ih2 S hS => ?_) ⟨x24_ml0, x24_1, x24_12, x24_13, by omega, H, (by first | rfl | assumption | omega | (simp only [List.length_set]; first | done | assumption | omega)), rfl⟩ (fun h => wk [0, 1, 4, 12, 13] [] [⟨0, 1, 1, false⟩] h)
       · clear H; obtain ⟨_, _, _, _, _, H, _⟩ := hS; rw [slices_partitionCmpFunc_impl_Group_at93.l2] at H; cases H
       clear H
       obtain ⟨x40_ml0, x40_1, x40_12, x40_13, lk2, H, ex40_ml0, rfl⟩ := hS
       rw [slices_partitionCmpFunc_impl_Group_at93.l2] at H
       refine gs (gs (dr [] [0] [] 16 rfl rfl rfl rfl (xv 0 [] [0] rfl (EV.mv rfl) rfl rfl rfl rfl (xv 1 [] [0] rfl (EV.mv rfl) rfl rfl rfl rfl (xv 2 [] [0] rfl (EV.leq rfl rfl) rfl rfl rfl rfl (xv 3 [] [0] rfl (EV.mv rfl) rfl rfl rfl rfl ?_))))))
       revert H; refine ifsI ?_ ?_ <;> intro c85 H
       ·
        refine ts 108 rfl (dT c85) (xv 4 [] [0] rfl (EV.mv rfl) rfl rfl rfl rfl (xv 5 [] [0] rfl (EV.mv rfl) rfl rfl rfl rfl (xv 6 [] [0] rfl (EV.mv rfl) rfl rfl rfl rfl ?_)))
        revert H; refine ggI ?_; intro g86 H
        revert H; refine ggI ?_; intro g87 H
        refine xv 7 [] [0] rfl (EV.ix 0 rfl rfl rfl g86 g87 rfl) rfl rfl rfl rfl (xv 8 [] [0] rfl (EV.le (v := .agg #[.int .i64 ((rd_T88 x40_ml0 x40_12).f0), .int .i64 ((rd_T88 x40_ml0 x40_12).f1), .int .i64 ((rd_T88 x40_ml0 x40_12).f2), .int .i64 ((rd_T88 x40_ml0 x40_12).f3), .int .i64 ((rd_T88 x40_ml0 x40_12).f4)]) x40_12 0 (some 5) 0 z88 rfl rfl rfl g86 g87 rfl rfl rfl) rfl rfl rfl rfl (xv 9 [] [0] rfl (EV.mv rfl) rfl rfl rfl rfl (xv 10 [] [0] rfl (EV.mv rfl) rfl rfl rfl rfl ?_)))
        revert H; refine ggI ?_; intro g88 H
        revert H; refine ggI ?_; intro g89 H
        refine xv 11 [] [0] rfl (EV.ix 0 rfl rfl rfl g88 g89 rfl) rfl rfl rfl rfl (xv 12 [] [0] rfl (EV.le (v := .agg #[.int .i64 ((rd_T88 x40_ml0 x40_1).f0), .int .i64 ((rd_T88 x40_ml0 x40_1).f1), .int .i64 ((rd_T88 x40_ml0 x40_1).f2), .int .i64 ((rd_T88 x40_ml0 x40_1).f3), .int .i64 ((rd_T88 x40_ml0 x40_1).f4)]) x40_1 0 (some 5) 0 z88 rfl rfl rfl g88 g89 rfl rfl rfl) rfl rfl rfl rfl (one1 13 rfl rfl ?_))
        revert H; refine bdI ?_; rintro t90 A90 H
        refine cvf (f := 93) rfl (op_call (impl_MergeGroups_1.ok ((rd_T88 x40_ml0 x40_12).f0) ((rd_T88 x40_ml0 x40_12).f1) ((rd_T88 x40_ml0 x40_12).f2) ((rd_T88 x40_ml0 x40_12).f3) ((rd_T88 x40_ml0 x40_12).f4) ((rd_T88 x40_ml0 x40_1).f0) ((rd_T88 x40_ml0 x40_1).f1) ((rd_T88 x40_ml0 x40_1).f2) ((rd_T88 x40_ml0 x40_1).f3) ((rd_T88 x40_ml0 x40_1).f4) _ A90) [] 2 rfl rfl rfl rfl rfl ?_)
        rintro _ _ _ ⟨rfl, rfl, rfl⟩
        refine xs [] [0] rfl rfl rfl (xv 14 [] [0] rfl (EV.lss rfl rfl) rfl rfl rfl rfl (xv 15 [] [0] rfl (EV.pt rfl rfl rfl) rfl rfl rfl rfl (xd ?_)))
        revert H; refine ifsI ?_ ?_ <;> intro c91 H
        ·
         exact gt rfl (dT c91) (gk (gb (rg (sv (EV.mv rfl) rfl (sv (EV.add rfl rfl) rfl (sv (EV.as rfl) rfl (re (pr [0, 1, 4, 12, 13, 109, 110, 111, 112, 113, 114, 115, 116, 117, 118, 119] [] [0] rfl rfl rfl rfl (ge (wk [0, 1, 4, 12, 13] [] [⟨0, 1, 1, false⟩] (ih2 _ (by omega) _ ⟨x40_ml0, x40_1, wrap64 (x40_12 + 1), x40_13, by omega, H, (by first | rfl | assumption | omega | (simp only [List.length_set]; first | done | assumption | omega)), rfl⟩)))))))))))
        ·
         exact gf rfl (dF c91) (gx rfl (wk [0, 1, 4, 12, 13] [] [⟨0, 1, 1, false⟩] (jh5 _ ⟨_, x40_ml0, x40_1, x40_12, x40_13, by omega, H, (by first | rfl | assumption | omega | (simp only [List.length_set]; first | done | assumption | omega)), rfl⟩)))
       ·
        exact ts 108 rfl (dF c85) (xk 4 [] [0] rfl rfl rfl rfl rfl (xk 5 [] [0] rfl rfl rfl rfl rfl (xk 6 [] [0] rfl rfl rfl rfl rfl (xk 7 [] [0] rfl rfl rfl rfl rfl (xk 8 [] [0] rfl rfl rfl rfl rfl (xk 9 [] [0] rfl rfl rfl rfl rfl (xk 10 [] [0] rfl rfl rfl rfl rfl (xk 11 [] [0] rfl rfl rfl rfl rfl (xk 12 [] [0] rfl rfl rfl rfl rfl (xk 13 [] [0] rfl rfl rfl rfl rfl (xk 14 [] [0] rfl rfl rfl rfl rfl (xv 15 [] [0] rfl (EV.pf rfl rfl rfl) rfl rfl rfl rfl (xd (pr [0, 1, 4, 12, 13, 120] [] [0] rfl rfl rfl rfl (gf rfl rfl (gx rfl (wk [0, 1, 4, 12, 13] [] [⟨0, 1, 1, false⟩] (jh5 _ ⟨_, x40_ml0, x40_1, x40_12, x40_13, by omega, H, (by first | rfl | assumption | omega | (simp only [List.length_set]; first | done | assumption | omega)), rfl⟩))))))))))))))))))
     ·
      revert H; refine ggI ?_; intro g92 H
      revert H; refine ggI ?_; intro g93 H
      revert H; refine ggI ?_; intro g94 H
      revert H; refine ggI ?_; intro g95 H
      refine dr [] [] [14, 15] 16 rfl rfl rfl rfl (xv 0 [] [] rfl (EV.mv rfl) rfl rfl rfl rfl (xv 1 [] [] rfl (EV.mv rfl) rfl rfl rfl rfl (xv 2 [] [] rfl (EV.mv rfl) rfl rfl rfl rfl (xv 3 [] [] rfl (EV.mv rfl) rfl rfl rfl rfl (xv 4 [] [] rfl (EV.mv rfl) rfl rfl rfl rfl (xv 5 [] [] rfl (EV.mv rfl) rfl rfl rfl rfl (xv 8 [] [] rfl (EV.mv rfl) rfl rfl rfl rfl (xv 9 [] [] rfl (EV.mv rfl) rfl rfl rfl rfl ?_))))))))
      refine one2 6 10 rfl rfl rfl rfl ?_ ?_
      ·
       refine ov (EV.ix 0 rfl rfl rfl g92 g93 rfl) rfl (xs [] [] rfl rfl rfl ?_)
       refine one2 7 10 rfl rfl rfl rfl ?_ ?_
       ·
        refine ov (EV.le (v := .agg #[.int .i64 ((rd_T88 x5_ml0 x5_13).f0), .int .i64 ((rd_T88 x5_ml0 x5_13).f1), .int .i64 ((rd_T88 x5_ml0 x5_13).f2), .int .i64 ((rd_T88 x5_ml0 x5_13).f3), .int .i64 ((rd_T88 x5_ml0 x5_13).f4)]) x5_13 0 (some 5) 0 z88 rfl rfl rfl g92 g93 rfl rfl rfl) rfl (xs [] [] rfl rfl rfl (one1 10 rfl rfl (ov (EV.ix 0 rfl rfl rfl g94 g95 rfl) rfl (xs [] [] rfl rfl rfl (one1 11 rfl rfl (ov (EV.le (v := .agg #[.int .i64 ((rd_T88 x5_ml0 x5_12).f0), .int .i64 ((rd_T88 x5_ml0 x5_12).f1), .int .i64 ((rd_T88 x5_ml0 x5_12).f2), .int .i64 ((rd_T88 x5_ml0 x5_12).f3), .int .i64 ((rd_T88 x5_ml0 x5_12).f4)]) x5_12 0 (some 5) 0 z88 rfl rfl rfl g94 g95 rfl rfl rfl) rfl (xs [] [] rfl rfl rfl (one1 12 rfl rfl (ov (EV.ix 0 rfl rfl rfl g94 g95 rfl) rfl (xs [] [] rfl rfl rfl (one1 13 rfl rfl ?_)))))))))))
        revert H; refine bdI ?_; intro s96 A96 H; have q96 := stl (Option.some.inj A96)
        refine op_stg x5_12 0 0 z88 (⟨(rd_T88 x5_ml0 x5_13).f0, (rd_T88 x5_ml0 x5_13).f1, (rd_T88 x5_ml0 x5_13).f2, (rd_T88 x5_ml0 x5_13).f3, (rd_T88 x5_ml0 x5_13).f4⟩ : S88) (Option.some.inj A96) rfl rfl rfl rfl g94 g95 rfl rfl rfl rfl dq rfl (rlT 0 (v' := .slice Al0 s96.length cl0) rfl (slq _ _ q96) (rlT 87 (v' := .slice Al0 s96.length cl0) rfl (slq _ _ q96) (rlT 89 (v' := .slice Al0 s96.length cl0) rfl (slq _ _ q96) (rlT 91 (v' := .slice Al0 s96.length cl0) rfl (slq _ _ q96) (rlT 95 (v' := .slice Al0 s96.length cl0) rfl (slq _ _ q96) (nmE (en := [.sl 1 k88 Al0 cl0 s96 1 true]) (by kernel_rfl) (xs [] [] rfl rfl rfl (one1 14 rfl rfl ?_))))))))
        revert H; refine ggI ?_; intro g97 H
        refine ov (EV.ix 0 rfl rfl rfl g92 g97 rfl) rfl (xn rfl (one1 15 rfl rfl ?_))
        revert H; refine bdI ?_; intro s98 A98 H; have q98 := stl (Option.some.inj A98)
        exact op_stg x5_13 0 0 z88 (⟨(rd_T88 x5_ml0 x5_12).f0, (rd_T88 x5_ml0 x5_12).f1, (rd_T88 x5_ml0 x5_12).f2, (rd_T88 x5_ml0 x5_12).f3, (rd_T88 x5_ml0 x5_12).f4⟩ : S88) (Option.some.inj A98) rfl rfl rfl rfl g92 g97 rfl rfl rfl rfl dq rfl (rlT 0 (v' := .slice Al0 s98.length cl0) rfl (slq _ _ q98) (rlT 87 (v' := .slice Al0 s98.length cl0) rfl (slq _ _ q98) (rlT 89 (v' := .slice Al0 s98.length cl0) rfl (slq _ _ q98) (rlT 91 (v' := .slice Al0 s98.length cl0) rfl (slq _ _ q98) (rlT 95 (v' := .slice Al0 s98.length cl0) rfl (slq _ _ q98) (nmE (en := [.sl 1 k88 Al0 cl0 s98 1 true]) (by kernel_rfl) (xn rfl (xd (pr [0, 1, 4, 12, 13] [] [0] rfl rfl rfl rfl (wk [0, 1, 4, 12, 13] [] [⟨0, 1, 1, false⟩] (jh4 _ ⟨_, s98, x5_1, x5_12, x5_13, by omega, H, (by first | rfl | assumption | omega | (simp only [List.length_set]; first | done | assumption | omega)), rfl⟩)))))))))))
       ·
        refine ov (EV.ix 0 rfl rfl rfl g94 g95 rfl) rfl (xs [] [] rfl rfl rfl ?_)
        refine one2 7 11 rfl rfl rfl rfl ?_ ?_
        ·
         refine ov (EV.le (v := .agg #[.int .i64 ((rd_T88 x5_ml0 x5_13).f0), .int .i64 ((rd_T88 x5_ml0 x5_13).f1), .int .i64 ((rd_T88 x5_ml0 x5_13).f2), .int .i64 ((rd_T88 x5_ml0 x5_13).f3), .int .i64 ((rd_T88 x5_ml0 x5_13).f4)]) x5_13 0 (some 5) 0 z88 rfl rfl rfl g92 g93 rfl rfl rfl) rfl (xs [] [] rfl rfl rfl (one1 11 rfl rfl (ov (EV.le (v := .agg #[.int .i64 ((rd_T88 x5_ml0 x5_12).f0), .int .i64 ((rd_T88 x5_ml0 x5_12).f1), .int .i64 ((rd_T88 x5_ml0 x5_12).f2), .int .i64 ((rd_T88 x5_ml0 x5_12).f3), .int .i64 ((rd_T88 x5_ml0 x5_12).f4)]) x5_12 0 (some 5) 0 z88 rfl rfl rfl g94 g95 rfl rfl rfl) rfl (xs [] [] rfl rfl rfl (one1 12 rfl rfl (ov (EV.ix 0 rfl rfl rfl g94 g95 rfl) rfl (xs [] [] rfl rfl rfl (one1 13 rfl rfl ?_))))))))
         revert H; refine bdI ?_; intro s99 A99 H; have q99 := stl (Option.some.inj A99)
         refine op_stg x5_12 0 0 z88 (⟨(rd_T88 x5_ml0 x5_13).f0, (rd_T88 x5_ml0 x5_13).f1, (rd_T88 x5_ml0 x5_13).f2, (rd_T88 x5_ml0 x5_13).f3, (rd_T88 x5_ml0 x5_13).f4⟩ : S88) (Option.some.inj A99) rfl rfl rfl rfl g94 g95 rfl rfl rfl rfl dq rfl (rlT 0 (v' := .slice Al0 s99.length cl0) rfl (slq _ _ q99) (rlT 87 (v' := .slice Al0 s99.length cl0) rfl (slq _ _ q99) (rlT 89 (v' := .slice Al0 s99.length cl0) rfl (slq _ _ q99) (rlT 91 (v' := .slice Al0 s99.length cl0) rfl (slq _ _ q99) (rlT 95 (v' := .slice Al0 s99.length cl0) rfl (slq _ _ q99) (nmE (en := [.sl 1 k88 Al0 cl0 s99 1 true]) (by kernel_rfl) (xs [] [] rfl rfl rfl (one1 14 rfl rfl ?_))))))))
         revert H; refine ggI ?_; intro g100 H
         refine ov (EV.ix 0 rfl rfl rfl g92 g100 rfl) rfl (xn rfl (one1 15 rfl rfl ?_))
         revert H; refine bdI ?_; intro s101 A101 H; have q101 := stl (Option.some.inj A101)
         exact op_stg x5_13 0 0 z88 (⟨(rd_T88 x5_ml0 x5_12).f0, (rd_T88 x5_ml0 x5_12).f1, (rd_T88 x5_ml0 x5_12).f2, (rd_T88 x5_ml0 x5_12).f3, (rd_T88 x5_ml0 x5_12).f4⟩ : S88) (Option.some.inj A101) rfl rfl rfl rfl g92 g100 rfl rfl rfl rfl dq rfl (rlT 0 (v' := .slice Al0 s101.length cl0) rfl (slq _ _ q101) (rlT 87 (v' := .slice Al0 s101.length cl0) rfl (slq _ _ q101) (rlT 89 (v' := .slice Al0 s101.length cl0) rfl (slq _ _ q101) (rlT 91 (v' := .slice Al0 s101.length cl0) rfl (slq _ _ q101) (rlT 95 (v' := .slice Al0 s101.length cl0) rfl (slq _ _ q101) (nmE (en := [.sl 1 k88 Al0 cl0 s101 1 true]) (by kernel_rfl) (xn rfl (xd (pr [0, 1, 4, 12, 13] [] [0] rfl rfl rfl rfl (wk [0, 1, 4, 12, 13] [] [⟨0, 1, 1, false⟩] (jh4 _ ⟨_, s101, x5_1, x5_12, x5_13, by omega, H, (by first | rfl | assumption | omega | (simp only [List.length_set]; first | done | assumption | omega)), rfl⟩)))))))))))
        ·
         refine ov (EV.le (v := .agg #[.int .i64 ((rd_T88 x5_ml0 x5_12).f0), .int .i64 ((rd_T88 x5_ml0 x5_12).f1), .int .i64 ((rd_T88 x5_ml0 x5_12).f2), .int .i64 ((rd_T88 x5_ml0 x5_12).f3), .int .i64 ((rd_T88 x5_ml0 x5_12).f4)]) x5_12 0 (some 5) 0 z88 rfl rfl rfl g94 g95 rfl rfl rfl) rfl (xs [] [] rfl rfl rfl (one1 7 rfl rfl (ov (EV.le (v := .agg #[.int .i64 ((rd_T88 x5_ml0 x5_13).f0), .int .i64 ((rd_T88 x5_ml0 x5_13).f1), .int .i64 ((rd_T88 x5_ml0 x5_13).f2), .int .i64 ((rd_T88 x5_ml0 x5_13).f3), .int .i64 ((rd_T88 x5_ml0 x5_13).f4)]) x5_13 0 (some 5) 0 z88 rfl rfl rfl g92 g93 rfl rfl rfl) rfl (xs [] [] rfl rfl rfl (one1 12 rfl rfl (ov (EV.ix 0 rfl rfl rfl g94 g95 rfl) rfl (xs [] [] rfl rfl rfl (one1 13 rfl rfl ?_))))))))
         revert H; refine bdI ?_; intro s102 A102 H; have q102 := stl (Option.some.inj A102)
         refine op_stg x5_12 0 0 z88 (⟨(rd_T88 x5_ml0 x5_13).f0, (rd_T88 x5_ml0 x5_13).f1, (rd_T88 x5_ml0 x5_13).f2, (rd_T88 x5_ml0 x5_13).f3, (rd_T88 x5_ml0 x5_13).f4⟩ : S88) (Option.some.inj A102) rfl rfl rfl rfl g94 g95 rfl rfl rfl rfl dq rfl (rlT 0 (v' := .slice Al0 s102.length cl0) rfl (slq _ _ q102) (rlT 87 (v' := .slice Al0 s102.length cl0) rfl (slq _ _ q102) (rlT 89 (v' := .slice Al0 s102.length cl0) rfl (slq _ _ q102) (rlT 91 (v' := .slice Al0 s102.length cl0) rfl (slq _ _ q102) (rlT 95 (v' := .slice Al0 s102.length cl0) rfl (slq _ _ q102) (nmE (en := [.sl 1 k88 Al0 cl0 s102 1 true]) (by kernel_rfl) (xs [] [] rfl rfl rfl (one1 14 rfl rfl ?_))))))))
         revert H; refine ggI ?_; intro g103 H
         refine ov (EV.ix 0 rfl rfl rfl g92 g103 rfl) rfl (xn rfl (one1 15 rfl rfl ?_))
         revert H; refine bdI ?_; intro s104 A104 H; have q104 := stl (Option.some.inj A104)
         exact op_stg x5_13 0 0 z88 (⟨(rd_T88 x5_ml0 x5_12).f0, (rd_T88 x5_ml0 x5_12).f1, (rd_T88 x5_ml0 x5_12).f2, (rd_T88 x5_ml0 x5_12).f3, (rd_T88 x5_ml0 x5_12).f4⟩ : S88) (Option.some.inj A104) rfl rfl rfl rfl g92 g103 rfl rfl rfl rfl dq rfl (rlT 0 (v' := .slice Al0 s104.length cl0) rfl (slq _ _ q104) (rlT 87 (v' := .slice Al0 s104.length cl0) rfl (slq _ _ q104) (rlT 89 (v' := .slice Al0 s104.length cl0) rfl (slq _ _ q104) (rlT 91 (v' := .slice Al0 s104.length cl0) rfl (slq _ _ q104) (rlT 95 (v' := .slice Al0 s104.length cl0) rfl (slq _ _ q104) (nmE (en := [.sl 1 k88 Al0 cl0 s104 1 true]) (by kernel_rfl) (xn rfl (xd (pr [0, 1, 4, 12, 13] [] [0] rfl rfl rfl rfl (wk [0, 1, 4, 12, 13] [] [⟨0, 1, 1, false⟩] (jh4 _ ⟨_, s104, x5_1, x5_12, x5_13, by omega, H, (by first | rfl | assumption | omega | (simp only [List.length_set]; first | done | assumption | omega)), rfl⟩)))))))))))
      ·
       refine ov (EV.ix 0 rfl rfl rfl g94 g95 rfl) rfl (xs [] [] rfl rfl rfl ?_)
       refine one2 6 11 rfl rfl rfl rfl ?_ ?_
       ·
        refine ov (EV.ix 0 rfl rfl rfl g92 g93 rfl) rfl (xs [] [] rfl rfl rfl ?_)
        refine one2 7 11 rfl rfl rfl rfl ?_ ?_
        ·
         refine ov (EV.le (v := .agg #[.int .i64 ((rd_T88 x5_ml0 x5_13).f0), .int .i64 ((rd_T88 x5_ml0 x5_13).f1), .int .i64 ((rd_T88 x5_ml0 x5_13).f2), .int .i64 ((rd_T88 x5_ml0 x5_13).f3), .int .i64 ((rd_T88 x5_ml0 x5_13).f4)]) x5_13 0 (some 5) 0 z88 rfl rfl rfl g92 g93 rfl rfl rfl) rfl (xs [] [] rfl rfl rfl (one1 11 rfl rfl (ov (EV.le (v := .agg #[.int .i64 ((rd_T88 x5_ml0 x5_12).f0), .int .i64 ((rd_T88 x5_ml0 x5_12).f1), .int .i64 ((rd_T88 x5_ml0 x5_12).f2), .int .i64 ((rd_T88 x5_ml0 x5_12).f3), .int .i64 ((rd_T88 x5_ml0 x5_12).f4)]) x5_12 0 (some 5) 0 z88 rfl rfl rfl g94 g95 rfl rfl rfl) rfl (xs [] [] rfl rfl rfl (one1 12 rfl rfl (ov (EV.ix 0 rfl rfl rfl g94 g95 rfl) rfl (xs [] [] rfl rfl rfl (one1 13 rfl rfl ?_))))))))
         revert H; refine bdI ?_; intro s105 A105 H; have q105 := stl (Option.some.inj A105)
         refine op_stg x5_12 0 0 z88 (⟨(rd_T88 x5_ml0 x5_13).f0, (rd_T88 x5_ml0 x5_13).f1, (rd_T88 x5_ml0 x5_13).f2, (rd_T88 x5_ml0 x5_13).f3, (rd_T88 x5_ml0 x5_13).f4⟩ : S88) (Option.some.inj A105) rfl rfl rfl rfl g94 g95 rfl rfl rfl rfl dq rfl (rlT 0 (v' := .slice Al0 s105.length cl0) rfl (slq _ _ q105) (rlT 87 (v' := .slice Al0 s105.length cl0) rfl (slq _ _ q105) (rlT 89 (v' := .slice Al0 s105.length cl0) rfl (slq _ _ q105) (rlT 91 (v' := .slice Al0 s105.length cl0) rfl (slq _ _ q105) (rlT 95 (v' := .slice Al0 s105.length cl0) rfl (slq _ _ q105) (nmE (en := [.sl 1 k88 Al0 cl0 s105 1 true]) (by kernel_rfl) (xs [] [] rfl rfl rfl (one1 14 rfl rfl ?_))))))))
         revert H; refine ggI ?_; intro g106 H
         refine ov (EV.ix 0 rfl rfl rfl g92 g106 rfl) rfl (xn rfl (one1 15 rfl rfl ?_))
         revert H; refine bdI ?_; intro s107 A107 H; have q107 := stl (Option.some.inj A107)
         exact op_stg x5_13 0 0 z88 (⟨(rd_T88 x5_ml0 x5_12).f0, (rd_T88 x5_ml0 x5_12).f1, (rd_T88 x5_ml0 x5_12).f2, (rd_T88 x5_ml0 x5_12).f3, (rd_T88 x5_ml0 x5_12).f4⟩ : S88) (Option.some.inj A107) rfl rfl rfl rfl g92 g106 rfl rfl rfl rfl dq rfl (rlT 0 (v' := .slice Al0 s107.length cl0) rfl (slq _ _ q107) (rlT 87 (v' := .slice Al0 s107.length cl0) rfl (slq _ _ q107) (rlT 89 (v' := .slice Al0 s107.length cl0) rfl (slq _ _ q107) (rlT 91 (v' := .slice Al0 s107.length cl0) rfl (slq _ _ q107) (rlT 95 (v' := .slice Al0 s107.length cl0) rfl (slq _ _ q107) (nmE (en := [.sl 1 k88 Al0 cl0 s107 1 true]) (by kernel_rfl) (xn rfl (xd (pr [0, 1, 4, 12, 13] [] [0] rfl rfl rfl rfl (wk [0, 1, 4, 12, 13] [] [⟨0, 1, 1, false⟩] (jh4 _ ⟨_, s107, x5_1, x5_12, x5_13, by omega, H, (by first | rfl | assumption | omega | (simp only [List.length_set]; first | done | assumption | omega)), rfl⟩)))))))))))
        ·
         refine ov (EV.le (v := .agg #[.int .i64 ((rd_T88 x5_ml0 x5_12).f0), .int .i64 ((rd_T88 x5_ml0 x5_12).f1), .int .i64 ((rd_T88 x5_ml0 x5_12).f2), .int .i64 ((rd_T88 x5_ml0 x5_12).f3), .int .i64 ((rd_T88 x5_ml0 x5_12).f4)]) x5_12 0 (some 5) 0 z88 rfl rfl rfl g94 g95 rfl rfl rfl) rfl (xs [] [] rfl rfl rfl (one1 7 rfl rfl (ov (EV.le (v := .agg #[.int .i64 ((rd_T88 x5_ml0 x5_13).f0), .int .i64 ((rd_T88 x5_ml0 x5_13).f1), .int .i64 ((rd_T88 x5_ml0 x5_13).f2), .int .i64 ((rd_T88 x5_ml0 x5_13).f3), .int .i64 ((rd_T88 x5_ml0 x5_13).f4)]) x5_13 0 (some 5) 0 z88 rfl rfl rfl g92 g93 rfl rfl rfl) rfl (xs [] [] rfl rfl rfl (one1 12 rfl rfl (ov (EV.ix 0 rfl rfl rfl g94 g95 rfl) rfl (xs [] [] rfl rfl rfl (one1 13 rfl rfl ?_))))))))
         revert H; refine bdI ?_; intro s108 A108 H; have q108 := stl (Option.some.inj A108)
         refine op_stg x5_12 0 0 z88 (⟨(rd_T88 x5_ml0 x5_13).f0, (rd_T88 x5_ml0 x5_13).f1, (rd_T88 x5_ml0 x5_13).f2, (rd_T88 x5_ml0 x5_13).f3, (rd_T88 x5_ml0 x5_13).f4⟩ : S88) (Option.some.inj A108) rfl rfl rfl rfl g94 g95 rfl rfl rfl rfl dq rfl (rlT 0 (v' := .slice Al0 s108.length cl0) rfl (slq _ _ q108) (rlT 87 (v' := .slice Al0 s108.length cl0) rfl (slq _ _ q108) (rlT 89 (v' := .slice Al0 s108.length cl0) rfl (slq _ _ q108) (rlT 91 (v' := .slice Al0 s108.length cl0) rfl (slq _ _ q108) (rlT 95 (v' := .slice Al0 s108.length cl0) rfl (slq _ _ q108) (nmE (en := [.sl 1 k88 Al0 cl0 s108 1 true]) (by kernel_rfl) (xs [] [] rfl rfl rfl (one1 14 rfl rfl ?_))))))))
         revert H; refine ggI ?_; intro g109 H
         refine ov (EV.ix 0 rfl rfl rfl g92 g109 rfl) rfl (xn rfl (one1 15 rfl rfl ?_))
         revert H; refine bdI ?_; intro s110 A110 H; have q110 := stl (Option.some.inj A110)
         exact op_stg x5_13 0 0 z88 (⟨(rd_T88 x5_ml0 x5_12).f0, (rd_T88 x5_ml0 x5_12).f1, (rd_T88 x5_ml0 x5_12).f2, (rd_T88 x5_ml0 x5_12).f3, (rd_T88 x5_ml0 x5_12).f4⟩ : S88) (Option.some.inj A110) rfl rfl rfl rfl g92 g109 rfl rfl rfl rfl dq rfl (rlT 0 (v' := .slice Al0 s110.length cl0) rfl (slq _ _ q110) (rlT 87 (v' := .slice Al0 s110.length cl0) rfl (slq _ _ q110) (rlT 89 (v' := .slice Al0 s110.length cl0) rfl (slq _ _ q110) (rlT 91 (v' := .slice Al0 s110.length cl0) rfl (slq _ _ q110) (rlT 95 (v' := .slice Al0 s110.length cl0) rfl (slq _ _ q110) (nmE (en := [.sl 1 k88 Al0 cl0 s110 1 true]) (by kernel_rfl) (xn rfl (xd (pr [0, 1, 4, 12, 13] [] [0] rfl rfl rfl rfl (wk [0, 1, 4, 12, 13] [] [⟨0, 1, 1, false⟩] (jh4 _ ⟨_, s110, x5_1, x5_12, x5_13, by omega, H, (by first | rfl | assumption | omega | (simp only [List.length_set]; first | done | assumption | omega)), rfl⟩)))))))))))
       ·
        refine ov (EV.le (v := .agg #[.int .i64 ((rd_T88 x5_ml0 x5_12).f0), .int .i64 ((rd_T88 x5_ml0 x5_12).f1), .int .i64 ((rd_T88 x5_ml0 x5_12).f2), .int .i64 ((rd_T88 x5_ml0 x5_12).f3), .int .i64 ((rd_T88 x5_ml0 x5_12).f4)]) x5_12 0 (some 5) 0 z88 rfl rfl rfl g94 g95 rfl rfl rfl) rfl (xs [] [] rfl rfl rfl (one1 6 rfl rfl (ov (EV.ix 0 rfl rfl rfl g92 g93 rfl) rfl (xs [] [] rfl rfl rfl (one1 7 rfl rfl (ov (EV.le (v := .agg #[.int .i64 ((rd_T88 x5_ml0 x5_13).f0), .int .i64 ((rd_T88 x5_ml0 x5_13).f1), .int .i64 ((rd_T88 x5_ml0 x5_13).f2), .int .i64 ((rd_T88 x5_ml0 x5_13).f3), .int .i64 ((rd_T88 x5_ml0 x5_13).f4)]) x5_13 0 (some 5) 0 z88 rfl rfl rfl g92 g93 rfl rfl rfl) rfl (xs [] [] rfl rfl rfl (one1 12 rfl rfl (ov (EV.ix 0 rfl rfl rfl g94 g95 rfl) rfl (xs [] [] rfl rfl rfl (one1 13 rfl rfl ?_)))))))))))
        revert H; refine bdI ?_; intro s111 A111 H; have q111 := stl (Option.some.inj A111)
        refine op_stg x5_12 0 0 z88 (⟨(rd_T88 x5_ml0 x5_13).f0, (rd_T88 x5_ml0 x5_13).f1, (rd_T88 x5_ml0 x5_13).f2, (rd_T88 x5_ml0 x5_13).f3, (rd_T88 x5_ml0 x5_13).f4⟩ : S88) (Option.some.inj A111) rfl rfl rfl rfl g94 g95 rfl rfl rfl rfl dq rfl (rlT 0 (v' := .slice Al0 s111.length cl0) rfl (slq _ _ q111) (rlT 87 (v' := .slice Al0 s111.length cl0) rfl (slq _ _ q111) (rlT 89 (v' := .slice Al0 s111.length cl0) rfl (slq _ _ q111) (rlT 91 (v' := .slice Al0 s111.length cl0) rfl (slq _ _ q111) (rlT 95 (v' := .slice Al0 s111.length cl0) rfl (slq _ _ q111) (nmE (en := [.sl 1 k88 Al0 cl0 s111 1 true]) (by kernel_rfl) (xs [] [] rfl rfl rfl (one1 14 rfl rfl ?_))))))))
        revert H; refine ggI ?_; intro g112 H
        refine ov (EV.ix 0 rfl rfl rfl g92 g112 rfl) rfl (xn rfl (one1 15 rfl rfl ?_))
        revert H; refine bdI ?_; intro s113 A113 H; have q113 := stl (Option.some.inj A113)
        exact op_stg x5_13 0 0 z88 (⟨(rd_T88 x5_ml0 x5_12).f0, (rd_T88 x5_ml0 x5_12).f1, (rd_T88 x5_ml0 x5_12).f2, (rd_T88 x5_ml0 x5_12).f3, (rd_T88 x5_ml0 x5_12).f4⟩ : S88) (Option.some.inj A113) rfl rfl rfl rfl g92 g112 rfl rfl rfl rfl dq rfl (rlT 0 (v' := .slice Al0 s113.length cl0) rfl (slq _ _ q113) (rlT 87 (v' := .slice Al0 s113.length cl0) rfl (slq _ _ q113) (rlT 89 (v' := .slice Al0 s113.length cl0) rfl (slq _ _ q113) (rlT 91 (v' := .slice Al0 s113.length cl0) rfl (slq _ _ q113) (rlT 95 (v' := .slice Al0 s113.length cl0) rfl (slq _ _ q113) (nmE (en := [.sl 1 k88 Al0 cl0 s113 1 true]) (by kernel_rfl) (xn rfl (xd (pr [0, 1, 4, 12, 13] [] [0] rfl rfl rfl rfl (wk [0, 1, 4, 12, 13] [] [⟨0, 1, 1, false⟩] (jh4 _ ⟨_, s113, x5_1, x5_12, x5_13, by omega, H, (by first | rfl | assumption | omega | (simp only [List.length_set]; first | done | assumption | omega)), rfl⟩)))))))))))
   ·
    refine gb ?_
    refine lo (fun kk S => ∃ (x41_ml0 : List S88) (x41_1 : Int) (x41_12 : Int) (x41_13 : Int), kk ≤ m2 ∧ slices_partitionCmpFunc_impl_Group_at93.l3 kk x41_ml0 x41_1 x41_12 x41_13 = some (r0, r1, r2) ∧ x41_ml0.length = l0.length ∧ S = ⟨[(0, .slice Al0 x41_ml0.length cl0), (1, .int .i64 x41_1), (4, .func (.func 93) #[] #[]), (12, .int .i64 x41_12), (13, .int .i64 x41_13)], [], [.sl 1 k88 Al0 cl0 x41_ml0 1 false]⟩) (fun S hS => ?_) (fun n3 ih3 S hS => ?_) ⟨x3_ml0, x3_1, x3_12, x3_13, by omega, H, (by first | rfl | assumption | omega | (simp only [List.length_set]; first | done | assumption | omega)), rfl⟩ (fun h => wk [0, 1, 4, 12, 13] [] [⟨0, 1, 1, false⟩] h)
    · clear H; obtain ⟨_, _, _, _, _, H, _⟩ := hS; rw [slices_partitionCmpFunc_impl_Group_at93.l3] at H; cases H
    clear H
    obtain ⟨x41_ml0, x41_1, x41_12, x41_13, lk3, H, ex41_ml0, rfl⟩ := hS
    rw [slices_partitionCmpFunc_impl_Group_at93.l3] at H
    refine gs (gs (dr [] [0] [] 17 rfl rfl rfl rfl (xv 0 [] [0] rfl (EV.mv rfl) rfl rfl rfl rfl (xv 1 [] [0] rfl (EV.mv rfl) rfl rfl rfl rfl (xv 2 [] [0] rfl (EV.leq rfl rfl) rfl rfl rfl rfl (xv 3 [] [0] rfl (EV.mv rfl) rfl rfl rfl rfl ?_))))))
    revert H; refine ifsI ?_ ?_ <;> intro c114 H
    ·
     refine ts 53 rfl (dT c114) (xv 4 [] [0] rfl (EV.mv rfl) rfl rfl rfl rfl (xv 5 [] [0] rfl (EV.mv rfl) rfl rfl rfl rfl (xv 6 [] [0] rfl (EV.mv rfl) rfl rfl rfl rfl ?_)))
     revert H; refine ggI ?_; intro g115 H
     revert H; refine ggI ?_; intro g116 H
     refine xv 7 [] [0] rfl (EV.ix 0 rfl rfl rfl g115 g116 rfl) rfl rfl rfl rfl (xv 8 [] [0] rfl (EV.le (v := .agg #[.int .i64 ((rd_T88 x41_ml0 x41_13).f0), .int .i64 ((rd_T88 x41_ml0 x41_13).f1), .int .i64 ((rd_T88 x41_ml0 x41_13).f2), .int .i64 ((rd_T88 x41_ml0 x41_13).f3), .int .i64 ((rd_T88 x41_ml0 x41_13).f4)]) x41_13 0 (some 5) 0 z88 rfl rfl rfl g115 g116 rfl rfl rfl) rfl rfl rfl rfl (xv 9 [] [0] rfl (EV.mv rfl) rfl rfl rfl rfl (xv 10 [] [0] rfl (EV.mv rfl) rfl rfl rfl rfl ?_)))
     revert H; refine ggI ?_; intro g117 H
     revert H; refine ggI ?_; intro g118 H
     refine xv 11 [] [0] rfl (EV.ix 0 rfl rfl rfl g117 g118 rfl) rfl rfl rfl rfl (xv 12 [] [0] rfl (EV.le (v := .agg #[.int .i64 ((rd_T88 x41_ml0 x41_1).f0), .int .i64 ((rd_T88 x41_ml0 x41_1).f1), .int .i64 ((rd_T88 x41_ml0 x41_1).f2), .int .i64 ((rd_T88 x41_ml0 x41_1).f3), .int .i64 ((rd_T88 x41_ml0 x41_1).f4)]) x41_1 0 (some 5) 0 z88 rfl rfl rfl g117 g118 rfl rfl rfl) rfl rfl rfl rfl (one1 13 rfl rfl ?_))
     revert H; refine bdI ?_; rintro t119 A119 H
     refine cvf (f := 93) rfl (op_call (impl_MergeGroups_1.ok ((rd_T88 x41_ml0 x41_13).f0) ((rd_T88 x41_ml0 x41_13).f1) ((rd_T88 x41_ml0 x41_13).f2) ((rd_T88 x41_ml0 x41_13).f3) ((rd_T88 x41_ml0 x41_13).f4) ((rd_T88 x41_ml0 x41_1).f0) ((rd_T88 x41_ml0 x41_1).f1) ((rd_T88 x41_ml0 x41_1).f2) ((rd_T88 x41_ml0 x41_1).f3) ((rd_T88 x41_ml0 x41_1).f4) _ A119) [] 2 rfl rfl rfl rfl rfl ?_)
     rintro _ _ _ ⟨rfl, rfl, rfl⟩
     refine xs [] [0] rfl rfl rfl (xv 14 [] [0] rfl (EV.lss rfl rfl) rfl rfl rfl rfl (xv 15 [] [0] rfl (EV.nt rfl) rfl rfl rfl rfl (xv 16 [] [0] rfl (EV.pt rfl rfl rfl) rfl rfl rfl rfl (xd ?_))))
     revert H; refine ifsI ?_ ?_ <;> intro c120 H
     ·
      exact gf rfl (nF c120) (gx rfl (wk [0, 1, 4, 12, 13] [] [⟨0, 1, 1, false⟩] (jh2 _ ⟨_, x41_ml0, x41_1, x41_12, x41_13, by omega, H, (by first | rfl | assumption | omega | (simp only [List.length_set]; first | done | assumption | omega)), rfl⟩)))
     ·
      exact gt rfl (nT c120) (gk (gb (rg (sv (EV.mv rfl) rfl (sv (EV.sub rfl rfl) rfl (sv (EV.as rfl) rfl (re (pr [0, 1, 4, 12, 13, 54, 55, 56, 57, 58, 59, 60, 61, 62, 63, 64, 65] [] [0] rfl rfl rfl rfl (ge (wk [0, 1, 4, 12, 13] [] [⟨0, 1, 1, false⟩] (ih3 _ (by omega) _ ⟨x41_ml0, x41_1, x41_12, wrap64 (x41_13 - 1), by omega, H, (by first | rfl | assumption | omega | (simp only [List.length_set]; first | done | assumption | omega)), rfl⟩)))))))))))
    ·
     exact ts 53 rfl (dF c114) (xk 4 [] [0] rfl rfl rfl rfl rfl (xk 5 [] [0] rfl rfl rfl rfl rfl (xk 6 [] [0] rfl rfl rfl rfl rfl (xk 7 [] [0] rfl rfl rfl rfl rfl (xk 8 [] [0] rfl rfl rfl rfl rfl (xk 9 [] [0] rfl rfl rfl rfl rfl (xk 10 [] [0] rfl rfl rfl rfl rfl (xk 11 [] [0] rfl rfl rfl rfl rfl (xk 12 [] [0] rfl rfl rfl rfl rfl (xk 13 [] [0] rfl rfl rfl rfl rfl (xk 14 [] [0] rfl rfl rfl rfl rfl (xk 15 [] [0] rfl rfl rfl rfl rfl (xv 16 [] [0] rfl (EV.pf rfl rfl rfl) rfl rfl rfl rfl (xd (pr [0, 1, 4, 12, 13, 66] [] [0] rfl rfl rfl rfl (gf rfl rfl (gx rfl (wk [0, 1, 4, 12, 13] [] [⟨0, 1, 1, false⟩] (jh2 _ ⟨_, x41_ml0, x41_1, x41_12, x41_13, by omega, H, (by first | rfl | assumption | omega | (simp only [List.length_set]; first | done | assumption | omega)), rfl⟩)))))))))))))))))))
  ·
   refine gb ?_
   refine lo (fun kk S => ∃ (x42_ml0 : List S88) (x42_1 : Int) (x42_12 : Int) (x42_13 : Int), kk ≤ m1 ∧ slices_partitionCmpFunc_impl_Group_at93.l4 kk x42_ml0 x42_1 x42_12 x42_13 = some (r0, r1, r2) ∧ x42_ml0.length = l0.length ∧ S = ⟨[(0, .slice Al0 x42_ml0.length cl0), (1, .int .i64 x42_1), (4, .func (.func 93) #[] #[]), (12, .int .i64 x42_12), (13, .int .i64 x42_13)], [], [.sl 1 k88 Al0 cl0 x42_ml0 1 false]⟩) (fun S hS => ?_) (fun n4 ih4 S hS => ?_) ⟨x1_ml0, x1_1, wrap64 (x1_1 + 1), wrap64 (x1_2 - 1), by omega, H, (by first | rfl | assumption | omega | (simp only [List.length_set]; first | done | assumption | omega)), rfl⟩ (fun h => wk [0, 1, 4, 12, 13] [] [⟨0, 1, 1, false⟩] h)
   · clear H; obtain ⟨_, _, _, _, _, H, _⟩ := hS; rw [slices_partitionCmpFunc_impl_Group_at93.l4] at H; cases H
   clear H
   obtain ⟨x42_ml0, x42_1, x42_12, x42_13, lk4, H, ex42_ml0, rfl⟩ := hS
   rw [slices_partitionCmpFunc_impl_Group_at93.l4] at H
   refine gs (gs (dr [] [0] [] 16 rfl rfl rfl rfl (xv 0 [] [0] rfl (EV.mv rfl) rfl rfl rfl rfl (xv 1 [] [0] rfl (EV.mv rfl) rfl rfl rfl rfl (xv 2 [] [0] rfl (EV.leq rfl rfl) rfl rfl rfl rfl (xv 3 [] [0] rfl (EV.mv rfl) rfl rfl rfl rfl ?_))))))
   revert H; refine ifsI ?_ ?_ <;> intro c121 H
   ·
    refine ts 35 rfl (dT c121) (xv 4 [] [0] rfl (EV.mv rfl) rfl rfl rfl rfl (xv 5 [] [0] rfl (EV.mv rfl) rfl rfl rfl rfl (xv 6 [] [0] rfl (EV.mv rfl) rfl rfl rfl rfl ?_)))
    revert H; refine ggI ?_; intro g122 H
    revert H; refine ggI ?_; intro g123 H
    refine xv 7 [] [0] rfl (EV.ix 0 rfl rfl rfl g122 g123 rfl) rfl rfl rfl rfl (xv 8 [] [0] rfl (EV.le (v := .agg #[.int .i64 ((rd_T88 x42_ml0 x42_12).f0), .int .i64 ((rd_T88 x42_ml0 x42_12).f1), .int .i64 ((rd_T88 x42_ml0 x42_12).f2), .int .i64 ((rd_T88 x42_ml0 x42_12).f3), .int .i64 ((rd_T88 x42_ml0 x42_12).f4)]) x42_12 0 (some 5) 0 z88 rfl rfl rfl g122 g123 rfl rfl rfl) rfl rfl rfl rfl (xv 9 [] [0] rfl (EV.mv rfl) rfl rfl rfl rfl (xv 10 [] [0] rfl (EV.mv rfl) rfl rfl rfl rfl ?_)))
    revert H; refine ggI ?_; intro g124 H
    revert H; refine ggI ?_; intro g125 H
    refine xv 11 [] [0] rfl (EV.ix 0 rfl rfl rfl g124 g125 rfl) rfl rfl rfl rfl (xv 12 [] [0] rfl (EV.le (v := .agg #[.int .i64 ((rd_T88 x42_ml0 x42_1).f0), .int .i64 ((rd_T88 x42_ml0 x42_1).f1), .int .i64 ((rd_T88 x42_ml0 x42_1).f2), .int .i64 ((rd_T88 x42_ml0 x42_1).f3), .int .i64 ((rd_T88 x42_ml0 x42_1).f4)]) x42_1 0 (some 5) 0 z88 rfl rfl rfl g124 g125 rfl rfl rfl) rfl rfl rfl rfl (one1 13 rfl rfl ?_))
    revert H; refine bdI ?_; rintro t126 A126 H
    refine cvf (f := 93) rfl (op_call (impl_MergeGroups_1.ok ((rd_T88 x42_ml0 x42_12).f0) ((rd_T88 x42_ml0 x42_12).f1) ((rd_T88 x42_ml0 x42_12).f2) ((rd_T88 x42_ml0 x42_12).f3) ((rd_T88 x42_ml0 x42_12).f4) ((rd_T88 x42_ml0 x42_1).f0) ((rd_T88 x42_ml0 x42_1).f1) ((rd_T88 x42_ml0 x42_1).f2) ((rd_T88 x42_ml0 x42_1).f3) ((rd_T88 x42_ml0 x42_1).f4) _ A126) [] 2 rfl rfl rfl rfl rfl ?_)
    rintro _ _ _ ⟨rfl, rfl, rfl⟩
    refine xs [] [0] rfl rfl rfl (xv 14 [] [0] rfl (EV.lss rfl rfl) rfl rfl rfl rfl (xv 15 [] [0] rfl (EV.pt rfl rfl rfl) rfl rfl rfl rfl (xd ?_)))
    revert H; refine ifsI ?_ ?_ <;> intro c127 H
    ·
     exact gt rfl (dT c127) (gk (gb (rg (sv (EV.mv rfl) rfl (sv (EV.add rfl rfl) rfl (sv (EV.as rfl) rfl (re (pr [0, 1, 4, 12, 13, 36, 37, 38, 39, 40, 41, 42, 43, 44, 45, 46] [] [0] rfl rfl rfl rfl (ge (wk [0, 1, 4, 12, 13] [] [⟨0, 1, 1, false⟩] (ih4 _ (by omega) _ ⟨x42_ml0, x42_1, wrap64 (x42_12 + 1), x42_13, by omega, H, (by first | rfl | assumption | omega | (simp only [List.length_set]; first | done | assumption | omega)), rfl⟩)))))))))))
    ·
     exact gf rfl (dF c127) (gx rfl (wk [0, 1, 4, 12, 13] [] [⟨0, 1, 1, false⟩] (jh1 _ ⟨_, x42_ml0, x42_1, x42_12, x42_13, by omega, H, (by first | rfl | assumption | omega | (simp only [List.length_set]; first | done | assumption | omega)), rfl⟩)))
   ·
    exact ts 35 rfl (dF c121) (xk 4 [] [0] rfl rfl rfl rfl rfl (xk 5 [] [0] rfl rfl rfl rfl rfl (xk 6 [] [0] rfl rfl rfl rfl rfl (xk 7 [] [0] rfl rfl rfl rfl rfl (xk 8 [] [0] rfl rfl rfl rfl rfl (xk 9 [] [0] rfl rfl rfl rfl rfl (xk 10 [] [0] rfl rfl rfl rfl rfl (xk 11 [] [0] rfl rfl rfl rfl rfl (xk 12 [] [0] rfl rfl rfl rfl rfl (xk 13 [] [0] rfl rfl rfl rfl rfl (xk 14 [] [0] rfl rfl rfl rfl rfl (xv 15 [] [0] rfl (EV.pf rfl rfl rfl) rfl rfl rfl rfl (xd (pr [0, 1, 4, 12, 13, 47] [] [0] rfl rfl rfl rfl (gf rfl rfl (gx rfl (wk [0, 1, 4, 12, 13] [] [⟨0, 1, 1, false⟩] (jh1 _ ⟨_, x42_ml0, x42_1, x42_12, x42_13, by omega, H, (by first | rfl | assumption | omega | (simp only [List.length_set]; first | done | assumption | omega)), rfl⟩))))))))))))))))))
 ·
  revert H; refine ggI ?_; intro g128 H
  revert H; refine ggI ?_; intro g129 H
  revert H; refine ggI ?_; intro g130 H
  revert H; refine ggI ?_; intro g131 H
  refine dr [] [] [14, 15] 16 rfl rfl rfl rfl (xv 0 [] [] rfl (EV.mv rfl) rfl rfl rfl rfl (xv 1 [] [] rfl (EV.mv rfl) rfl rfl rfl rfl (xv 2 [] [] rfl (EV.mv rfl) rfl rfl rfl rfl (xv 3 [] [] rfl (EV.mv rfl) rfl rfl rfl rfl (xv 4 [] [] rfl (EV.mv rfl) rfl rfl rfl rfl (xv 5 [] [] rfl (EV.mv rfl) rfl rfl rfl rfl (xv 8 [] [] rfl (EV.mv rfl) rfl rfl rfl rfl (xv 9 [] [] rfl (EV.mv rfl) rfl rfl rfl rfl ?_))))))))
  refine one2 6 10 rfl rfl rfl rfl ?_ ?_
  ·
   refine ov (EV.ix 0 rfl rfl rfl g128 g129 rfl) rfl (xs [] [] rfl rfl rfl ?_)
   refine one2 7 10 rfl rfl rfl rfl ?_ ?_
   ·
    refine ov (EV.le (v := .agg #[.int .i64 ((rd_T88 l0 a3).f0), .int .i64 ((rd_T88 l0 a3).f1), .int .i64 ((rd_T88 l0 a3).f2), .int .i64 ((rd_T88 l0 a3).f3), .int .i64 ((rd_T88 l0 a3).f4)]) a3 0 (some 5) 0 z88 rfl rfl rfl g128 g129 rfl rfl rfl) rfl (xs [] [] rfl rfl rfl (one1 10 rfl rfl (ov (EV.ix 0 rfl rfl rfl g130 g131 rfl) rfl (xs [] [] rfl rfl rfl (one1 11 rfl rfl (ov (EV.le (v := .agg #[.int .i64 ((rd_T88 l0 a1).f0), .int .i64 ((rd_T88 l0 a1).f1), .int .i64 ((rd_T88 l0 a1).f2), .int .i64 ((rd_T88 l0 a1).f3), .int .i64 ((rd_T88 l0 a1).f4)]) a1 0 (some 5) 0 z88 rfl rfl rfl g130 g131 rfl rfl rfl) rfl (xs [] [] rfl rfl rfl (one1 12 rfl rfl (ov (EV.ix 0 rfl rfl rfl g130 g131 rfl) rfl (xs [] [] rfl rfl rfl (one1 13 rfl rfl ?_)))))))))))
    revert H; refine bdI ?_; intro s132 A132 H; have q132 := stl (Option.some.inj A132)
    refine op_stg a1 0 0 z88 (⟨(rd_T88 l0 a3).f0, (rd_T88 l0 a3).f1, (rd_T88 l0 a3).f2, (rd_T88 l0 a3).f3, (rd_T88 l0 a3).f4⟩ : S88) (Option.some.inj A132) rfl rfl rfl rfl g130 g131 rfl rfl rfl rfl dq rfl (rlT 0 (v' := .slice Al0 s132.length cl0) rfl (slq _ _ q132) (rlT 14 (v' := .slice Al0 s132.length cl0) rfl (slq _ _ q132) (rlT 16 (v' := .slice Al0 s132.length cl0) rfl (slq _ _ q132) (rlT 18 (v' := .slice Al0 s132.length cl0) rfl (slq _ _ q132) (rlT 22 (v' := .slice Al0 s132.length cl0) rfl (slq _ _ q132) (nmE (en := [.sl 1 k88 Al0 cl0 s132 1 true]) (by kernel_rfl) (xs [] [] rfl rfl rfl (one1 14 rfl rfl ?_))))))))
    revert H; refine ggI ?_; intro g133 H
    refine ov (EV.ix 0 rfl rfl rfl g128 g133 rfl) rfl (xn rfl (one1 15 rfl rfl ?_))
    revert H; refine bdI ?_; intro s134 A134 H; have q134 := stl (Option.some.inj A134)
    exact op_stg a3 0 0 z88 (⟨(rd_T88 l0 a1).f0, (rd_T88 l0 a1).f1, (rd_T88 l0 a1).f2, (rd_T88 l0 a1).f3, (rd_T88 l0 a1).f4⟩ : S88) (Option.some.inj A134) rfl rfl rfl rfl g128 g133 rfl rfl rfl rfl dq rfl (rlT 0 (v' := .slice Al0 s134.length cl0) rfl (slq _ _ q134) (rlT 14 (v' := .slice Al0 s134.length cl0) rfl (slq _ _ q134) (rlT 16 (v' := .slice Al0 s134.length cl0) rfl (slq _ _ q134) (rlT 18 (v' := .slice Al0 s134.length cl0) rfl (slq _ _ q134) (rlT 22 (v' := .slice Al0 s134.length cl0) rfl (slq _ _ q134) (nmE (en := [.sl 1 k88 Al0 cl0 s134 1 true]) (by kernel_rfl) (xn rfl (xd (pr [0, 1, 2, 4] [] [0] rfl rfl rfl rfl (wk [0, 1, 2, 4] [] [⟨0, 1, 1, false⟩] (jh0 _ ⟨_, s134, a1, a2, H, (by first | rfl | assumption | omega | (simp only [List.length_set]; first | done | assumption | omega)), rfl⟩)))))))))))
   ·
    refine ov (EV.ix 0 rfl rfl rfl g130 g131 rfl) rfl (xs [] [] rfl rfl rfl ?_)
    refine one2 7 11 rfl rfl rfl rfl ?_ ?_
    ·
     refine ov (EV.le (v := .agg #[.int .i64 ((rd_T88 l0 a3).f0), .int .i64 ((rd_T88 l0 a3).f1), .int .i64 ((rd_T88 l0 a3).f2), .int .i64 ((rd_T88 l0 a3).f3), .int .i64 ((rd_T88 l0 a3).f4)]) a3 0 (some 5) 0 z88 rfl rfl rfl g128 g129 rfl rfl rfl) rfl (xs [] [] rfl rfl rfl (one1 11 rfl rfl (ov (EV.le (v := .agg #[.int .i64 ((rd_T88 l0 a1).f0), .int .i64 ((rd_T88 l0 a1).f1), .int .i64 ((rd_T88 l0 a1).f2), .int .i64 ((rd_T88 l0 a1).f3), .int .i64 ((rd_T88 l0 a1).f4)]) a1 0 (some 5) 0 z88 rfl rfl rfl g130 g131 rfl rfl rfl) rfl (xs [] [] rfl rfl rfl (one1 12 rfl rfl (ov (EV.ix 0 rfl rfl rfl g130 g131 rfl) rfl (xs [] [] rfl rfl rfl (one1 13 rfl rfl ?_))))))))
     revert H; refine bdI ?_; intro s135 A135 H; have q135 := stl (Option.some.inj A135)
     refine op_stg a1 0 0 z88 (⟨(rd_T88 l0 a3).f0, (rd_T88 l0 a3).f1, (rd_T88 l0 a3).f2, (rd_T88 l0 a3).f3, (rd_T88 l0 a3).f4⟩ : S88) (Option.some.inj A135) rfl rfl rfl rfl g130 g131 rfl rfl rfl rfl dq rfl (rlT 0 (v' := .slice Al0 s135.length cl0) rfl (slq _ _ q135) (rlT 14 (v' := .slice Al0 s135.length cl0) rfl (slq _ _ q135) (rlT 16 (v' := .slice Al0 s135.length cl0) rfl (slq _ _ q135) (rlT 18 (v' := .slice Al0 s135.length cl0) rfl (slq _ _ q135) (rlT 22 (v' := .slice Al0 s135.length cl0) rfl (slq _ _ q135) (nmE (en := [.sl 1 k88 Al0 cl0 s135 1 true]) (by kernel_rfl) (xs [] [] rfl rfl rfl (one1 14 rfl rfl ?_))))))))
     revert H; refine ggI ?_; intro g136 H
     refine ov (EV.ix 0 rfl rfl rfl g128 g136 rfl) rfl (xn rfl (one1 15 rfl rfl ?_))
     revert H; refine bdI ?_; intro s137 A137 H; have q137 := stl (Option.some.inj A137)
     exact op_stg a3 0 0 z88 (⟨(rd_T88 l0 a1).f0, (rd_T88 l0 a1).f1, (rd_T88 l0 a1).f2, (rd_T88 l0 a1).f3, (rd_T88 l0 a1).f4⟩ : S88) (Option.some.inj A137) rfl rfl rfl rfl g128 g136 rfl rfl rfl rfl dq rfl (rlT 0 (v' := .slice Al0 s137.length cl0) rfl (slq _ _ q137) (rlT 14 (v' := .slice Al0 s137.length cl0) rfl (slq _ _ q137) (rlT 16 (v' := .slice Al0 s137.length cl0) rfl (slq _ _ q137) (rlT 18 (v' := .slice Al0 s137.length cl0) rfl (slq _ _ q137) (rlT 22 (v' := .slice Al0 s137.length cl0) rfl (slq _ _ q137) (nmE (en := [.sl 1 k88 Al0 cl0 s137 1 true]) (by kernel_rfl) (xn rfl (xd (pr [0, 1, 2, 4] [] [0] rfl rfl rfl rfl (wk [0, 1, 2, 4] [] [⟨0, 1, 1, false⟩] (jh0 _ ⟨_, s137, a1, a2, H, (by first | rfl | assumption | omega | (simp only [List.length_set]; first | done | assumption | omega)), rfl⟩)))))))))))
    ·
     refine ov (EV.le (v := .agg #[.int .i64 ((rd_T88 l0 a1).f0), .int .i64 ((rd_T88 l0 a1).f1), .int .i64 ((rd_T88 l0 a1).f2), .int .i64 ((rd_T88 l0 a1).f3), .int .i64 ((rd_T88 l0 a1).f4)]) a1 0 (some 5) 0 z88 rfl rfl rfl g130 g131 rfl rfl rfl) rfl (xs [] [] rfl rfl rfl (one1 7 rfl rfl (ov (EV.le (v := .agg #[.int .i64 ((rd_T88 l0 a3).f0), .int .i64 ((rd_T88 l0 a3).f1), .int .i64 ((rd_T88 l0 a3).f2), .int .i64 ((rd_T88 l0 a3).f3), .int .i64 ((rd_T88 l0 a3).f4)]) a3 0 (some 5) 0 z88 rfl rfl rfl g128 g129 rfl rfl rfl) rfl (xs [] [] rfl rfl rfl (one1 12 rfl rfl (ov (EV.ix 0 rfl rfl rfl g130 g131 rfl) rfl (xs [] [] rfl rfl rfl (one1 13 rfl rfl ?_))))))))
     revert H; refine bdI ?_; intro s138 A138 H; have q138 := stl (Option.some.inj A138)
     refine op_stg a1 0 0 z88 (⟨(rd_T88 l0 a3).f0, (rd_T88 l0 a3).f1, (rd_T88 l0 a3).f2, (rd_T88 l0 a3).f3, (rd_T88 l0 a3).f4⟩ : S88) (Option.some.inj A138) rfl rfl rfl rfl g130 g131 rfl rfl rfl rfl dq rfl (rlT 0 (v' := .slice Al0 s138.length cl0) rfl (slq _ _ q138) (rlT 14 (v' := .slice Al0 s138.length cl0) rfl (slq _ _ q138) (rlT 16 (v' := .slice Al0 s138.length cl0) rfl (slq _ _ q138) (rlT 18 (v' := .slice Al0 s138.length cl0) rfl (slq _ _ q138) (rlT 22 (v' := .slice Al0 s138.length cl0) rfl (slq _ _ q138) (nmE (en := [.sl 1 k88 Al0 cl0 s138 1 true]) (by kernel_rfl) (xs [] [] rfl rfl rfl (one1 14 rfl rfl ?_))))))))
     revert H; refine ggI ?_; intro g139 H
     refine ov (EV.ix 0 rfl rfl rfl g128 g139 rfl) rfl (xn rfl (one1 15 rfl rfl ?_))
     revert H; refine bdI ?_; intro s140 A140 H; have q140 := stl (Option.some.inj A140)
     exact op_stg a3 0 0 z88 (⟨(rd_T88 l0 a1).f0, (rd_T88 l0 a1).f1, (rd_T88 l0 a1).f2, (rd_T88 l0 a1).f3, (rd_T88 l0 a1).f4⟩ : S88) (Option.some.inj A140) rfl rfl rfl rfl g128 g139 rfl rfl rfl rfl dq rfl (rlT 0 (v' := .slice Al0 s140.length cl0) rfl (slq _ _ q140) (rlT 14 (v' := .slice Al0 s140.length cl0) rfl (slq _ _ q140) (rlT 16 (v' := .slice Al0 s140.length cl0) rfl (slq _ _ q140) (rlT 18 (v' := .slice Al0 s140.length cl0) rfl (slq _ _ q140) (rlT 22 (v' := .slice Al0 s140.length cl0) rfl (slq _ _ q140) (nmE (en := [.sl 1 k88 Al0 cl0 s140 1 true]) (by kernel_rfl) (xn rfl (xd (pr [0, 1, 2, 4] [] [0] rfl rfl rfl rfl (wk [0, 1, 2, 4] [] [⟨0, 1, 1, false⟩] (jh0 _ ⟨_, s140, a1, a2, H, (by first | rfl | assumption | omega | (simp only [List.length_set]; first | done | assumption | omega)), rfl⟩)))))))))))
  ·
   refine ov (EV.ix 0 rfl rfl rfl g130 g131 rfl) rfl (xs [] [] rfl rfl rfl ?_)
   refine one2 6 11 rfl rfl rfl rfl ?_ ?_
   ·
    refine ov (EV.ix 0 rfl rfl rfl g128 g129 rfl) rfl (xs [] [] rfl rfl rfl ?_)
    refine one2 7 11 rfl rfl rfl rfl ?_ ?_
    ·
     refine ov (EV.le (v := .agg #[.int .i64 ((rd_T88 l0 a3).f0), .int .i64 ((rd_T88 l0 a3).f1), .int .i64 ((rd_T88 l0 a3).f2), .int .i64 ((rd_T88 l0 a3).f3), .int .i64 ((rd_T88 l0 a3).f4)]) a3 0 (some 5) 0 z88 rfl rfl rfl g128 g129 rfl rfl rfl) rfl (xs [] [] rfl rfl rfl (one1 11 rfl rfl (ov (EV.le (v := .agg #[.int .i64 ((rd_T88 l0 a1).f0), .int .i64 ((rd_T88 l0 a1).f1), .int .i64 ((rd_T88 l0 a1).f2), .int .i64 ((rd_T88 l0 a1).f3), .int .i64 ((rd_T88 l0 a1).f4)]) a1 0 (some 5) 0 z88 rfl rfl rfl g130 g131 rfl rfl rfl) rfl (xs [] [] rfl rfl rfl (one1 12 rfl rfl (ov (EV.ix 0 rfl rfl rfl g130 g131 rfl) rfl (xs [] [] rfl rfl rfl (one1 13 rfl rfl ?_))))))))
     revert H; refine bdI ?_; intro s141 A141 H; have q141 := stl (Option.some.inj A141)
     refine op_stg a1 0 0 z88 (⟨(rd_T88 l0 a3).f0, (rd_T88 l0 a3).f1, (rd_T88 l0 a3).f2, (rd_T88 l0 a3).f3, (rd_T88 l0 a3).f4⟩ : S88) (Option.some.inj A141) rfl rfl rfl rfl g130 g131 rfl rfl rfl rfl dq rfl (rlT 0 (v' := .slice Al0 s141.length cl0) rfl (slq _ _ q141) (rlT 14 (v' := .slice Al0 s141.length cl0) rfl (slq _ _ q141) (rlT 16 (v' := .slice Al0 s141.length cl0) rfl (slq _ _ q141) (rlT 18 (v' := .slice Al0 s141.length cl0) rfl (slq _ _ q141) (rlT 22 (v' := .slice Al0 s141.length cl0) rfl (slq _ _ q141) (nmE (en := [.sl 1 k88 Al0 cl0 s141 1 true]) (by kernel_rfl) (xs [] [] rfl rfl rfl (one1 14 rfl rfl ?_))))))))
     revert H; refine ggI ?_; intro g142 H
     refine ov (EV.ix 0 rfl rfl rfl g128 g142 rfl) rfl (xn rfl (one1 15 rfl rfl ?_))
     revert H; refine bdI ?_; intro s143 A143 H; have q143 := stl (Option.some.inj A143)
     exact op_stg a3 0 0 z88 (⟨(rd_T88 l0 a1).f0, (rd_T88 l0 a1).f1, (rd_T88 l0 a1).f2, (rd_T88 l0 a1).f3, (rd_T88 l0 a1).f4⟩ : S88) (Option.some.inj A143) rfl rfl rfl rfl g128 g142 rfl rfl rfl rfl dq rfl (rlT 0 (v' := .slice Al0 s143.length cl0) rfl (slq _ _ q143) (rlT 14 (v' := .slice Al0 s143.length cl0) rfl (slq _ _ q143) (rlT 16 (v' := .slice Al0 s143.length cl0) rfl (slq _ _ q143) (rlT 18 (v' := .slice Al0 s143.length cl0) rfl (slq _ _ q143) (rlT 22 (v' := .slice Al0 s143.length cl0) rfl (slq _ _ q143) (nmE (en := [.sl 1 k88 Al0 cl0 s143 1 true]) (by kernel_rfl) (xn rfl (xd (pr [0, 1, 2, 4] [] [0] rfl rfl rfl rfl (wk [0, 1, 2, 4] [] [⟨0, 1, 1, false⟩] (jh0 _ ⟨_, s143, a1, a2, H, (by first | rfl | assumption | omega | (simp only [List.length_set]; first | done | assumption | omega)), rfl⟩)))))))))))
    ·
     refine ov (EV.le (v := .agg #[.int .i64 ((rd_T88 l0 a1).f0), .int .i64 ((rd_T88 l0 a1).f1), .int .i64 ((rd_T88 l0 a1).f2), .int .i64 ((rd_T88 l0 a1).f3), .int .i64 ((rd_T88 l0 a1).f4)]) a1 0 (some 5) 0 z88 rfl rfl rfl g130 g131 rfl rfl rfl) rfl (xs [] [] rfl rfl rfl (one1 7 rfl rfl (ov (EV.le (v := .agg #[.int .i64 ((rd_T88 l0 a3).f0), .int .i64 ((rd_T88 l0 a3).f1), .int .i64 ((rd_T88 l0 a3).f2), .int .i64 ((rd_T88 l0 a3).f3), .int .i64 ((rd_T88 l0 a3).f4)]) a3 0 (some 5) 0 z88 rfl rfl rfl g128 g129 rfl rfl rfl) rfl (xs [] [] rfl rfl rfl (one1 12 rfl rfl (ov (EV.ix 0 rfl rfl rfl g130 g131 rfl) rfl (xs [] [] rfl rfl rfl (one1 13 rfl rfl ?_))))))))
     revert H; refine bdI ?_; intro s144 A144 H; have q144 := stl (Option.some.inj A144)
     refine op_stg a1 0 0 z88 (⟨(rd_T88 l0 a3).f0, (rd_T88 l0 a3).f1, (rd_T88 l0 a3).f2, (rd_T88 l0 a3).f3, (rd_T88 l0 a3).f4⟩ : S88) (Option.some.inj A144) rfl rfl rfl rfl g130 g131 rfl rfl rfl rfl dq rfl (rlT 0 (v' := .slice Al0 s144.length cl0) rfl (slq _ _ q144) (rlT 14 (v' := .slice Al0 s144.length cl0) rfl (slq _ _ q144) (rlT 16 (v' := .slice Al0 s144.length cl0) rfl (slq _ _ q144) (rlT 18 (v' := .slice Al0 s144.length cl0) rfl (slq _ _ q144) (rlT 22 (v' := .slice Al0 s144.length cl0) rfl (slq _ _ q144) (nmE (en := [.sl 1 k88 Al0 cl0 s144 1 true]) (by kernel_rfl) (xs [] [] rfl rfl rfl (one1 14 rfl rfl ?_))))))))
     revert H; refine ggI ?_; intro g145 H
     refine ov (EV.ix 0 rfl rfl rfl g128 g145 rfl) rfl (xn rfl (one1 15 rfl rfl ?_))
     revert H; refine bdI ?_; intro s146 A146 H; have q146 := stl (Option.some.inj A146)
     exact op_stg a3 0 0 z88 (⟨(rd_T88 l0 a1).f0, (rd_T88 l0 a1).f1, (rd_T88 l0 a1).f2, (rd_T88 l0 a1).f3, (rd_T88 l0 a1).f4⟩ : S88) (Option.some.inj A146) rfl rfl rfl rfl g128 g145 rfl rfl rfl rfl dq rfl (rlT 0 (v' := .slice Al0 s146.length cl0) rfl (slq _ _ q146) (rlT 14 (v' := .slice Al0 s146.length cl0) rfl (slq _ _ q146) (rlT 16 (v' := .slice Al0 s146.length cl0) rfl (slq _ _ q146) (rlT 18 (v' := .slice Al0 s146.length cl0) rfl (slq _ _ q146) (rlT 22 (v' := .slice Al0 s146.length cl0) rfl (slq _ _ q146) (nmE (en := [.sl 1 k88 Al0 cl0 s146 1 true]) (by kernel_rfl) (xn rfl (xd (pr [0, 1, 2, 4] [] [0] rfl rfl rfl rfl (wk [0, 1, 2, 4] [] [⟨0, 1, 1, false⟩] (jh0 _ ⟨_, s146, a1, a2, H, (by first | rfl | assumption | omega | (simp only [List.length_set]; first | done | assumption | omega)), rfl⟩)))))))))))
   ·
    refine ov (EV.le (v := .agg #[.int .i64 ((rd_T88 l0 a1).f0), .int .i64 ((rd_T88 l0 a1).f1), .int .i64 ((rd_T88 l0 a1).f2), .int .i64 ((rd_T88 l0 a1).f3), .int .i64 ((rd_T88 l0 a1).f4)]) a1 0 (some 5) 0 z88 rfl rfl rfl g130 g131 rfl rfl rfl) rfl (xs [] [] rfl rfl rfl (one1 6 rfl rfl (ov (EV.ix 0 rfl rfl rfl g128 g129 rfl) rfl (xs [] [] rfl rfl rfl (one1 7 rfl rfl (ov (EV.le (v := .agg #[.int .i64 ((rd_T88 l0 a3).f0), .int .i64 ((rd_T88 l0 a3).f1), .int .i64 ((rd_T88 l0 a3).f2), .int .i64 ((rd_T88 l0 a3).f3), .int .i64 ((rd_T88 l0 a3).f4)]) a3 0 (some 5) 0 z88 rfl rfl rfl g128 g129 rfl rfl rfl) rfl (xs [] [] rfl rfl rfl (one1 12 rfl rfl (ov (EV.ix 0 rfl rfl rfl g130 g131 rfl) rfl (xs [] [] rfl rfl rfl (one1 13 rfl rfl ?_)))))))))))
    revert H; refine bdI ?_; intro s147 A147 H; have q147 := stl (Option.some.inj A147)
    refine op_stg a1 0 0 z88 (⟨(rd_T88 l0 a3).f0, (rd_T88 l0 a3).f1, (rd_T88 l0 a3).f2, (rd_T88 l0 a3).f3, (rd_T88 l0 a3).f4⟩ : S88) (Option.some.inj A147) rfl rfl rfl rfl g130 g131 rfl rfl rfl rfl dq rfl (rlT 0 (v' := .slice Al0 s147.length cl0) rfl (slq _ _ q147) (rlT 14 (v' := .slice Al0 s147.length cl0) rfl (slq _ _ q147) (rlT 16 (v' := .slice Al0 s147.length cl0) rfl (slq _ _ q147) (rlT 18 (v' := .slice Al0 s147.length cl0) rfl (slq _ _ q147) (rlT 22 (v' := .slice Al0 s147.length cl0) rfl (slq _ _ q147) (nmE (en := [.sl 1 k88 Al0 cl0 s147 1 true]) (by kernel_rfl) (xs [] [] rfl rfl rfl (one1 14 rfl rfl ?_))))))))
    revert H; refine ggI ?_; intro g148 H
    refine ov (EV.ix 0 rfl rfl rfl g128 g148 rfl) rfl (xn rfl (one1 15 rfl rfl ?_))
    revert H; refine bdI ?_; intro s149 A149 H; have q149 := stl (Option.some.inj A149)
    exact op_stg a3 0 0 z88 (⟨(rd_T88 l0 a1).f0, (rd_T88 l0 a1).f1, (rd_T88 l0 a1).f2, (rd_T88 l0 a1).f3, (rd_T88 l0 a1).f4⟩ : S88) (Option.some.inj A149) rfl rfl rfl rfl g128 g148 rfl rfl rfl rfl dq rfl (rlT 0 (v' := .slice Al0 s149.length cl0) rfl (slq _ _ q149) (rlT 14 (v' := .slice Al0 s149.length cl0) rfl (slq _ _ q149) (rlT 16 (v' := .slice Al0 s149.length cl0) rfl (slq _ _ q149) (rlT 18 (v' := .slice Al0 s149.length cl0) rfl (slq _ _ q149) (rlT 22 (v' := .slice Al0 s149.length cl0) rfl (slq _ _ q149) (nmE (en := [.sl 1 k88 Al0 cl0 s149 1 true]) (by kernel_rfl) (xn rfl (xd (pr [0, 1, 2, 4] [] [0] rfl rfl rfl rfl (wk [0, 1, 2, 4] [] [⟨0, 1, 1, false⟩] (jh0 _ ⟨_, s149, a1, a2, H, (by first | rfl | assumption | omega | (simp only [List.length_set]; first | done | assumption | omega)), rfl⟩)))))))))))
mutual
def slices_pdqsortCmpFunc_impl_Group_at93.j3 : Nat → (List S88) → Int → Int → Int → Int → Int → Option ((List S88))
 | 0, _, _, _, _, _, _ => none
 | k + 1, x9_ml0, x9_1, x9_2, x9_3, x9_12, x9_13 => (slices_partitionCmpFunc_impl_Group_at93.f k x9_ml0 x9_1 x9_2 x9_13).bind fun bt10 => (if (wrap64 (bt10.1 - x9_1)) < (wrap64 (x9_2 - bt10.1)) then ((slices_pdqsortCmpFunc_impl_Group_at93.f k bt10.2.2 x9_1 bt10.1 x9_3).bind fun t12 => (slices_pdqsortCmpFunc_impl_Group_at93.l0 k t12 (wrap64 (bt10.1 + 1)) x9_2 x9_3 (decide ((wrap64 (bt10.1 - x9_1)) ≥ (wrap64 (Int.tdiv x9_12 8)))) bt10.2.1)) else ((slices_pdqsortCmpFunc_impl_Group_at93.f k bt10.2.2 (wrap64 (bt10.1 + 1)) x9_2 x9_3).bind fun t13 => (slices_pdqsortCmpFunc_impl_Group_at93.l0 k t13 x9_1 bt10.1 x9_3 (decide ((wrap64 (x9_2 - bt10.1)) ≥ (wrap64 (Int.tdiv x9_12 8)))) bt10.2.1)))
def slices_pdqsortCmpFunc_impl_Group_at93.j2 : Nat → (List S88) → Int → Int → Int → Bool → Bool → Int → Int → Option ((List S88))
 | 0, _, _, _, _, _, _, _, _ => none
 | k + 1, x8_ml0, x8_1, x8_2, x8_3, x8_10, x8_11, x8_12, x8_13 => if x8_1 > 0 then (if 0 ≤ (wrap64 (x8_1 - 1)) then (if (wrap64 (x8_1 - 1)) < (x8_ml0.length : Int) then (if 0 ≤ x8_13 then (if x8_13 < (x8_ml0.length : Int) then ((impl_MergeGroups_1.f ((rd_T88 x8_ml0 (wrap64 (x8_1 - 1))).f0) ((rd_T88 x8_ml0 (wrap64 (x8_1 - 1))).f1) ((rd_T88 x8_ml0 (wrap64 (x8_1 - 1))).f2) ((rd_T88 x8_ml0 (wrap64 (x8_1 - 1))).f3) ((rd_T88 x8_ml0 (wrap64 (x8_1 - 1))).f4) ((rd_T88 x8_ml0 x8_13).f0) ((rd_T88 x8_ml0 x8_13).f1) ((rd_T88 x8_ml0 x8_13).f2) ((rd_T88 x8_ml0 x8_13).f3) ((rd_T88 x8_ml0 x8_13).f4)).bind fun t19 => (if t19 < 0 then (slices_pdqsortCmpFunc_impl_Group_at93.j3 k x8_ml0 x8_1 x8_2 x8_3 x8_12 x8_13) else (none))) else none) else none) else none) else none) else (slices_pdqsortCmpFunc_impl_Group_at93.j3 k x8_ml0 x8_1 x8_2 x8_3 x8_12 x8_13)
def slices_pdqsortCmpFunc_impl_Group_at93.j1 : Nat → (List S88) → Int → Int → Int → Bool → Bool → Int → Int → Int → Option ((List S88))
 | 0, _, _, _, _, _, _, _, _, _ => none
 | k + 1, x7_ml0, x7_1, x7_2, x7_3, x7_10, x7_11, x7_12, x7_13, x7_14 => if x7_10 = true then (if x7_11 = true then (if x7_14 = 1 then ((slices_partialInsertionSortCmpFunc_impl_Group_at93.f k x7_ml0 x7_1 x7_2).bind fun bt24 => (if bt24.1 = true then (some bt24.2) else (slices_pdqsortCmpFunc_impl_Group_at93.j2 k bt24.2 x7_1 x7_2 x7_3 true true x7_12 x7_13))) else (slices_pdqsortCmpFunc_impl_Group_at93.j2 k x7_ml0 x7_1 x7_2 x7_3 true true x7_12 x7_13)) else (slices_pdqsortCmpFunc_impl_Group_at93.j2 k x7_ml0 x7_1 x7_2 x7_3 true false x7_12 x7_13)) else (slices_pdqsortCmpFunc_impl_Group_at93.j2 k x7_ml0 x7_1 x7_2 x7_3 false x7_11 x7_12 x7_13)
def slices_pdqsortCmpFunc_impl_Group_at93.j0 : Nat → (List S88) → Int → Int → Int → Bool → Bool → Int → Option ((List S88))
 | 0, _, _, _, _, _, _, _ => none
 | k + 1, x6_ml0, x6_1, x6_2, x6_3, x6_10, x6_11, x6_12 => (slices_choosePivotCmpFunc_impl_Group_at93.f k x6_ml0 x6_1 x6_2).bind fun bt6 => (if bt6.2 = 2 then ((slices_reverseRangeCmpFunc_impl_Group_at93.f k x6_ml0 x6_1 x6_2).bind fun t27 => (slices_pdqsortCmpFunc_impl_Group_at93.j1 k t27 x6_1 x6_2 x6_3 x6_10 x6_11 x6_12 (wrap64 ((wrap64 (x6_2 - 1)) - (wrap64 (bt6.1 - x6_1)))) 1)) else (slices_pdqsortCmpFunc_impl_Group_at93.j1 k x6_ml0 x6_1 x6_2 x6_3 x6_10 x6_11 x6_12 bt6.1 bt6.2))
def slices_pdqsortCmpFunc_impl_Group_at93.l0 : Nat → (List S88) → Int → Int → Int → Bool → Bool → Option ((List S88))
 | 0, _, _, _, _, _, _ => none
 | k + 1, x1_ml0, x1_1, x1_2, x1_3, x1_10, x1_11 => if (wrap64 (x1_2 - x1_1)) ≤ 12 then ((slices_insertionSortCmpFunc_impl_Group_at93.f k x1_ml0 x1_1 x1_2).bind fun t2 => (some t2)) else (if x1_3 = 0 then ((slices_heapSortCmpFunc_impl_Group_at93.f k x1_ml0 x1_1 x1_2).bind fun t4 => (some t4)) else (if x1_10 = true then (slices_pdqsortCmpFunc_impl_Group_at93.j0 k x1_ml0 x1_1 x1_2 x1_3 true x1_11 (wrap64 (x1_2 - x1_1))) else ((slices_breakPatternsCmpFunc_impl_Group_at93.f k x1_ml0 x1_1 x1_2).bind fun t29 => (slices_pdqsortCmpFunc_impl_Group_at93.j0 k t29 x1_1 x1_2 (wrap64 (x1_3 - 1)) false x1_11 (wrap64 (x1_2 - x1_1))))))
def slices_pdqsortCmpFunc_impl_Group_at93.f : Nat → (List S88) → Int → Int → Int → Option ((List S88))
 | 0, _, _, _, _ => none
 | k + 1, l0, a1, a2, a3 => slices_pdqsortCmpFunc_impl_Group_at93.l0 k l0 a1 a2 a3 true true
end
set_option maxHeartbeats 4000000 in
set_option maxRecDepth 100000 in
theorem slices_pdqsortCmpFunc_impl_Group_at93.ok_ : ∀ (N k : Nat) (hk : k ≤ N) (l0 : List S88) (Al0 : Option Addr) (cl0 : Nat) (a1 : Int) (a2 : Int) (a3 : Int) (r0 : List S88) (h : slices_pdqsortCmpFunc_impl_Group_at93.f k l0 a1 a2 a3 = some r0), Fn Try.prog 102 [.slice Al0 l0.length cl0, .int .i64 a1, .int .i64 a2, .int .i64 a3, .func (.func 93) #[] #[]] [] [.sl 1 k88 Al0 cl0 l0 1 false] (fun v bx en => v = .tuple #[] ∧ bx = [] ∧ en = [.sl 1 k88 Al0 cl0 r0 1 false] ∧ r0.length = l0.length) := by
 intro N
 induction N with
 | zero => intro k hk l0 Al0 cl0 a1 a2 a3 r0 h; obtain rfl : k = 0 := by omega
           rw [slices_pdqsortCmpFunc_impl_Group_at93.f] at h; cases h
 | succ N ih =>
 intro k hk l0 Al0 cl0 a1 a2 a3 r0 H
 rcases k with _ | k
 · rw [slices_pdqsortCmpFunc_impl_Group_at93.f] at H; cases H
 refine fn_ 148 Try.func102 rfl rfl rfl (fun base T w0 => ?_)
 rw [slices_pdqsortCmpFunc_impl_Group_at93.f] at H
 refine gs (rg (sv (EV.as rfl) rfl (re (gs (rg (sv (EV.as rfl) rfl (re (gb ?_))))))))
 refine lo (fun kk S => ∃ (x1_ml0 : List S88) (x1_1 : Int) (x1_2 : Int) (x1_3 : Int) (x1_10 : Bool) (x1_11 : Bool), kk ≤ k ∧ slices_pdqsortCmpFunc_impl_Group_at93.l0 kk x1_ml0 x1_1 x1_2 x1_3 x1_10 x1_11 = some r0 ∧ x1_ml0.length = l0.length ∧ S = ⟨[(0, .slice Al0 x1_ml0.length cl0), (1, .int .i64 x1_1), (2, .int .i64 x1_2), (3, .int .i64 x1_3), (4, .func (.func 93) #[] #[]), (10, .bool x1_10), (11, .bool x1_11)], [], [.sl 1 k88 Al0 cl0 x1_ml0 1 false]⟩) (fun S hS => ?_) (fun n0 ih0 S hS => ?_) ⟨l0, a1, a2, a3, true, true, by omega, H, (by first | rfl | assumption | omega | (simp only [List.length_set]; first | done | assumption | omega)), rfl⟩ (fun h => wk [0, 1, 2, 3, 4, 10, 11] [] [⟨0, 1, 1, false⟩] h)
 · clear H; obtain ⟨_, _, _, _, _, _, _, H, _⟩ := hS; rw [slices_pdqsortCmpFunc_impl_Group_at93.l0] at H; cases H
 clear H
 obtain ⟨x1_ml0, x1_1, x1_2, x1_3, x1_10, x1_11, lk0, H, ex1_ml0, rfl⟩ := hS
 rw [slices_pdqsortCmpFunc_impl_Group_at93.l0] at H
 refine gb (gs (rg (sv (EV.mv rfl) rfl (sv (EV.mv rfl) rfl (sv (EV.sub rfl rfl) rfl (sv (EV.as rfl) rfl (re (gs (gs (rg (sv (EV.mv rfl) rfl (sv (EV.leq rfl rfl) rfl (re ?_)))))))))))))
 revert H; refine ifsI ?_ ?_ <;> intro c1 H
 ·
  refine gt rfl (dT c1) (gs (rg (sv (EV.mv rfl) rfl (sv (EV.mv rfl) rfl (sv (EV.mv rfl) rfl (sv (EV.mv rfl) rfl ?_))))))
  revert H; refine bdI ?_; rintro t2 A2 H
  refine so rfl (op_callM (slices_insertionSortCmpFunc_impl_Group_at93.ok n0 x1_ml0 Al0 cl0 x1_1 x1_2 _ A2) [⟨0, 1, 1, false⟩] [] [] 2 rfl rfl rfl rfl rfl rfl rfl rfl ?_)
  rintro _ _ _ ⟨rfl, rfl, rfl, q2_0⟩
  refine rlT 0 (v' := .slice Al0 t2.length cl0) rfl (slq _ _ q2_0) (rlT 26 (v' := .slice Al0 t2.length cl0) rfl (slq _ _ q2_0) (nmE (en := [.sl 1 k88 Al0 cl0 t2 3 false]) (by kernel_rfl) (re (pr [] [] [0] rfl rfl rfl rfl ?_))))
  cases H
  exact rt Try.func102 rfl .nil rfl [] [⟨0, 1, 1, false⟩] rfl rfl rfl rfl rfl ⟨rfl, rfl, rfl, by first | rfl | assumption | omega | (simp only [List.length_set]; first | done | assumption | omega)⟩
 ·
  refine gf rfl (dF c1) (gk (gs (gs (rg (sv (EV.mv rfl) rfl (sv (EV.eql rfl rfl) rfl (re (pr [0, 1, 2, 3, 4, 10, 11, 12, 32] [] [0] rfl rfl rfl rfl ?_))))))))
  revert H; refine ifsI ?_ ?_ <;> intro c3 H
  ·
   refine gt rfl (dT c3) (gs (rg (sv (EV.mv rfl) rfl (sv (EV.mv rfl) rfl (sv (EV.mv rfl) rfl (sv (EV.mv rfl) rfl ?_))))))
   revert H; refine bdI ?_; rintro t4 A4 H
   refine so rfl (op_callM (slices_heapSortCmpFunc_impl_Group_at93.ok n0 x1_ml0 Al0 cl0 x1_1 x1_2 _ A4) [⟨0, 1, 1, false⟩] [] [] 2 rfl rfl rfl rfl rfl rfl rfl rfl ?_)
   rintro _ _ _ ⟨rfl, rfl, rfl, q4_0⟩
   refine rlT 0 (v' := .slice Al0 t4.length cl0) rfl (slq _ _ q4_0) (rlT 33 (v' := .slice Al0 t4.length cl0) rfl (slq _ _ q4_0) (nmE (en := [.sl 1 k88 Al0 cl0 t4 3 false]) (by kernel_rfl) (re (pr [] [] [0] rfl rfl rfl rfl ?_))))
   cases H
   exact rt Try.func102 rfl .nil rfl [] [⟨0, 1, 1, false⟩] rfl rfl rfl rfl rfl ⟨rfl, rfl, rfl, by first | rfl | assumption | omega | (simp only [List.length_set]; first | done | assumption | omega)⟩
  ·
   refine gf rfl (dF c3) (gk ?_)
   refine jo (fun S => ∃ (m : Nat) (x6_ml0 : List S88) (x6_1 : Int) (x6_2 : Int) (x6_3 : Int) (x6_10 : Bool) (x6_11 : Bool) (x6_12 : Int), m ≤ n0 ∧ slices_pdqsortCmpFunc_impl_Group_at93.j0 m x6_ml0 x6_1 x6_2 x6_3 x6_10 x6_11 x6_12 = some r0 ∧ x6_ml0.length = l0.length ∧ S = ⟨[(0, .slice Al0 x6_ml0.length cl0), (1, .int .i64 x6_1), (2, .int .i64 x6_2), (3, .int .i64 x6_3), (4, .func (.func 93) #[] #[]), (10, .bool x6_10), (11, .bool x6_11), (12, .int .i64 x6_12)], [], [.sl 1 k88 Al0 cl0 x6_ml0 1 false]⟩) (fun S hS => ?_) (fun jh0 => ?_)
   ·
    clear H
    obtain ⟨m5, x6_ml0, x6_1, x6_2, x6_3, x6_10, x6_11, x6_12, lm5, H, ex6_ml0, rfl⟩ := hS
    rcases m5 with _ | m5
    · rw [slices_pdqsortCmpFunc_impl_Group_at93.j0] at H; cases H
    rw [slices_pdqsortCmpFunc_impl_Group_at93.j0] at H
    refine gs (rg (sv (EV.mv rfl) rfl (sv (EV.mv rfl) rfl (sv (EV.mv rfl) rfl (sv (EV.mv rfl) rfl ?_)))))
    revert H; refine bdI ?_; rintro ⟨t6_0, t6_1⟩ A6 H
    refine so rfl (op_call (slices_choosePivotCmpFunc_impl_Group_at93.ok m5 x6_ml0 Al0 cl0 x6_1 x6_2 _ _ A6) [⟨0, 0, 0, false⟩] 2 rfl rfl rfl rfl rfl ?_)
    rintro _ _ _ ⟨rfl, rfl, rfl⟩
    refine sv (EV.mv rfl) rfl (sv (EV.ex rfl rfl) rfl (sv (EV.ex rfl rfl) rfl (sv (EV.as rfl) rfl (sv (EV.as rfl) rfl (re (pr [0, 1, 2, 3, 4, 10, 11, 12, 13, 14] [] [0] rfl rfl rfl rfl ?_))))))
    refine jo (fun S => ∃ (m : Nat) (x7_ml0 : List S88) (x7_1 : Int) (x7_2 : Int) (x7_3 : Int) (x7_10 : Bool) (x7_11 : Bool) (x7_12 : Int) (x7_13 : Int) (x7_14 : Int), m ≤ m5 ∧ slices_pdqsortCmpFunc_impl_Group_at93.j1 m x7_ml0 x7_1 x7_2 x7_3 x7_10 x7_11 x7_12 x7_13 x7_14 = some r0 ∧ x7_ml0.length = l0.length ∧ S = ⟨[(0, .slice Al0 x7_ml0.length cl0), (1, .int .i64 x7_1), (2, .int .i64 x7_2), (3, .int .i64 x7_3), (4, .func (.func 93) #[] #[]), (10, .bool x7_10), (11, .bool x7_11), (12, .int .i64 x7_12), (13, .int .i64 x7_13), (14, .int .i64 x7_14)], [], [.sl 1 k88 Al0 cl0 x7_ml0 1 false]⟩) (fun S hS => ?_) (fun jh1 => ?_)
    ·
     clear H
     obtain ⟨m7, x7_ml0, x7_1, x7_2, x7_3, x7_10, x7_11, x7_12, x7_13, x7_14, lm7, H, ex7_ml0, rfl⟩ := hS
     rcases m7 with _ | m7
     · rw [slices_pdqsortCmpFunc_impl_Group_at93.j1] at H; cases H
     rw [slices_pdqsortCmpFunc_impl_Group_at93.j1] at H
     refine jo (fun S => ∃ (m : Nat) (x8_ml0 : List S88) (x8_1 : Int) (x8_2 : Int) (x8_3 : Int) (x8_10 : Bool) (x8_11 : Bool) (x8_12 : Int) (x8_13 : Int), m ≤ m7 ∧ slices_pdqsortCmpFunc_impl_Group_at93.j2 m x8_ml0 x8_1 x8_2 x8_3 x8_10 x8_11 x8_12 x8_13 = some r0 ∧ x8_ml0.length = l0.length ∧ S = ⟨[(0, .slice Al0 x8_ml0.length cl0), (1, .int .i64 x8_1), (2, .int .i64 x8_2), (3, .int .i64 x8_3), (4, .func (.func 93) #[] #[]), (10, .bool x8_10), (11, .bool x8_11), (12, .int .i64 x8_12), (13, .int .i64 x8_13)], [], [.sl 1 k88 Al0 cl0 x8_ml0 1 false]⟩) (fun S hS => ?_) (fun jh2 => ?_)
     ·
      clear H
      obtain ⟨m8, x8_ml0, x8_1, x8_2, x8_3, x8_10, x8_11, x8_12, x8_13, lm8, H, ex8_ml0, rfl⟩ := hS
      rcases m8 with _ | m8
      · rw [slices_pdqsortCmpFunc_impl_Group_at93.j2] at H; cases H
      rw [slices_pdqsortCmpFunc_impl_Group_at93.j2] at H
      refine jo (fun S => ∃ (m : Nat) (x9_ml0 : List S88) (x9_1 : Int) (x9_2 : Int) (x9_3 : Int) (x9_12 : Int) (x9_13 : Int), m ≤ m8 ∧ slices_pdqsortCmpFunc_impl_Group_at93.j3 m x9_ml0 x9_1 x9_2 x9_3 x9_12 x9_13 = some r0 ∧ x9_ml0.length = l0.length ∧ S = ⟨[(0, .slice Al0 x9_ml0.length cl0), (1, .int .i64 x9_1), (2, .int .i64 x9_2), (3, .int .i64 x9_3), (4, .func (.func 93) #[] #[]), (12, .int .i64 x9_12), (13, .int .i64 x9_13)], [], [.sl 1 k88 Al0 cl0 x9_ml0 1 false]⟩) (fun S hS => ?_) (fun jh3 => ?_)
      ·
       clear H
       obtain ⟨m9, x9_ml0, x9_1, x9_2, x9_3, x9_12, x9_13, lm9, H, ex9_ml0, rfl⟩ := hS
       rcases m9 with _ | m9
       · rw [slices_pdqsortCmpFunc_impl_Group_at93.j3] at H; cases H
       rw [slices_pdqsortCmpFunc_impl_Group_at93.j3] at H
       refine gs (rg (sv (EV.mv rfl) rfl (sv (EV.mv rfl) rfl (sv (EV.mv rfl) rfl (sv (EV.mv rfl) rfl (sv (EV.mv rfl) rfl ?_))))))
       revert H; refine bdI ?_; rintro ⟨t10_0, t10_1, t10_2⟩ A10 H
       refine so rfl (op_callM (slices_partitionCmpFunc_impl_Group_at93.ok m9 x9_ml0 Al0 cl0 x9_1 x9_2 x9_13 _ _ _ A10) [⟨0, 1, 1, false⟩] [] [] 2 rfl rfl rfl rfl rfl rfl rfl rfl ?_)
       rintro _ _ _ ⟨rfl, rfl, rfl, q10_0⟩
       refine rlT 0 (v' := .slice Al0 t10_2.length cl0) rfl (slq _ _ q10_0) (rlT 106 (v' := .slice Al0 t10_2.length cl0) rfl (slq _ _ q10_0) (nmE (en := [.sl 1 k88 Al0 cl0 t10_2 3 false]) (by kernel_rfl) (sv (EV.mv rfl) rfl (sv (EV.ex rfl rfl) rfl (sv (EV.ex rfl rfl) rfl (sv (EV.as rfl) rfl (sv (EV.as rfl) rfl (re (pr [0, 1, 2, 3, 4, 12, 16, 17] [] [0] rfl rfl rfl rfl (gs (rg (sv (EV.mv rfl) rfl (sv (EV.as rfl) rfl (re (gs (rg (sv (EV.mv rfl) rfl (sv (EV.mv rfl) rfl (sv (EV.sub rfl rfl) rfl (sv (EV.mv rfl) rfl (sv (EV.mv rfl) rfl (sv (EV.sub rfl rfl) rfl (sv (EV.as rfl) rfl (sv (EV.as rfl) rfl (re (pr [0, 1, 2, 3, 4, 11, 12, 16, 18, 19] [] [0] rfl rfl rfl rfl (gs (rg (sv (EV.mv rfl) rfl ?_)))))))))))))))))))))))))))))
       refine sv (EV.quo rfl rfl dq) rfl (sv (EV.as rfl) rfl (re (gs (rg (sv (EV.mv rfl) rfl (sv (EV.mv rfl) rfl (sv (EV.lss rfl rfl) rfl (re ?_))))))))
       revert H; refine ifsI ?_ ?_ <;> intro c11 H
       ·
        refine gt rfl (dT c11) (gs (rg (sv (EV.mv rfl) rfl (sv (EV.mv rfl) rfl (sv (EV.geq rfl rfl) rfl (sv (EV.as rfl) rfl (re (pr [0, 1, 2, 3, 4, 10, 11, 16] [] [0] rfl rfl rfl rfl (gs (rg (sv (EV.mv rfl) rfl (sv (EV.mv rfl) rfl (sv (EV.mv rfl) rfl (sv (EV.mv rfl) rfl (sv (EV.mv rfl) rfl ?_)))))))))))))))
        revert H; refine bdI ?_; rintro t12 A12 H
        refine so rfl (op_callM ((ih m9 (by omega)) t10_2 Al0 cl0 x9_1 t10_0 x9_3 _ A12) [⟨0, 1, 1, false⟩] [] [] 4 rfl rfl rfl rfl rfl rfl rfl rfl ?_)
        rintro _ _ _ ⟨rfl, rfl, rfl, q12_0⟩
        exact rlT 0 (v' := .slice Al0 t12.length cl0) rfl (slq _ _ q12_0) (rlT 129 (v' := .slice Al0 t12.length cl0) rfl (slq _ _ q12_0) (nmE (en := [.sl 1 k88 Al0 cl0 t12 5 false]) (by kernel_rfl) (re (pr [0, 2, 3, 4, 10, 11, 16] [] [0] rfl rfl rfl rfl (rg (sv (EV.mv rfl) rfl (sv (EV.add rfl rfl) rfl (sv (EV.as rfl) rfl (re (ge (wk [0, 1, 2, 3, 4, 10, 11] [] [⟨0, 1, 1, false⟩] (ih0 _ (by omega) _ ⟨t12, wrap64 (t10_0 + 1), x9_2, x9_3, decide ((wrap64 (t10_0 - x9_1)) ≥ (wrap64 (Int.tdiv x9_12 8))), t10_1, by omega, H, (by first | rfl | assumption | omega | (simp only [List.length_set]; first | done | assumption | omega)), rfl⟩))))))))))))
       ·
        refine gf rfl (dF c11) (gs (rg (sv (EV.mv rfl) rfl (sv (EV.mv rfl) rfl (sv (EV.geq rfl rfl) rfl (sv (EV.as rfl) rfl (re (pr [0, 1, 2, 3, 4, 10, 11, 16] [] [0] rfl rfl rfl rfl (gs (rg (sv (EV.mv rfl) rfl (sv (EV.mv rfl) rfl (sv (EV.add rfl rfl) rfl (sv (EV.mv rfl) rfl (sv (EV.mv rfl) rfl (sv (EV.mv rfl) rfl ?_))))))))))))))))
        revert H; refine bdI ?_; rintro t13 A13 H
        refine so rfl (op_callM ((ih m9 (by omega)) t10_2 Al0 cl0 (wrap64 (t10_0 + 1)) x9_2 x9_3 _ A13) [⟨0, 1, 1, false⟩] [] [] 4 rfl rfl rfl rfl rfl rfl rfl rfl ?_)
        rintro _ _ _ ⟨rfl, rfl, rfl, q13_0⟩
        exact rlT 0 (v' := .slice Al0 t13.length cl0) rfl (slq _ _ q13_0) (rlT 140 (v' := .slice Al0 t13.length cl0) rfl (slq _ _ q13_0) (nmE (en := [.sl 1 k88 Al0 cl0 t13 5 false]) (by kernel_rfl) (re (pr [0, 1, 3, 4, 10, 11, 16] [] [0] rfl rfl rfl rfl (rg (sv (EV.mv rfl) rfl (sv (EV.as rfl) rfl (re (ge (wk [0, 1, 2, 3, 4, 10, 11] [] [⟨0, 1, 1, false⟩] (ih0 _ (by omega) _ ⟨t13, x9_1, t10_0, x9_3, decide ((wrap64 (x9_2 - t10_0)) ≥ (wrap64 (Int.tdiv x9_12 8))), t10_1, by omega, H, (by first | rfl | assumption | omega | (simp only [List.length_set]; first | done | assumption | omega)), rfl⟩)))))))))))
      ·
       refine gs (dr [] [0] [] 17 rfl rfl rfl rfl (xv 0 [] [0] rfl (EV.mv rfl) rfl rfl rfl rfl (xv 1 [] [0] rfl (EV.gtr rfl rfl) rfl rfl rfl rfl (xv 2 [] [0] rfl (EV.mv rfl) rfl rfl rfl rfl ?_))))
       revert H; refine ifsI ?_ ?_ <;> intro c14 H
       ·
        refine ts 83 rfl (dT c14) (xv 3 [] [0] rfl (EV.mv rfl) rfl rfl rfl rfl (xv 4 [] [0] rfl (EV.mv rfl) rfl rfl rfl rfl (xv 5 [] [0] rfl (EV.mv rfl) rfl rfl rfl rfl (xv 6 [] [0] rfl (EV.sub rfl rfl) rfl rfl rfl rfl ?_))))
        revert H; refine ggI ?_; intro g15 H
        revert H; refine ggI ?_; intro g16 H
        refine xv 7 [] [0] rfl (EV.ix 0 rfl rfl rfl g15 g16 rfl) rfl rfl rfl rfl (xv 8 [] [0] rfl (EV.le (v := .agg #[.int .i64 ((rd_T88 x8_ml0 (wrap64 (x8_1 - 1))).f0), .int .i64 ((rd_T88 x8_ml0 (wrap64 (x8_1 - 1))).f1), .int .i64 ((rd_T88 x8_ml0 (wrap64 (x8_1 - 1))).f2), .int .i64 ((rd_T88 x8_ml0 (wrap64 (x8_1 - 1))).f3), .int .i64 ((rd_T88 x8_ml0 (wrap64 (x8_1 - 1))).f4)]) (wrap64 (x8_1 - 1)) 0 (some 5) 0 z88 rfl rfl rfl g15 g16 rfl rfl rfl) rfl rfl rfl rfl (xv 9 [] [0] rfl (EV.mv rfl) rfl rfl rfl rfl (xv 10 [] [0] rfl (EV.mv rfl) rfl rfl rfl rfl ?_)))
        revert H; refine ggI ?_; intro g17 H
        revert H; refine ggI ?_; intro g18 H
        refine xv 11 [] [0] rfl (EV.ix 0 rfl rfl rfl g17 g18 rfl) rfl rfl rfl rfl (xv 12 [] [0] rfl (EV.le (v := .agg #[.int .i64 ((rd_T88 x8_ml0 x8_13).f0), .int .i64 ((rd_T88 x8_ml0 x8_13).f1), .int .i64 ((rd_T88 x8_ml0 x8_13).f2), .int .i64 ((rd_T88 x8_ml0 x8_13).f3), .int .i64 ((rd_T88 x8_ml0 x8_13).f4)]) x8_13 0 (some 5) 0 z88 rfl rfl rfl g17 g18 rfl rfl rfl) rfl rfl rfl rfl (one1 13 rfl rfl ?_))
        revert H; refine bdI ?_; rintro t19 A19 H
        refine cvf (f := 93) rfl (op_call (impl_MergeGroups_1.ok ((rd_T88 x8_ml0 (wrap64 (x8_1 - 1))).f0) ((rd_T88 x8_ml0 (wrap64 (x8_1 - 1))).f1) ((rd_T88 x8_ml0 (wrap64 (x8_1 - 1))).f2) ((rd_T88 x8_ml0 (wrap64 (x8_1 - 1))).f3) ((rd_T88 x8_ml0 (wrap64 (x8_1 - 1))).f4) ((rd_T88 x8_ml0 x8_13).f0) ((rd_T88 x8_ml0 x8_13).f1) ((rd_T88 x8_ml0 x8_13).f2) ((rd_T88 x8_ml0 x8_13).f3) ((rd_T88 x8_ml0 x8_13).f4) _ A19) [] 2 rfl rfl rfl rfl rfl ?_)
        rintro _ _ _ ⟨rfl, rfl, rfl⟩
        refine xs [] [0] rfl rfl rfl (xv 14 [] [0] rfl (EV.lss rfl rfl) rfl rfl rfl rfl (xv 15 [] [0] rfl (EV.nt rfl) rfl rfl rfl rfl (xv 16 [] [0] rfl (EV.pt rfl rfl rfl) rfl rfl rfl rfl (xd ?_))))
        revert H; refine ifsI ?_ ?_ <;> intro c20 H
        ·
         exact gf rfl (nF c20) (gk (wk [0, 1, 2, 3, 4, 12, 13] [] [⟨0, 1, 1, false⟩] (jh3 _ ⟨_, x8_ml0, x8_1, x8_2, x8_3, x8_12, x8_13, by omega, H, (by first | rfl | assumption | omega | (simp only [List.length_set]; first | done | assumption | omega)), rfl⟩)))
        ·
         refine gt rfl (nT c20) (gs (rg (sv (EV.mv rfl) rfl (sv (EV.mv rfl) rfl (sv (EV.mv rfl) rfl (sv (EV.mv rfl) rfl (sv (EV.mv rfl) rfl ?_)))))))
         cases H
       ·
        exact ts 83 rfl (dF c14) (xk 3 [] [0] rfl rfl rfl rfl rfl (xk 4 [] [0] rfl rfl rfl rfl rfl (xk 5 [] [0] rfl rfl rfl rfl rfl (xk 6 [] [0] rfl rfl rfl rfl rfl (xk 7 [] [0] rfl rfl rfl rfl rfl (xk 8 [] [0] rfl rfl rfl rfl rfl (xk 9 [] [0] rfl rfl rfl rfl rfl (xk 10 [] [0] rfl rfl rfl rfl rfl (xk 11 [] [0] rfl rfl rfl rfl rfl (xk 12 [] [0] rfl rfl rfl rfl rfl (xk 13 [] [0] rfl rfl rfl rfl rfl (xk 14 [] [0] rfl rfl rfl rfl rfl (xk 15 [] [0] rfl rfl rfl rfl rfl (xv 16 [] [0] rfl (EV.pf rfl rfl rfl) rfl rfl rfl rfl (xd (pr [0, 1, 2, 3, 4, 10, 11, 12, 13, 97] [] [0] rfl rfl rfl rfl (gf rfl rfl (gk (wk [0, 1, 2, 3, 4, 12, 13] [] [⟨0, 1, 1, false⟩] (jh3 _ ⟨_, x8_ml0, x8_1, x8_2, x8_3, x8_12, x8_13, by omega, H, (by first | rfl | assumption | omega | (simp only [List.length_set]; first | done | assumption | omega)), rfl⟩))))))))))))))))))))
     ·
      refine gs (rg (sv (EV.mv rfl) rfl (sv (EV.mv rfl) rfl ?_)))
      revert H; refine ifsI ?_ ?_ <;> intro c21 H
      ·
       subst c21
       refine ts 69 rfl rfl (sv (EV.mv rfl) rfl (sv (EV.pt rfl rfl rfl) rfl (sv (EV.mv rfl) rfl ?_)))
       revert H; refine ifsI ?_ ?_ <;> intro c22 H
       ·
        subst c22
        refine ts 72 rfl rfl (sv (EV.mv rfl) rfl (sv (EV.eql rfl rfl) rfl (sv (EV.pt rfl rfl rfl) rfl (re ?_))))
        revert H; refine ifsI ?_ ?_ <;> intro c23 H
        ·
         refine gt rfl (dT c23) (gs (rg (sv (EV.mv rfl) rfl (sv (EV.mv rfl) rfl (sv (EV.mv rfl) rfl (sv (EV.mv rfl) rfl ?_))))))
         revert H; refine bdI ?_; rintro ⟨t24_0, t24_1⟩ A24 H
         refine so rfl (op_callM (slices_partialInsertionSortCmpFunc_impl_Group_at93.ok m7 x7_ml0 Al0 cl0 x7_1 x7_2 _ _ A24) [⟨0, 1, 1, false⟩] [] [] 2 rfl rfl rfl rfl rfl rfl rfl rfl ?_)
         rintro _ _ _ ⟨rfl, rfl, rfl, q24_0⟩
         refine rlT 0 (v' := .slice Al0 t24_1.length cl0) rfl (slq _ _ q24_0) (rlT 76 (v' := .slice Al0 t24_1.length cl0) rfl (slq _ _ q24_0) (nmE (en := [.sl 1 k88 Al0 cl0 t24_1 3 false]) (by kernel_rfl) (re (pr [0, 1, 2, 3, 4, 10, 11, 12, 13, 70, 73, 74, 80] [] [0] rfl rfl rfl rfl ?_))))
         revert H; refine ifsI ?_ ?_ <;> intro c25 H
         ·
          subst c25
          refine gt rfl rfl ?_
          cases H
          exact rt Try.func102 rfl .nil rfl [] [⟨0, 1, 1, false⟩] rfl rfl rfl rfl rfl ⟨rfl, rfl, rfl, by first | rfl | assumption | omega | (simp only [List.length_set]; first | done | assumption | omega)⟩
         ·
          have xc25 := bF c25; subst xc25
          exact gf rfl rfl (gk (wk [0, 1, 2, 3, 4, 10, 11, 12, 13] [] [⟨0, 1, 1, false⟩] (jh2 _ ⟨_, t24_1, x7_1, x7_2, x7_3, true, true, x7_12, x7_13, by omega, H, (by first | rfl | assumption | omega | (simp only [List.length_set]; first | done | assumption | omega)), rfl⟩)))
        ·
         exact gf rfl (dF c23) (gk (wk [0, 1, 2, 3, 4, 10, 11, 12, 13] [] [⟨0, 1, 1, false⟩] (jh2 _ ⟨_, x7_ml0, x7_1, x7_2, x7_3, true, true, x7_12, x7_13, by omega, H, (by first | rfl | assumption | omega | (simp only [List.length_set]; first | done | assumption | omega)), rfl⟩)))
       ·
        have xc22 := bF c22; subst xc22
        exact ts 72 rfl rfl (sk rfl (sk rfl (sv (EV.pf rfl rfl rfl) rfl (re (pr [0, 1, 2, 3, 4, 10, 11, 12, 13, 70, 75] [] [0] rfl rfl rfl rfl (gf rfl rfl (gk (wk [0, 1, 2, 3, 4, 10, 11, 12, 13] [] [⟨0, 1, 1, false⟩] (jh2 _ ⟨_, x7_ml0, x7_1, x7_2, x7_3, true, false, x7_12, x7_13, by omega, H, (by first | rfl | assumption | omega | (simp only [List.length_set]; first | done | assumption | omega)), rfl⟩)))))))))
      ·
       have xc21 := bF c21; subst xc21
       exact ts 69 rfl rfl (sk rfl (sv (EV.pf rfl rfl rfl) rfl (sv (EV.mv rfl) rfl (sk rfl (sk rfl (sv (EV.pf rfl rfl rfl) rfl (re (pr [0, 1, 2, 3, 4, 10, 11, 12, 13, 75] [] [0] rfl rfl rfl rfl (gf rfl rfl (gk (wk [0, 1, 2, 3, 4, 10, 11, 12, 13] [] [⟨0, 1, 1, false⟩] (jh2 _ ⟨_, x7_ml0, x7_1, x7_2, x7_3, false, x7_11, x7_12, x7_13, by omega, H, (by first | rfl | assumption | omega | (simp only [List.length_set]; first | done | assumption | omega)), rfl⟩))))))))))))
    ·
     refine gs (rg (sv (EV.mv rfl) rfl (sv (EV.eql rfl rfl) rfl (re ?_))))
     revert H; refine ifsI ?_ ?_ <;> intro c26 H
     ·
      refine gt rfl (dT c26) (gs (rg (sv (EV.mv rfl) rfl (sv (EV.mv rfl) rfl (sv (EV.mv rfl) rfl (sv (EV.mv rfl) rfl ?_))))))
      revert H; refine bdI ?_; rintro t27 A27 H
      refine so rfl (op_callM (slices_reverseRangeCmpFunc_impl_Group_at93.ok m5 x6_ml0 Al0 cl0 x6_1 x6_2 _ A27) [⟨0, 1, 1, false⟩] [] [] 2 rfl rfl rfl rfl rfl rfl rfl rfl ?_)
      rintro _ _ _ ⟨rfl, rfl, rfl, q27_0⟩
      exact rlT 0 (v' := .slice Al0 t27.length cl0) rfl (slq _ _ q27_0) (rlT 57 (v' := .slice Al0 t27.length cl0) rfl (slq _ _ q27_0) (nmE (en := [.sl 1 k88 Al0 cl0 t27 3 false]) (by kernel_rfl) (re (pr [0, 1, 2, 3, 4, 10, 11, 12, 13] [] [0] rfl rfl rfl rfl (gs (rg (sv (EV.mv rfl) rfl (sv (EV.sub rfl rfl) rfl (sv (EV.mv rfl) rfl (sv (EV.mv rfl) rfl (sv (EV.sub rfl rfl) rfl (sv (EV.sub rfl rfl) rfl (sv (EV.as rfl) rfl (re (pr [0, 1, 2, 3, 4, 10, 11, 12, 13] [] [0] rfl rfl rfl rfl (rg (sv (EV.as rfl) rfl (re (wk [0, 1, 2, 3, 4, 10, 11, 12, 13, 14] [] [⟨0, 1, 1, false⟩] (jh1 _ ⟨_, t27, x6_1, x6_2, x6_3, x6_10, x6_11, x6_12, wrap64 ((wrap64 (x6_2 - 1)) - (wrap64 (t6_0 - x6_1))), 1, by omega, H, (by first | rfl | assumption | omega | (simp only [List.length_set]; first | done | assumption | omega)), rfl⟩))))))))))))))))))))
     ·
      exact gf rfl (dF c26) (gk (wk [0, 1, 2, 3, 4, 10, 11, 12, 13, 14] [] [⟨0, 1, 1, false⟩] (jh1 _ ⟨_, x6_ml0, x6_1, x6_2, x6_3, x6_10, x6_11, x6_12, t6_0, t6_1, by omega, H, (by first | rfl | assumption | omega | (simp only [List.length_set]; first | done | assumption | omega)), rfl⟩)))
   ·
    refine gs (rg (sv (EV.mv rfl) rfl (sv (EV.nt rfl) rfl (re ?_))))
    revert H; refine ifsI ?_ ?_ <;> intro c28 H
    ·
     subst c28
     exact gf rfl rfl (gk (wk [0, 1, 2, 3, 4, 10, 11, 12] [] [⟨0, 1, 1, false⟩] (jh0 _ ⟨_, x1_ml0, x1_1, x1_2, x1_3, true, x1_11, wrap64 (x1_2 - x1_1), by omega, H, (by first | rfl | assumption | omega | (simp only [List.length_set]; first | done | assumption | omega)), rfl⟩)))
    ·
     have xc28 := bF c28; subst xc28
     refine gt rfl rfl (gs (rg (sv (EV.mv rfl) rfl (sv (EV.mv rfl) rfl (sv (EV.mv rfl) rfl (sv (EV.mv rfl) rfl ?_))))))
     revert H; refine bdI ?_; rintro t29 A29 H
     refine so rfl (op_callM (slices_breakPatternsCmpFunc_impl_Group_at93.ok n0 x1_ml0 Al0 cl0 x1_1 x1_2 _ A29) [⟨0, 1, 1, false⟩] [] [] 2 rfl rfl rfl rfl rfl rfl rfl rfl ?_)
     rintro _ _ _ ⟨rfl, rfl, rfl, q29_0⟩
     exact rlT 0 (v' := .slice Al0 t29.length cl0) rfl (slq _ _ q29_0) (rlT 40 (v' := .slice Al0 t29.length cl0) rfl (slq _ _ q29_0) (nmE (en := [.sl 1 k88 Al0 cl0 t29 3 false]) (by kernel_rfl) (re (pr [0, 1, 2, 3, 4, 10, 11, 12] [] [0] rfl rfl rfl rfl (rg (sv (EV.mv rfl) rfl (sv (EV.sub rfl rfl) rfl (sv (EV.as rfl) rfl (re (wk [0, 1, 2, 3, 4, 10, 11, 12] [] [⟨0, 1, 1, false⟩] (jh0 _ ⟨_, t29, x1_1, x1_2, wrap64 (x1_3 - 1), false, x1_11, wrap64 (x1_2 - x1_1), by omega, H, (by first | rfl | assumption | omega | (simp only [List.length_set]; first | done | assumption | omega)), rfl⟩)))))))))))
theorem slices_pdqsortCmpFunc_impl_Group_at93.ok (k : Nat) (l0 : List S88) (Al0 : Option Addr) (cl0 : Nat) (a1 : Int) (a2 : Int) (a3 : Int) (r0 : List S88) (h : slices_pdqsortCmpFunc_impl_Group_at93.f k l0 a1 a2 a3 = some r0) : Fn Try.prog 102 [.slice Al0 l0.length cl0, .int .i64 a1, .int .i64 a2, .int .i64 a3, .func (.func 93) #[] #[]] [] [.sl 1 k88 Al0 cl0 l0 1 false] (fun v bx en => v = .tuple #[] ∧ bx = [] ∧ en = [.sl 1 k88 Al0 cl0 r0 1 false] ∧ r0.length = l0.length) := slices_pdqsortCmpFunc_impl_Group_at93.ok_ k k (Nat.le_refl k) l0 Al0 cl0 a1 a2 a3 r0 h
def slices_SortFunc_impl_Group_impl_Group_at93.f (k : Nat) (l0 : List S88) : Option ((List S88)) := (bits_Len.f k (IntKind.u64.wrap (l0.length : Int))).bind fun t1 => ((slices_pdqsortCmpFunc_impl_Group_at93.f k l0 0 (l0.length : Int) t1).bind fun t2 => (some t2))
set_option maxHeartbeats 4000000 in
set_option maxRecDepth 100000 in
theorem slices_SortFunc_impl_Group_impl_Group_at93.ok (k : Nat) (l0 : List S88) (Al0 : Option Addr) (cl0 : Nat) (r0 : List S88) (H : slices_SortFunc_impl_Group_impl_Group_at93.f k l0 = some r0) : Fn Try.prog 92 [.slice Al0 l0.length cl0, .func (.func 93) #[] #[]] [] [.sl 1 k88 Al0 cl0 l0 1 false] (fun v bx en => v = .tuple #[] ∧ bx = [] ∧ en = [.sl 1 k88 Al0 cl0 r0 1 false] ∧ r0.length = l0.length) := by
 refine fn_ 14 Try.func92 rfl rfl rfl (fun base T w0 => ?_)
 rw [slices_SortFunc_impl_Group_impl_Group_at93.f] at H
 refine gs (rg (sv (EV.mv rfl) rfl (sv (EV.ln rfl) rfl (sv (EV.as rfl) rfl (re (rg (sv (EV.mv rfl) rfl (sv (EV.mv rfl) rfl (sv (EV.mv rfl) rfl (sv (EV.cv (k' := .u64) rfl) rfl ?_))))))))))
 revert H; refine bdI ?_; rintro t1 A1 H
 refine so rfl (op_call (bits_Len.ok k (IntKind.u64.wrap (l0.length : Int)) _ A1) [] 2 rfl rfl rfl rfl rfl ?_)
 rintro _ _ _ ⟨rfl, rfl, rfl⟩
 refine sv (EV.mv rfl) rfl ?_
 revert H; refine bdI ?_; rintro t2 A2 H
 refine so rfl (op_callM (slices_pdqsortCmpFunc_impl_Group_at93.ok k l0 Al0 cl0 0 (l0.length : Int) t1 _ A2) [⟨0, 1, 1, false⟩] [] [] 2 rfl rfl rfl rfl rfl rfl rfl rfl ?_)
 rintro _ _ _ ⟨rfl, rfl, rfl, q2_0⟩
 refine rlT 0 (v' := .slice Al0 t2.length cl0) rfl (slq _ _ q2_0) (rlT 5 (v' := .slice Al0 t2.length cl0) rfl (slq _ _ q2_0) (rlT 7 (v' := .slice Al0 t2.length cl0) rfl (slq _ _ q2_0) (nmE (en := [.sl 1 k88 Al0 cl0 t2 3 false]) (by kernel_rfl) (re (pr [] [] [0] rfl rfl rfl rfl ?_)))))
 cases H
 exact rt0 Try.func92 rfl .nil rfl [] [⟨0, 1, 1, false⟩] rfl rfl rfl rfl rfl ⟨rfl, rfl, rfl, by first | rfl | assumption | omega | (simp only [List.length_set]; first | done | assumption | omega)⟩
def impl_CombineGroups.f (a0_0 : Int) (a0_1 : Int) (a0_2 : Int) (a0_3 : Int) (a0_4 : Int) (a1_0 : Int) (a1_1 : Int) (a1_2 : Int) (a1_3 : Int) (a1_4 : Int) : Option (Int × Int × Int × Int × Int) := if a0_0 = a1_0 then (some (a0_0, wrap64 (a0_1 + a1_1), wrap64 (a0_2 + a1_2), mn a0_3 a1_3, mx a0_4 a1_4)) else (some (a0_0, a0_1, a0_2, a0_3, a0_4))
set_option maxHeartbeats 4000000 in
set_option maxRecDepth 100000 in
theorem impl_CombineGroups.ok (a0_0 : Int) (a0_1 : Int) (a0_2 : Int) (a0_3 : Int) (a0_4 : Int) (a1_0 : Int) (a1_1 : Int) (a1_2 : Int) (a1_3 : Int) (a1_4 : Int) (r0 : Int) (r1 : Int) (r2 : Int) (r3 : Int) (r4 : Int) (H : impl_CombineGroups.f a0_0 a0_1 a0_2 a0_3 a0_4 a1_0 a1_1 a1_2 a1_3 a1_4 = some (r0, r1, r2, r3, r4)) : Fn Try.prog 91 [.agg #[.int .i64 a0_0, .int .i64 a0_1, .int .i64 a0_2, .int .i64 a0_3, .int .i64 a0_4], .agg #[.int .i64 a1_0, .int .i64 a1_1, .int .i64 a1_2, .int .i64 a1_3, .int .i64 a1_4]] [] [] (fun v bx en => v = .agg #[.int .i64 r0, .int .i64 r1, .int .i64 r2, .int .i64 r3, .int .i64 r4] ∧ bx = [] ∧ en = []) := by
 refine fn_ 34 Try.func91 rfl rfl rfl (fun base T w0 => ?_)
 rw [impl_CombineGroups.f] at H
 refine gs (rg (so rfl (op_box (cs := [.int .i64 a0_0, .int .i64 a0_1, .int .i64 a0_2, .int .i64 a0_3, .int .i64 a0_4]) rfl rfl rfl fun b2 => (so rfl (op_box (cs := [.int .i64 a1_0, .int .i64 a1_1, .int .i64 a1_2, .int .i64 a1_3, .int .i64 a1_4]) rfl rfl rfl fun b3 => (so rfl (op_alloc (cs := [.int .i64 0, .int .i64 0, .int .i64 0, .int .i64 0, .int .i64 0]) (by kernel_rfl) rfl fun b4 => (re (gs (gs (rg (sv (EV.fa 0 rfl) rfl (sv (EV.ld 0 none rfl rfl rfl) rfl (sv (EV.fa 0 rfl) rfl (sv (EV.ld 1 none rfl rfl rfl) rfl (sv (EV.neq rfl rfl) rfl (re (pr [2, 3, 4, 9] [0, 1, 2] [] rfl rfl rfl rfl ?_))))))))))))))))))
 revert H; refine ifsI ?_ ?_ <;> intro c1 H
 ·
  refine gf rfl (nF c1) (gk (gs (rg (sv (EV.fa 0 rfl) rfl (sv (EV.ld 0 none rfl rfl rfl) rfl (sv (EV.fa 1 rfl) rfl (sv (EV.ld 0 none rfl rfl rfl) rfl (sv (EV.fa 1 rfl) rfl (sv (EV.ld 1 none rfl rfl rfl) rfl (sv (EV.add rfl rfl) rfl (sv (EV.fa 2 rfl) rfl (sv (EV.ld 0 none rfl rfl rfl) rfl (sv (EV.fa 2 rfl) rfl (sv (EV.ld 1 none rfl rfl rfl) rfl (sv (EV.add rfl rfl) rfl (sv (EV.fa 3 rfl) rfl (sv (EV.ld 0 none rfl rfl rfl) rfl (sv (EV.fa 3 rfl) rfl (sv (EV.ld 1 none rfl rfl rfl) rfl (sv (EV.mn rfl rfl) rfl (sv (EV.fa 4 rfl) rfl (sv (EV.ld 0 none rfl rfl rfl) rfl (sv (EV.fa 4 rfl) rfl (sv (EV.ld 1 none rfl rfl rfl) rfl (sv (EV.mx rfl rfl) rfl (sv (EV.bd (v := .agg #[.int .i64 a0_0, .int .i64 (wrap64 (a0_1 + a1_1)), .int .i64 (wrap64 (a0_2 + a1_2)), .int .i64 (mn a0_3 a1_3), .int .i64 (mx a0_4 a1_4)]) rfl (by kernel_rfl)) rfl (so rfl (op_st (cs' := [.int .i64 a0_0, .int .i64 (wrap64 (a0_1 + a1_1)), .int .i64 (wrap64 (a0_2 + a1_2)), .int .i64 (mn a0_3 a1_3), .int .i64 (mx a0_4 a1_4)]) 2 rfl rfl rfl rfl rfl rfl (re ?_)))))))))))))))))))))))))))))
  refine pr [4] [2] [] rfl rfl rfl rfl ?_
  cases H
  exact rt Try.func91 rfl (.cell 0 (some 5) rfl rfl rfl .nil) rfl [] [] rfl rfl rfl rfl rfl ⟨rfl, rfl, rfl⟩
 ·
  refine gt rfl (nT c1) (gs (rg (sv (EV.ld (v := .agg #[.int .i64 a0_0, .int .i64 a0_1, .int .i64 a0_2, .int .i64 a0_3, .int .i64 a0_4]) 0 (some 5) rfl rfl rfl) rfl (so rfl (op_st (cs' := [.int .i64 a0_0, .int .i64 a0_1, .int .i64 a0_2, .int .i64 a0_3, .int .i64 a0_4]) 2 rfl rfl rfl rfl rfl rfl (re ?_))))))
  cases H
  exact rt Try.func91 rfl (.cell 2 (some 5) rfl rfl rfl .nil) rfl [] [] rfl rfl rfl rfl rfl ⟨rfl, rfl, rfl⟩
def impl_MergeGroups.l0 : Nat → (List S88) → (List (Int × Int)) → Int → Int → (List S88) → Option ((List S88))
 | 0, _, _, _, _, _ => none
 | k + 1, x2_3, x2_4, x2_12, x2_13, l0 => if x2_13 < x2_12 then (if 0 ≤ x2_13 then (if x2_13 < (l0.length : Int) then (if ((mGet x2_4 ((rd_T88 l0 x2_13).f0)).isSome) = true then (if 0 ≤ ((mGet x2_4 ((rd_T88 l0 x2_13).f0)).getD 0) then (if ((mGet x2_4 ((rd_T88 l0 x2_13).f0)).getD 0) < (x2_3.length : Int) then ((impl_CombineGroups.f ((rd_T88 x2_3 ((mGet x2_4 ((rd_T88 l0 x2_13).f0)).getD 0)).f0) ((rd_T88 x2_3 ((mGet x2_4 ((rd_T88 l0 x2_13).f0)).getD 0)).f1) ((rd_T88 x2_3 ((mGet x2_4 ((rd_T88 l0 x2_13).f0)).getD 0)).f2) ((rd_T88 x2_3 ((mGet x2_4 ((rd_T88 l0 x2_13).f0)).getD 0)).f3) ((rd_T88 x2_3 ((mGet x2_4 ((rd_T88 l0 x2_13).f0)).getD 0)).f4) ((rd_T88 l0 x2_13).f0) ((rd_T88 l0 x2_13).f1) ((rd_T88 l0 x2_13).f2) ((rd_T88 l0 x2_13).f3) ((rd_T88 l0 x2_13).f4)).bind fun bt9 => ((some (x2_3.set ((mGet x2_4 ((rd_T88 l0 x2_13).f0)).getD 0).toNat (⟨bt9.1, bt9.2.1, bt9.2.2.1, bt9.2.2.2.1, bt9.2.2.2.2⟩ : S88))).bind fun s10 => (impl_MergeGroups.l0 k s10 x2_4 x2_12 (wrap64 (x2_13 + 1)) l0))) else none) else none) else (if x2_3.length < 3518437208883 then (impl_MergeGroups.l0 k (x2_3 ++ ([(⟨(rd_T88 l0 x2_13).f0, (rd_T88 l0 x2_13).f1, (rd_T88 l0 x2_13).f2, (rd_T88 l0 x2_13).f3, (rd_T88 l0 x2_13).f4⟩ : S88)] : List S88)) (mSet x2_4 ((rd_T88 l0 x2_13).f0) (x2_3.length : Int)) x2_12 (wrap64 (x2_13 + 1)) l0) else none)) else none) else none) else ((slices_SortFunc_impl_Group_impl_Group_at93.f k x2_3).bind fun t14 => (some t14))
def impl_MergeGroups.f (k : Nat) (l0 : List S88) : Option ((List S88)) := impl_MergeGroups.l0 k [] ([] : List (Int × Int)) (l0.length : Int) 0 l0
set_option maxHeartbeats 4000000 in
set_option maxRecDepth 100000 in
theorem impl_MergeGroups.ok (k : Nat) (l0 : List S88) (Al0 : Option Addr) (cl0 : Nat) (r0 : List S88) (H : impl_MergeGroups.f k l0 = some r0) : Fn Try.prog 69 [.slice Al0 l0.length cl0] [] [.sl 0 k88 Al0 cl0 l0 0 false] (fun v bx en => ∃ A0 c0, v = .slice A0 r0.length c0 ∧ bx = [] ∧ en = [.sl 1 k88 A0 c0 r0 1 false]) := by
 refine fn_ 48 Try.func69 rfl rfl rfl (fun base T w0 => ?_)
 rw [impl_MergeGroups.f] at H
 refine gs (rg (sv (EV.as rfl) rfl (re (gs (rg (so rfl (op_lit (s := 5) (by_ := 40) k88 ([] : List S88) [] [] 1 [] rfl rfl rfl rfl rfl rfl rfl rfl rfl rfl rfl rfl rfl dq rfl fun A9_1 c9_1 => (so rfl (op_mkm (β := Int) .i64 (Value.int .i64) 2 rfl dq rfl fun r10_2 => (sv (EV.as rfl) rfl (sv (EV.as rfl) rfl (re (gs (gs (rg (sv (EV.mv rfl) rfl (sv (EV.ln rfl) rfl (sv (EV.mv rfl) rfl (re (gb ?_))))))))))))))))))))
 refine lo (fun kk S => ∃ (x2_3 : List S88) (Ax2_3 : Option Addr) (cx2_3 : Nat) (x2_4 : List (Int × Int)) (rx2_4 : Nat) (x2_12 : Int) (x2_13 : Int), impl_MergeGroups.l0 kk x2_3 x2_4 x2_12 x2_13 l0 = some r0 ∧ S = ⟨[(3, .slice Ax2_3 x2_3.length cx2_3), (4, .map (some rx2_4)), (11, .slice Al0 l0.length cl0), (12, .int .i64 x2_12), (13, .int .i64 x2_13)], [], [.sl 2 k88 Ax2_3 cx2_3 x2_3 1 true, mapE .i64 (Value.int .i64) rx2_4 x2_4 2, .sl 0 k88 Al0 cl0 l0 0 false]⟩) (fun S hS => ?_) (fun n0 ih0 S hS => ?_) ⟨[], A9_1, c9_1, ([] : List (Int × Int)), r10_2, (l0.length : Int), 0, H, rfl⟩ (fun h => wk [3, 4, 11, 12, 13] [] [⟨1, 2, 1, true⟩, ⟨2, 1, 2, false⟩, ⟨0, 0, 0, false⟩] h)
 · clear H; obtain ⟨_, _, _, _, _, _, _, H, _⟩ := hS; rw [impl_MergeGroups.l0] at H; cases H
 clear H
 obtain ⟨x2_3, Ax2_3, cx2_3, x2_4, rx2_4, x2_12, x2_13, H, rfl⟩ := hS
 rw [impl_MergeGroups.l0] at H
 refine gs (rg (sv (EV.lss rfl rfl) rfl (re (gs ?_))))
 revert H; refine ifsI ?_ ?_ <;> intro c3 H
 ·
  refine gt rfl (dT c3) (gk (gs (gb (gs (rg ?_)))))
  revert H; refine ggI ?_; intro g4 H
  revert H; refine ggI ?_; intro g5 H
  refine sv (EV.ix 2 rfl rfl rfl g4 g5 rfl) rfl (sv (EV.le (v := .agg #[.int .i64 ((rd_T88 l0 x2_13).f0), .int .i64 ((rd_T88 l0 x2_13).f1), .int .i64 ((rd_T88 l0 x2_13).f2), .int .i64 ((rd_T88 l0 x2_13).f3), .int .i64 ((rd_T88 l0 x2_13).f4)]) x2_13 0 (some 5) 2 z88 rfl rfl rfl g4 g5 rfl rfl rfl) rfl (so rfl (op_alloc (cs := [.int .i64 0, .int .i64 0, .int .i64 0, .int .i64 0, .int .i64 0]) (by kernel_rfl) rfl fun b6 => (so rfl (op_st (cs' := [.int .i64 ((rd_T88 l0 x2_13).f0), .int .i64 ((rd_T88 l0 x2_13).f1), .int .i64 ((rd_T88 l0 x2_13).f2), .int .i64 ((rd_T88 l0 x2_13).f3), .int .i64 ((rd_T88 l0 x2_13).f4)]) 0 rfl rfl rfl rfl rfl rfl (re (gs (rg (sv (EV.mv rfl) rfl (sv (EV.fa 0 rfl) rfl (sv (EV.ld 0 none rfl rfl rfl) rfl (sv (EV.lk2 (vf := (Value.int .i64)) (zz := 0) 1 rfl rfl rfl) rfl (sv (EV.mv rfl) rfl (sv (EV.ex rfl rfl) rfl (sv (EV.ex rfl rfl) rfl (sv (EV.as rfl) rfl (sv (EV.as rfl) rfl (re (pr [3, 4, 6, 7, 8, 11, 12, 13] [0] [0, 1, 2] rfl rfl rfl rfl (gs (gs (rg (sv (EV.mv rfl) rfl (sv (EV.nt rfl) rfl (re ?_)))))))))))))))))))))))))
  revert H; refine ifsI ?_ ?_ <;> intro c6 H
  ·
   refine gf rfl (bN c6) (gk ?_)
   revert H; refine ggI ?_; intro g7 H
   revert H; refine ggI ?_; intro g8 H
   refine dr [0] [0, 1, 2] [9] 10 rfl rfl rfl rfl (xv 0 [0] [0, 1, 2] rfl (EV.mv rfl) rfl rfl rfl rfl (xv 1 [0] [0, 1, 2] rfl (EV.mv rfl) rfl rfl rfl rfl (xv 2 [0] [0, 1, 2] rfl (EV.mv rfl) rfl rfl rfl rfl (xv 3 [0] [0, 1, 2] rfl (EV.mv rfl) rfl rfl rfl rfl (xv 4 [0] [0, 1, 2] rfl (EV.ix 0 rfl rfl rfl g7 g8 rfl) rfl rfl rfl rfl (xv 5 [0] [0, 1, 2] rfl (EV.le (v := .agg #[.int .i64 ((rd_T88 x2_3 ((mGet x2_4 ((rd_T88 l0 x2_13).f0)).getD 0)).f0), .int .i64 ((rd_T88 x2_3 ((mGet x2_4 ((rd_T88 l0 x2_13).f0)).getD 0)).f1), .int .i64 ((rd_T88 x2_3 ((mGet x2_4 ((rd_T88 l0 x2_13).f0)).getD 0)).f2), .int .i64 ((rd_T88 x2_3 ((mGet x2_4 ((rd_T88 l0 x2_13).f0)).getD 0)).f3), .int .i64 ((rd_T88 x2_3 ((mGet x2_4 ((rd_T88 l0 x2_13).f0)).getD 0)).f4)]) ((mGet x2_4 ((rd_T88 l0 x2_13).f0)).getD 0) 0 (some 5) 0 z88 rfl rfl rfl g7 g8 rfl rfl rfl) rfl rfl rfl rfl (xv 6 [0] [0, 1, 2] rfl (EV.ld (v := .agg #[.int .i64 ((rd_T88 l0 x2_13).f0), .int .i64 ((rd_T88 l0 x2_13).f1), .int .i64 ((rd_T88 l0 x2_13).f2), .int .i64 ((rd_T88 l0 x2_13).f3), .int .i64 ((rd_T88 l0 x2_13).f4)]) 0 (some 5) rfl rfl rfl) rfl rfl rfl rfl (one1 7 rfl rfl ?_))))))))
   revert H; refine bdI ?_; rintro ⟨t9_0, t9_1, t9_2, t9_3, t9_4⟩ A9 H
   refine op_call (impl_CombineGroups.ok ((rd_T88 x2_3 ((mGet x2_4 ((rd_T88 l0 x2_13).f0)).getD 0)).f0) ((rd_T88 x2_3 ((mGet x2_4 ((rd_T88 l0 x2_13).f0)).getD 0)).f1) ((rd_T88 x2_3 ((mGet x2_4 ((rd_T88 l0 x2_13).f0)).getD 0)).f2) ((rd_T88 x2_3 ((mGet x2_4 ((rd_T88 l0 x2_13).f0)).getD 0)).f3) ((rd_T88 x2_3 ((mGet x2_4 ((rd_T88 l0 x2_13).f0)).getD 0)).f4) ((rd_T88 l0 x2_13).f0) ((rd_T88 l0 x2_13).f1) ((rd_T88 l0 x2_13).f2) ((rd_T88 l0 x2_13).f3) ((rd_T88 l0 x2_13).f4) _ _ _ _ _ A9) [] 3 rfl rfl rfl rfl rfl ?_
   rintro _ _ _ ⟨rfl, rfl, rfl⟩
   refine xs [0] [0, 1, 2] rfl rfl rfl (xv 8 [0] [0, 1, 2] rfl (EV.ix 0 rfl rfl rfl g7 g8 rfl) rfl rfl rfl rfl (one1 9 rfl rfl ?_))
   revert H; refine bdI ?_; intro s10 A10 H; have q10 := stl (Option.some.inj A10)
   exact op_stg ((mGet x2_4 ((rd_T88 l0 x2_13).f0)).getD 0) 0 0 z88 (⟨t9_0, t9_1, t9_2, t9_3, t9_4⟩ : S88) (Option.some.inj A10) rfl rfl rfl rfl g7 g8 rfl rfl rfl rfl dq rfl (rlT 3 (v' := .slice Ax2_3 s10.length cx2_3) rfl (slq _ _ q10) (rlT 35 (v' := .slice Ax2_3 s10.length cx2_3) rfl (slq _ _ q10) (rlT 37 (v' := .slice Ax2_3 s10.length cx2_3) rfl (slq _ _ q10) (nmE (en := [mapE .i64 (Value.int .i64) rx2_4 x2_4 2, .sl 0 k88 Al0 cl0 l0 0 false, .sl 2 k88 Ax2_3 cx2_3 s10 1 true]) (by kernel_rfl) (xn rfl (xd (pr [3, 4, 11, 12, 13] [] [0, 1, 2] rfl rfl rfl rfl (ge (rg (sv (EV.add rfl rfl) rfl (sv (EV.mv rfl) rfl (re (wk [3, 4, 11, 12, 13] [] [⟨2, 2, 1, true⟩, ⟨0, 1, 2, false⟩, ⟨1, 0, 0, false⟩] (ih0 _ (by omega) _ ⟨s10, Ax2_3, cx2_3, x2_4, rx2_4, x2_12, wrap64 (x2_13 + 1), H, rfl⟩))))))))))))))
  ·
   refine gt rfl (bM c6) (gs (rg (sv (EV.mv rfl) rfl (sv (EV.fa 0 rfl) rfl (sv (EV.ld 0 none rfl rfl rfl) rfl (sv (EV.mv rfl) rfl (sv (EV.ln rfl) rfl (so rfl (op_mu 1 (x2_3.length : Int) rfl rfl rfl rfl rfl (nmE (en := [.sl 2 k88 Ax2_3 cx2_3 x2_3 1 true, .sl 0 k88 Al0 cl0 l0 0 false, mapE .i64 (Value.int .i64) rx2_4 (mSet x2_4 ((rd_T88 l0 x2_13).f0) (x2_3.length : Int)) 2]) (by kernel_rfl) (re (pr [3, 4, 6, 11, 12, 13] [0] [0, 1, 2] rfl rfl rfl rfl (gs (rg (sv (EV.mv rfl) rfl (sv (EV.ld (v := .agg #[.int .i64 ((rd_T88 l0 x2_13).f0), .int .i64 ((rd_T88 l0 x2_13).f1), .int .i64 ((rd_T88 l0 x2_13).f2), .int .i64 ((rd_T88 l0 x2_13).f3), .int .i64 ((rd_T88 l0 x2_13).f4)]) 0 (some 5) rfl rfl rfl) rfl (so rfl (op_lit (s := 5) (by_ := 40) k88 ([(⟨(rd_T88 l0 x2_13).f0, (rd_T88 l0 x2_13).f1, (rd_T88 l0 x2_13).f2, (rd_T88 l0 x2_13).f3, (rd_T88 l0 x2_13).f4⟩ : S88)] : List S88) [[]] [] 3 [.tmp 32] rfl rfl rfl rfl rfl rfl rfl rfl rfl rfl rfl rfl rfl dq rfl fun A33_11 c33_11 => ?_))))))))))))))))))
   revert H; refine ggI ?_; intro g12 H
   exact so rfl (op_app (k := k88) (s := 5) (by_ := 40) 0 3 rfl rfl rfl rfl (ap1 g12 dq) (ap1n g12 dq) (.inl rfl) true (fun _ => .inl rfl) rfl rfl fun A34_13 c34_13 => (nmE (en := [.sl 0 k88 Al0 cl0 l0 0 false, mapE .i64 (Value.int .i64) rx2_4 (mSet x2_4 ((rd_T88 l0 x2_13).f0) (x2_3.length : Int)) 2, .sl 2 k88 A33_11 c33_11 ([(⟨(rd_T88 l0 x2_13).f0, (rd_T88 l0 x2_13).f1, (rd_T88 l0 x2_13).f2, (rd_T88 l0 x2_13).f3, (rd_T88 l0 x2_13).f4⟩ : S88)] : List S88) 3 true, .sl 2 k88 A34_13 c34_13 (x2_3 ++ ([(⟨(rd_T88 l0 x2_13).f0, (rd_T88 l0 x2_13).f1, (rd_T88 l0 x2_13).f2, (rd_T88 l0 x2_13).f3, (rd_T88 l0 x2_13).f4⟩ : S88)] : List S88)) 1 true]) (by kernel_rfl) (sv (EV.as rfl) rfl (re (gx rfl (rg (sv (EV.add rfl rfl) rfl (sv (EV.mv rfl) rfl (re (pr [3, 4, 11, 12, 13] [] [0, 1, 3] rfl rfl rfl rfl (wk [3, 4, 11, 12, 13] [] [⟨2, 2, 1, true⟩, ⟨1, 1, 2, false⟩, ⟨0, 0, 0, false⟩] (ih0 _ (by omega) _ ⟨x2_3 ++ ([(⟨(rd_T88 l0 x2_13).f0, (rd_T88 l0 x2_13).f1, (rd_T88 l0 x2_13).f2, (rd_T88 l0 x2_13).f3, (rd_T88 l0 x2_13).f4⟩ : S88)] : List S88), A34_13, c34_13, mSet x2_4 ((rd_T88 l0 x2_13).f0) (x2_3.length : Int), rx2_4, x2_12, wrap64 (x2_13 + 1), H, rfl⟩))))))))))))
 ·
  refine gf rfl (dF c3) (gx rfl (gs (rg (sv (EV.mv rfl) rfl ?_))))
  revert H; refine bdI ?_; rintro t14 A14 H
  refine so rfl (op_callM (slices_SortFunc_impl_Group_impl_Group_at93.ok n0 x2_3 Ax2_3 cx2_3 _ A14) [⟨0, 1, 1, false⟩] [] [] 3 rfl rfl rfl rfl rfl rfl rfl rfl ?_)
  rintro _ _ _ ⟨rfl, rfl, rfl, q14_0⟩
  refine rlT 3 (v' := .slice Ax2_3 t14.length cx2_3) rfl (slq _ _ q14_0) (rlT 45 (v' := .slice Ax2_3 t14.length cx2_3) rfl (slq _ _ q14_0) (nmE (en := [mapE .i64 (Value.int .i64) rx2_4 x2_4 2, .sl 0 k88 Al0 cl0 l0 0 false, .sl 1 k88 Ax2_3 cx2_3 t14 4 false]) (by kernel_rfl) (re (pr [3] [] [2] rfl rfl rfl rfl (gs (rg (sv (EV.mv rfl) rfl (sv (EV.as rfl) rfl (re ?_)))))))))
  cases H
  exact rt Try.func69 rfl (.tmp rfl .nil) rfl [] [⟨0, 1, 1, false⟩] rfl rfl rfl rfl rfl ⟨_, _, rfl, rfl, rfl⟩
mutual
def impl_RollupGroups.l2 : Nat → (List S92) → Int → Int → (List S88) → Int → Int → (List S88) → Option ((List S92))
 | 0, _, _, _, _, _, _, _ => none
 | k + 1, x34_3, x34_4, x34_11, x34_32, x34_33, x34_34, l0 => if x34_34 < x34_33 then (if 0 ≤ x34_34 then (if x34_34 < (x34_32.length : Int) then (if x34_3.length < 2932031007402 then (impl_RollupGroups.l2 k (x34_3 ++ ([(⟨x34_4, (⟨(rd_T88 x34_32 x34_34).f0, (rd_T88 x34_32 x34_34).f1, (rd_T88 x34_32 x34_34).f2, (rd_T88 x34_32 x34_34).f3, (rd_T88 x34_32 x34_34).f4⟩ : S88)⟩ : S92)] : List S92)) x34_4 x34_11 x34_32 x34_33 (wrap64 (x34_34 + 1)) l0) else none) else none) else none) else (impl_RollupGroups.l0 k x34_3 (wrap64 (x34_11 + 1)) l0)
def impl_RollupGroups.l1 : Nat → (List S92) → Int → (List S88) → Int → Int → Int → (List S88) → Option ((List S92))
 | 0, _, _, _, _, _, _, _ => none
 | k + 1, x32_3, x32_4, x32_5, x32_11, x32_16, x32_17, l0 => if x32_17 < x32_16 then (if 0 ≤ x32_17 then (if x32_17 < (l0.length : Int) then ((impl_RollupKey.f ((rd_T88 l0 x32_17).f0) x32_4).bind fun t7 => (if x32_5.length < 3518437208883 then (impl_RollupGroups.l1 k x32_3 x32_4 (x32_5 ++ ([(⟨t7, (rd_T88 l0 x32_17).f1, (rd_T88 l0 x32_17).f2, (rd_T88 l0 x32_17).f3, (rd_T88 l0 x32_17).f4⟩ : S88)] : List S88)) x32_11 x32_16 (wrap64 (x32_17 + 1)) l0) else none)) else none) else none) else ((impl_MergeGroups.f k x32_5).bind fun t11 => (impl_RollupGroups.l2 k x32_3 x32_4 x32_11 t11 (t11.length : Int) 0 l0))
def impl_RollupGroups.l0 : Nat → (List S92) → Int → (List S88) → Option ((List S92))
 | 0, _, _, _ => none
 | k + 1, x18_3, x18_11, l0 => if x18_11 < 3 then (impl_RollupGroups.l1 k x18_3 x18_11 [] x18_11 (l0.length : Int) 0 l0) else (some x18_3)
end
def impl_RollupGroups.f (k : Nat) (l0 : List S88) : Option ((List S92)) := impl_RollupGroups.l0 k [] 0 l0
set_option maxHeartbeats 4000000 in
set_option maxRecDepth 100000 in
theorem impl_RollupGroups.ok (k : Nat) (l0 : List S88) (Al0 : Option Addr) (cl0 : Nat) (r0 : List S92) (H : impl_RollupGroups.f k l0 = some r0) : Fn Try.prog 34 [.slice Al0 l0.length cl0] [] [.sl 0 k88 Al0 cl0 l0 0 false] (fun v bx en => ∃ A0 c0, v = .slice A0 r0.length c0 ∧ bx = [] ∧ en = [.sl 2 k92 A0 c0 r0 1 true]) := by
 refine fn_ 47 Try.func34 rfl rfl rfl (fun base T w0 => ?_)
 rw [impl_RollupGroups.f] at H
 refine gs (rg (sv (EV.as rfl) rfl (re (gs (rg (so rfl (op_lit (s := 6) (by_ := 48) k92 ([] : List S92) [] [] 1 [] rfl rfl rfl rfl rfl rfl rfl rfl rfl rfl rfl rfl rfl dq rfl fun A10_1 c10_1 => (sv (EV.as rfl) rfl (re (gs (gs (rg (sv (EV.mv rfl) rfl (re (gb ?_)))))))))))))))
 refine lo (fun kk S => ∃ (x18_3 : List S92) (Ax18_3 : Option Addr) (cx18_3 : Nat) (x18_11 : Int), impl_RollupGroups.l0 kk x18_3 x18_11 l0 = some r0 ∧ S = ⟨[(0, .slice Al0 l0.length cl0), (3, .slice Ax18_3 x18_3.length cx18_3), (11, .int .i64 x18_11)], [], [.sl 2 k92 Ax18_3 cx18_3 x18_3 1 true, .sl 0 k88 Al0 cl0 l0 0 false]⟩) (fun S hS => ?_) (fun n0 ih0 S hS => ?_) ⟨[], A10_1, c10_1, 0, H, rfl⟩ (fun h => wk [0, 3, 11] [] [⟨1, 2, 1, true⟩, ⟨0, 0, 0, false⟩] h)
 · clear H; obtain ⟨_, _, _, _, H, _⟩ := hS; rw [impl_RollupGroups.l0] at H; cases H
 clear H
 obtain ⟨x18_3, Ax18_3, cx18_3, x18_11, H, rfl⟩ := hS
 rw [impl_RollupGroups.l0] at H
 refine gs (rg (sv (EV.lss rfl rfl) rfl (re (gs ?_))))
 revert H; refine ifsI ?_ ?_ <;> intro c2 H
 ·
  refine gt rfl (dT c2) (gk (gs (gb (gs (rg (sv (EV.mv rfl) rfl (sv (EV.as rfl) rfl (re (gs (rg (so rfl (op_lit (s := 5) (by_ := 40) k88 ([] : List S88) [] [] 2 [] rfl rfl rfl rfl rfl rfl rfl rfl rfl rfl rfl rfl rfl dq rfl fun A14_3 c14_3 => (sv (EV.as rfl) rfl (re (gs (gs (rg (sv (EV.mv rfl) rfl (sv (EV.ln rfl) rfl (sv (EV.mv rfl) rfl (re (gb ?_))))))))))))))))))))))
  refine lo (fun kk S => ∃ (x32_3 : List S92) (Ax32_3 : Option Addr) (cx32_3 : Nat) (x32_4 : Int) (x32_5 : List S88) (Ax32_5 : Option Addr) (cx32_5 : Nat) (x32_11 : Int) (x32_16 : Int) (x32_17 : Int), kk ≤ n0 ∧ impl_RollupGroups.l1 kk x32_3 x32_4 x32_5 x32_11 x32_16 x32_17 l0 = some r0 ∧ S = ⟨[(0, .slice Al0 l0.length cl0), (3, .slice Ax32_3 x32_3.length cx32_3), (4, .int .i64 x32_4), (5, .slice Ax32_5 x32_5.length cx32_5), (11, .int .i64 x32_11), (15, .slice Al0 l0.length cl0), (16, .int .i64 x32_16), (17, .int .i64 x32_17)], [], [.sl 2 k92 Ax32_3 cx32_3 x32_3 1 true, .sl 2 k88 Ax32_5 cx32_5 x32_5 2 true, .sl 0 k88 Al0 cl0 l0 0 false]⟩) (fun S hS => ?_) (fun n1 ih1 S hS => ?_) ⟨x18_3, Ax18_3, cx18_3, x18_11, [], A14_3, c14_3, x18_11, (l0.length : Int), 0, by omega, H, rfl⟩ (fun h => wk [0, 3, 4, 5, 11, 15, 16, 17] [] [⟨0, 2, 1, true⟩, ⟨2, 2, 2, true⟩, ⟨1, 0, 0, false⟩] h)
  · clear H; obtain ⟨_, _, _, _, _, _, _, _, _, _, _, H, _⟩ := hS; rw [impl_RollupGroups.l1] at H; cases H
  clear H
  obtain ⟨x32_3, Ax32_3, cx32_3, x32_4, x32_5, Ax32_5, cx32_5, x32_11, x32_16, x32_17, lk1, H, rfl⟩ := hS
  rw [impl_RollupGroups.l1] at H
  refine gs (rg (sv (EV.lss rfl rfl) rfl (re (gs ?_))))
  revert H; refine ifsI ?_ ?_ <;> intro c4 H
  ·
   refine gt rfl (dT c4) (gk (gs (gb (gs (rg ?_)))))
   revert H; refine ggI ?_; intro g5 H
   revert H; refine ggI ?_; intro g6 H
   refine sv (EV.ix 2 rfl rfl rfl g5 g6 rfl) rfl (sv (EV.le (v := .agg #[.int .i64 ((rd_T88 l0 x32_17).f0), .int .i64 ((rd_T88 l0 x32_17).f1), .int .i64 ((rd_T88 l0 x32_17).f2), .int .i64 ((rd_T88 l0 x32_17).f3), .int .i64 ((rd_T88 l0 x32_17).f4)]) x32_17 0 (some 5) 2 z88 rfl rfl rfl g5 g6 rfl rfl rfl) rfl (so rfl (op_alloc (cs := [.int .i64 0, .int .i64 0, .int .i64 0, .int .i64 0, .int .i64 0]) (by kernel_rfl) rfl fun b7 => (so rfl (op_st (cs' := [.int .i64 ((rd_T88 l0 x32_17).f0), .int .i64 ((rd_T88 l0 x32_17).f1), .int .i64 ((rd_T88 l0 x32_17).f2), .int .i64 ((rd_T88 l0 x32_17).f3), .int .i64 ((rd_T88 l0 x32_17).f4)]) 0 rfl rfl rfl rfl rfl rfl (re (gs (rg (sv (EV.fa 0 rfl) rfl (sv (EV.ld 0 none rfl rfl rfl) rfl (sv (EV.mv rfl) rfl ?_)))))))))))
   revert H; refine bdI ?_; rintro t7 A7 H
   refine so rfl (op_call (impl_RollupKey.ok ((rd_T88 l0 x32_17).f0) x32_4 _ A7) [] 3 rfl rfl rfl rfl rfl ?_)
   rintro _ _ _ ⟨rfl, rfl, rfl⟩
   refine sv (EV.fa 0 rfl) rfl (so rfl (op_st (cs' := [.int .i64 t7, .int .i64 ((rd_T88 l0 x32_17).f1), .int .i64 ((rd_T88 l0 x32_17).f2), .int .i64 ((rd_T88 l0 x32_17).f3), .int .i64 ((rd_T88 l0 x32_17).f4)]) 0 rfl rfl rfl rfl rfl rfl (re (pr [0, 3, 4, 5, 7, 11, 15, 16, 17] [0] [0, 1, 2] rfl rfl rfl rfl (rg (sv (EV.mv rfl) rfl (sv (EV.ld (v := .agg #[.int .i64 t7, .int .i64 ((rd_T88 l0 x32_17).f1), .int .i64 ((rd_T88 l0 x32_17).f2), .int .i64 ((rd_T88 l0 x32_17).f3), .int .i64 ((rd_T88 l0 x32_17).f4)]) 0 (some 5) rfl rfl rfl) rfl (so rfl (op_lit (s := 5) (by_ := 40) k88 ([(⟨t7, (rd_T88 l0 x32_17).f1, (rd_T88 l0 x32_17).f2, (rd_T88 l0 x32_17).f3, (rd_T88 l0 x32_17).f4⟩ : S88)] : List S88) [[]] [] 3 [.tmp 27] rfl rfl rfl rfl rfl rfl rfl rfl rfl rfl rfl rfl rfl dq rfl fun A28_8 c28_8 => ?_)))))))))
   revert H; refine ggI ?_; intro g9 H
   exact so rfl (op_app (k := k88) (s := 5) (by_ := 40) 1 3 rfl rfl rfl rfl (ap1 g9 dq) (ap1n g9 dq) (.inl rfl) true (fun _ => .inl rfl) rfl rfl fun A29_10 c29_10 => (nmE (en := [.sl 2 k92 Ax32_3 cx32_3 x32_3 1 true, .sl 0 k88 Al0 cl0 l0 0 false, .sl 2 k88 A28_8 c28_8 ([(⟨t7, (rd_T88 l0 x32_17).f1, (rd_T88 l0 x32_17).f2, (rd_T88 l0 x32_17).f3, (rd_T88 l0 x32_17).f4⟩ : S88)] : List S88) 3 true, .sl 2 k88 A29_10 c29_10 (x32_5 ++ ([(⟨t7, (rd_T88 l0 x32_17).f1, (rd_T88 l0 x32_17).f2, (rd_T88 l0 x32_17).f3, (rd_T88 l0 x32_17).f4⟩ : S88)] : List S88)) 2 true]) (by kernel_rfl) (sv (EV.as rfl) rfl (re (ge (rg (sv (EV.add rfl rfl) rfl (sv (EV.mv rfl) rfl (re (pr [0, 3, 4, 5, 11, 15, 16, 17] [] [0, 1, 3] rfl rfl rfl rfl (wk [0, 3, 4, 5, 11, 15, 16, 17] [] [⟨0, 2, 1, true⟩, ⟨2, 2, 2, true⟩, ⟨1, 0, 0, false⟩] (ih1 _ (by omega) _ ⟨x32_3, Ax32_3, cx32_3, x32_4, x32_5 ++ ([(⟨t7, (rd_T88 l0 x32_17).f1, (rd_T88 l0 x32_17).f2, (rd_T88 l0 x32_17).f3, (rd_T88 l0 x32_17).f4⟩ : S88)] : List S88), A29_10, c29_10, x32_11, x32_16, wrap64 (x32_17 + 1), by omega, H, rfl⟩))))))))))))
  ·
   refine gf rfl (dF c4) (gx rfl (gs (rg (sv (EV.mv rfl) rfl ?_))))
   revert H; refine bdI ?_; rintro t11 A11 H
   refine so rfl (op_call (impl_MergeGroups.ok n1 x32_5 Ax32_5 cx32_5 _ A11) [⟨1, 0, 0, false⟩] 3 rfl rfl rfl rfl rfl ?_)
   rintro _ _ _ ⟨At11, ct11, rfl, rfl, rfl⟩
   refine sv (EV.ln rfl) rfl (sv (EV.mv rfl) rfl (re (pr [0, 3, 4, 11, 32, 33, 34] [] [0, 2, 3] rfl rfl rfl rfl (gb ?_))))
   refine lo (fun kk S => ∃ (x34_3 : List S92) (Ax34_3 : Option Addr) (cx34_3 : Nat) (x34_4 : Int) (x34_11 : Int) (x34_32 : List S88) (Ax34_32 : Option Addr) (cx34_32 : Nat) (x34_33 : Int) (x34_34 : Int), kk ≤ n1 ∧ impl_RollupGroups.l2 kk x34_3 x34_4 x34_11 x34_32 x34_33 x34_34 l0 = some r0 ∧ S = ⟨[(0, .slice Al0 l0.length cl0), (3, .slice Ax34_3 x34_3.length cx34_3), (4, .int .i64 x34_4), (11, .int .i64 x34_11), (32, .slice Ax34_32 x34_32.length cx34_32), (33, .int .i64 x34_33), (34, .int .i64 x34_34)], [], [.sl 2 k92 Ax34_3 cx34_3 x34_3 1 true, .sl 1 k88 Ax34_32 cx34_32 x34_32 2 false, .sl 0 k88 Al0 cl0 l0 0 false]⟩) (fun S hS => ?_) (fun n2 ih2 S hS => ?_) ⟨x32_3, Ax32_3, cx32_3, x32_4, x32_11, t11, At11, ct11, (t11.length : Int), 0, by omega, H, rfl⟩ (fun h => wk [0, 3, 4, 11, 32, 33, 34] [] [⟨0, 2, 1, true⟩, ⟨2, 1, 2, false⟩, ⟨1, 0, 0, false⟩] h)
   · clear H; obtain ⟨_, _, _, _, _, _, _, _, _, _, _, H, _⟩ := hS; rw [impl_RollupGroups.l2] at H; cases H
   clear H
   obtain ⟨x34_3, Ax34_3, cx34_3, x34_4, x34_11, x34_32, Ax34_32, cx34_32, x34_33, x34_34, lk2, H, rfl⟩ := hS
   rw [impl_RollupGroups.l2] at H
   refine gs (rg (sv (EV.lss rfl rfl) rfl (re (gs ?_))))
   revert H; refine ifsI ?_ ?_ <;> intro c12 H
   ·
    refine gt rfl (dT c12) (gk (gs (gb (gs (rg ?_)))))
    revert H; refine ggI ?_; intro g13 H
    revert H; refine ggI ?_; intro g14 H
    refine sv (EV.ix 1 rfl rfl rfl g13 g14 rfl) rfl (sv (EV.le (v := .agg #[.int .i64 ((rd_T88 x34_32 x34_34).f0), .int .i64 ((rd_T88 x34_32 x34_34).f1), .int .i64 ((rd_T88 x34_32 x34_34).f2), .int .i64 ((rd_T88 x34_32 x34_34).f3), .int .i64 ((rd_T88 x34_32 x34_34).f4)]) x34_34 0 (some 5) 1 z88 rfl rfl rfl g13 g14 rfl rfl rfl) rfl (so rfl (op_alloc (cs := [.int .i64 0, .int .i64 0, .int .i64 0, .int .i64 0, .int .i64 0]) (by kernel_rfl) rfl fun b9 => (so rfl (op_st (cs' := [.int .i64 ((rd_T88 x34_32 x34_34).f0), .int .i64 ((rd_T88 x34_32 x34_34).f1), .int .i64 ((rd_T88 x34_32 x34_34).f2), .int .i64 ((rd_T88 x34_32 x34_34).f3), .int .i64 ((rd_T88 x34_32 x34_34).f4)]) 0 rfl rfl rfl rfl rfl rfl (re (rg (sv (EV.mv rfl) rfl (sv (EV.mv rfl) rfl (sv (EV.ld (v := .agg #[.int .i64 ((rd_T88 x34_32 x34_34).f0), .int .i64 ((rd_T88 x34_32 x34_34).f1), .int .i64 ((rd_T88 x34_32 x34_34).f2), .int .i64 ((rd_T88 x34_32 x34_34).f3), .int .i64 ((rd_T88 x34_32 x34_34).f4)]) 0 (some 5) rfl rfl rfl) rfl (sv (EV.bd (v := .agg #[.int .i64 x34_4, .int .i64 ((rd_T88 x34_32 x34_34).f0), .int .i64 ((rd_T88 x34_32 x34_34).f1), .int .i64 ((rd_T88 x34_32 x34_34).f2), .int .i64 ((rd_T88 x34_32 x34_34).f3), .int .i64 ((rd_T88 x34_32 x34_34).f4)]) rfl (by kernel_rfl)) rfl (so rfl (op_lit (s := 6) (by_ := 48) k92 ([(⟨x34_4, (⟨(rd_T88 x34_32 x34_34).f0, (rd_T88 x34_32 x34_34).f1, (rd_T88 x34_32 x34_34).f2, (rd_T88 x34_32 x34_34).f3, (rd_T88 x34_32 x34_34).f4⟩ : S88)⟩ : S92)] : List S92) [[]] [] 3 [.tmp 41] rfl rfl rfl rfl rfl rfl rfl rfl rfl rfl rfl rfl rfl dq rfl fun A42_15 c42_15 => ?_)))))))))))))
    revert H; refine ggI ?_; intro g16 H
    exact so rfl (op_app (k := k92) (s := 6) (by_ := 48) 0 3 rfl rfl rfl rfl (ap1 g16 dq) (ap1n g16 dq) (.inl rfl) true (fun _ => .inl rfl) rfl rfl fun A43_17 c43_17 => (nmE (en := [.sl 1 k88 Ax34_32 cx34_32 x34_32 2 false, .sl 0 k88 Al0 cl0 l0 0 false, .sl 2 k92 A42_15 c42_15 ([(⟨x34_4, (⟨(rd_T88 x34_32 x34_34).f0, (rd_T88 x34_32 x34_34).f1, (rd_T88 x34_32 x34_34).f2, (rd_T88 x34_32 x34_34).f3, (rd_T88 x34_32 x34_34).f4⟩ : S88)⟩ : S92)] : List S92) 3 true, .sl 2 k92 A43_17 c43_17 (x34_3 ++ ([(⟨x34_4, (⟨(rd_T88 x34_32 x34_34).f0, (rd_T88 x34_32 x34_34).f1, (rd_T88 x34_32 x34_34).f2, (rd_T88 x34_32 x34_34).f3, (rd_T88 x34_32 x34_34).f4⟩ : S88)⟩ : S92)] : List S92)) 1 true]) (by kernel_rfl) (sv (EV.as rfl) rfl (re (pr [0, 3, 4, 11, 32, 33, 34] [] [0, 1, 3] rfl rfl rfl rfl (ge (rg (sv (EV.add rfl rfl) rfl (sv (EV.mv rfl) rfl (re (wk [0, 3, 4, 11, 32, 33, 34] [] [⟨2, 2, 1, true⟩, ⟨0, 1, 2, false⟩, ⟨1, 0, 0, false⟩] (ih2 _ (by omega) _ ⟨x34_3 ++ ([(⟨x34_4, (⟨(rd_T88 x34_32 x34_34).f0, (rd_T88 x34_32 x34_34).f1, (rd_T88 x34_32 x34_34).f2, (rd_T88 x34_32 x34_34).f3, (rd_T88 x34_32 x34_34).f4⟩ : S88)⟩ : S92)] : List S92), A43_17, c43_17, x34_4, x34_11, x34_32, Ax34_32, cx34_32, x34_33, wrap64 (x34_34 + 1), by omega, H, rfl⟩))))))))))))
   ·
    exact gf rfl (dF c12) (gx rfl (ge (rg (sv (EV.add rfl rfl) rfl (sv (EV.mv rfl) rfl (re (pr [0, 3, 11] [] [0, 2] rfl rfl rfl rfl (wk [0, 3, 11] [] [⟨0, 2, 1, true⟩, ⟨1, 0, 0, false⟩] (ih0 _ (by omega) _ ⟨x34_3, Ax34_3, cx34_3, wrap64 (x34_11 + 1), H, rfl⟩)))))))))
 ·
  refine gf rfl (dF c2) (gx rfl (gs (rg (sv (EV.mv rfl) rfl (sv (EV.as rfl) rfl (re ?_))))))
  cases H
  exact rt Try.func34 rfl (.tmp rfl .nil) rfl [] [⟨0, 2, 1, true⟩] rfl rfl rfl rfl rfl ⟨_, _, rfl, rfl, rfl⟩
def impl_GroupFromRow.f (a0_0 : Int) (a0_1 : Int) (a0_2 : Int) : Option (Int × Int × Int × Int × Int) := some (a0_0, 1, a0_1, a0_1, a0_1)
set_option maxHeartbeats 4000000 in
set_option maxRecDepth 100000 in
theorem impl_GroupFromRow.ok (a0_0 : Int) (a0_1 : Int) (a0_2 : Int) (r0 : Int) (r1 : Int) (r2 : Int) (r3 : Int) (r4 : Int) (H : impl_GroupFromRow.f a0_0 a0_1 a0_2 = some (r0, r1, r2, r3, r4)) : Fn Try.prog 96 [.agg #[.int .i64 a0_0, .int .i64 a0_1, .int .i64 a0_2]] [] [] (fun v bx en => v = .agg #[.int .i64 r0, .int .i64 r1, .int .i64 r2, .int .i64 r3, .int .i64 r4] ∧ bx = [] ∧ en = []) := by
 refine fn_ 12 Try.func96 rfl rfl rfl (fun base T w0 => ?_)
 rw [impl_GroupFromRow.f] at H
 refine gs (rg (so rfl (op_box (cs := [.int .i64 a0_0, .int .i64 a0_1, .int .i64 a0_2]) rfl rfl rfl fun b1 => (so rfl (op_alloc (cs := [.int .i64 0, .int .i64 0, .int .i64 0, .int .i64 0, .int .i64 0]) (by kernel_rfl) rfl fun b2 => (re (gs (rg (sv (EV.fa 0 rfl) rfl (sv (EV.ld 0 none rfl rfl rfl) rfl (sv (EV.fa 1 rfl) rfl (sv (EV.ld 0 none rfl rfl rfl) rfl (sv (EV.fa 1 rfl) rfl (sv (EV.ld 0 none rfl rfl rfl) rfl (sv (EV.fa 1 rfl) rfl (sv (EV.ld 0 none rfl rfl rfl) rfl (sv (EV.bd (v := .agg #[.int .i64 a0_0, .int .i64 1, .int .i64 a0_1, .int .i64 a0_1, .int .i64 a0_1]) rfl (by kernel_rfl)) rfl (so rfl (op_st (cs' := [.int .i64 a0_0, .int .i64 1, .int .i64 a0_1, .int .i64 a0_1, .int .i64 a0_1]) 1 rfl rfl rfl rfl rfl rfl (re (pr [2] [1] [] rfl rfl rfl rfl ?_)))))))))))))))))))))
 cases H
 exact rt Try.func96 rfl (.cell 0 (some 5) rfl rfl rfl .nil) rfl [] [] rfl rfl rfl rfl rfl ⟨rfl, rfl, rfl⟩
def impl_ReferenceGroups.l0 : Nat → (List S88) → Int → Int → (List S73) → Option ((List S88))
 | 0, _, _, _, _ => none
 | k + 1, x2_3, x2_8, x2_9, l0 => if x2_9 < x2_8 then (if 0 ≤ x2_9 then (if x2_9 < (l0.length : Int) then ((impl_GroupFromRow.f ((rd_T73 l0 x2_9).f0) ((rd_T73 l0 x2_9).f1) ((rd_T73 l0 x2_9).f2)).bind fun bt5 => (if x2_3.length < 3518437208883 then (impl_ReferenceGroups.l0 k (x2_3 ++ ([(⟨bt5.1, bt5.2.1, bt5.2.2.1, bt5.2.2.2.1, bt5.2.2.2.2⟩ : S88)] : List S88)) x2_8 (wrap64 (x2_9 + 1)) l0) else none)) else none) else none) else ((impl_MergeGroups.f k x2_3).bind fun t9 => (some t9))
def impl_ReferenceGroups.f (k : Nat) (l0 : List S73) : Option ((List S88)) := impl_ReferenceGroups.l0 k [] (l0.length : Int) 0 l0
set_option maxHeartbeats 4000000 in
set_option maxRecDepth 100000 in
theorem impl_ReferenceGroups.ok (k : Nat) (l0 : List S73) (Al0 : Option Addr) (cl0 : Nat) (r0 : List S88) (H : impl_ReferenceGroups.f k l0 = some r0) : Fn Try.prog 73 [.slice Al0 l0.length cl0] [] [.sl 0 k73 Al0 cl0 l0 0 false] (fun v bx en => ∃ A0 c0, v = .slice A0 r0.length c0 ∧ bx = [] ∧ en = [.sl 1 k88 A0 c0 r0 1 false]) := by
 refine fn_ 21 Try.func73 rfl rfl rfl (fun base T w0 => ?_)
 rw [impl_ReferenceGroups.f] at H
 refine gs (rg (sv (EV.as rfl) rfl (re (gs (rg (so rfl (op_lit (s := 5) (by_ := 40) k88 ([] : List S88) [] [] 1 [] rfl rfl rfl rfl rfl rfl rfl rfl rfl rfl rfl rfl rfl dq rfl fun A6_1 c6_1 => (sv (EV.as rfl) rfl (re (gs (gs (rg (sv (EV.mv rfl) rfl (sv (EV.ln rfl) rfl (sv (EV.mv rfl) rfl (re (gb ?_)))))))))))))))))
 refine lo (fun kk S => ∃ (x2_3 : List S88) (Ax2_3 : Option Addr) (cx2_3 : Nat) (x2_8 : Int) (x2_9 : Int), impl_ReferenceGroups.l0 kk x2_3 x2_8 x2_9 l0 = some r0 ∧ S = ⟨[(3, .slice Ax2_3 x2_3.length cx2_3), (7, .slice Al0 l0.length cl0), (8, .int .i64 x2_8), (9, .int .i64 x2_9)], [], [.sl 2 k88 Ax2_3 cx2_3 x2_3 1 true, .sl 0 k73 Al0 cl0 l0 0 false]⟩) (fun S hS => ?_) (fun n0 ih0 S hS => ?_) ⟨[], A6_1, c6_1, (l0.length : Int), 0, H, rfl⟩ (fun h => wk [3, 7, 8, 9] [] [⟨1, 2, 1, true⟩, ⟨0, 0, 0, false⟩] h)
 · clear H; obtain ⟨_, _, _, _, _, H, _⟩ := hS; rw [impl_ReferenceGroups.l0] at H; cases H
 clear H
 obtain ⟨x2_3, Ax2_3, cx2_3, x2_8, x2_9, H, rfl⟩ := hS
 rw [impl_ReferenceGroups.l0] at H
 refine gs (rg (sv (EV.lss rfl rfl) rfl (re (gs ?_))))
 revert H; refine ifsI ?_ ?_ <;> intro c2 H
 ·
  refine gt rfl (dT c2) (gk (gs (gb (gs (rg ?_)))))
  revert H; refine ggI ?_; intro g3 H
  revert H; refine ggI ?_; intro g4 H
  refine sv (EV.ix 1 rfl rfl rfl g3 g4 rfl) rfl (sv (EV.le (v := .agg #[.int .i64 ((rd_T73 l0 x2_9).f0), .int .i64 ((rd_T73 l0 x2_9).f1), .int .i64 ((rd_T73 l0 x2_9).f2)]) x2_9 0 (some 3) 1 z73 rfl rfl rfl g3 g4 rfl rfl rfl) rfl (so rfl (op_alloc (cs := [.int .i64 0, .int .i64 0, .int .i64 0]) (by kernel_rfl) rfl fun b5 => (so rfl (op_st (cs' := [.int .i64 ((rd_T73 l0 x2_9).f0), .int .i64 ((rd_T73 l0 x2_9).f1), .int .i64 ((rd_T73 l0 x2_9).f2)]) 0 rfl rfl rfl rfl rfl rfl (re (rg (sv (EV.mv rfl) rfl (sv (EV.ld (v := .agg #[.int .i64 ((rd_T73 l0 x2_9).f0), .int .i64 ((rd_T73 l0 x2_9).f1), .int .i64 ((rd_T73 l0 x2_9).f2)]) 0 (some 3) rfl rfl rfl) rfl ?_)))))))))
  revert H; refine bdI ?_; rintro ⟨t5_0, t5_1, t5_2, t5_3, t5_4⟩ A5 H
  refine so rfl (op_call (impl_GroupFromRow.ok ((rd_T73 l0 x2_9).f0) ((rd_T73 l0 x2_9).f1) ((rd_T73 l0 x2_9).f2) _ _ _ _ _ A5) [] 2 rfl rfl rfl rfl rfl ?_)
  rintro _ _ _ ⟨rfl, rfl, rfl⟩
  refine so rfl (op_lit (s := 5) (by_ := 40) k88 ([(⟨t5_0, t5_1, t5_2, t5_3, t5_4⟩ : S88)] : List S88) [[]] [] 2 [.tmp 15] rfl rfl rfl rfl rfl rfl rfl rfl rfl rfl rfl rfl rfl dq rfl fun A16_6 c16_6 => ?_)
  revert H; refine ggI ?_; intro g7 H
  exact so rfl (op_app (k := k88) (s := 5) (by_ := 40) 0 2 rfl rfl rfl rfl (ap1 g7 dq) (ap1n g7 dq) (.inl rfl) true (fun _ => .inl rfl) rfl rfl fun A17_8 c17_8 => (nmE (en := [.sl 0 k73 Al0 cl0 l0 0 false, .sl 2 k88 A16_6 c16_6 ([(⟨t5_0, t5_1, t5_2, t5_3, t5_4⟩ : S88)] : List S88) 2 true, .sl 2 k88 A17_8 c17_8 (x2_3 ++ ([(⟨t5_0, t5_1, t5_2, t5_3, t5_4⟩ : S88)] : List S88)) 1 true]) (by kernel_rfl) (sv (EV.as rfl) rfl (re (pr [3, 7, 8, 9] [] [0, 2] rfl rfl rfl rfl (ge (rg (sv (EV.add rfl rfl) rfl (sv (EV.mv rfl) rfl (re (wk [3, 7, 8, 9] [] [⟨1, 2, 1, true⟩, ⟨0, 0, 0, false⟩] (ih0 _ (by omega) _ ⟨x2_3 ++ ([(⟨t5_0, t5_1, t5_2, t5_3, t5_4⟩ : S88)] : List S88), A17_8, c17_8, x2_8, wrap64 (x2_9 + 1), H, rfl⟩))))))))))))
 ·
  refine gf rfl (dF c2) (gx rfl (gs (rg (sv (EV.mv rfl) rfl ?_))))
  revert H; refine bdI ?_; rintro t9 A9 H
  refine so rfl (op_call (impl_MergeGroups.ok n0 x2_3 Ax2_3 cx2_3 _ A9) [⟨0, 0, 0, false⟩] 2 rfl rfl rfl rfl rfl ?_)
  rintro _ _ _ ⟨At9, ct9, rfl, rfl, rfl⟩
  refine sv (EV.as rfl) rfl (re (pr [2] [] [2] rfl rfl rfl rfl ?_))
  cases H
  exact rt Try.func73 rfl (.tmp rfl .nil) rfl [] [⟨0, 1, 1, false⟩] rfl rfl rfl rfl rfl ⟨_, _, rfl, rfl, rfl⟩
def impl_RollupRows.f (k : Nat) (l0 : List S73) : Option ((List S92)) := (impl_ReferenceGroups.f k l0).bind fun t1 => ((impl_RollupGroups.f k t1).bind fun t2 => (some t2))
set_option maxHeartbeats 4000000 in
set_option maxRecDepth 100000 in
theorem impl_RollupRows.ok (k : Nat) (l0 : List S73) (Al0 : Option Addr) (cl0 : Nat) (r0 : List S92) (H : impl_RollupRows.f k l0 = some r0) : Fn Try.prog 41 [.slice Al0 l0.length cl0] [] [.sl 0 k73 Al0 cl0 l0 0 false] (fun v bx en => ∃ A0 c0, v = .slice A0 r0.length c0 ∧ bx = [] ∧ en = [.sl 2 k92 A0 c0 r0 1 true]) := by
 refine fn_ 6 Try.func41 rfl rfl rfl (fun base T w0 => ?_)
 rw [impl_RollupRows.f] at H
 refine gs (rg (sv (EV.as rfl) rfl (re (gs (rg (sv (EV.mv rfl) rfl ?_))))))
 revert H; refine bdI ?_; rintro t1 A1 H
 refine so rfl (op_call (impl_ReferenceGroups.ok k l0 Al0 cl0 _ A1) [⟨0, 0, 0, false⟩] 1 rfl rfl rfl rfl rfl ?_)
 rintro _ _ _ ⟨At1, ct1, rfl, rfl, rfl⟩
 revert H; refine bdI ?_; rintro t2 A2 H
 refine so rfl (op_call (impl_RollupGroups.ok k t1 At1 ct1 _ A2) [⟨1, 0, 0, false⟩] 3 rfl rfl rfl rfl rfl ?_)
 rintro _ _ _ ⟨At2, ct2, rfl, rfl, rfl⟩
 refine sv (EV.as rfl) rfl (re ?_)
 cases H
 exact rt Try.func41 rfl (.tmp rfl .nil) rfl [] [⟨2, 2, 1, true⟩] rfl rfl rfl rfl rfl ⟨_, _, rfl, rfl, rfl⟩
def laws_FnExactRollupRows.f (k : Nat) (l0 : List S75) : Option (Bool) := (laws_szRowS.f l0 1048576).bind fun t1 => (if t1 < 0 then (some true) else ((laws_toRowS.f k l0).bind fun t3 => ((spec_RollupRows.f k t3).bind fun t4 => ((laws_toRowS.f k l0).bind fun t5 => ((impl_RollupRows.f k t5).bind fun t6 => ((laws_eqRollupRowS.f k t6 t4).bind fun t7 => (if t7 = true then ((laws_toRowS.f k l0).bind fun t9 => ((laws_eqRowS.f k t5 t9).bind fun t10 => (if t10 = true then ((laws_markRowS.f k t5 1).bind fun bt12 => (if bt12.1 < 0 then (some false) else ((laws_eqRollupRowS.f k t6 t4).bind fun t14 => (if t14 = true then ((laws_markRollupRowS.f k t6 1).bind fun bt16 => ((laws_heldRollupRowS.f k bt16.2 1).bind fun t17 => (if t17 < 0 then (some false) else (if t17 = bt16.1 then ((laws_toRowS.f k l0).bind fun t20 => ((impl_RollupRows.f k t20).bind fun t21 => ((laws_eqRollupRowS.f k t21 t4).bind fun t22 => (if t22 = true then ((laws_heldRollupRowS.f k bt16.2 1).bind fun t24 => (if t24 < 0 then (some false) else (if t24 = bt16.1 then (some true) else (some false)))) else (some false))))) else (some false))))) else (some false))))) else (some false)))) else (some false))))))))
set_option maxHeartbeats 4000000 in
set_option maxRecDepth 100000 in
theorem laws_FnExactRollupRows.ok (k : Nat) (l0 : List S75) (Al0 : Option Addr) (cl0 : Nat) (r0 : Bool) (H : laws_FnExactRollupRows.f k l0 = some r0) : Fn Try.prog 8 [.slice Al0 l0.length cl0] [] [.sl 0 k75 Al0 cl0 l0 0 false] (fun v bx en => v = .bool r0 ∧ bx = [] ∧ en = []) := by
 refine fn_ 69 Try.func8 rfl rfl rfl (fun base T w0 => ?_)
 rw [laws_FnExactRollupRows.f] at H
 refine gs (rg (sv (EV.as rfl) rfl (re (gs (rg (sv (EV.as rfl) rfl (re (gs (rg (sv (EV.mv rfl) rfl (sv (EV.mv rfl) rfl ?_)))))))))))
 revert H; refine bdI ?_; rintro t1 A1 H
 refine so rfl (op_call (laws_szRowS.ok l0 Al0 cl0 1048576 _ A1) [⟨0, 0, 0, false⟩] 1 rfl rfl rfl rfl rfl ?_)
 rintro _ _ _ ⟨rfl, rfl, rfl⟩
 refine sv (EV.as rfl) rfl (re (gs (gs (rg (sv (EV.mv rfl) rfl (sv (EV.lss rfl rfl) rfl (re (pr [0, 15] [] [0] rfl rfl rfl rfl ?_))))))))
 revert H; refine ifsI ?_ ?_ <;> intro c2 H
 ·
  refine gt rfl (dT c2) (gs (rg (sv (EV.as rfl) rfl (re ?_))))
  cases H
  exact rt Try.func8 rfl (.tmp rfl .nil) rfl [] [] rfl rfl rfl rfl rfl ⟨rfl, rfl, rfl⟩
 ·
  refine gf rfl (dF c2) (gk (gs (rg (sv (EV.mv rfl) rfl ?_))))
  revert H; refine bdI ?_; rintro t3 A3 H
  refine so rfl (op_call (laws_toRowS.ok k l0 Al0 cl0 _ A3) [⟨0, 0, 0, false⟩] 1 rfl rfl rfl rfl rfl ?_)
  rintro _ _ _ ⟨At3, ct3, rfl, rfl, rfl⟩
  revert H; refine bdI ?_; rintro t4 A4 H
  refine so rfl (op_call (spec_RollupRows.ok k t3 At3 ct3 _ A4) [⟨1, 0, 0, false⟩] 3 rfl rfl rfl rfl rfl ?_)
  rintro _ _ _ ⟨At4, ct4, rfl, rfl, rfl⟩
  refine sv (EV.as rfl) rfl (re (gs (rg (sv (EV.mv rfl) rfl ?_))))
  revert H; refine bdI ?_; rintro t5 A5 H
  refine so rfl (op_call (laws_toRowS.ok k l0 Al0 cl0 _ A5) [⟨0, 0, 0, false⟩] 5 rfl rfl rfl rfl rfl ?_)
  rintro _ _ _ ⟨At5, ct5, rfl, rfl, rfl⟩
  refine sv (EV.as rfl) rfl (re (pr [0, 4, 5] [] [0, 2, 3] rfl rfl rfl rfl (gs (rg (sv (EV.mv rfl) rfl ?_)))))
  revert H; refine bdI ?_; rintro t6 A6 H
  refine so rfl (op_call (impl_RollupRows.ok k t5 At5 ct5 _ A6) [⟨2, 0, 0, false⟩] 7 rfl rfl rfl rfl rfl ?_)
  rintro _ _ _ ⟨At6, ct6, rfl, rfl, rfl⟩
  refine sv (EV.as rfl) rfl (re (gs (gs (rg (sv (EV.mv rfl) rfl (sv (EV.mv rfl) rfl ?_))))))
  revert H; refine bdI ?_; rintro t7 A7 H
  refine so rfl (op_call (laws_eqRollupRowS.ok k t6 At6 ct6 t4 At4 ct4 _ A7) [⟨3, 0, 0, false⟩, ⟨1, 0, 0, false⟩] 9 rfl rfl rfl rfl rfl ?_)
  rintro _ _ _ ⟨rfl, rfl, rfl⟩
  refine sv (EV.nt rfl) rfl (re ?_)
  revert H; refine ifsI ?_ ?_ <;> intro c8 H
  ·
   subst c8
   refine gf rfl rfl (gk (gs (gs (rg (sv (EV.mv rfl) rfl (sv (EV.mv rfl) rfl ?_))))))
   revert H; refine bdI ?_; rintro t9 A9 H
   refine so rfl (op_call (laws_toRowS.ok k l0 Al0 cl0 _ A9) [⟨0, 0, 0, false⟩] 9 rfl rfl rfl rfl rfl ?_)
   rintro _ _ _ ⟨At9, ct9, rfl, rfl, rfl⟩
   revert H; refine bdI ?_; rintro t10 A10 H
   refine so rfl (op_call (laws_eqRowS.ok k t5 At5 ct5 t9 At9 ct9 _ A10) [⟨2, 0, 0, false⟩, ⟨4, 0, 0, false⟩] 11 rfl rfl rfl rfl rfl ?_)
   rintro _ _ _ ⟨rfl, rfl, rfl⟩
   refine sv (EV.nt rfl) rfl (re (pr [0, 4, 5, 6, 31] [] [0, 1, 2, 3] rfl rfl rfl rfl ?_))
   revert H; refine ifsI ?_ ?_ <;> intro c11 H
   ·
    subst c11
    refine gf rfl rfl (gk (gs (rg (sv (EV.as rfl) rfl (re (gs (rg (sv (EV.mv rfl) rfl (sv (EV.mv rfl) rfl ?_)))))))))
    revert H; refine bdI ?_; rintro ⟨t12_0, t12_1⟩ A12 H
    refine so rfl (op_callM (laws_markRowS.ok k t5 At5 ct5 1 _ _ A12) [⟨2, 1, 1, false⟩] [] [] 9 rfl rfl rfl rfl rfl rfl rfl rfl ?_)
    rintro _ _ _ ⟨rfl, rfl, rfl, q12_0⟩
    refine rlT 5 (v' := .slice At5 t12_1.length ct5) rfl (slq _ _ q12_0) (rlT 32 (v' := .slice At5 t12_1.length ct5) rfl (slq _ _ q12_0) (nmE (en := [.sl 0 k75 Al0 cl0 l0 0 false, .sl 2 k92 At4 ct4 t4 4 true, .sl 2 k92 At6 ct6 t6 8 true, .sl 1 k73 At5 ct5 t12_1 10 false]) (by kernel_rfl) (sv (EV.as rfl) rfl (re (gs (gs (rg (sv (EV.mv rfl) rfl (sv (EV.lss rfl rfl) rfl (sv (EV.mv rfl) rfl ?_))))))))))
    revert H; refine ifsI ?_ ?_ <;> intro c13 H
    ·
     refine ts 37 rfl (dT c13) (sk rfl (sk rfl (sk rfl (sk rfl (sv (EV.pt rfl rfl rfl) rfl (re (pr [0, 4, 6, 42] [] [0, 1, 2] rfl rfl rfl rfl (gt rfl rfl (gs (rg (sv (EV.as rfl) rfl (re ?_))))))))))))
     cases H
     exact rt Try.func8 rfl (.tmp rfl .nil) rfl [] [] rfl rfl rfl rfl rfl ⟨rfl, rfl, rfl⟩
    ·
     refine ts 37 rfl (dF c13) (sv (EV.mv rfl) rfl (sv (EV.mv rfl) rfl ?_))
     revert H; refine bdI ?_; rintro t14 A14 H
     refine so rfl (op_call (laws_eqRollupRowS.ok k t6 At6 ct6 t4 At4 ct4 _ A14) [⟨2, 0, 0, false⟩, ⟨1, 0, 0, false⟩] 11 rfl rfl rfl rfl rfl ?_)
     rintro _ _ _ ⟨rfl, rfl, rfl⟩
     refine sv (EV.nt rfl) rfl (sv (EV.pf rfl rfl rfl) rfl (re (pr [0, 4, 6, 42] [] [0, 1, 2] rfl rfl rfl rfl ?_)))
     revert H; refine ifsI ?_ ?_ <;> intro c15 H
     ·
      subst c15
      refine gf rfl rfl (gk (gs (rg (sv (EV.as rfl) rfl (re (gs (rg (sv (EV.mv rfl) rfl (sv (EV.mv rfl) rfl ?_)))))))))
      revert H; refine bdI ?_; rintro ⟨t16_0, t16_1⟩ A16 H
      refine so rfl (op_callM (laws_markRollupRowS.ok k t6 At6 ct6 1 _ _ A16) [⟨2, 1, 1, false⟩] [] [] 9 rfl rfl rfl rfl rfl rfl rfl rfl ?_)
      rintro _ _ _ ⟨rfl, rfl, rfl, q16_0⟩
      refine rlT 6 (v' := .slice At6 t16_1.length ct6) rfl (slq _ _ q16_0) (rlT 43 (v' := .slice At6 t16_1.length ct6) rfl (slq _ _ q16_0) (nmE (en := [.sl 0 k75 Al0 cl0 l0 0 false, .sl 2 k92 At4 ct4 t4 4 true, .sl 1 k92 At6 ct6 t16_1 10 false]) (by kernel_rfl) (sv (EV.as rfl) rfl (re (gs (rg (sv (EV.as rfl) rfl (re (gs (rg (sv (EV.mv rfl) rfl (sv (EV.mv rfl) rfl ?_))))))))))))
      revert H; refine bdI ?_; rintro t17 A17 H
      refine so rfl (op_call (laws_heldRollupRowS.ok k t16_1 At6 ct6 1 _ A17) [⟨2, 0, 0, false⟩] 11 rfl rfl rfl rfl rfl ?_)
      rintro _ _ _ ⟨rfl, rfl, rfl⟩
      refine sv (EV.as rfl) rfl (re (pr [0, 4, 6, 8, 9] [] [0, 1, 2] rfl rfl rfl rfl (gs (gs (rg (sv (EV.mv rfl) rfl (sv (EV.lss rfl rfl) rfl (re ?_))))))))
      revert H; refine ifsI ?_ ?_ <;> intro c18 H
      ·
       refine gt rfl (dT c18) (gs (rg (sv (EV.as rfl) rfl (re (pr [2] [] [] rfl rfl rfl rfl ?_)))))
       cases H
       exact rt Try.func8 rfl (.tmp rfl .nil) rfl [] [] rfl rfl rfl rfl rfl ⟨rfl, rfl, rfl⟩
      ·
       refine gf rfl (dF c18) (gk (gs (gs (rg (sv (EV.mv rfl) rfl (sv (EV.mv rfl) rfl (sv (EV.neq rfl rfl) rfl (re ?_))))))))
       revert H; refine ifsI ?_ ?_ <;> intro c19 H
       ·
        refine gf rfl (nF c19) (gk (gs (rg (sv (EV.mv rfl) rfl ?_))))
        revert H; refine bdI ?_; rintro t20 A20 H
        refine so rfl (op_call (laws_toRowS.ok k l0 Al0 cl0 _ A20) [⟨0, 0, 0, false⟩] 11 rfl rfl rfl rfl rfl ?_)
        rintro _ _ _ ⟨At20, ct20, rfl, rfl, rfl⟩
        revert H; refine bdI ?_; rintro t21 A21 H
        refine so rfl (op_call (impl_RollupRows.ok k t20 At20 ct20 _ A21) [⟨3, 0, 0, false⟩] 13 rfl rfl rfl rfl rfl ?_)
        rintro _ _ _ ⟨At21, ct21, rfl, rfl, rfl⟩
        refine sv (EV.as rfl) rfl (re (pr [4, 6, 8, 10] [] [1, 2, 4] rfl rfl rfl rfl (gs (gs (rg (sv (EV.mv rfl) rfl (sv (EV.mv rfl) rfl ?_)))))))
        revert H; refine bdI ?_; rintro t22 A22 H
        refine so rfl (op_call (laws_eqRollupRowS.ok k t21 At21 ct21 t4 At4 ct4 _ A22) [⟨2, 0, 0, false⟩, ⟨0, 0, 0, false⟩] 15 rfl rfl rfl rfl rfl ?_)
        rintro _ _ _ ⟨rfl, rfl, rfl⟩
        refine sv (EV.nt rfl) rfl (re ?_)
        revert H; refine ifsI ?_ ?_ <;> intro c23 H
        ·
         subst c23
         refine gf rfl rfl (gk (gs (rg (sv (EV.as rfl) rfl (re (pr [6, 8, 9] [] [1] rfl rfl rfl rfl (gs (rg (sv (EV.mv rfl) rfl (sv (EV.mv rfl) rfl ?_))))))))))
         revert H; refine bdI ?_; rintro t24 A24 H
         refine so rfl (op_call (laws_heldRollupRowS.ok k t16_1 At6 ct6 1 _ A24) [⟨0, 0, 0, false⟩] 11 rfl rfl rfl rfl rfl ?_)
         rintro _ _ _ ⟨rfl, rfl, rfl⟩
         refine sv (EV.as rfl) rfl (re (gs (gs (rg (sv (EV.mv rfl) rfl (sv (EV.lss rfl rfl) rfl (re ?_)))))))
         revert H; refine ifsI ?_ ?_ <;> intro c25 H
         ·
          refine gt rfl (dT c25) (gs (rg (sv (EV.as rfl) rfl (re (pr [2] [] [] rfl rfl rfl rfl ?_)))))
          cases H
          exact rt Try.func8 rfl (.tmp rfl .nil) rfl [] [] rfl rfl rfl rfl rfl ⟨rfl, rfl, rfl⟩
         ·
          refine gf rfl (dF c25) (gk (gs (gs (rg (sv (EV.mv rfl) rfl (sv (EV.mv rfl) rfl (sv (EV.neq rfl rfl) rfl (re (pr [68] [] [] rfl rfl rfl rfl ?_)))))))))
          revert H; refine ifsI ?_ ?_ <;> intro c26 H
          ·
           refine gf rfl (nF c26) (gk (gs (rg (sv (EV.as rfl) rfl (re ?_)))))
           cases H
           exact rt Try.func8 rfl (.tmp rfl .nil) rfl [] [] rfl rfl rfl rfl rfl ⟨rfl, rfl, rfl⟩
          ·
           refine gt rfl (nT c26) (gs (rg (sv (EV.as rfl) rfl (re ?_))))
           cases H
           exact rt Try.func8 rfl (.tmp rfl .nil) rfl [] [] rfl rfl rfl rfl rfl ⟨rfl, rfl, rfl⟩
        ·
         have xc23 := bF c23; subst xc23
         refine gt rfl rfl (gs (rg (sv (EV.as rfl) rfl (re (pr [2] [] [] rfl rfl rfl rfl ?_)))))
         cases H
         exact rt Try.func8 rfl (.tmp rfl .nil) rfl [] [] rfl rfl rfl rfl rfl ⟨rfl, rfl, rfl⟩
       ·
        refine gt rfl (nT c19) (gs (rg (sv (EV.as rfl) rfl (re (pr [2] [] [] rfl rfl rfl rfl ?_)))))
        cases H
        exact rt Try.func8 rfl (.tmp rfl .nil) rfl [] [] rfl rfl rfl rfl rfl ⟨rfl, rfl, rfl⟩
     ·
      have xc15 := bF c15; subst xc15
      refine gt rfl rfl (gs (rg (sv (EV.as rfl) rfl (re ?_))))
      cases H
      exact rt Try.func8 rfl (.tmp rfl .nil) rfl [] [] rfl rfl rfl rfl rfl ⟨rfl, rfl, rfl⟩
   ·
    have xc11 := bF c11; subst xc11
    refine gt rfl rfl (gs (rg (sv (EV.as rfl) rfl (re ?_))))
    cases H
    exact rt Try.func8 rfl (.tmp rfl .nil) rfl [] [] rfl rfl rfl rfl rfl ⟨rfl, rfl, rfl⟩
  ·
   have xc8 := bF c8; subst xc8
   refine gt rfl rfl (gs (rg (sv (EV.as rfl) rfl (re (pr [2] [] [] rfl rfl rfl rfl ?_)))))
   cases H
   exact rt Try.func8 rfl (.tmp rfl .nil) rfl [] [] rfl rfl rfl rfl rfl ⟨rfl, rfl, rfl⟩
end Go.Proofs.Ytoncjohnkiilcaa.K
