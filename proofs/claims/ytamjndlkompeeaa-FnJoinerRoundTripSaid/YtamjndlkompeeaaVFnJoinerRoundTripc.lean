/- Walks: what the functions compute. Printed by gen.py; no condition. -/
import Derived.Test.YtamjndlkompeeaaVFnJoinerRoundTripb
namespace Go.Proofs.Ytamjndlkompeeaa.K
open Go Go.RowKit
set_option linter.unusedVariables false
set_option linter.unusedSimpArgs false
def spec_NewTask.f (k : Nat) (a0 : Int) (l1 : List S99) (l2 : List S99) : Option (Int × (List S99) × (List S99) × (List Bool) × Int × Bool) := (spec_IsValidJoinKind.f a0).bind fun t1 => (if t1 = true then ((spec_AreValidRows.f k l1).bind fun t3 => (if t3 = true then ((spec_AreValidRows.f k l2).bind fun t5 => (if t5 = true then (if l1.length ≤ 5864062014805 then (if l2.length ≤ 5864062014805 then (if 0 ≤ (l1.length : Int) then (if (l1.length : Int).toNat ≤ 140737488355328 then (some (a0, l1, l2, List.replicate (l1.length : Int).toNat false, 0, true)) else none) else none) else none) else none) else (some (0, [], [], [], 0, false)))) else (some (0, [], [], [], 0, false)))) else (some (0, [], [], [], 0, false)))
set_option maxHeartbeats 4000000 in
set_option maxRecDepth 100000 in
theorem spec_NewTask.ok (k : Nat) (a0 : Int) (l1 : List S99) (Al1 : Option Addr) (cl1 : Nat) (l2 : List S99) (Al2 : Option Addr) (cl2 : Nat) (r0 : Int) (r1 : List S99) (r2 : List S99) (r3 : List Bool) (r4 : Int) (r5 : Bool) (H : spec_NewTask.f k a0 l1 l2 = some (r0, r1, r2, r3, r4, r5)) : Fn Try.prog 18 [.int .i64 a0, .slice Al1 l1.length cl1, .slice Al2 l2.length cl2] [] [.sl 0 k99 Al1 cl1 l1 0 false, .sl 0 k99 Al2 cl2 l2 0 false] (fun v bx en => ∃ A1 c1 A2 c2 A3 c3, v = .tuple #[.agg #[.int .i64 r0, .slice A1 r1.length c1, .slice A2 r2.length c2, .slice A3 r3.length c3, .int .i64 r4], .bool r5] ∧ bx = [] ∧ en = [.sl 2 k99 A1 c1 r1 1 true, .sl 2 k99 A2 c2 r2 2 true, .sl 2 .bool A3 c3 r3 3 true]) := by
 refine fn_ 33 Try.func18 rfl rfl rfl (fun base T w0 => ?_)
 rw [spec_NewTask.f] at H
 refine gs (rg (so rfl (op_alloc (cs := [.int .i64 0, .slice none 0 0, .slice none 0 0, .slice none 0 0, .int .i64 0]) (by kernel_rfl) rfl fun b6 => (sv (EV.as rfl) rfl (re (gs (gs (rg (sv (EV.mv rfl) rfl ?_)))))))))
 revert H; refine bdI ?_; rintro t1 A1 H
 refine so rfl (op_call (spec_IsValidJoinKind.ok a0 _ A1) [] 1 rfl rfl rfl rfl rfl ?_)
 rintro _ _ _ ⟨rfl, rfl, rfl⟩
 refine sv (EV.nt rfl) rfl (sv (EV.mv rfl) rfl ?_)
 revert H; refine ifsI ?_ ?_ <;> intro c2 H
 ·
  subst c2
  refine ts 11 rfl rfl (sv (EV.mv rfl) rfl ?_)
  revert H; refine bdI ?_; rintro t3 A3 H
  refine so rfl (op_call (spec_AreValidRows.ok k l1 Al1 cl1 _ A3) [⟨0, 0, 0, false⟩] 1 rfl rfl rfl rfl rfl ?_)
  rintro _ _ _ ⟨rfl, rfl, rfl⟩
  refine sv (EV.nt rfl) rfl (sv (EV.pf rfl rfl rfl) rfl (sv (EV.mv rfl) rfl ?_))
  revert H; refine ifsI ?_ ?_ <;> intro c4 H
  ·
   subst c4
   refine ts 16 rfl rfl (sv (EV.mv rfl) rfl ?_)
   revert H; refine bdI ?_; rintro t5 A5 H
   refine so rfl (op_call (spec_AreValidRows.ok k l2 Al2 cl2 _ A5) [⟨1, 0, 0, false⟩] 1 rfl rfl rfl rfl rfl ?_)
   rintro _ _ _ ⟨rfl, rfl, rfl⟩
   refine sv (EV.nt rfl) rfl (sv (EV.pf rfl rfl rfl) rfl (re (pr [0, 1, 2, 6, 20] [0] [0, 1] rfl rfl rfl rfl ?_)))
   revert H; refine ifsI ?_ ?_ <;> intro c6 H
   ·
    subst c6
    refine gf rfl rfl (gk (gs ?_))
    revert H; refine ggI ?_; intro g7 H
    revert H; refine ggI ?_; intro g8 H
    revert H; refine ggI ?_; intro g9 H
    revert H; refine ggI ?_; intro g10 H
    refine dj (fun S => ∃ (A25_12 : Option Addr) (c25_12 : Nat) (A28_14 : Option Addr) (c28_14 : Nat) (A31_15 : Option Addr) (c31_15 : Nat), S = ⟨[(6, .pointer (some ⟨b6, 0, none⟩)), (7, .bool true)], [⟨b6, 27, [.int .i64 a0, .slice A25_12 l1.length c25_12, .slice A28_14 l2.length c28_14, .slice A31_15 (List.replicate (l1.length : Int).toNat false).length c31_15, .int .i64 0]⟩], [.sl 0 k99 Al1 cl1 l1 0 false, .sl 0 k99 Al2 cl2 l2 0 false, .sl 2 k99 A25_12 c25_12 l1 1 true, .sl 2 k99 A28_14 c28_14 l2 2 true, .sl 2 .bool A31_15 c31_15 (List.replicate (l1.length : Int).toNat false) 3 true]⟩) (fun S hS => ?_) (fun dj0 => ?_)
    ·
     obtain ⟨A25_12, c25_12, A28_14, c28_14, A31_15, c31_15, rfl⟩ := hS
     cases H
     exact rt Try.func18 rfl (.cell 0 (some 5) rfl rfl rfl (.tmp rfl .nil)) rfl [] [⟨2, 2, 1, true⟩, ⟨3, 2, 2, true⟩, ⟨4, 2, 3, true⟩] rfl rfl rfl rfl rfl ⟨_, _, _, _, _, _, rfl, rfl, rfl⟩
    ·
     refine dr [0] [0, 1] [11, 12] 13 rfl rfl rfl rfl (xv 0 [0] [0, 1] rfl (EV.mv rfl) rfl rfl rfl rfl (xv 2 [0] [0, 1] rfl (EV.mv rfl) rfl rfl rfl rfl (xv 5 [0] [0, 1] rfl (EV.mv rfl) rfl rfl rfl rfl (xv 7 [0] [0, 1] rfl (EV.mv rfl) rfl rfl rfl rfl (xv 8 [0] [0, 1] rfl (EV.ln rfl) rfl rfl rfl rfl ?_)))))
     refine dl 3 #[true, true, true, true, true, true, true, true, true, true, false, false, false] (fun S => ∃ (A25_12 : Option Addr) (c25_12 : Nat) (A28_14 : Option Addr) (c28_14 : Nat) (A31_15 : Option Addr) (c31_15 : Nat), S = ⟨[(6, .pointer (some ⟨b6, 0, none⟩)), (22, .int .i64 a0), (25, .slice A25_12 l1.length c25_12), (28, .slice A28_14 l2.length c28_14), (31, .slice A31_15 (List.replicate (l1.length : Int).toNat false).length c31_15)], [⟨b6, 27, [.int .i64 0, .slice none 0 0, .slice none 0 0, .slice none 0 0, .int .i64 0]⟩], [.sl 0 k99 Al1 cl1 l1 0 false, .sl 0 k99 Al2 cl2 l2 0 false, .sl 2 k99 A25_12 c25_12 l1 1 true, .sl 2 k99 A28_14 c28_14 l2 2 true, .sl 2 .bool A31_15 c31_15 (List.replicate (l1.length : Int).toNat false) 3 true]⟩) (fun S hS => ?_) (fun hn0 => ?_)
     ·
      obtain ⟨A25_12, c25_12, A28_14, c28_14, A31_15, c31_15, rfl⟩ := hS
      exact one1 10 rfl rfl (ov (EV.bd (v := .agg #[.int .i64 a0, .slice A25_12 l1.length c25_12, .slice A28_14 l2.length c28_14, .slice A31_15 (List.replicate (l1.length : Int).toNat false).length c31_15, .int .i64 0]) rfl (by kernel_rfl)) rfl (xs [0] [0, 1] rfl rfl rfl (one1 11 rfl rfl (op_st (cs' := [.int .i64 a0, .slice A25_12 l1.length c25_12, .slice A28_14 l2.length c28_14, .slice A31_15 (List.replicate (l1.length : Int).toNat false).length c31_15, .int .i64 0]) 0 rfl rfl rfl rfl rfl rfl (xn rfl (one1 12 rfl rfl (ov (EV.as rfl) rfl (xn rfl (xd (wk [6, 7] [0] [⟨0, 0, 0, false⟩, ⟨1, 0, 0, false⟩, ⟨2, 2, 1, true⟩, ⟨3, 2, 2, true⟩, ⟨4, 2, 3, true⟩] (dj0 _ ⟨A25_12, c25_12, A28_14, c28_14, A31_15, c31_15, rfl⟩)))))))))))
     refine dl 4 #[true, true, true, true, true, true, false, true, true, true, false, false, false] (fun S => ∃ (A25_12 : Option Addr) (c25_12 : Nat) (A26_13 : Option Addr) (c26_13 : Nat) (A31_16 : Option Addr) (c31_16 : Nat), S = ⟨[(6, .pointer (some ⟨b6, 0, none⟩)), (22, .int .i64 a0), (25, .slice A25_12 l1.length c25_12), (26, .slice A26_13 0 c26_13), (27, .slice Al2 l2.length cl2), (31, .slice A31_16 (List.replicate (l1.length : Int).toNat false).length c31_16)], [⟨b6, 27, [.int .i64 0, .slice none 0 0, .slice none 0 0, .slice none 0 0, .int .i64 0]⟩], [.sl 0 k99 Al1 cl1 l1 0 false, .sl 0 k99 Al2 cl2 l2 0 false, .sl 2 k99 A25_12 c25_12 l1 1 true, .sl 2 k99 A26_13 c26_13 [] 2 true, .sl 2 .bool A31_16 c31_16 (List.replicate (l1.length : Int).toNat false) 3 true]⟩) (fun S hS => ?_) (fun hn1 => ?_)
     ·
      obtain ⟨A25_12, c25_12, A26_13, c26_13, A31_16, c31_16, rfl⟩ := hS
      exact one1 6 rfl rfl (op_app (k := k99) (s := 3) (by_ := 24) 3 1 rfl rfl rfl rfl (ap0 g8 dq) (ap0n g8 dq) (.inl rfl) true (fun _ => .inl rfl) rfl rfl fun A28_11 c28_11 => (nmE (en := [.sl 0 k99 Al1 cl1 l1 0 false, .sl 0 k99 Al2 cl2 l2 0 false, .sl 2 k99 A25_12 c25_12 l1 1 true, .sl 2 .bool A31_16 c31_16 (List.replicate (l1.length : Int).toNat false) 3 true, .sl 2 k99 A28_11 c28_11 l2 2 true]) (by kernel_rfl) (xs [0] [0, 1] rfl rfl rfl (da (wk [6, 22, 25, 28, 31] [0] [⟨0, 0, 0, false⟩, ⟨1, 0, 0, false⟩, ⟨2, 2, 1, true⟩, ⟨4, 2, 2, true⟩, ⟨3, 2, 3, true⟩] (hn0 _ ⟨A25_12, c25_12, A28_11, c28_11, A31_16, c31_16, rfl⟩))))))
     refine dl 5 #[true, true, true, true, true, true, false, true, true, false, false, false, false] (fun S => ∃ (A25_12 : Option Addr) (c25_12 : Nat) (A26_13 : Option Addr) (c26_13 : Nat), S = ⟨[(6, .pointer (some ⟨b6, 0, none⟩)), (22, .int .i64 a0), (25, .slice A25_12 l1.length c25_12), (26, .slice A26_13 0 c26_13), (27, .slice Al2 l2.length cl2), (30, .int .i64 (l1.length : Int))], [⟨b6, 27, [.int .i64 0, .slice none 0 0, .slice none 0 0, .slice none 0 0, .int .i64 0]⟩], [.sl 0 k99 Al1 cl1 l1 0 false, .sl 0 k99 Al2 cl2 l2 0 false, .sl 2 k99 A25_12 c25_12 l1 1 true, .sl 2 k99 A26_13 c26_13 [] 2 true]⟩) (fun S hS => ?_) (fun hn2 => ?_)
     ·
      obtain ⟨A25_12, c25_12, A26_13, c26_13, rfl⟩ := hS
      refine one2 6 9 rfl rfl rfl rfl ?_ ?_
      ·
       exact op_app (k := k99) (s := 3) (by_ := 24) 3 1 rfl rfl rfl rfl (ap0 g8 dq) (ap0n g8 dq) (.inl rfl) true (fun _ => .inl rfl) rfl rfl fun A28_12 c28_12 => (nmE (en := [.sl 0 k99 Al1 cl1 l1 0 false, .sl 0 k99 Al2 cl2 l2 0 false, .sl 2 k99 A25_12 c25_12 l1 1 true, .sl 2 k99 A28_12 c28_12 l2 2 true]) (by kernel_rfl) (xs [0] [0, 1] rfl rfl rfl (one1 9 rfl rfl (op_mk (s := 1) (by_ := 1) .bool false 3 rfl rfl g9 (mk1 g10 dq) (mk2 g10 dq) mk25 rfl rfl dq rfl fun A31_13 c31_13 => (xs [0] [0, 1] rfl rfl rfl (da (wk [6, 22, 25, 28, 31] [0] [⟨0, 0, 0, false⟩, ⟨1, 0, 0, false⟩, ⟨2, 2, 1, true⟩, ⟨3, 2, 2, true⟩, ⟨4, 2, 3, true⟩] (hn0 _ ⟨A25_12, c25_12, A28_12, c28_12, A31_13, c31_13, rfl⟩))))))))
      ·
       exact op_mk (s := 1) (by_ := 1) .bool false 3 rfl rfl g9 (mk1 g10 dq) (mk2 g10 dq) mk25 rfl rfl dq rfl fun A31_14 c31_14 => (xs [0] [0, 1] rfl rfl rfl (da (wk [6, 22, 25, 26, 27, 31] [0] [⟨0, 0, 0, false⟩, ⟨1, 0, 0, false⟩, ⟨2, 2, 1, true⟩, ⟨3, 2, 2, true⟩, ⟨4, 2, 3, true⟩] (hn1 _ ⟨A25_12, c25_12, A26_13, c26_13, A31_14, c31_14, rfl⟩))))
     refine dl 5 #[true, true, true, true, false, true, false, true, true, true, false, false, false] (fun S => ∃ (A25_12 : Option Addr) (c25_12 : Nat) (A31_18 : Option Addr) (c31_18 : Nat), S = ⟨[(6, .pointer (some ⟨b6, 0, none⟩)), (22, .int .i64 a0), (25, .slice A25_12 l1.length c25_12), (27, .slice Al2 l2.length cl2), (31, .slice A31_18 (List.replicate (l1.length : Int).toNat false).length c31_18)], [⟨b6, 27, [.int .i64 0, .slice none 0 0, .slice none 0 0, .slice none 0 0, .int .i64 0]⟩], [.sl 0 k99 Al1 cl1 l1 0 false, .sl 0 k99 Al2 cl2 l2 0 false, .sl 2 k99 A25_12 c25_12 l1 1 true, .sl 2 .bool A31_18 c31_18 (List.replicate (l1.length : Int).toNat false) 2 true]⟩) (fun S hS => ?_) (fun hn3 => ?_)
     ·
      obtain ⟨A25_12, c25_12, A31_18, c31_18, rfl⟩ := hS
      exact one1 4 rfl rfl (op_lit (s := 3) (by_ := 24) k99 ([] : List S99) [] [] 3 [] rfl rfl rfl rfl rfl rfl rfl rfl rfl rfl rfl rfl rfl dq rfl fun A26_15 c26_15 => (xs [0] [0, 1] rfl rfl rfl (da (wk [6, 22, 25, 26, 27, 31] [0] [⟨0, 0, 0, false⟩, ⟨1, 0, 0, false⟩, ⟨2, 2, 1, true⟩, ⟨4, 2, 2, true⟩, ⟨3, 2, 3, true⟩] (hn1 _ ⟨A25_12, c25_12, A26_15, c26_15, A31_18, c31_18, rfl⟩)))))
     refine dl 5 #[true, true, true, false, true, true, false, true, true, true, false, false, false] (fun S => ∃ (A23_11 : Option Addr) (c23_11 : Nat) (A26_20 : Option Addr) (c26_20 : Nat) (A31_22 : Option Addr) (c31_22 : Nat), S = ⟨[(6, .pointer (some ⟨b6, 0, none⟩)), (22, .int .i64 a0), (23, .slice A23_11 0 c23_11), (24, .slice Al1 l1.length cl1), (26, .slice A26_20 0 c26_20), (27, .slice Al2 l2.length cl2), (31, .slice A31_22 (List.replicate (l1.length : Int).toNat false).length c31_22)], [⟨b6, 27, [.int .i64 0, .slice none 0 0, .slice none 0 0, .slice none 0 0, .int .i64 0]⟩], [.sl 0 k99 Al1 cl1 l1 0 false, .sl 0 k99 Al2 cl2 l2 0 false, .sl 2 k99 A23_11 c23_11 [] 1 true, .sl 2 k99 A26_20 c26_20 [] 2 true, .sl 2 .bool A31_22 c31_22 (List.replicate (l1.length : Int).toNat false) 3 true]⟩) (fun S hS => ?_) (fun hn4 => ?_)
     ·
      obtain ⟨A23_11, c23_11, A26_20, c26_20, A31_22, c31_22, rfl⟩ := hS
      exact one1 3 rfl rfl (op_app (k := k99) (s := 3) (by_ := 24) 2 0 rfl rfl rfl rfl (ap0 g7 dq) (ap0n g7 dq) (.inl rfl) true (fun _ => .inl rfl) rfl rfl fun A25_16 c25_16 => (nmE (en := [.sl 0 k99 Al1 cl1 l1 0 false, .sl 0 k99 Al2 cl2 l2 0 false, .sl 2 k99 A26_20 c26_20 [] 2 true, .sl 2 .bool A31_22 c31_22 (List.replicate (l1.length : Int).toNat false) 3 true, .sl 2 k99 A25_16 c25_16 l1 1 true]) (by kernel_rfl) (xs [0] [0, 1] rfl rfl rfl (da (wk [6, 22, 25, 26, 27, 31] [0] [⟨0, 0, 0, false⟩, ⟨1, 0, 0, false⟩, ⟨4, 2, 1, true⟩, ⟨2, 2, 2, true⟩, ⟨3, 2, 3, true⟩] (hn1 _ ⟨A25_16, c25_16, A26_20, c26_20, A31_22, c31_22, rfl⟩))))))
     refine dl 6 #[true, true, true, false, true, true, false, true, true, false, false, false, false] (fun S => ∃ (A23_11 : Option Addr) (c23_11 : Nat) (A26_20 : Option Addr) (c26_20 : Nat), S = ⟨[(6, .pointer (some ⟨b6, 0, none⟩)), (22, .int .i64 a0), (23, .slice A23_11 0 c23_11), (24, .slice Al1 l1.length cl1), (26, .slice A26_20 0 c26_20), (27, .slice Al2 l2.length cl2), (30, .int .i64 (l1.length : Int))], [⟨b6, 27, [.int .i64 0, .slice none 0 0, .slice none 0 0, .slice none 0 0, .int .i64 0]⟩], [.sl 0 k99 Al1 cl1 l1 0 false, .sl 0 k99 Al2 cl2 l2 0 false, .sl 2 k99 A23_11 c23_11 [] 1 true, .sl 2 k99 A26_20 c26_20 [] 2 true]⟩) (fun S hS => ?_) (fun hn5 => ?_)
     ·
      obtain ⟨A23_11, c23_11, A26_20, c26_20, rfl⟩ := hS
      refine one2 3 9 rfl rfl rfl rfl ?_ ?_
      ·
       exact op_app (k := k99) (s := 3) (by_ := 24) 2 0 rfl rfl rfl rfl (ap0 g7 dq) (ap0n g7 dq) (.inl rfl) true (fun _ => .inl rfl) rfl rfl fun A25_17 c25_17 => (nmE (en := [.sl 0 k99 Al1 cl1 l1 0 false, .sl 0 k99 Al2 cl2 l2 0 false, .sl 2 k99 A26_20 c26_20 [] 2 true, .sl 2 k99 A25_17 c25_17 l1 1 true]) (by kernel_rfl) (xs [0] [0, 1] rfl rfl rfl (da (wk [6, 22, 25, 26, 27, 30] [0] [⟨0, 0, 0, false⟩, ⟨1, 0, 0, false⟩, ⟨3, 2, 1, true⟩, ⟨2, 2, 2, true⟩] (hn2 _ ⟨A25_17, c25_17, A26_20, c26_20, rfl⟩)))))
      ·
       exact op_mk (s := 1) (by_ := 1) .bool false 3 rfl rfl g9 (mk1 g10 dq) (mk2 g10 dq) mk25 rfl rfl dq rfl fun A31_18 c31_18 => (xs [0] [0, 1] rfl rfl rfl (da (wk [6, 22, 23, 24, 26, 27, 31] [0] [⟨0, 0, 0, false⟩, ⟨1, 0, 0, false⟩, ⟨2, 2, 1, true⟩, ⟨3, 2, 2, true⟩, ⟨4, 2, 3, true⟩] (hn4 _ ⟨A23_11, c23_11, A26_20, c26_20, A31_18, c31_18, rfl⟩))))
     refine dl 6 #[true, true, true, false, false, true, false, true, true, true, false, false, false] (fun S => ∃ (A23_11 : Option Addr) (c23_11 : Nat) (A31_24 : Option Addr) (c31_24 : Nat), S = ⟨[(6, .pointer (some ⟨b6, 0, none⟩)), (22, .int .i64 a0), (23, .slice A23_11 0 c23_11), (24, .slice Al1 l1.length cl1), (27, .slice Al2 l2.length cl2), (31, .slice A31_24 (List.replicate (l1.length : Int).toNat false).length c31_24)], [⟨b6, 27, [.int .i64 0, .slice none 0 0, .slice none 0 0, .slice none 0 0, .int .i64 0]⟩], [.sl 0 k99 Al1 cl1 l1 0 false, .sl 0 k99 Al2 cl2 l2 0 false, .sl 2 k99 A23_11 c23_11 [] 1 true, .sl 2 .bool A31_24 c31_24 (List.replicate (l1.length : Int).toNat false) 2 true]⟩) (fun S hS => ?_) (fun hn6 => ?_)
     ·
      obtain ⟨A23_11, c23_11, A31_24, c31_24, rfl⟩ := hS
      refine one2 3 4 rfl rfl rfl rfl ?_ ?_
      ·
       exact op_app (k := k99) (s := 3) (by_ := 24) 2 0 rfl rfl rfl rfl (ap0 g7 dq) (ap0n g7 dq) (.inl rfl) true (fun _ => .inl rfl) rfl rfl fun A25_19 c25_19 => (nmE (en := [.sl 0 k99 Al1 cl1 l1 0 false, .sl 0 k99 Al2 cl2 l2 0 false, .sl 2 .bool A31_24 c31_24 (List.replicate (l1.length : Int).toNat false) 2 true, .sl 2 k99 A25_19 c25_19 l1 1 true]) (by kernel_rfl) (xs [0] [0, 1] rfl rfl rfl (da (wk [6, 22, 25, 27, 31] [0] [⟨0, 0, 0, false⟩, ⟨1, 0, 0, false⟩, ⟨3, 2, 1, true⟩, ⟨2, 2, 2, true⟩] (hn3 _ ⟨A25_19, c25_19, A31_24, c31_24, rfl⟩)))))
      ·
       exact op_lit (s := 3) (by_ := 24) k99 ([] : List S99) [] [] 3 [] rfl rfl rfl rfl rfl rfl rfl rfl rfl rfl rfl rfl rfl dq rfl fun A26_20 c26_20 => (xs [0] [0, 1] rfl rfl rfl (da (wk [6, 22, 23, 24, 26, 27, 31] [0] [⟨0, 0, 0, false⟩, ⟨1, 0, 0, false⟩, ⟨2, 2, 1, true⟩, ⟨4, 2, 2, true⟩, ⟨3, 2, 3, true⟩] (hn4 _ ⟨A23_11, c23_11, A26_20, c26_20, A31_24, c31_24, rfl⟩))))
     refine dl 6 #[true, false, true, false, true, true, false, true, true, true, false, false, false] (fun S => ∃ (A26_27 : Option Addr) (c26_27 : Nat) (A31_29 : Option Addr) (c31_29 : Nat), S = ⟨[(6, .pointer (some ⟨b6, 0, none⟩)), (22, .int .i64 a0), (24, .slice Al1 l1.length cl1), (26, .slice A26_27 0 c26_27), (27, .slice Al2 l2.length cl2), (31, .slice A31_29 (List.replicate (l1.length : Int).toNat false).length c31_29)], [⟨b6, 27, [.int .i64 0, .slice none 0 0, .slice none 0 0, .slice none 0 0, .int .i64 0]⟩], [.sl 0 k99 Al1 cl1 l1 0 false, .sl 0 k99 Al2 cl2 l2 0 false, .sl 2 k99 A26_27 c26_27 [] 1 true, .sl 2 .bool A31_29 c31_29 (List.replicate (l1.length : Int).toNat false) 2 true]⟩) (fun S hS => ?_) (fun hn7 => ?_)
     ·
      obtain ⟨A26_27, c26_27, A31_29, c31_29, rfl⟩ := hS
      exact one1 1 rfl rfl (op_lit (s := 3) (by_ := 24) k99 ([] : List S99) [] [] 3 [] rfl rfl rfl rfl rfl rfl rfl rfl rfl rfl rfl rfl rfl dq rfl fun A23_21 c23_21 => (xs [0] [0, 1] rfl rfl rfl (da (wk [6, 22, 23, 24, 26, 27, 31] [0] [⟨0, 0, 0, false⟩, ⟨1, 0, 0, false⟩, ⟨4, 2, 1, true⟩, ⟨2, 2, 2, true⟩, ⟨3, 2, 3, true⟩] (hn4 _ ⟨A23_21, c23_21, A26_27, c26_27, A31_29, c31_29, rfl⟩)))))
     refine one3 1 4 9 rfl rfl rfl rfl rfl rfl ?_ ?_ ?_
     ·
      refine op_lit (s := 3) (by_ := 24) k99 ([] : List S99) [] [] 1 [] rfl rfl rfl rfl rfl rfl rfl rfl rfl rfl rfl rfl rfl dq rfl fun A23_22 c23_22 => (xs [0] [0, 1] rfl rfl rfl ?_)
      refine one3 3 4 9 rfl rfl rfl rfl rfl rfl ?_ ?_ ?_
      ·
       refine op_app (k := k99) (s := 3) (by_ := 24) 2 0 rfl rfl rfl rfl (ap0 g7 dq) (ap0n g7 dq) (.inl rfl) true (fun _ => .inl rfl) rfl rfl fun A25_23 c25_23 => (nmE (en := [.sl 0 k99 Al1 cl1 l1 0 false, .sl 0 k99 Al2 cl2 l2 0 false, .sl 2 k99 A25_23 c25_23 l1 1 true]) (by kernel_rfl) (xs [0] [0, 1] rfl rfl rfl ?_))
       refine one2 4 9 rfl rfl rfl rfl ?_ ?_
       ·
        exact op_lit (s := 3) (by_ := 24) k99 ([] : List S99) [] [] 2 [] rfl rfl rfl rfl rfl rfl rfl rfl rfl rfl rfl rfl rfl dq rfl fun A26_24 c26_24 => (xs [0] [0, 1] rfl rfl rfl (da (wk [6, 22, 25, 26, 27, 30] [0] [⟨0, 0, 0, false⟩, ⟨1, 0, 0, false⟩, ⟨2, 2, 1, true⟩, ⟨3, 2, 2, true⟩] (hn2 _ ⟨A25_23, c25_23, A26_24, c26_24, rfl⟩))))
       ·
        exact op_mk (s := 1) (by_ := 1) .bool false 2 rfl rfl g9 (mk1 g10 dq) (mk2 g10 dq) mk25 rfl rfl dq rfl fun A31_25 c31_25 => (xs [0] [0, 1] rfl rfl rfl (da (wk [6, 22, 25, 27, 31] [0] [⟨0, 0, 0, false⟩, ⟨1, 0, 0, false⟩, ⟨2, 2, 1, true⟩, ⟨3, 2, 2, true⟩] (hn3 _ ⟨A25_23, c25_23, A31_25, c31_25, rfl⟩))))
      ·
       exact op_lit (s := 3) (by_ := 24) k99 ([] : List S99) [] [] 2 [] rfl rfl rfl rfl rfl rfl rfl rfl rfl rfl rfl rfl rfl dq rfl fun A26_26 c26_26 => (xs [0] [0, 1] rfl rfl rfl (da (wk [6, 22, 23, 24, 26, 27, 30] [0] [⟨0, 0, 0, false⟩, ⟨1, 0, 0, false⟩, ⟨2, 2, 1, true⟩, ⟨3, 2, 2, true⟩] (hn5 _ ⟨A23_22, c23_22, A26_26, c26_26, rfl⟩))))
      ·
       exact op_mk (s := 1) (by_ := 1) .bool false 2 rfl rfl g9 (mk1 g10 dq) (mk2 g10 dq) mk25 rfl rfl dq rfl fun A31_27 c31_27 => (xs [0] [0, 1] rfl rfl rfl (da (wk [6, 22, 23, 24, 27, 31] [0] [⟨0, 0, 0, false⟩, ⟨1, 0, 0, false⟩, ⟨2, 2, 1, true⟩, ⟨3, 2, 2, true⟩] (hn6 _ ⟨A23_22, c23_22, A31_27, c31_27, rfl⟩))))
     ·
      refine op_lit (s := 3) (by_ := 24) k99 ([] : List S99) [] [] 1 [] rfl rfl rfl rfl rfl rfl rfl rfl rfl rfl rfl rfl rfl dq rfl fun A26_28 c26_28 => (xs [0] [0, 1] rfl rfl rfl ?_)
      refine one2 1 9 rfl rfl rfl rfl ?_ ?_
      ·
       exact op_lit (s := 3) (by_ := 24) k99 ([] : List S99) [] [] 2 [] rfl rfl rfl rfl rfl rfl rfl rfl rfl rfl rfl rfl rfl dq rfl fun A23_29 c23_29 => (xs [0] [0, 1] rfl rfl rfl (da (wk [6, 22, 23, 24, 26, 27, 30] [0] [⟨0, 0, 0, false⟩, ⟨1, 0, 0, false⟩, ⟨3, 2, 1, true⟩, ⟨2, 2, 2, true⟩] (hn5 _ ⟨A23_29, c23_29, A26_28, c26_28, rfl⟩))))
      ·
       exact op_mk (s := 1) (by_ := 1) .bool false 2 rfl rfl g9 (mk1 g10 dq) (mk2 g10 dq) mk25 rfl rfl dq rfl fun A31_30 c31_30 => (xs [0] [0, 1] rfl rfl rfl (da (wk [6, 22, 24, 26, 27, 31] [0] [⟨0, 0, 0, false⟩, ⟨1, 0, 0, false⟩, ⟨2, 2, 1, true⟩, ⟨3, 2, 2, true⟩] (hn7 _ ⟨A26_28, c26_28, A31_30, c31_30, rfl⟩))))
     ·
      refine op_mk (s := 1) (by_ := 1) .bool false 1 rfl rfl g9 (mk1 g10 dq) (mk2 g10 dq) mk25 rfl rfl dq rfl fun A31_31 c31_31 => (xs [0] [0, 1] rfl rfl rfl ?_)
      refine one2 1 4 rfl rfl rfl rfl ?_ ?_
      ·
       exact op_lit (s := 3) (by_ := 24) k99 ([] : List S99) [] [] 2 [] rfl rfl rfl rfl rfl rfl rfl rfl rfl rfl rfl rfl rfl dq rfl fun A23_32 c23_32 => (xs [0] [0, 1] rfl rfl rfl (da (wk [6, 22, 23, 24, 27, 31] [0] [⟨0, 0, 0, false⟩, ⟨1, 0, 0, false⟩, ⟨3, 2, 1, true⟩, ⟨2, 2, 2, true⟩] (hn6 _ ⟨A23_32, c23_32, A31_31, c31_31, rfl⟩))))
      ·
       exact op_lit (s := 3) (by_ := 24) k99 ([] : List S99) [] [] 2 [] rfl rfl rfl rfl rfl rfl rfl rfl rfl rfl rfl rfl rfl dq rfl fun A26_33 c26_33 => (xs [0] [0, 1] rfl rfl rfl (da (wk [6, 22, 24, 26, 27, 31] [0] [⟨0, 0, 0, false⟩, ⟨1, 0, 0, false⟩, ⟨3, 2, 1, true⟩, ⟨2, 2, 2, true⟩] (hn7 _ ⟨A26_33, c26_33, A31_31, c31_31, rfl⟩))))
   ·
    obtain rfl := bF c6
    refine gt rfl rfl (gs (rg (sv (EV.bd (v := .agg #[.int .i64 0, .slice none 0 0, .slice none 0 0, .slice none 0 0, .int .i64 0]) rfl (by kernel_rfl)) rfl (so rfl (op_st (cs' := [.int .i64 0, .slice none 0 0, .slice none 0 0, .slice none 0 0, .int .i64 0]) 0 rfl rfl rfl rfl rfl rfl (sv (EV.as rfl) rfl (re (nil_ k99 1 dq (nil_ k99 2 dq (nil_ .bool 3 dq ?_))))))))))
    cases H
    exact rt Try.func18 rfl (.cell 0 (some 5) rfl rfl rfl (.tmp rfl .nil)) rfl [] [⟨2, 2, 1, true⟩, ⟨3, 2, 2, true⟩, ⟨4, 2, 3, true⟩] rfl rfl rfl rfl rfl ⟨_, _, _, _, _, _, rfl, rfl, rfl⟩
  ·
   obtain rfl := bF c4
   refine ts 16 rfl rfl (sk rfl (sk rfl (sk rfl (sv (EV.pt rfl rfl rfl) rfl (re (pr [0, 1, 2, 6, 20] [0] [0, 1] rfl rfl rfl rfl (gt rfl rfl (gs (rg (sv (EV.bd (v := .agg #[.int .i64 0, .slice none 0 0, .slice none 0 0, .slice none 0 0, .int .i64 0]) rfl (by kernel_rfl)) rfl (so rfl (op_st (cs' := [.int .i64 0, .slice none 0 0, .slice none 0 0, .slice none 0 0, .int .i64 0]) 0 rfl rfl rfl rfl rfl rfl (sv (EV.as rfl) rfl (re (nil_ k99 1 dq (nil_ k99 2 dq (nil_ .bool 3 dq ?_)))))))))))))))))
   cases H
   exact rt Try.func18 rfl (.cell 0 (some 5) rfl rfl rfl (.tmp rfl .nil)) rfl [] [⟨2, 2, 1, true⟩, ⟨3, 2, 2, true⟩, ⟨4, 2, 3, true⟩] rfl rfl rfl rfl rfl ⟨_, _, _, _, _, _, rfl, rfl, rfl⟩
 ·
  obtain rfl := bF c2
  refine ts 11 rfl rfl (sk rfl (sk rfl (sk rfl (sv (EV.pt rfl rfl rfl) rfl (sv (EV.mv rfl) rfl (sk rfl (sk rfl (sk rfl (sv (EV.pt rfl rfl rfl) rfl (re (pr [0, 1, 2, 6, 20] [0] [0, 1] rfl rfl rfl rfl (gt rfl rfl (gs (rg (sv (EV.bd (v := .agg #[.int .i64 0, .slice none 0 0, .slice none 0 0, .slice none 0 0, .int .i64 0]) rfl (by kernel_rfl)) rfl (so rfl (op_st (cs' := [.int .i64 0, .slice none 0 0, .slice none 0 0, .slice none 0 0, .int .i64 0]) 0 rfl rfl rfl rfl rfl rfl (sv (EV.as rfl) rfl (re (nil_ k99 1 dq (nil_ k99 2 dq (nil_ .bool 3 dq ?_))))))))))))))))))))))
  cases H
  exact rt Try.func18 rfl (.cell 0 (some 5) rfl rfl rfl (.tmp rfl .nil)) rfl [] [⟨2, 2, 1, true⟩, ⟨3, 2, 2, true⟩, ⟨4, 2, 3, true⟩] rfl rfl rfl rfl rfl ⟨_, _, _, _, _, _, rfl, rfl, rfl⟩
end Go.Proofs.Ytamjndlkompeeaa.K
namespace Go.Proofs.Ytamjndlkompeeaa.K
open Go Go.RowKit
set_option linter.unusedVariables false
set_option linter.unusedSimpArgs false
def spec_NewJoiner.f (k : Nat) (a0 : Int) (l1 : List S99) (l2 : List S99) : Option ((List S27) × Int × Int × Bool) := (spec_NewTask.f k a0 l1 l2).bind fun bt1 => (if bt1.2.2.2.2.2 = true then (some (([(⟨bt1.1, bt1.2.1, bt1.2.2.1, bt1.2.2.2.1, bt1.2.2.2.2.1⟩ : S27)] : List S27), 0, 0, true)) else (some ([], 0, 0, false)))
set_option maxHeartbeats 4000000 in
set_option maxRecDepth 100000 in
theorem spec_NewJoiner.ok (k : Nat) (a0 : Int) (l1 : List S99) (Al1 : Option Addr) (cl1 : Nat) (l2 : List S99) (Al2 : Option Addr) (cl2 : Nat) (r0 : List S27) (r1 : Int) (r2 : Int) (r3 : Bool) (H : spec_NewJoiner.f k a0 l1 l2 = some (r0, r1, r2, r3)) : Fn Try.prog 50 [.int .i64 a0, .slice Al1 l1.length cl1, .slice Al2 l2.length cl2] [] [.sl 0 k99 Al1 cl1 l1 0 false, .sl 0 k99 Al2 cl2 l2 0 false] (fun v bx en => ∃ A0 c0, v = .tuple #[.agg #[.slice A0 r0.length c0, .int .i64 r1, .int .i64 r2], .bool r3] ∧ bx = [] ∧ en = [.sl 2 k27 A0 c0 r0 1 true]) := by
 refine fn_ 23 Try.func50 rfl rfl rfl (fun base T w0 => ?_)
 rw [spec_NewJoiner.f] at H
 refine gs (rg (so rfl (op_alloc (cs := [.slice none 0 0, .int .i64 0, .int .i64 0]) (by kernel_rfl) rfl fun b6 => (sv (EV.as rfl) rfl (re (gs (rg (sv (EV.mv rfl) rfl (sv (EV.mv rfl) rfl (sv (EV.mv rfl) rfl ?_))))))))))
 revert H; refine bdI ?_; rintro ⟨t1_0, t1_1, t1_2, t1_3, t1_4, t1_5⟩ A1 H
 refine so rfl (op_call (spec_NewTask.ok k a0 l1 Al1 cl1 l2 Al2 cl2 _ _ _ _ _ _ A1) [⟨0, 0, 0, false⟩, ⟨1, 0, 0, false⟩] 1 rfl rfl rfl rfl rfl ?_)
 rintro _ _ _ ⟨At1_1, ct1_1, At1_2, ct1_2, At1_3, ct1_3, rfl, rfl, rfl⟩
 refine sv (EV.mv rfl) rfl (sv (EV.ex rfl rfl) rfl (sv (EV.ex rfl rfl) rfl (so rfl (op_alloc (cs := [.int .i64 0, .slice none 0 0, .slice none 0 0, .slice none 0 0, .int .i64 0]) (by kernel_rfl) rfl fun b8 => (so rfl (op_st (cs' := [.int .i64 t1_0, .slice At1_1 t1_1.length ct1_1, .slice At1_2 t1_2.length ct1_2, .slice At1_3 t1_3.length ct1_3, .int .i64 t1_4]) 1 rfl rfl rfl rfl rfl rfl (sv (EV.as rfl) rfl (re (pr [6, 8, 9] [0, 1] [2, 3, 4] rfl rfl rfl rfl (gs (gs (rg (sv (EV.mv rfl) rfl (sv (EV.nt rfl) rfl (re ?_)))))))))))))))
 revert H; refine ifsI ?_ ?_ <;> intro c2 H
 ·
  subst c2
  refine gf rfl rfl (gk (gs (rg (sv (EV.ld (v := .agg #[.int .i64 t1_0, .slice At1_1 t1_1.length ct1_1, .slice At1_2 t1_2.length ct1_2, .slice At1_3 t1_3.length ct1_3, .int .i64 t1_4]) 1 (some 5) rfl rfl rfl) rfl (so rfl (op_lit (s := 5) (by_ := 88) k27 ([(⟨t1_0, t1_1, t1_2, t1_3, t1_4⟩ : S27)] : List S27) [[(At1_1, ct1_1), (At1_2, ct1_2), (At1_3, ct1_3)]] [0, 1, 2] 5 [.tmp 20] rfl rfl rfl rfl rfl rfl rfl rfl rfl rfl rfl rfl rfl dq rfl fun A21_3 c21_3 => (nmE (en := [.sl 2 k99 At1_1 ct1_1 t1_1 5 true, .sl 2 k99 At1_2 ct1_2 t1_2 5 true, .sl 2 .bool At1_3 ct1_3 t1_3 5 true, .sl 2 k27 A21_3 c21_3 ([(⟨t1_0, t1_1, t1_2, t1_3, t1_4⟩ : S27)] : List S27) 5 true]) (by kernel_rfl) (sv (EV.bd (v := .agg #[.slice A21_3 ([(⟨t1_0, t1_1, t1_2, t1_3, t1_4⟩ : S27)] : List S27).length c21_3, .int .i64 0, .int .i64 0]) rfl (by kernel_rfl)) rfl (so rfl (op_st (cs' := [.slice A21_3 ([(⟨t1_0, t1_1, t1_2, t1_3, t1_4⟩ : S27)] : List S27).length c21_3, .int .i64 0, .int .i64 0]) 0 rfl rfl rfl rfl rfl rfl (sv (EV.as rfl) rfl (re (pr [6, 7] [0] [3] rfl rfl rfl rfl ?_)))))))))))))
  cases H
  exact rt Try.func50 rfl (.cell 0 (some 3) rfl rfl rfl (.tmp rfl .nil)) rfl [] [⟨0, 2, 1, true⟩] rfl rfl rfl rfl rfl ⟨_, _, rfl, rfl, rfl⟩
 ·
  obtain rfl := bF c2
  refine gt rfl rfl (gs (rg (sv (EV.bd (v := .agg #[.slice none 0 0, .int .i64 0, .int .i64 0]) rfl (by kernel_rfl)) rfl (so rfl (op_st (cs' := [.slice none 0 0, .int .i64 0, .int .i64 0]) 0 rfl rfl rfl rfl rfl rfl (sv (EV.as rfl) rfl (re (nil_ k27 5 dq ?_))))))))
  cases H
  exact rt Try.func50 rfl (.cell 0 (some 3) rfl rfl rfl (.tmp rfl .nil)) rfl [] [⟨3, 2, 1, true⟩] rfl rfl rfl rfl rfl ⟨_, _, rfl, rfl, rfl⟩
end Go.Proofs.Ytamjndlkompeeaa.K
namespace Go.Proofs.Ytamjndlkompeeaa.K
open Go Go.RowKit
set_option linter.unusedVariables false
set_option linter.unusedSimpArgs false
def spec_l2Any.f (l0_0 : List Int) (a0_1 : Int) (a0_2 : Int) : Option (Int × Int × Int × Int × Int) := (spec_l2Row.f l0_0 a0_1 a0_2 10).bind fun bt1 => ((spec_l1Below.f l0_0 bt1.2.2.2.1 bt1.2.2.2.2 8).bind fun bt2 => (if bt2.1 = 0 then ((spec_l1PickInt.f l0_0 bt2.2.1 bt2.2.2 ([(-1), 10] : List Int)).bind fun bt5 => (some (bt5.1, bt1.2.1, bt1.2.2.1, bt5.2.1, bt5.2.2))) else (if bt2.1 = 1 then ((spec_l1PickInt.f l0_0 bt2.2.1 bt2.2.2 ([(-1), 100, 99] : List Int)).bind fun bt8 => (some (bt1.1, bt8.1, bt1.2.2.1, bt8.2.1, bt8.2.2))) else (if bt2.1 = 2 then ((spec_l1PickInt.f l0_0 bt2.2.1 bt2.2.2 ([(-1), 4] : List Int)).bind fun bt11 => (some (bt1.1, bt1.2.1, bt11.1, bt11.2.1, bt11.2.2))) else (some (bt1.1, bt1.2.1, bt1.2.2.1, bt2.2.1, bt2.2.2))))))
set_option maxHeartbeats 4000000 in
set_option maxRecDepth 100000 in
theorem spec_l2Any.ok (b1000 : Nat) (l0_0 : List Int) (Al0_0 : Option Addr) (cl0_0 : Nat) (a0_1 : Int) (a0_2 : Int) (r0 : Int) (r1 : Int) (r2 : Int) (r3 : Int) (r4 : Int) (H : spec_l2Any.f l0_0 a0_1 a0_2 = some (r0, r1, r2, r3, r4)) : Fn Try.prog 101 [.pointer (some ⟨b1000, 0, none⟩)] [⟨b1000, 119, [.slice Al0_0 l0_0.length cl0_0, .int .i64 a0_1, .int .i64 a0_2]⟩] [.sl 0 (.int .u8) Al0_0 cl0_0 l0_0 0 false] (fun v bx en => v = .agg #[.int .i64 r0, .int .i64 r1, .int .i64 r2] ∧ bx = [⟨b1000, 119, [.slice Al0_0 l0_0.length cl0_0, .int .i64 r3, .int .i64 r4]⟩] ∧ en = []) := by
 refine fn_ 27 Try.func101 rfl rfl rfl (fun base T w0 => ?_)
 rw [spec_l2Any.f] at H
 refine gs (rg (so rfl (op_alloc (cs := [.int .i64 0, .int .i64 0, .int .i64 0]) (by kernel_rfl) rfl fun b2 => (re (gs (rg (sv (EV.mv rfl) rfl ?_)))))))
 revert H; refine bdI ?_; rintro ⟨t1_0, t1_1, t1_2, t1_3, t1_4⟩ A1 H
 refine so rfl (op_callM (spec_l2Row.ok b1000 l0_0 Al0_0 cl0_0 a0_1 a0_2 10 _ _ _ _ _ A1) [⟨0, 0, 0, false⟩] [0] [1] 1 rfl rfl rfl rfl rfl rfl rfl rfl ?_)
 rintro _ _ _ ⟨rfl, rfl, rfl⟩
 refine nmE (en := [.sl 0 (.int .u8) Al0_0 cl0_0 l0_0 0 false]) (by kernel_rfl) (so rfl (op_alloc (cs := [.int .i64 0, .int .i64 0, .int .i64 0]) (by kernel_rfl) rfl fun b3 => (so rfl (op_st (cs' := [.int .i64 t1_0, .int .i64 t1_1, .int .i64 t1_2]) 2 rfl rfl rfl rfl rfl rfl (re (gs (gs (rg (sv (EV.mv rfl) rfl ?_)))))))))
 revert H; refine bdI ?_; rintro ⟨t2_0, t2_1, t2_2⟩ A2 H
 refine so rfl (op_callM (spec_l1Below.ok b1000 l0_0 Al0_0 cl0_0 t1_3 t1_4 8 _ _ _ A2) [⟨0, 0, 0, false⟩] [1] [0, 2] 1 rfl rfl rfl rfl rfl rfl rfl rfl ?_)
 rintro _ _ _ ⟨rfl, rfl, rfl⟩
 refine nmE (en := [.sl 0 (.int .u8) Al0_0 cl0_0 l0_0 0 false]) (by kernel_rfl) (re (gb (gs (rg (sv (EV.eql rfl rfl) rfl (sv (EV.as rfl) rfl (re ?_)))))))
 revert H; refine ifsI ?_ ?_ <;> intro c3 H
 ·
  refine gt rfl (dT c3) (rg (sv (EV.mv rfl) rfl (so rfl (op_lit (s := 1) (by_ := 8) (.int .i64) ([(-1), 10] : List Int) [[], []] [] 1 [.const (.int .i64 (-1)), .const (.int .i64 10)] rfl rfl rfl rfl rfl rfl rfl rfl rfl rfl rfl rfl rfl dq rfl fun A11_4 c11_4 => ?_))))
  revert H; refine bdI ?_; rintro ⟨t5_0, t5_1, t5_2⟩ A5 H
  refine so rfl (op_callM (spec_l1PickInt.ok b1000 l0_0 Al0_0 cl0_0 t2_1 t2_2 ([(-1), 10] : List Int) A11_4 c11_4 _ _ _ A5) [⟨0, 0, 0, false⟩, ⟨1, 0, 0, false⟩] [2] [0, 1] 2 rfl rfl rfl rfl rfl rfl rfl rfl ?_)
  rintro _ _ _ ⟨rfl, rfl, rfl⟩
  refine nmE (en := [.sl 0 (.int .u8) Al0_0 cl0_0 l0_0 0 false, .sl 2 (.int .i64) A11_4 c11_4 ([(-1), 10] : List Int) 1 true]) (by kernel_rfl) (sv (EV.fa 0 rfl) rfl (so rfl (op_st (cs' := [.int .i64 t5_0, .int .i64 t1_1, .int .i64 t1_2]) 1 rfl rfl rfl rfl rfl rfl (re (pr [2, 3] [0, 1, 2] [0] rfl rfl rfl rfl (ge (gs (rg (sv (EV.ld (v := .agg #[.int .i64 t5_0, .int .i64 t1_1, .int .i64 t1_2]) 1 (some 3) rfl rfl rfl) rfl (so rfl (op_st (cs' := [.int .i64 t5_0, .int .i64 t1_1, .int .i64 t1_2]) 0 rfl rfl rfl rfl rfl rfl (re ?_))))))))))))
  cases H
  exact rt Try.func101 rfl (.cell 0 (some 3) rfl rfl rfl .nil) rfl [2] [] rfl rfl rfl rfl rfl ⟨rfl, rfl, rfl⟩
 ·
  refine gf rfl (dF c3) (gs (rg (sv (EV.eql rfl rfl) rfl (sv (EV.as rfl) rfl (re (pr [0, 2, 3, 7, 14] [0, 1, 2] [0] rfl rfl rfl rfl ?_))))))
  revert H; refine ifsI ?_ ?_ <;> intro c6 H
  ·
   refine gt rfl (dT c6) (rg (sv (EV.mv rfl) rfl (so rfl (op_lit (s := 1) (by_ := 8) (.int .i64) ([(-1), 100, 99] : List Int) [[], [], []] [] 1 [.const (.int .i64 (-1)), .const (.int .i64 100), .const (.int .i64 99)] rfl rfl rfl rfl rfl rfl rfl rfl rfl rfl rfl rfl rfl dq rfl fun A17_7 c17_7 => ?_))))
   revert H; refine bdI ?_; rintro ⟨t8_0, t8_1, t8_2⟩ A8 H
   refine so rfl (op_callM (spec_l1PickInt.ok b1000 l0_0 Al0_0 cl0_0 t2_1 t2_2 ([(-1), 100, 99] : List Int) A17_7 c17_7 _ _ _ A8) [⟨0, 0, 0, false⟩, ⟨1, 0, 0, false⟩] [2] [0, 1] 2 rfl rfl rfl rfl rfl rfl rfl rfl ?_)
   rintro _ _ _ ⟨rfl, rfl, rfl⟩
   refine nmE (en := [.sl 0 (.int .u8) Al0_0 cl0_0 l0_0 0 false, .sl 2 (.int .i64) A17_7 c17_7 ([(-1), 100, 99] : List Int) 1 true]) (by kernel_rfl) (sv (EV.fa 1 rfl) rfl (so rfl (op_st (cs' := [.int .i64 t1_0, .int .i64 t8_0, .int .i64 t1_2]) 1 rfl rfl rfl rfl rfl rfl (re (pr [2, 3] [0, 1, 2] [0] rfl rfl rfl rfl (ge (gs (rg (sv (EV.ld (v := .agg #[.int .i64 t1_0, .int .i64 t8_0, .int .i64 t1_2]) 1 (some 3) rfl rfl rfl) rfl (so rfl (op_st (cs' := [.int .i64 t1_0, .int .i64 t8_0, .int .i64 t1_2]) 0 rfl rfl rfl rfl rfl rfl (re ?_))))))))))))
   cases H
   exact rt Try.func101 rfl (.cell 0 (some 3) rfl rfl rfl .nil) rfl [2] [] rfl rfl rfl rfl rfl ⟨rfl, rfl, rfl⟩
  ·
   refine gf rfl (dF c6) (gs (rg (sv (EV.eql rfl rfl) rfl (sv (EV.as rfl) rfl (re ?_)))))
   revert H; refine ifsI ?_ ?_ <;> intro c9 H
   ·
    refine gt rfl (dT c9) (rg (sv (EV.mv rfl) rfl (so rfl (op_lit (s := 1) (by_ := 8) (.int .i64) ([(-1), 4] : List Int) [[], []] [] 1 [.const (.int .i64 (-1)), .const (.int .i64 4)] rfl rfl rfl rfl rfl rfl rfl rfl rfl rfl rfl rfl rfl dq rfl fun A23_10 c23_10 => ?_))))
    revert H; refine bdI ?_; rintro ⟨t11_0, t11_1, t11_2⟩ A11 H
    refine so rfl (op_callM (spec_l1PickInt.ok b1000 l0_0 Al0_0 cl0_0 t2_1 t2_2 ([(-1), 4] : List Int) A23_10 c23_10 _ _ _ A11) [⟨0, 0, 0, false⟩, ⟨1, 0, 0, false⟩] [2] [0, 1] 2 rfl rfl rfl rfl rfl rfl rfl rfl ?_)
    rintro _ _ _ ⟨rfl, rfl, rfl⟩
    refine nmE (en := [.sl 0 (.int .u8) Al0_0 cl0_0 l0_0 0 false, .sl 2 (.int .i64) A23_10 c23_10 ([(-1), 4] : List Int) 1 true]) (by kernel_rfl) (sv (EV.fa 2 rfl) rfl (so rfl (op_st (cs' := [.int .i64 t1_0, .int .i64 t1_1, .int .i64 t11_0]) 1 rfl rfl rfl rfl rfl rfl (re (pr [2, 3] [0, 1, 2] [0] rfl rfl rfl rfl (ge (gs (rg (sv (EV.ld (v := .agg #[.int .i64 t1_0, .int .i64 t1_1, .int .i64 t11_0]) 1 (some 3) rfl rfl rfl) rfl (so rfl (op_st (cs' := [.int .i64 t1_0, .int .i64 t1_1, .int .i64 t11_0]) 0 rfl rfl rfl rfl rfl rfl (re ?_))))))))))))
    cases H
    exact rt Try.func101 rfl (.cell 0 (some 3) rfl rfl rfl .nil) rfl [2] [] rfl rfl rfl rfl rfl ⟨rfl, rfl, rfl⟩
   ·
    refine gf rfl (dF c9) (gk (ge (gs (rg (sv (EV.ld (v := .agg #[.int .i64 t1_0, .int .i64 t1_1, .int .i64 t1_2]) 1 (some 3) rfl rfl rfl) rfl (so rfl (op_st (cs' := [.int .i64 t1_0, .int .i64 t1_1, .int .i64 t1_2]) 0 rfl rfl rfl rfl rfl rfl (re (pr [2] [0, 2] [0] rfl rfl rfl rfl ?_)))))))))
    cases H
    exact rt Try.func101 rfl (.cell 0 (some 3) rfl rfl rfl .nil) rfl [1] [] rfl rfl rfl rfl rfl ⟨rfl, rfl, rfl⟩
end Go.Proofs.Ytamjndlkompeeaa.K
namespace Go.Proofs.Ytamjndlkompeeaa.K
open Go Go.RowKit
set_option linter.unusedVariables false
set_option linter.unusedSimpArgs false
def spec_l1Once.f (l0_0 : List Int) (a0_1 : Int) (a0_2 : Int) (a1 : Int) : Option (Bool × Int × Int) := (spec_l1Below.f l0_0 a0_1 a0_2 a1).bind fun bt1 => (some (decide (bt1.1 = 0), bt1.2.1, bt1.2.2))
set_option maxHeartbeats 4000000 in
set_option maxRecDepth 100000 in
theorem spec_l1Once.ok (b1000 : Nat) (l0_0 : List Int) (Al0_0 : Option Addr) (cl0_0 : Nat) (a0_1 : Int) (a0_2 : Int) (a1 : Int) (r0 : Bool) (r1 : Int) (r2 : Int) (H : spec_l1Once.f l0_0 a0_1 a0_2 a1 = some (r0, r1, r2)) : Fn Try.prog 63 [.pointer (some ⟨b1000, 0, none⟩), .int .i64 a1] [⟨b1000, 119, [.slice Al0_0 l0_0.length cl0_0, .int .i64 a0_1, .int .i64 a0_2]⟩] [.sl 0 (.int .u8) Al0_0 cl0_0 l0_0 0 false] (fun v bx en => v = .bool r0 ∧ bx = [⟨b1000, 119, [.slice Al0_0 l0_0.length cl0_0, .int .i64 r1, .int .i64 r2]⟩] ∧ en = []) := by
 refine fn_ 9 Try.func63 rfl rfl rfl (fun base T w0 => ?_)
 rw [spec_l1Once.f] at H
 refine gs (rg (sv (EV.as rfl) rfl (re (gs (rg (sv (EV.mv rfl) rfl (sv (EV.mv rfl) rfl ?_)))))))
 revert H; refine bdI ?_; rintro ⟨t1_0, t1_1, t1_2⟩ A1 H
 refine so rfl (op_callM (spec_l1Below.ok b1000 l0_0 Al0_0 cl0_0 a0_1 a0_2 a1 _ _ _ A1) [⟨0, 0, 0, false⟩] [0] [] 1 rfl rfl rfl rfl rfl rfl rfl rfl ?_)
 rintro _ _ _ ⟨rfl, rfl, rfl⟩
 refine nmE (en := [.sl 0 (.int .u8) Al0_0 cl0_0 l0_0 0 false]) (by kernel_rfl) (sv (EV.eql rfl rfl) rfl (sv (EV.as rfl) rfl (re (pr [4] [0] [0] rfl rfl rfl rfl ?_))))
 cases H
 exact rt Try.func63 rfl (.tmp rfl .nil) rfl [0] [] rfl rfl rfl rfl rfl ⟨rfl, rfl, rfl⟩
end Go.Proofs.Ytamjndlkompeeaa.K
namespace Go.Proofs.Ytamjndlkompeeaa.K
open Go Go.RowKit
set_option linter.unusedVariables false
set_option linter.unusedSimpArgs false
def spec_l16Draw.l0 : Nat → Int → Int → Int → Int → (List S99) → (List S99) → (List Bool) → Int → Int → (List S99) → (List S99) → (List Bool) → Int → (List Int) → Option (Int × (List S99) × (List S99) × (List Bool) × Int × Int × Int)
 | 0, _, _, _, _, _, _, _, _, _, _, _, _, _, _ => none
 | k + 1, x2_8, x2_1000_1, x2_1000_2, x2_4_0, x2_4_1, x2_4_2, x2_4_3, x2_4_4, x2_6_0, x2_6_1, x2_6_2, x2_6_3, x2_6_4, l0_0 => if x2_8 < (x2_6_3.length : Int) then (if 0 ≤ x2_8 then ((spec_l1Once.f l0_0 x2_1000_1 x2_1000_2 4).bind fun bt10 => (spec_l16Draw.l0 k (wrap64 (x2_8 + 1)) bt10.2.1 bt10.2.2 x2_4_0 x2_4_1 x2_4_2 x2_4_3 x2_4_4 x2_6_0 x2_6_1 x2_6_2 (x2_6_3.set x2_8.toNat bt10.1) x2_6_4 l0_0)) else none) else (some (x2_6_0, x2_6_1, x2_6_2, x2_6_3, x2_6_4, x2_1000_1, x2_1000_2))
def spec_l16Draw.f (k : Nat) (l0_0 : List Int) (a0_1 : Int) (a0_2 : Int) (a1 : Int) : Option (Int × (List S99) × (List S99) × (List Bool) × Int × Int × Int) := (spec_l2Rows.f k l0_0 a0_1 a0_2 a1).bind fun bt1 => ((spec_l1Below.f l0_0 bt1.2.1 bt1.2.2 4).bind fun bt2 => ((spec_l2Rows.f k l0_0 bt2.2.1 bt2.2.2 a1).bind fun bt3 => ((spec_NewTask.f k (wrap64 (1 + bt2.1)) bt1.1 bt3.1).bind fun bt4 => ((spec_l1Once.f l0_0 bt3.2.1 bt3.2.2 3).bind fun bt5 => (if bt5.1 = true then ((spec_l1Below.f l0_0 bt5.2.1 bt5.2.2 5).bind fun bt7 => (spec_l16Draw.l0 k 0 bt7.2.1 bt7.2.2 0 [] [] [] 0 bt4.1 bt4.2.1 bt4.2.2.1 bt4.2.2.2.1 bt7.1 l0_0)) else (some (bt4.1, bt4.2.1, bt4.2.2.1, bt4.2.2.2.1, bt4.2.2.2.2.1, bt5.2.1, bt5.2.2)))))))
set_option maxHeartbeats 4000000 in
set_option maxRecDepth 100000 in
theorem spec_l16Draw.ok (k : Nat) (b1000 : Nat) (l0_0 : List Int) (Al0_0 : Option Addr) (cl0_0 : Nat) (a0_1 : Int) (a0_2 : Int) (a1 : Int) (r0 : Int) (r1 : List S99) (r2 : List S99) (r3 : List Bool) (r4 : Int) (r5 : Int) (r6 : Int) (H : spec_l16Draw.f k l0_0 a0_1 a0_2 a1 = some (r0, r1, r2, r3, r4, r5, r6)) : Fn Try.prog 62 [.pointer (some ⟨b1000, 0, none⟩), .int .i64 a1] [⟨b1000, 119, [.slice Al0_0 l0_0.length cl0_0, .int .i64 a0_1, .int .i64 a0_2]⟩] [.sl 0 (.int .u8) Al0_0 cl0_0 l0_0 0 false] (fun v bx en => ∃ A1 c1 A2 c2 A3 c3, v = .agg #[.int .i64 r0, .slice A1 r1.length c1, .slice A2 r2.length c2, .slice A3 r3.length c3, .int .i64 r4] ∧ bx = [⟨b1000, 119, [.slice Al0_0 l0_0.length cl0_0, .int .i64 r5, .int .i64 r6]⟩] ∧ en = [.sl 2 k99 A1 c1 r1 1 true, .sl 2 k99 A2 c2 r2 2 true, .sl 2 .bool A3 c3 r3 3 true]) := by
 refine fn_ 42 Try.func62 rfl rfl rfl (fun base T w0 => ?_)
 rw [spec_l16Draw.f] at H
 refine gs (rg (so rfl (op_alloc (cs := [.int .i64 0, .slice none 0 0, .slice none 0 0, .slice none 0 0, .int .i64 0]) (by kernel_rfl) rfl fun b4 => (re (gs (rg (sv (EV.mv rfl) rfl (sv (EV.mv rfl) rfl ?_))))))))
 revert H; refine bdI ?_; rintro ⟨t1_0, t1_1, t1_2⟩ A1 H
 refine so rfl (op_callM (spec_l2Rows.ok k b1000 l0_0 Al0_0 cl0_0 a0_1 a0_2 a1 _ _ _ A1) [⟨0, 0, 0, false⟩] [0] [1] 1 rfl rfl rfl rfl rfl rfl rfl rfl ?_)
 rintro _ _ _ ⟨At1_0, ct1_0, rfl, rfl, rfl⟩
 refine nmE (en := [.sl 0 (.int .u8) Al0_0 cl0_0 l0_0 0 false, .sl 2 k99 At1_0 ct1_0 t1_0 2 true]) (by kernel_rfl) (sv (EV.as rfl) rfl (re (gs (rg (sv (EV.mv rfl) rfl ?_)))))
 revert H; refine bdI ?_; rintro ⟨t2_0, t2_1, t2_2⟩ A2 H
 refine so rfl (op_callM (spec_l1Below.ok b1000 l0_0 Al0_0 cl0_0 t1_1 t1_2 4 _ _ _ A2) [⟨0, 0, 0, false⟩] [1] [0] 3 rfl rfl rfl rfl rfl rfl rfl rfl ?_)
 rintro _ _ _ ⟨rfl, rfl, rfl⟩
 refine nmE (en := [.sl 0 (.int .u8) Al0_0 cl0_0 l0_0 0 false, .sl 2 k99 At1_0 ct1_0 t1_0 2 true]) (by kernel_rfl) (sv (EV.add rfl rfl) rfl (sv (EV.mv rfl) rfl (sv (EV.mv rfl) rfl (sv (EV.mv rfl) rfl ?_))))
 revert H; refine bdI ?_; rintro ⟨t3_0, t3_1, t3_2⟩ A3 H
 refine so rfl (op_callM (spec_l2Rows.ok k b1000 l0_0 Al0_0 cl0_0 t2_1 t2_2 a1 _ _ _ A3) [⟨0, 0, 0, false⟩] [1] [0] 3 rfl rfl rfl rfl rfl rfl rfl rfl ?_)
 rintro _ _ _ ⟨At3_0, ct3_0, rfl, rfl, rfl⟩
 refine nmE (en := [.sl 0 (.int .u8) Al0_0 cl0_0 l0_0 0 false, .sl 2 k99 At1_0 ct1_0 t1_0 2 true, .sl 2 k99 At3_0 ct3_0 t3_0 4 true]) (by kernel_rfl) ?_
 revert H; refine bdI ?_; rintro ⟨t4_0, t4_1, t4_2, t4_3, t4_4, t4_5⟩ A4 H
 refine so rfl (op_call (spec_NewTask.ok k (wrap64 (1 + t2_0)) t1_0 At1_0 ct1_0 t3_0 At3_0 ct3_0 _ _ _ _ _ _ A4) [⟨1, 0, 0, false⟩, ⟨2, 0, 0, false⟩] 5 rfl rfl rfl rfl rfl ?_)
 rintro _ _ _ ⟨At4_1, ct4_1, At4_2, ct4_2, At4_3, ct4_3, rfl, rfl, rfl⟩
 refine sv (EV.mv rfl) rfl (sv (EV.ex rfl rfl) rfl (sv (EV.ex rfl rfl) rfl (so rfl (op_alloc (cs := [.int .i64 0, .slice none 0 0, .slice none 0 0, .slice none 0 0, .int .i64 0]) (by kernel_rfl) rfl fun b6 => (so rfl (op_st (cs' := [.int .i64 t4_0, .slice At4_1 t4_1.length ct4_1, .slice At4_2 t4_2.length ct4_2, .slice At4_3 t4_3.length ct4_3, .int .i64 t4_4]) 2 rfl rfl rfl rfl rfl rfl (sv (EV.as rfl) rfl (re (pr [0, 4, 6] [0, 1, 2] [0, 3, 4, 5] rfl rfl rfl rfl (gs (gs (rg (sv (EV.mv rfl) rfl ?_)))))))))))))
 revert H; refine bdI ?_; rintro ⟨t5_0, t5_1, t5_2⟩ A5 H
 refine so rfl (op_callM (spec_l1Once.ok b1000 l0_0 Al0_0 cl0_0 t3_1 t3_2 3 _ _ _ A5) [⟨0, 0, 0, false⟩] [1] [0, 2] 9 rfl rfl rfl rfl rfl rfl rfl rfl ?_)
 rintro _ _ _ ⟨rfl, rfl, rfl⟩
 refine nmE (en := [.sl 0 (.int .u8) Al0_0 cl0_0 l0_0 0 false, .sl 2 k99 At4_1 ct4_1 t4_1 6 true, .sl 2 k99 At4_2 ct4_2 t4_2 7 true, .sl 2 .bool At4_3 ct4_3 t4_3 8 true]) (by kernel_rfl) (re ?_)
 revert H; refine ifsI ?_ ?_ <;> intro c6 H
 ·
  subst c6
  refine gt rfl rfl (gs (rg (sv (EV.mv rfl) rfl ?_)))
  revert H; refine bdI ?_; rintro ⟨t7_0, t7_1, t7_2⟩ A7 H
  refine so rfl (op_callM (spec_l1Below.ok b1000 l0_0 Al0_0 cl0_0 t5_1 t5_2 5 _ _ _ A7) [⟨0, 0, 0, false⟩] [2] [0, 1] 9 rfl rfl rfl rfl rfl rfl rfl rfl ?_)
  rintro _ _ _ ⟨rfl, rfl, rfl⟩
  refine nmE (en := [.sl 0 (.int .u8) Al0_0 cl0_0 l0_0 0 false, .sl 2 k99 At4_1 ct4_1 t4_1 6 true, .sl 2 k99 At4_2 ct4_2 t4_2 7 true, .sl 2 .bool At4_3 ct4_3 t4_3 8 true]) (by kernel_rfl) (sv (EV.fa 4 rfl) rfl (so rfl (op_st (cs' := [.int .i64 t4_0, .slice At4_1 t4_1.length ct4_1, .slice At4_2 t4_2.length ct4_2, .slice At4_3 t4_3.length ct4_3, .int .i64 t7_0]) 1 rfl rfl rfl rfl rfl rfl (re (gs (rg (sv (EV.as rfl) rfl (re (gb (nil_ k99 9 dq (nil_ k99 10 dq (nil_ .bool 11 dq ?_))))))))))))
  refine lo (fun kk S => ∃ (x2_8 : Int) (x2_1000_1 : Int) (x2_1000_2 : Int) (x2_4_0 : Int) (x2_4_1 : List S99) (Ax2_4_1 : Option Addr) (cx2_4_1 : Nat) (x2_4_2 : List S99) (Ax2_4_2 : Option Addr) (cx2_4_2 : Nat) (x2_4_3 : List Bool) (Ax2_4_3 : Option Addr) (cx2_4_3 : Nat) (x2_4_4 : Int) (x2_6_0 : Int) (x2_6_1 : List S99) (Ax2_6_1 : Option Addr) (cx2_6_1 : Nat) (x2_6_2 : List S99) (Ax2_6_2 : Option Addr) (cx2_6_2 : Nat) (x2_6_3 : List Bool) (Ax2_6_3 : Option Addr) (cx2_6_3 : Nat) (x2_6_4 : Int), spec_l16Draw.l0 kk x2_8 x2_1000_1 x2_1000_2 x2_4_0 x2_4_1 x2_4_2 x2_4_3 x2_4_4 x2_6_0 x2_6_1 x2_6_2 x2_6_3 x2_6_4 l0_0 = some (r0, r1, r2, r3, r4, r5, r6) ∧ S = ⟨[(0, .pointer (some ⟨b1000, 0, none⟩)), (4, .pointer (some ⟨b4, 0, none⟩)), (6, .pointer (some ⟨b6, 0, none⟩)), (8, .int .i64 x2_8)], [⟨b1000, 119, [.slice Al0_0 l0_0.length cl0_0, .int .i64 x2_1000_1, .int .i64 x2_1000_2]⟩, ⟨b4, 27, [.int .i64 x2_4_0, .slice Ax2_4_1 x2_4_1.length cx2_4_1, .slice Ax2_4_2 x2_4_2.length cx2_4_2, .slice Ax2_4_3 x2_4_3.length cx2_4_3, .int .i64 x2_4_4]⟩, ⟨b6, 27, [.int .i64 x2_6_0, .slice Ax2_6_1 x2_6_1.length cx2_6_1, .slice Ax2_6_2 x2_6_2.length cx2_6_2, .slice Ax2_6_3 x2_6_3.length cx2_6_3, .int .i64 x2_6_4]⟩], [.sl 2 k99 Ax2_4_1 cx2_4_1 x2_4_1 1 true, .sl 2 k99 Ax2_4_2 cx2_4_2 x2_4_2 2 true, .sl 2 .bool Ax2_4_3 cx2_4_3 x2_4_3 3 true, .sl 2 k99 Ax2_6_1 cx2_6_1 x2_6_1 4 true, .sl 2 k99 Ax2_6_2 cx2_6_2 x2_6_2 5 true, .sl 2 .bool Ax2_6_3 cx2_6_3 x2_6_3 6 true, .sl 0 (.int .u8) Al0_0 cl0_0 l0_0 0 false]⟩) (fun S hS => ?_) (fun n0 ih0 S hS => ?_) ⟨0, t7_1, t7_2, 0, [], none, 0, [], none, 0, [], none, 0, 0, t4_0, t4_1, At4_1, ct4_1, t4_2, At4_2, ct4_2, t4_3, At4_3, ct4_3, t7_0, H, rfl⟩ (fun h => wk [0, 4, 6, 8] [2, 0, 1] [⟨4, 2, 1, true⟩, ⟨5, 2, 2, true⟩, ⟨6, 2, 3, true⟩, ⟨1, 2, 4, true⟩, ⟨2, 2, 5, true⟩, ⟨3, 2, 6, true⟩, ⟨0, 0, 0, false⟩] h)
  · clear H; obtain ⟨_, _, _, _, _, _, _, _, _, _, _, _, _, _, _, _, _, _, _, _, _, _, _, _, _, H, _⟩ := hS; rw [spec_l16Draw.l0] at H; cases H
  clear H
  obtain ⟨x2_8, x2_1000_1, x2_1000_2, x2_4_0, x2_4_1, Ax2_4_1, cx2_4_1, x2_4_2, Ax2_4_2, cx2_4_2, x2_4_3, Ax2_4_3, cx2_4_3, x2_4_4, x2_6_0, x2_6_1, Ax2_6_1, cx2_6_1, x2_6_2, Ax2_6_2, cx2_6_2, x2_6_3, Ax2_6_3, cx2_6_3, x2_6_4, H, rfl⟩ := hS
  rw [spec_l16Draw.l0] at H
  refine gs (gs (rg (sv (EV.mv rfl) rfl (sv (EV.fa 3 rfl) rfl (sv (EV.ld 2 none rfl rfl rfl) rfl (sv (EV.ln rfl) rfl (sv (EV.lss rfl rfl) rfl (re ?_))))))))
  revert H; refine ifsI ?_ ?_ <;> intro c8 H
  ·
   refine gt rfl (dT c8) (gk (gs (gb ?_)))
   revert H; refine ggI ?_; intro g9 H
   refine dr [] [0, 1, 2, 3, 4, 5, 6] [5, 6] 7 rfl rfl rfl rfl (xv 0 [] [0, 1, 2, 3, 4, 5, 6] rfl (EV.fa 3 rfl) rfl rfl rfl rfl (xv 2 [] [0, 1, 2, 3, 4, 5, 6] rfl (EV.mv rfl) rfl rfl rfl rfl (xv 3 [] [0, 1, 2, 3, 4, 5, 6] rfl (EV.mv rfl) rfl rfl rfl rfl ?_)))
   refine one2 1 4 rfl rfl rfl rfl ?_ ?_
   ·
    refine ov (EV.ld 2 none rfl rfl rfl) rfl (xs [] [0, 1, 2, 3, 4, 5, 6] rfl rfl rfl (one1 4 rfl rfl ?_))
    revert H; refine bdI ?_; rintro ⟨t10_0, t10_1, t10_2⟩ A10 H
    refine op_callM (spec_l1Once.ok b1000 l0_0 Al0_0 cl0_0 x2_1000_1 x2_1000_2 4 _ _ _ A10) [⟨6, 0, 0, false⟩] [0] [1, 2] 7 rfl rfl rfl rfl rfl rfl rfl rfl ?_
    rintro _ _ _ ⟨rfl, rfl, rfl⟩
    exact nmE (en := [.sl 2 k99 Ax2_4_1 cx2_4_1 x2_4_1 1 true, .sl 2 k99 Ax2_4_2 cx2_4_2 x2_4_2 2 true, .sl 2 .bool Ax2_4_3 cx2_4_3 x2_4_3 3 true, .sl 2 k99 Ax2_6_1 cx2_6_1 x2_6_1 4 true, .sl 2 k99 Ax2_6_2 cx2_6_2 x2_6_2 5 true, .sl 2 .bool Ax2_6_3 cx2_6_3 x2_6_3 6 true, .sl 0 (.int .u8) Al0_0 cl0_0 l0_0 0 false]) (by kernel_rfl) (xs [] [0, 1, 2, 3, 4, 5, 6] rfl rfl rfl (one1 5 rfl rfl (ov (EV.ix 5 rfl rfl rfl g9 c8 rfl) rfl (xn rfl (one1 6 rfl rfl (op_stf x2_8 0 5 false t10_0 rfl rfl rfl rfl g9 c8 rfl rfl rfl rfl dq rfl (rlT 30 (v' := .slice Ax2_6_3 (x2_6_3.set x2_8.toNat t10_0).length cx2_6_3) rfl (sle _ _ _ _ _) (rlT 36 (v' := .slice Ax2_6_3 (x2_6_3.set x2_8.toNat t10_0).length cx2_6_3) rfl (sle _ _ _ _ _) (rlB 1 (cs' := [.int .i64 x2_6_0, .slice Ax2_6_1 x2_6_1.length cx2_6_1, .slice Ax2_6_2 x2_6_2.length cx2_6_2, .slice Ax2_6_3 (x2_6_3.set x2_8.toNat t10_0).length cx2_6_3, .int .i64 x2_6_4]) rfl (by simp only [List.length_set]) (nmE (en := [.sl 2 k99 Ax2_4_1 cx2_4_1 x2_4_1 1 true, .sl 2 k99 Ax2_4_2 cx2_4_2 x2_4_2 2 true, .sl 2 .bool Ax2_4_3 cx2_4_3 x2_4_3 3 true, .sl 2 k99 Ax2_6_1 cx2_6_1 x2_6_1 4 true, .sl 2 k99 Ax2_6_2 cx2_6_2 x2_6_2 5 true, .sl 0 (.int .u8) Al0_0 cl0_0 l0_0 0 false, .sl 2 .bool Ax2_6_3 cx2_6_3 (x2_6_3.set x2_8.toNat t10_0) 6 true]) (by kernel_rfl) (xn rfl (xd (pr [0, 4, 6, 8] [0, 1, 2] [0, 1, 2, 3, 4, 5, 6] rfl rfl rfl rfl (ge (rg (sv (EV.mv rfl) rfl (sv (EV.add rfl rfl) rfl (sv (EV.as rfl) rfl (re (wk [0, 4, 6, 8] [2, 0, 1] [⟨0, 2, 1, true⟩, ⟨1, 2, 2, true⟩, ⟨2, 2, 3, true⟩, ⟨3, 2, 4, true⟩, ⟨4, 2, 5, true⟩, ⟨6, 2, 6, true⟩, ⟨5, 0, 0, false⟩] (ih0 _ (by omega) _ ⟨wrap64 (x2_8 + 1), t10_1, t10_2, x2_4_0, x2_4_1, Ax2_4_1, cx2_4_1, x2_4_2, Ax2_4_2, cx2_4_2, x2_4_3, Ax2_4_3, cx2_4_3, x2_4_4, x2_6_0, x2_6_1, Ax2_6_1, cx2_6_1, x2_6_2, Ax2_6_2, cx2_6_2, x2_6_3.set x2_8.toNat t10_0, Ax2_6_3, cx2_6_3, x2_6_4, H, rfl⟩)))))))))))))))))))))
   ·
    revert H; refine bdI ?_; rintro ⟨t11_0, t11_1, t11_2⟩ A11 H
    refine op_callM (spec_l1Once.ok b1000 l0_0 Al0_0 cl0_0 x2_1000_1 x2_1000_2 4 _ _ _ A11) [⟨6, 0, 0, false⟩] [0] [1, 2] 7 rfl rfl rfl rfl rfl rfl rfl rfl ?_
    rintro _ _ _ ⟨rfl, rfl, rfl⟩
    exact nmE (en := [.sl 2 k99 Ax2_4_1 cx2_4_1 x2_4_1 1 true, .sl 2 k99 Ax2_4_2 cx2_4_2 x2_4_2 2 true, .sl 2 .bool Ax2_4_3 cx2_4_3 x2_4_3 3 true, .sl 2 k99 Ax2_6_1 cx2_6_1 x2_6_1 4 true, .sl 2 k99 Ax2_6_2 cx2_6_2 x2_6_2 5 true, .sl 2 .bool Ax2_6_3 cx2_6_3 x2_6_3 6 true, .sl 0 (.int .u8) Al0_0 cl0_0 l0_0 0 false]) (by kernel_rfl) (xs [] [0, 1, 2, 3, 4, 5, 6] rfl rfl rfl (one1 1 rfl rfl (ov (EV.ld 1 none rfl rfl rfl) rfl (xs [] [0, 1, 2, 3, 4, 5, 6] rfl rfl rfl (one1 5 rfl rfl (ov (EV.ix 5 rfl rfl rfl g9 c8 rfl) rfl (xn rfl (one1 6 rfl rfl (op_stf x2_8 0 5 false t11_0 rfl rfl rfl rfl g9 c8 rfl rfl rfl rfl dq rfl (rlT 30 (v' := .slice Ax2_6_3 (x2_6_3.set x2_8.toNat t11_0).length cx2_6_3) rfl (sle _ _ _ _ _) (rlT 36 (v' := .slice Ax2_6_3 (x2_6_3.set x2_8.toNat t11_0).length cx2_6_3) rfl (sle _ _ _ _ _) (rlB 1 (cs' := [.int .i64 x2_6_0, .slice Ax2_6_1 x2_6_1.length cx2_6_1, .slice Ax2_6_2 x2_6_2.length cx2_6_2, .slice Ax2_6_3 (x2_6_3.set x2_8.toNat t11_0).length cx2_6_3, .int .i64 x2_6_4]) rfl (by simp only [List.length_set]) (nmE (en := [.sl 2 k99 Ax2_4_1 cx2_4_1 x2_4_1 1 true, .sl 2 k99 Ax2_4_2 cx2_4_2 x2_4_2 2 true, .sl 2 .bool Ax2_4_3 cx2_4_3 x2_4_3 3 true, .sl 2 k99 Ax2_6_1 cx2_6_1 x2_6_1 4 true, .sl 2 k99 Ax2_6_2 cx2_6_2 x2_6_2 5 true, .sl 0 (.int .u8) Al0_0 cl0_0 l0_0 0 false, .sl 2 .bool Ax2_6_3 cx2_6_3 (x2_6_3.set x2_8.toNat t11_0) 6 true]) (by kernel_rfl) (xn rfl (xd (pr [0, 4, 6, 8] [0, 1, 2] [0, 1, 2, 3, 4, 5, 6] rfl rfl rfl rfl (ge (rg (sv (EV.mv rfl) rfl (sv (EV.add rfl rfl) rfl (sv (EV.as rfl) rfl (re (wk [0, 4, 6, 8] [2, 0, 1] [⟨0, 2, 1, true⟩, ⟨1, 2, 2, true⟩, ⟨2, 2, 3, true⟩, ⟨3, 2, 4, true⟩, ⟨4, 2, 5, true⟩, ⟨6, 2, 6, true⟩, ⟨5, 0, 0, false⟩] (ih0 _ (by omega) _ ⟨wrap64 (x2_8 + 1), t11_1, t11_2, x2_4_0, x2_4_1, Ax2_4_1, cx2_4_1, x2_4_2, Ax2_4_2, cx2_4_2, x2_4_3, Ax2_4_3, cx2_4_3, x2_4_4, x2_6_0, x2_6_1, Ax2_6_1, cx2_6_1, x2_6_2, Ax2_6_2, cx2_6_2, x2_6_3.set x2_8.toNat t11_0, Ax2_6_3, cx2_6_3, x2_6_4, H, rfl⟩))))))))))))))))))))))))
  ·
   refine gf rfl (dF c8) (gx rfl (gs (rg (sv (EV.ld (v := .agg #[.int .i64 x2_6_0, .slice Ax2_6_1 x2_6_1.length cx2_6_1, .slice Ax2_6_2 x2_6_2.length cx2_6_2, .slice Ax2_6_3 x2_6_3.length cx2_6_3, .int .i64 x2_6_4]) 2 (some 5) rfl rfl rfl) rfl (so rfl (op_st (cs' := [.int .i64 x2_6_0, .slice Ax2_6_1 x2_6_1.length cx2_6_1, .slice Ax2_6_2 x2_6_2.length cx2_6_2, .slice Ax2_6_3 x2_6_3.length cx2_6_3, .int .i64 x2_6_4]) 1 rfl rfl rfl rfl rfl rfl (re (pr [4] [0, 1] [3, 4, 5, 6] rfl rfl rfl rfl ?_))))))))
   cases H
   exact rt Try.func62 rfl (.cell 1 (some 5) rfl rfl rfl .nil) rfl [0] [⟨0, 2, 1, true⟩, ⟨1, 2, 2, true⟩, ⟨2, 2, 3, true⟩] rfl rfl rfl rfl rfl ⟨_, _, _, _, _, _, rfl, rfl, rfl⟩
 ·
  obtain rfl := bF c6
  refine gf rfl rfl (gk (gs (rg (sv (EV.ld (v := .agg #[.int .i64 t4_0, .slice At4_1 t4_1.length ct4_1, .slice At4_2 t4_2.length ct4_2, .slice At4_3 t4_3.length ct4_3, .int .i64 t4_4]) 1 (some 5) rfl rfl rfl) rfl (so rfl (op_st (cs' := [.int .i64 t4_0, .slice At4_1 t4_1.length ct4_1, .slice At4_2 t4_2.length ct4_2, .slice At4_3 t4_3.length ct4_3, .int .i64 t4_4]) 0 rfl rfl rfl rfl rfl rfl (re ?_)))))))
  cases H
  exact rt Try.func62 rfl (.cell 0 (some 5) rfl rfl rfl .nil) rfl [2] [⟨1, 2, 1, true⟩, ⟨2, 2, 2, true⟩, ⟨3, 2, 3, true⟩] rfl rfl rfl rfl rfl ⟨_, _, _, _, _, _, rfl, rfl, rfl⟩
end Go.Proofs.Ytamjndlkompeeaa.K
namespace Go.Proofs.Ytamjndlkompeeaa.K
open Go Go.RowKit
set_option linter.unusedVariables false
set_option linter.unusedSimpArgs false
def spec_l16Any.f (k : Nat) (l0_0 : List Int) (a0_1 : Int) (a0_2 : Int) (a1 : Int) : Option (Int × (List S99) × (List S99) × (List Bool) × Int × Int × Int) := (spec_l16Draw.f k l0_0 a0_1 a0_2 a1).bind fun bt1 => ((spec_l1Below.f l0_0 bt1.2.2.2.2.2.1 bt1.2.2.2.2.2.2 16).bind fun bt2 => (if bt2.1 = 0 then ((spec_l1PickInt.f l0_0 bt2.2.1 bt2.2.2 ([0, 5] : List Int)).bind fun bt5 => (some (bt5.1, bt1.2.1, bt1.2.2.1, bt1.2.2.2.1, bt1.2.2.2.2.1, bt5.2.1, bt5.2.2))) else (if bt2.1 = 1 then (if bt1.2.2.2.1.length < 140737488355328 then (some (bt1.1, bt1.2.1, bt1.2.2.1, bt1.2.2.2.1 ++ ([true] : List Bool), bt1.2.2.2.2.1, bt2.2.1, bt2.2.2)) else none) else (if bt2.1 = 2 then ((spec_l1PickInt.f l0_0 bt2.2.1 bt2.2.2 ([(-1), 5] : List Int)).bind fun bt12 => (some (bt1.1, bt1.2.1, bt1.2.2.1, bt1.2.2.2.1, bt12.1, bt12.2.1, bt12.2.2))) else (if bt2.1 = 3 then (if bt1.2.1.length < 5864062014805 then ((spec_l2Any.f l0_0 bt2.2.1 bt2.2.2).bind fun bt15 => (some (bt1.1, bt1.2.1 ++ ([(⟨bt15.1, bt15.2.1, bt15.2.2.1⟩ : S99)] : List S99), bt1.2.2.1, bt1.2.2.2.1, bt1.2.2.2.2.1, bt15.2.2.2.1, bt15.2.2.2.2))) else none) else (some (bt1.1, bt1.2.1, bt1.2.2.1, bt1.2.2.2.1, bt1.2.2.2.2.1, bt2.2.1, bt2.2.2)))))))
set_option maxHeartbeats 4000000 in
set_option maxRecDepth 100000 in
theorem spec_l16Any.ok (k : Nat) (b1000 : Nat) (l0_0 : List Int) (Al0_0 : Option Addr) (cl0_0 : Nat) (a0_1 : Int) (a0_2 : Int) (a1 : Int) (r0 : Int) (r1 : List S99) (r2 : List S99) (r3 : List Bool) (r4 : Int) (r5 : Int) (r6 : Int) (H : spec_l16Any.f k l0_0 a0_1 a0_2 a1 = some (r0, r1, r2, r3, r4, r5, r6)) : Fn Try.prog 53 [.pointer (some ⟨b1000, 0, none⟩), .int .i64 a1] [⟨b1000, 119, [.slice Al0_0 l0_0.length cl0_0, .int .i64 a0_1, .int .i64 a0_2]⟩] [.sl 0 (.int .u8) Al0_0 cl0_0 l0_0 0 false] (fun v bx en => ∃ A1 c1 A2 c2 A3 c3, v = .agg #[.int .i64 r0, .slice A1 r1.length c1, .slice A2 r2.length c2, .slice A3 r3.length c3, .int .i64 r4] ∧ bx = [⟨b1000, 119, [.slice Al0_0 l0_0.length cl0_0, .int .i64 r5, .int .i64 r6]⟩] ∧ en = [.sl 2 k99 A1 c1 r1 1 true, .sl 2 k99 A2 c2 r2 2 true, .sl 2 .bool A3 c3 r3 3 true]) := by
 refine fn_ 40 Try.func53 rfl rfl rfl (fun base T w0 => ?_)
 rw [spec_l16Any.f] at H
 refine gs (rg (so rfl (op_alloc (cs := [.int .i64 0, .slice none 0 0, .slice none 0 0, .slice none 0 0, .int .i64 0]) (by kernel_rfl) rfl fun b4 => (re (gs (rg (sv (EV.mv rfl) rfl (sv (EV.mv rfl) rfl ?_))))))))
 revert H; refine bdI ?_; rintro ⟨t1_0, t1_1, t1_2, t1_3, t1_4, t1_5, t1_6⟩ A1 H
 refine so rfl (op_callM (spec_l16Draw.ok k b1000 l0_0 Al0_0 cl0_0 a0_1 a0_2 a1 _ _ _ _ _ _ _ A1) [⟨0, 0, 0, false⟩] [0] [1] 1 rfl rfl rfl rfl rfl rfl rfl rfl ?_)
 rintro _ _ _ ⟨At1_1, ct1_1, At1_2, ct1_2, At1_3, ct1_3, rfl, rfl, rfl⟩
 refine nmE (en := [.sl 0 (.int .u8) Al0_0 cl0_0 l0_0 0 false, .sl 2 k99 At1_1 ct1_1 t1_1 2 true, .sl 2 k99 At1_2 ct1_2 t1_2 3 true, .sl 2 .bool At1_3 ct1_3 t1_3 4 true]) (by kernel_rfl) (so rfl (op_alloc (cs := [.int .i64 0, .slice none 0 0, .slice none 0 0, .slice none 0 0, .int .i64 0]) (by kernel_rfl) rfl fun b5 => (so rfl (op_st (cs' := [.int .i64 t1_0, .slice At1_1 t1_1.length ct1_1, .slice At1_2 t1_2.length ct1_2, .slice At1_3 t1_3.length ct1_3, .int .i64 t1_4]) 2 rfl rfl rfl rfl rfl rfl (re (gs (gs (rg (sv (EV.mv rfl) rfl ?_)))))))))
 revert H; refine bdI ?_; rintro ⟨t2_0, t2_1, t2_2⟩ A2 H
 refine so rfl (op_callM (spec_l1Below.ok b1000 l0_0 Al0_0 cl0_0 t1_5 t1_6 16 _ _ _ A2) [⟨0, 0, 0, false⟩] [1] [0, 2] 5 rfl rfl rfl rfl rfl rfl rfl rfl ?_)
 rintro _ _ _ ⟨rfl, rfl, rfl⟩
 refine nmE (en := [.sl 0 (.int .u8) Al0_0 cl0_0 l0_0 0 false, .sl 2 k99 At1_1 ct1_1 t1_1 2 true, .sl 2 k99 At1_2 ct1_2 t1_2 3 true, .sl 2 .bool At1_3 ct1_3 t1_3 4 true]) (by kernel_rfl) (re (gb (gs (rg (sv (EV.eql rfl rfl) rfl (sv (EV.as rfl) rfl (re (pr [0, 4, 5, 10, 11] [0, 1, 2] [0, 1, 2, 3] rfl rfl rfl rfl ?_))))))))
 revert H; refine ifsI ?_ ?_ <;> intro c3 H
 ·
  refine gt rfl (dT c3) (rg (sv (EV.mv rfl) rfl (so rfl (op_lit (s := 1) (by_ := 8) (.int .i64) ([0, 5] : List Int) [[], []] [] 5 [.const (.int .i64 0), .const (.int .i64 5)] rfl rfl rfl rfl rfl rfl rfl rfl rfl rfl rfl rfl rfl dq rfl fun A14_4 c14_4 => ?_))))
  revert H; refine bdI ?_; rintro ⟨t5_0, t5_1, t5_2⟩ A5 H
  refine so rfl (op_callM (spec_l1PickInt.ok b1000 l0_0 Al0_0 cl0_0 t2_1 t2_2 ([0, 5] : List Int) A14_4 c14_4 _ _ _ A5) [⟨0, 0, 0, false⟩, ⟨4, 0, 0, false⟩] [2] [0, 1] 6 rfl rfl rfl rfl rfl rfl rfl rfl ?_)
  rintro _ _ _ ⟨rfl, rfl, rfl⟩
  refine nmE (en := [.sl 0 (.int .u8) Al0_0 cl0_0 l0_0 0 false, .sl 2 k99 At1_1 ct1_1 t1_1 2 true, .sl 2 k99 At1_2 ct1_2 t1_2 3 true, .sl 2 .bool At1_3 ct1_3 t1_3 4 true, .sl 2 (.int .i64) A14_4 c14_4 ([0, 5] : List Int) 5 true]) (by kernel_rfl) (sv (EV.fa 0 rfl) rfl (so rfl (op_st (cs' := [.int .i64 t5_0, .slice At1_1 t1_1.length ct1_1, .slice At1_2 t1_2.length ct1_2, .slice At1_3 t1_3.length ct1_3, .int .i64 t1_4]) 1 rfl rfl rfl rfl rfl rfl (re (pr [4, 5] [0, 1, 2] [0, 1, 2, 3] rfl rfl rfl rfl (ge (gs (rg (sv (EV.ld (v := .agg #[.int .i64 t5_0, .slice At1_1 t1_1.length ct1_1, .slice At1_2 t1_2.length ct1_2, .slice At1_3 t1_3.length ct1_3, .int .i64 t1_4]) 1 (some 5) rfl rfl rfl) rfl (so rfl (op_st (cs' := [.int .i64 t5_0, .slice At1_1 t1_1.length ct1_1, .slice At1_2 t1_2.length ct1_2, .slice At1_3 t1_3.length ct1_3, .int .i64 t1_4]) 0 rfl rfl rfl rfl rfl rfl (re ?_))))))))))))
  cases H
  exact rt Try.func53 rfl (.cell 0 (some 5) rfl rfl rfl .nil) rfl [2] [⟨1, 2, 1, true⟩, ⟨2, 2, 2, true⟩, ⟨3, 2, 3, true⟩] rfl rfl rfl rfl rfl ⟨_, _, _, _, _, _, rfl, rfl, rfl⟩
 ·
  refine gf rfl (dF c3) (gs (rg (sv (EV.eql rfl rfl) rfl (sv (EV.as rfl) rfl (re ?_)))))
  revert H; refine ifsI ?_ ?_ <;> intro c6 H
  ·
   refine gt rfl (dT c6) (rg (sv (EV.fa 3 rfl) rfl (sv (EV.ld 1 none rfl rfl rfl) rfl (so rfl (op_lit (s := 1) (by_ := 1) .bool ([true] : List Bool) [[]] [] 5 [.const (.bool true)] rfl rfl rfl rfl rfl rfl rfl rfl rfl rfl rfl rfl rfl dq rfl fun A21_7 c21_7 => ?_)))))
   revert H; refine ggI ?_; intro g8 H
   refine so rfl (op_app (k := .bool) (s := 1) (by_ := 1) 3 4 rfl rfl rfl rfl (ap1 g8 dq) (ap1n g8 dq) (.inl rfl) true (fun _ => .inl rfl) rfl rfl fun A22_9 c22_9 => (nmE (en := [.sl 0 (.int .u8) Al0_0 cl0_0 l0_0 0 false, .sl 2 k99 At1_1 ct1_1 t1_1 2 true, .sl 2 k99 At1_2 ct1_2 t1_2 3 true, .sl 2 .bool A21_7 c21_7 ([true] : List Bool) 5 true, .sl 2 .bool A22_9 c22_9 (t1_3 ++ ([true] : List Bool)) 4 true]) (by kernel_rfl) (sv (EV.fa 3 rfl) rfl (so rfl (op_st (cs' := [.int .i64 t1_0, .slice At1_1 t1_1.length ct1_1, .slice At1_2 t1_2.length ct1_2, .slice A22_9 (t1_3 ++ ([true] : List Bool)).length c22_9, .int .i64 t1_4]) 1 rfl rfl rfl rfl rfl rfl (re (pr [4, 5] [0, 1, 2] [0, 1, 2, 4] rfl rfl rfl rfl (ge (gs (rg (sv (EV.ld (v := .agg #[.int .i64 t1_0, .slice At1_1 t1_1.length ct1_1, .slice At1_2 t1_2.length ct1_2, .slice A22_9 (t1_3 ++ ([true] : List Bool)).length c22_9, .int .i64 t1_4]) 1 (some 5) rfl rfl rfl) rfl (so rfl (op_st (cs' := [.int .i64 t1_0, .slice At1_1 t1_1.length ct1_1, .slice At1_2 t1_2.length ct1_2, .slice A22_9 (t1_3 ++ ([true] : List Bool)).length c22_9, .int .i64 t1_4]) 0 rfl rfl rfl rfl rfl rfl (re ?_))))))))))))))
   cases H
   exact rt Try.func53 rfl (.cell 0 (some 5) rfl rfl rfl .nil) rfl [2] [⟨1, 2, 1, true⟩, ⟨2, 2, 2, true⟩, ⟨3, 2, 3, true⟩] rfl rfl rfl rfl rfl ⟨_, _, _, _, _, _, rfl, rfl, rfl⟩
  ·
   refine gf rfl (dF c6) (gs (rg (sv (EV.eql rfl rfl) rfl (sv (EV.as rfl) rfl (re ?_)))))
   revert H; refine ifsI ?_ ?_ <;> intro c10 H
   ·
    refine gt rfl (dT c10) (rg (sv (EV.mv rfl) rfl (so rfl (op_lit (s := 1) (by_ := 8) (.int .i64) ([(-1), 5] : List Int) [[], []] [] 5 [.const (.int .i64 (-1)), .const (.int .i64 5)] rfl rfl rfl rfl rfl rfl rfl rfl rfl rfl rfl rfl rfl dq rfl fun A27_11 c27_11 => ?_))))
    revert H; refine bdI ?_; rintro ⟨t12_0, t12_1, t12_2⟩ A12 H
    refine so rfl (op_callM (spec_l1PickInt.ok b1000 l0_0 Al0_0 cl0_0 t2_1 t2_2 ([(-1), 5] : List Int) A27_11 c27_11 _ _ _ A12) [⟨0, 0, 0, false⟩, ⟨4, 0, 0, false⟩] [2] [0, 1] 6 rfl rfl rfl rfl rfl rfl rfl rfl ?_)
    rintro _ _ _ ⟨rfl, rfl, rfl⟩
    refine nmE (en := [.sl 0 (.int .u8) Al0_0 cl0_0 l0_0 0 false, .sl 2 k99 At1_1 ct1_1 t1_1 2 true, .sl 2 k99 At1_2 ct1_2 t1_2 3 true, .sl 2 .bool At1_3 ct1_3 t1_3 4 true, .sl 2 (.int .i64) A27_11 c27_11 ([(-1), 5] : List Int) 5 true]) (by kernel_rfl) (sv (EV.fa 4 rfl) rfl (so rfl (op_st (cs' := [.int .i64 t1_0, .slice At1_1 t1_1.length ct1_1, .slice At1_2 t1_2.length ct1_2, .slice At1_3 t1_3.length ct1_3, .int .i64 t12_0]) 1 rfl rfl rfl rfl rfl rfl (re (pr [4, 5] [0, 1, 2] [0, 1, 2, 3] rfl rfl rfl rfl (ge (gs (rg (sv (EV.ld (v := .agg #[.int .i64 t1_0, .slice At1_1 t1_1.length ct1_1, .slice At1_2 t1_2.length ct1_2, .slice At1_3 t1_3.length ct1_3, .int .i64 t12_0]) 1 (some 5) rfl rfl rfl) rfl (so rfl (op_st (cs' := [.int .i64 t1_0, .slice At1_1 t1_1.length ct1_1, .slice At1_2 t1_2.length ct1_2, .slice At1_3 t1_3.length ct1_3, .int .i64 t12_0]) 0 rfl rfl rfl rfl rfl rfl (re ?_))))))))))))
    cases H
    exact rt Try.func53 rfl (.cell 0 (some 5) rfl rfl rfl .nil) rfl [2] [⟨1, 2, 1, true⟩, ⟨2, 2, 2, true⟩, ⟨3, 2, 3, true⟩] rfl rfl rfl rfl rfl ⟨_, _, _, _, _, _, rfl, rfl, rfl⟩
   ·
    refine gf rfl (dF c10) (gs (rg (sv (EV.eql rfl rfl) rfl (sv (EV.as rfl) rfl (re (pr [0, 4, 5, 30] [0, 1, 2] [0, 1, 2, 3] rfl rfl rfl rfl ?_))))))
    revert H; refine ifsI ?_ ?_ <;> intro c13 H
    ·
     refine gt rfl (dT c13) ?_
     revert H; refine ggI ?_; intro g14 H
     refine dr [0, 1] [0, 2, 3] [6, 7] 8 rfl rfl rfl rfl (xv 0 [0, 1] [0, 2, 3] rfl (EV.fa 1 rfl) rfl rfl rfl rfl (xv 1 [0, 1] [0, 2, 3] rfl (EV.ld 1 none rfl rfl rfl) rfl rfl rfl rfl (xv 2 [0, 1] [0, 2, 3] rfl (EV.mv rfl) rfl rfl rfl rfl (one1 3 rfl rfl ?_))))
     revert H; refine bdI ?_; rintro ⟨t15_0, t15_1, t15_2, t15_3, t15_4⟩ A15 H
     refine op_callM (spec_l2Any.ok b1000 l0_0 Al0_0 cl0_0 t2_1 t2_2 _ _ _ _ _ A15) [⟨0, 0, 0, false⟩] [2] [0, 1] 5 rfl rfl rfl rfl rfl rfl rfl rfl ?_
     rintro _ _ _ ⟨rfl, rfl, rfl⟩
     refine nmE (en := [.sl 0 (.int .u8) Al0_0 cl0_0 l0_0 0 false, .sl 2 k99 At1_1 ct1_1 t1_1 2 true, .sl 2 k99 At1_2 ct1_2 t1_2 3 true, .sl 2 .bool At1_3 ct1_3 t1_3 4 true]) (by kernel_rfl) (xs [0, 1] [0, 2, 3] rfl rfl rfl (one1 4 rfl rfl (op_lit (s := 3) (by_ := 24) k99 ([(⟨t15_0, t15_1, t15_2⟩ : S99)] : List S99) [[]] [] 5 [.tmp 35] rfl rfl rfl rfl rfl rfl rfl rfl rfl rfl rfl rfl rfl dq rfl fun A36_16 c36_16 => (xs [0, 1] [0, 2, 3] rfl rfl rfl (one1 5 rfl rfl (op_app (k := k99) (s := 3) (by_ := 24) 1 4 rfl rfl rfl rfl (ap1 g14 dq) (ap1n g14 dq) (.inl rfl) true (fun _ => .inl rfl) rfl rfl fun A37_17 c37_17 => (nmE (en := [.sl 0 (.int .u8) Al0_0 cl0_0 l0_0 0 false, .sl 2 k99 At1_2 ct1_2 t1_2 3 true, .sl 2 .bool At1_3 ct1_3 t1_3 4 true, .sl 2 k99 A36_16 c36_16 ([(⟨t15_0, t15_1, t15_2⟩ : S99)] : List S99) 5 true, .sl 2 k99 A37_17 c37_17 (t1_1 ++ ([(⟨t15_0, t15_1, t15_2⟩ : S99)] : List S99)) 2 true]) (by kernel_rfl) (xs [0, 1] [0, 1, 2] rfl rfl rfl (one1 6 rfl rfl (ov (EV.fa 1 rfl) rfl (xn rfl (one1 7 rfl rfl (op_st (cs' := [.int .i64 t1_0, .slice A37_17 (t1_1 ++ ([(⟨t15_0, t15_1, t15_2⟩ : S99)] : List S99)).length c37_17, .slice At1_2 t1_2.length ct1_2, .slice At1_3 t1_3.length ct1_3, .int .i64 t1_4]) 1 rfl rfl rfl rfl rfl rfl (xn rfl (xd (pr [4, 5] [0, 1, 2] [0, 1, 2, 4] rfl rfl rfl rfl (ge (gs (rg (sv (EV.ld (v := .agg #[.int .i64 t1_0, .slice A37_17 (t1_1 ++ ([(⟨t15_0, t15_1, t15_2⟩ : S99)] : List S99)).length c37_17, .slice At1_2 t1_2.length ct1_2, .slice At1_3 t1_3.length ct1_3, .int .i64 t1_4]) 1 (some 5) rfl rfl rfl) rfl (so rfl (op_st (cs' := [.int .i64 t1_0, .slice A37_17 (t1_1 ++ ([(⟨t15_0, t15_1, t15_2⟩ : S99)] : List S99)).length c37_17, .slice At1_2 t1_2.length ct1_2, .slice At1_3 t1_3.length ct1_3, .int .i64 t1_4]) 0 rfl rfl rfl rfl rfl rfl (re ?_)))))))))))))))))))))))
     cases H
     exact rt Try.func53 rfl (.cell 0 (some 5) rfl rfl rfl .nil) rfl [2] [⟨3, 2, 1, true⟩, ⟨1, 2, 2, true⟩, ⟨2, 2, 3, true⟩] rfl rfl rfl rfl rfl ⟨_, _, _, _, _, _, rfl, rfl, rfl⟩
    ·
     refine gf rfl (dF c13) (gk (ge (gs (rg (sv (EV.ld (v := .agg #[.int .i64 t1_0, .slice At1_1 t1_1.length ct1_1, .slice At1_2 t1_2.length ct1_2, .slice At1_3 t1_3.length ct1_3, .int .i64 t1_4]) 1 (some 5) rfl rfl rfl) rfl (so rfl (op_st (cs' := [.int .i64 t1_0, .slice At1_1 t1_1.length ct1_1, .slice At1_2 t1_2.length ct1_2, .slice At1_3 t1_3.length ct1_3, .int .i64 t1_4]) 0 rfl rfl rfl rfl rfl rfl (re ?_))))))))
     cases H
     exact rt Try.func53 rfl (.cell 0 (some 5) rfl rfl rfl .nil) rfl [2] [⟨1, 2, 1, true⟩, ⟨2, 2, 2, true⟩, ⟨3, 2, 3, true⟩] rfl rfl rfl rfl rfl ⟨_, _, _, _, _, _, rfl, rfl, rfl⟩
end Go.Proofs.Ytamjndlkompeeaa.K
namespace Go.Proofs.Ytamjndlkompeeaa.K
open Go Go.RowKit
set_option linter.unusedVariables false
set_option linter.unusedSimpArgs false
def spec_l19Joiner.l0 : Nat → Int → Int → Int → (List S27) → Int → Int → (List S27) → Int → Int → (List Int) → Option ((List S27) × Int × Int × Int × Int)
 | 0, _, _, _, _, _, _, _, _, _, _ => none
 | k + 1, x4_6, x4_1000_1, x4_1000_2, x4_2_0, x4_2_1, x4_2_2, x4_4_0, x4_4_1, x4_4_2, l0_0 => if x4_6 > 0 then ((spec_l1PickInt.f l0_0 x4_1000_1 x4_1000_2 ([8, 9, 12] : List Int)).bind fun bt8 => ((spec_StepJoiner.f k x4_4_0 x4_4_1 x4_4_2 bt8.1).bind fun bt9 => (spec_l19Joiner.l0 k (wrap64 (x4_6 - 1)) bt8.2.1 bt8.2.2 x4_2_0 x4_2_1 x4_2_2 bt9.1 bt9.2.1 bt9.2.2.1 l0_0))) else ((spec_l1Below.f l0_0 x4_1000_1 x4_1000_2 16).bind fun bt15 => (if bt15.1 = 0 then (if x4_4_0.length < 1599289640401 then ((spec_l16Any.f k l0_0 bt15.2.1 bt15.2.2 3).bind fun bt18 => (some (x4_4_0 ++ ([(⟨bt18.1, bt18.2.1, bt18.2.2.1, bt18.2.2.2.1, bt18.2.2.2.2.1⟩ : S27)] : List S27), x4_4_1, x4_4_2, bt18.2.2.2.2.2.1, bt18.2.2.2.2.2.2))) else none) else (if bt15.1 = 1 then ((spec_l1PickInt.f l0_0 bt15.2.1 bt15.2.2 ([(-1), 100001] : List Int)).bind fun bt23 => (some (x4_4_0, bt23.1, x4_4_2, bt23.2.1, bt23.2.2))) else (if bt15.1 = 2 then (some (x4_4_0, x4_4_1, (-1), bt15.2.1, bt15.2.2)) else (some (x4_4_0, x4_4_1, x4_4_2, bt15.2.1, bt15.2.2))))))
def spec_l19Joiner.f (k : Nat) (l0_0 : List Int) (a0_1 : Int) (a0_2 : Int) : Option ((List S27) × Int × Int × Int × Int) := (spec_l2Rows.f k l0_0 a0_1 a0_2 8).bind fun bt1 => ((spec_l1Below.f l0_0 bt1.2.1 bt1.2.2 4).bind fun bt2 => ((spec_l2Rows.f k l0_0 bt2.2.1 bt2.2.2 12).bind fun bt3 => ((spec_NewJoiner.f k (wrap64 (1 + bt2.1)) bt1.1 bt3.1).bind fun bt4 => ((spec_l1Below.f l0_0 bt3.2.1 bt3.2.2 6).bind fun bt5 => (spec_l19Joiner.l0 k bt5.1 bt5.2.1 bt5.2.2 [] 0 0 bt4.1 bt4.2.1 bt4.2.2.1 l0_0)))))
set_option maxHeartbeats 4000000 in
set_option maxRecDepth 100000 in
theorem spec_l19Joiner.ok (k : Nat) (b1000 : Nat) (l0_0 : List Int) (Al0_0 : Option Addr) (cl0_0 : Nat) (a0_1 : Int) (a0_2 : Int) (r0 : List S27) (r1 : Int) (r2 : Int) (r3 : Int) (r4 : Int) (H : spec_l19Joiner.f k l0_0 a0_1 a0_2 = some (r0, r1, r2, r3, r4)) : Fn Try.prog 89 [.pointer (some ⟨b1000, 0, none⟩)] [⟨b1000, 119, [.slice Al0_0 l0_0.length cl0_0, .int .i64 a0_1, .int .i64 a0_2]⟩] [.sl 0 (.int .u8) Al0_0 cl0_0 l0_0 0 false] (fun v bx en => ∃ A0 c0, v = .agg #[.slice A0 r0.length c0, .int .i64 r1, .int .i64 r2] ∧ bx = [⟨b1000, 119, [.slice Al0_0 l0_0.length cl0_0, .int .i64 r3, .int .i64 r4]⟩] ∧ en = [.sl 1 k27 A0 c0 r0 1 true]) := by
 refine fn_ 56 Try.func89 rfl rfl rfl (fun base T w0 => ?_)
 rw [spec_l19Joiner.f] at H
 refine gs (rg (so rfl (op_alloc (cs := [.slice none 0 0, .int .i64 0, .int .i64 0]) (by kernel_rfl) rfl fun b2 => (re (gs (rg (sv (EV.mv rfl) rfl ?_)))))))
 revert H; refine bdI ?_; rintro ⟨t1_0, t1_1, t1_2⟩ A1 H
 refine so rfl (op_callM (spec_l2Rows.ok k b1000 l0_0 Al0_0 cl0_0 a0_1 a0_2 8 _ _ _ A1) [⟨0, 0, 0, false⟩] [0] [1] 1 rfl rfl rfl rfl rfl rfl rfl rfl ?_)
 rintro _ _ _ ⟨At1_0, ct1_0, rfl, rfl, rfl⟩
 refine nmE (en := [.sl 0 (.int .u8) Al0_0 cl0_0 l0_0 0 false, .sl 2 k99 At1_0 ct1_0 t1_0 2 true]) (by kernel_rfl) (sv (EV.as rfl) rfl (re (gs (rg (sv (EV.mv rfl) rfl ?_)))))
 revert H; refine bdI ?_; rintro ⟨t2_0, t2_1, t2_2⟩ A2 H
 refine so rfl (op_callM (spec_l1Below.ok b1000 l0_0 Al0_0 cl0_0 t1_1 t1_2 4 _ _ _ A2) [⟨0, 0, 0, false⟩] [1] [0] 3 rfl rfl rfl rfl rfl rfl rfl rfl ?_)
 rintro _ _ _ ⟨rfl, rfl, rfl⟩
 refine nmE (en := [.sl 0 (.int .u8) Al0_0 cl0_0 l0_0 0 false, .sl 2 k99 At1_0 ct1_0 t1_0 2 true]) (by kernel_rfl) (sv (EV.add rfl rfl) rfl (sv (EV.mv rfl) rfl (sv (EV.mv rfl) rfl ?_)))
 revert H; refine bdI ?_; rintro ⟨t3_0, t3_1, t3_2⟩ A3 H
 refine so rfl (op_callM (spec_l2Rows.ok k b1000 l0_0 Al0_0 cl0_0 t2_1 t2_2 12 _ _ _ A3) [⟨0, 0, 0, false⟩] [1] [0] 3 rfl rfl rfl rfl rfl rfl rfl rfl ?_)
 rintro _ _ _ ⟨At3_0, ct3_0, rfl, rfl, rfl⟩
 refine nmE (en := [.sl 0 (.int .u8) Al0_0 cl0_0 l0_0 0 false, .sl 2 k99 At1_0 ct1_0 t1_0 2 true, .sl 2 k99 At3_0 ct3_0 t3_0 4 true]) (by kernel_rfl) ?_
 revert H; refine bdI ?_; rintro ⟨t4_0, t4_1, t4_2, t4_3⟩ A4 H
 refine so rfl (op_call (spec_NewJoiner.ok k (wrap64 (1 + t2_0)) t1_0 At1_0 ct1_0 t3_0 At3_0 ct3_0 _ _ _ _ A4) [⟨1, 0, 0, false⟩, ⟨2, 0, 0, false⟩] 5 rfl rfl rfl rfl rfl ?_)
 rintro _ _ _ ⟨At4_0, ct4_0, rfl, rfl, rfl⟩
 refine sv (EV.mv rfl) rfl (sv (EV.ex rfl rfl) rfl (sv (EV.ex rfl rfl) rfl (so rfl (op_alloc (cs := [.slice none 0 0, .int .i64 0, .int .i64 0]) (by kernel_rfl) rfl fun b4 => (so rfl (op_st (cs' := [.slice At4_0 t4_0.length ct4_0, .int .i64 t4_1, .int .i64 t4_2]) 2 rfl rfl rfl rfl rfl rfl (sv (EV.as rfl) rfl (re (pr [0, 2, 4] [0, 1, 2] [0, 3] rfl rfl rfl rfl (gs (gs (rg (sv (EV.mv rfl) rfl ?_)))))))))))))
 revert H; refine bdI ?_; rintro ⟨t5_0, t5_1, t5_2⟩ A5 H
 refine so rfl (op_callM (spec_l1Below.ok b1000 l0_0 Al0_0 cl0_0 t3_1 t3_2 6 _ _ _ A5) [⟨0, 0, 0, false⟩] [1] [0, 2] 7 rfl rfl rfl rfl rfl rfl rfl rfl ?_)
 rintro _ _ _ ⟨rfl, rfl, rfl⟩
 refine nmE (en := [.sl 0 (.int .u8) Al0_0 cl0_0 l0_0 0 false, .sl 2 k27 At4_0 ct4_0 t4_0 6 true]) (by kernel_rfl) (sv (EV.as rfl) rfl (re (gb (nil_ k27 7 dq ?_))))
 refine lo (fun kk S => ∃ (x4_6 : Int) (x4_1000_1 : Int) (x4_1000_2 : Int) (x4_2_0 : List S27) (Ax4_2_0 : Option Addr) (cx4_2_0 : Nat) (x4_2_1 : Int) (x4_2_2 : Int) (x4_4_0 : List S27) (Ax4_4_0 : Option Addr) (cx4_4_0 : Nat) (x4_4_1 : Int) (x4_4_2 : Int), spec_l19Joiner.l0 kk x4_6 x4_1000_1 x4_1000_2 x4_2_0 x4_2_1 x4_2_2 x4_4_0 x4_4_1 x4_4_2 l0_0 = some (r0, r1, r2, r3, r4) ∧ S = ⟨[(0, .pointer (some ⟨b1000, 0, none⟩)), (2, .pointer (some ⟨b2, 0, none⟩)), (4, .pointer (some ⟨b4, 0, none⟩)), (6, .int .i64 x4_6)], [⟨b1000, 119, [.slice Al0_0 l0_0.length cl0_0, .int .i64 x4_1000_1, .int .i64 x4_1000_2]⟩, ⟨b2, 60, [.slice Ax4_2_0 x4_2_0.length cx4_2_0, .int .i64 x4_2_1, .int .i64 x4_2_2]⟩, ⟨b4, 60, [.slice Ax4_4_0 x4_4_0.length cx4_4_0, .int .i64 x4_4_1, .int .i64 x4_4_2]⟩], [.sl 2 k27 Ax4_2_0 cx4_2_0 x4_2_0 1 true, .sl 1 k27 Ax4_4_0 cx4_4_0 x4_4_0 2 true, .sl 0 (.int .u8) Al0_0 cl0_0 l0_0 0 false]⟩) (fun S hS => ?_) (fun n0 ih0 S hS => ?_) ⟨t5_0, t5_1, t5_2, [], none, 0, 0, 0, t4_0, At4_0, ct4_0, t4_1, t4_2, H, rfl⟩ (fun h => wk [0, 2, 4, 6] [2, 0, 1] [⟨2, 2, 1, true⟩, ⟨1, 1, 2, true⟩, ⟨0, 0, 0, false⟩] h)
 · clear H; obtain ⟨_, _, _, _, _, _, _, _, _, _, _, _, _, H, _⟩ := hS; rw [spec_l19Joiner.l0] at H; cases H
 clear H
 obtain ⟨x4_6, x4_1000_1, x4_1000_2, x4_2_0, Ax4_2_0, cx4_2_0, x4_2_1, x4_2_2, x4_4_0, Ax4_4_0, cx4_4_0, x4_4_1, x4_4_2, H, rfl⟩ := hS
 rw [spec_l19Joiner.l0] at H
 refine gs (gs (rg (sv (EV.mv rfl) rfl (sv (EV.gtr rfl rfl) rfl (re ?_)))))
 revert H; refine ifsI ?_ ?_ <;> intro c6 H
 ·
  refine gt rfl (dT c6) (gk (gs (gb (dr [] [0, 1, 2] [10] 11 rfl rfl rfl rfl (xv 1 [] [0, 1, 2] rfl (EV.mv rfl) rfl rfl rfl rfl ?_)))))
  refine one2 0 2 rfl rfl rfl rfl ?_ ?_
  ·
   refine ov (EV.ld (v := .agg #[.slice Ax4_4_0 x4_4_0.length cx4_4_0, .int .i64 x4_4_1, .int .i64 x4_4_2]) 2 (some 3) rfl rfl rfl) rfl (xs [] [0, 1, 2] rfl rfl rfl (one1 2 rfl rfl (op_lit (s := 1) (by_ := 8) (.int .i64) ([8, 9, 12] : List Int) [[], [], []] [] 3 [.const (.int .i64 8), .const (.int .i64 9), .const (.int .i64 12)] rfl rfl rfl rfl rfl rfl rfl rfl rfl rfl rfl rfl rfl dq rfl fun A28_7 c28_7 => (xs [] [0, 1, 2] rfl rfl rfl (one1 3 rfl rfl ?_)))))
   revert H; refine bdI ?_; rintro ⟨t8_0, t8_1, t8_2⟩ A8 H
   refine op_callM (spec_l1PickInt.ok b1000 l0_0 Al0_0 cl0_0 x4_1000_1 x4_1000_2 ([8, 9, 12] : List Int) A28_7 c28_7 _ _ _ A8) [⟨2, 0, 0, false⟩, ⟨3, 0, 0, false⟩] [0] [1, 2] 4 rfl rfl rfl rfl rfl rfl rfl rfl ?_
   rintro _ _ _ ⟨rfl, rfl, rfl⟩
   refine nmE (en := [.sl 2 k27 Ax4_2_0 cx4_2_0 x4_2_0 1 true, .sl 1 k27 Ax4_4_0 cx4_4_0 x4_4_0 2 true, .sl 0 (.int .u8) Al0_0 cl0_0 l0_0 0 false, .sl 2 (.int .i64) A28_7 c28_7 ([8, 9, 12] : List Int) 3 true]) (by kernel_rfl) (xs [] [0, 1, 2] rfl rfl rfl (one1 4 rfl rfl ?_))
   revert H; refine bdI ?_; rintro ⟨t9_0, t9_1, t9_2, t9_3, t9_4, t9_5⟩ A9 H
   refine op_call (spec_StepJoiner.ok n0 x4_4_0 Ax4_4_0 cx4_4_0 x4_4_1 x4_4_2 t8_0 _ _ _ _ _ _ A9) [⟨1, 0, 0, false⟩] 4 rfl rfl rfl rfl rfl ?_
   rintro _ _ _ ⟨At9_0, ct9_0, At9_3, ct9_3, rfl, rfl, rfl⟩
   refine xs [] [0, 1, 2] rfl rfl rfl (one1 5 rfl rfl (ov (EV.mv rfl) rfl (xs [] [0, 1, 2] rfl rfl rfl ?_)))
   refine one4 6 7 8 9 rfl rfl rfl rfl rfl rfl rfl rfl ?_ ?_ ?_ ?_
   ·
    refine ov (EV.ex rfl rfl) rfl (xs [] [0, 1, 2] rfl rfl rfl ?_)
    refine one4 7 8 9 10 rfl rfl rfl rfl rfl rfl rfl rfl ?_ ?_ ?_ ?_
    ·
     refine ov (EV.ex rfl rfl) rfl (xs [] [0, 1, 2] rfl rfl rfl ?_)
     refine one3 8 9 10 rfl rfl rfl rfl rfl rfl ?_ ?_ ?_
     ·
      refine ov (EV.ex rfl rfl) rfl (xs [] [0, 1, 2] rfl rfl rfl ?_)
      refine one2 9 10 rfl rfl rfl rfl ?_ ?_
      ·
       exact ov (EV.ex rfl rfl) rfl (xs [] [0, 1, 2] rfl rfl rfl (one1 10 rfl rfl (op_st (cs' := [.slice At9_0 t9_0.length ct9_0, .int .i64 t9_1, .int .i64 t9_2]) 1 rfl rfl rfl rfl rfl rfl (xn rfl (xd (pr [0, 2, 4, 6] [0, 1, 2] [0, 2, 4] rfl rfl rfl rfl (ge (rg (sv (EV.mv rfl) rfl (sv (EV.sub rfl rfl) rfl (sv (EV.as rfl) rfl (re (wk [0, 2, 4, 6] [2, 0, 1] [⟨0, 2, 1, true⟩, ⟨2, 1, 2, true⟩, ⟨1, 0, 0, false⟩] (ih0 _ (by omega) _ ⟨wrap64 (x4_6 - 1), t8_1, t8_2, x4_2_0, Ax4_2_0, cx4_2_0, x4_2_1, x4_2_2, t9_0, At9_0, ct9_0, t9_1, t9_2, H, rfl⟩))))))))))))))
      ·
       exact op_st (cs' := [.slice At9_0 t9_0.length ct9_0, .int .i64 t9_1, .int .i64 t9_2]) 1 rfl rfl rfl rfl rfl rfl (xn rfl (one1 9 rfl rfl (ov (EV.ex rfl rfl) rfl (xs [] [0, 1, 2] rfl rfl rfl (xd (pr [0, 2, 4, 6] [0, 1, 2] [0, 2, 4] rfl rfl rfl rfl (ge (rg (sv (EV.mv rfl) rfl (sv (EV.sub rfl rfl) rfl (sv (EV.as rfl) rfl (re (wk [0, 2, 4, 6] [2, 0, 1] [⟨0, 2, 1, true⟩, ⟨2, 1, 2, true⟩, ⟨1, 0, 0, false⟩] (ih0 _ (by omega) _ ⟨wrap64 (x4_6 - 1), t8_1, t8_2, x4_2_0, Ax4_2_0, cx4_2_0, x4_2_1, x4_2_2, t9_0, At9_0, ct9_0, t9_1, t9_2, H, rfl⟩))))))))))))))
     ·
      refine ov (EV.ex rfl rfl) rfl (xs [] [0, 1, 2] rfl rfl rfl ?_)
      refine one2 8 10 rfl rfl rfl rfl ?_ ?_
      ·
       exact ov (EV.ex rfl rfl) rfl (xs [] [0, 1, 2] rfl rfl rfl (one1 10 rfl rfl (op_st (cs' := [.slice At9_0 t9_0.length ct9_0, .int .i64 t9_1, .int .i64 t9_2]) 1 rfl rfl rfl rfl rfl rfl (xn rfl (xd (pr [0, 2, 4, 6] [0, 1, 2] [0, 2, 4] rfl rfl rfl rfl (ge (rg (sv (EV.mv rfl) rfl (sv (EV.sub rfl rfl) rfl (sv (EV.as rfl) rfl (re (wk [0, 2, 4, 6] [2, 0, 1] [⟨0, 2, 1, true⟩, ⟨2, 1, 2, true⟩, ⟨1, 0, 0, false⟩] (ih0 _ (by omega) _ ⟨wrap64 (x4_6 - 1), t8_1, t8_2, x4_2_0, Ax4_2_0, cx4_2_0, x4_2_1, x4_2_2, t9_0, At9_0, ct9_0, t9_1, t9_2, H, rfl⟩))))))))))))))
      ·
       exact op_st (cs' := [.slice At9_0 t9_0.length ct9_0, .int .i64 t9_1, .int .i64 t9_2]) 1 rfl rfl rfl rfl rfl rfl (xn rfl (one1 8 rfl rfl (ov (EV.ex rfl rfl) rfl (xs [] [0, 1, 2] rfl rfl rfl (xd (pr [0, 2, 4, 6] [0, 1, 2] [0, 2, 4] rfl rfl rfl rfl (ge (rg (sv (EV.mv rfl) rfl (sv (EV.sub rfl rfl) rfl (sv (EV.as rfl) rfl (re (wk [0, 2, 4, 6] [2, 0, 1] [⟨0, 2, 1, true⟩, ⟨2, 1, 2, true⟩, ⟨1, 0, 0, false⟩] (ih0 _ (by omega) _ ⟨wrap64 (x4_6 - 1), t8_1, t8_2, x4_2_0, Ax4_2_0, cx4_2_0, x4_2_1, x4_2_2, t9_0, At9_0, ct9_0, t9_1, t9_2, H, rfl⟩))))))))))))))
     ·
      refine op_st (cs' := [.slice At9_0 t9_0.length ct9_0, .int .i64 t9_1, .int .i64 t9_2]) 1 rfl rfl rfl rfl rfl rfl (xn rfl ?_)
      refine one2 8 9 rfl rfl rfl rfl ?_ ?_
      ·
       exact ov (EV.ex rfl rfl) rfl (xs [] [0, 1, 2] rfl rfl rfl (one1 9 rfl rfl (ov (EV.ex rfl rfl) rfl (xs [] [0, 1, 2] rfl rfl rfl (xd (pr [0, 2, 4, 6] [0, 1, 2] [0, 2, 4] rfl rfl rfl rfl (ge (rg (sv (EV.mv rfl) rfl (sv (EV.sub rfl rfl) rfl (sv (EV.as rfl) rfl (re (wk [0, 2, 4, 6] [2, 0, 1] [⟨0, 2, 1, true⟩, ⟨2, 1, 2, true⟩, ⟨1, 0, 0, false⟩] (ih0 _ (by omega) _ ⟨wrap64 (x4_6 - 1), t8_1, t8_2, x4_2_0, Ax4_2_0, cx4_2_0, x4_2_1, x4_2_2, t9_0, At9_0, ct9_0, t9_1, t9_2, H, rfl⟩))))))))))))))
      ·
       exact ov (EV.ex rfl rfl) rfl (xs [] [0, 1, 2] rfl rfl rfl (one1 8 rfl rfl (ov (EV.ex rfl rfl) rfl (xs [] [0, 1, 2] rfl rfl rfl (xd (pr [0, 2, 4, 6] [0, 1, 2] [0, 2, 4] rfl rfl rfl rfl (ge (rg (sv (EV.mv rfl) rfl (sv (EV.sub rfl rfl) rfl (sv (EV.as rfl) rfl (re (wk [0, 2, 4, 6] [2, 0, 1] [⟨0, 2, 1, true⟩, ⟨2, 1, 2, true⟩, ⟨1, 0, 0, false⟩] (ih0 _ (by omega) _ ⟨wrap64 (x4_6 - 1), t8_1, t8_2, x4_2_0, Ax4_2_0, cx4_2_0, x4_2_1, x4_2_2, t9_0, At9_0, ct9_0, t9_1, t9_2, H, rfl⟩))))))))))))))
    ·
     refine ov (EV.ex rfl rfl) rfl (xs [] [0, 1, 2] rfl rfl rfl ?_)
     refine one3 7 9 10 rfl rfl rfl rfl rfl rfl ?_ ?_ ?_
     ·
      refine ov (EV.ex rfl rfl) rfl (xs [] [0, 1, 2] rfl rfl rfl ?_)
      refine one2 9 10 rfl rfl rfl rfl ?_ ?_
      ·
       exact ov (EV.ex rfl rfl) rfl (xs [] [0, 1, 2] rfl rfl rfl (one1 10 rfl rfl (op_st (cs' := [.slice At9_0 t9_0.length ct9_0, .int .i64 t9_1, .int .i64 t9_2]) 1 rfl rfl rfl rfl rfl rfl (xn rfl (xd (pr [0, 2, 4, 6] [0, 1, 2] [0, 2, 4] rfl rfl rfl rfl (ge (rg (sv (EV.mv rfl) rfl (sv (EV.sub rfl rfl) rfl (sv (EV.as rfl) rfl (re (wk [0, 2, 4, 6] [2, 0, 1] [⟨0, 2, 1, true⟩, ⟨2, 1, 2, true⟩, ⟨1, 0, 0, false⟩] (ih0 _ (by omega) _ ⟨wrap64 (x4_6 - 1), t8_1, t8_2, x4_2_0, Ax4_2_0, cx4_2_0, x4_2_1, x4_2_2, t9_0, At9_0, ct9_0, t9_1, t9_2, H, rfl⟩))))))))))))))
      ·
       exact op_st (cs' := [.slice At9_0 t9_0.length ct9_0, .int .i64 t9_1, .int .i64 t9_2]) 1 rfl rfl rfl rfl rfl rfl (xn rfl (one1 9 rfl rfl (ov (EV.ex rfl rfl) rfl (xs [] [0, 1, 2] rfl rfl rfl (xd (pr [0, 2, 4, 6] [0, 1, 2] [0, 2, 4] rfl rfl rfl rfl (ge (rg (sv (EV.mv rfl) rfl (sv (EV.sub rfl rfl) rfl (sv (EV.as rfl) rfl (re (wk [0, 2, 4, 6] [2, 0, 1] [⟨0, 2, 1, true⟩, ⟨2, 1, 2, true⟩, ⟨1, 0, 0, false⟩] (ih0 _ (by omega) _ ⟨wrap64 (x4_6 - 1), t8_1, t8_2, x4_2_0, Ax4_2_0, cx4_2_0, x4_2_1, x4_2_2, t9_0, At9_0, ct9_0, t9_1, t9_2, H, rfl⟩))))))))))))))
     ·
      refine ov (EV.ex rfl rfl) rfl (xs [] [0, 1, 2] rfl rfl rfl ?_)
      refine one2 7 10 rfl rfl rfl rfl ?_ ?_
      ·
       exact ov (EV.ex rfl rfl) rfl (xs [] [0, 1, 2] rfl rfl rfl (one1 10 rfl rfl (op_st (cs' := [.slice At9_0 t9_0.length ct9_0, .int .i64 t9_1, .int .i64 t9_2]) 1 rfl rfl rfl rfl rfl rfl (xn rfl (xd (pr [0, 2, 4, 6] [0, 1, 2] [0, 2, 4] rfl rfl rfl rfl (ge (rg (sv (EV.mv rfl) rfl (sv (EV.sub rfl rfl) rfl (sv (EV.as rfl) rfl (re (wk [0, 2, 4, 6] [2, 0, 1] [⟨0, 2, 1, true⟩, ⟨2, 1, 2, true⟩, ⟨1, 0, 0, false⟩] (ih0 _ (by omega) _ ⟨wrap64 (x4_6 - 1), t8_1, t8_2, x4_2_0, Ax4_2_0, cx4_2_0, x4_2_1, x4_2_2, t9_0, At9_0, ct9_0, t9_1, t9_2, H, rfl⟩))))))))))))))
      ·
       exact op_st (cs' := [.slice At9_0 t9_0.length ct9_0, .int .i64 t9_1, .int .i64 t9_2]) 1 rfl rfl rfl rfl rfl rfl (xn rfl (one1 7 rfl rfl (ov (EV.ex rfl rfl) rfl (xs [] [0, 1, 2] rfl rfl rfl (xd (pr [0, 2, 4, 6] [0, 1, 2] [0, 2, 4] rfl rfl rfl rfl (ge (rg (sv (EV.mv rfl) rfl (sv (EV.sub rfl rfl) rfl (sv (EV.as rfl) rfl (re (wk [0, 2, 4, 6] [2, 0, 1] [⟨0, 2, 1, true⟩, ⟨2, 1, 2, true⟩, ⟨1, 0, 0, false⟩] (ih0 _ (by omega) _ ⟨wrap64 (x4_6 - 1), t8_1, t8_2, x4_2_0, Ax4_2_0, cx4_2_0, x4_2_1, x4_2_2, t9_0, At9_0, ct9_0, t9_1, t9_2, H, rfl⟩))))))))))))))
     ·
      refine op_st (cs' := [.slice At9_0 t9_0.length ct9_0, .int .i64 t9_1, .int .i64 t9_2]) 1 rfl rfl rfl rfl rfl rfl (xn rfl ?_)
      refine one2 7 9 rfl rfl rfl rfl ?_ ?_
      ·
       exact ov (EV.ex rfl rfl) rfl (xs [] [0, 1, 2] rfl rfl rfl (one1 9 rfl rfl (ov (EV.ex rfl rfl) rfl (xs [] [0, 1, 2] rfl rfl rfl (xd (pr [0, 2, 4, 6] [0, 1, 2] [0, 2, 4] rfl rfl rfl rfl (ge (rg (sv (EV.mv rfl) rfl (sv (EV.sub rfl rfl) rfl (sv (EV.as rfl) rfl (re (wk [0, 2, 4, 6] [2, 0, 1] [⟨0, 2, 1, true⟩, ⟨2, 1, 2, true⟩, ⟨1, 0, 0, false⟩] (ih0 _ (by omega) _ ⟨wrap64 (x4_6 - 1), t8_1, t8_2, x4_2_0, Ax4_2_0, cx4_2_0, x4_2_1, x4_2_2, t9_0, At9_0, ct9_0, t9_1, t9_2, H, rfl⟩))))))))))))))
      ·
       exact ov (EV.ex rfl rfl) rfl (xs [] [0, 1, 2] rfl rfl rfl (one1 7 rfl rfl (ov (EV.ex rfl rfl) rfl (xs [] [0, 1, 2] rfl rfl rfl (xd (pr [0, 2, 4, 6] [0, 1, 2] [0, 2, 4] rfl rfl rfl rfl (ge (rg (sv (EV.mv rfl) rfl (sv (EV.sub rfl rfl) rfl (sv (EV.as rfl) rfl (re (wk [0, 2, 4, 6] [2, 0, 1] [⟨0, 2, 1, true⟩, ⟨2, 1, 2, true⟩, ⟨1, 0, 0, false⟩] (ih0 _ (by omega) _ ⟨wrap64 (x4_6 - 1), t8_1, t8_2, x4_2_0, Ax4_2_0, cx4_2_0, x4_2_1, x4_2_2, t9_0, At9_0, ct9_0, t9_1, t9_2, H, rfl⟩))))))))))))))
    ·
     refine ov (EV.ex rfl rfl) rfl (xs [] [0, 1, 2] rfl rfl rfl ?_)
     refine one3 7 8 10 rfl rfl rfl rfl rfl rfl ?_ ?_ ?_
     ·
      refine ov (EV.ex rfl rfl) rfl (xs [] [0, 1, 2] rfl rfl rfl ?_)
      refine one2 8 10 rfl rfl rfl rfl ?_ ?_
      ·
       exact ov (EV.ex rfl rfl) rfl (xs [] [0, 1, 2] rfl rfl rfl (one1 10 rfl rfl (op_st (cs' := [.slice At9_0 t9_0.length ct9_0, .int .i64 t9_1, .int .i64 t9_2]) 1 rfl rfl rfl rfl rfl rfl (xn rfl (xd (pr [0, 2, 4, 6] [0, 1, 2] [0, 2, 4] rfl rfl rfl rfl (ge (rg (sv (EV.mv rfl) rfl (sv (EV.sub rfl rfl) rfl (sv (EV.as rfl) rfl (re (wk [0, 2, 4, 6] [2, 0, 1] [⟨0, 2, 1, true⟩, ⟨2, 1, 2, true⟩, ⟨1, 0, 0, false⟩] (ih0 _ (by omega) _ ⟨wrap64 (x4_6 - 1), t8_1, t8_2, x4_2_0, Ax4_2_0, cx4_2_0, x4_2_1, x4_2_2, t9_0, At9_0, ct9_0, t9_1, t9_2, H, rfl⟩))))))))))))))
      ·
       exact op_st (cs' := [.slice At9_0 t9_0.length ct9_0, .int .i64 t9_1, .int .i64 t9_2]) 1 rfl rfl rfl rfl rfl rfl (xn rfl (one1 8 rfl rfl (ov (EV.ex rfl rfl) rfl (xs [] [0, 1, 2] rfl rfl rfl (xd (pr [0, 2, 4, 6] [0, 1, 2] [0, 2, 4] rfl rfl rfl rfl (ge (rg (sv (EV.mv rfl) rfl (sv (EV.sub rfl rfl) rfl (sv (EV.as rfl) rfl (re (wk [0, 2, 4, 6] [2, 0, 1] [⟨0, 2, 1, true⟩, ⟨2, 1, 2, true⟩, ⟨1, 0, 0, false⟩] (ih0 _ (by omega) _ ⟨wrap64 (x4_6 - 1), t8_1, t8_2, x4_2_0, Ax4_2_0, cx4_2_0, x4_2_1, x4_2_2, t9_0, At9_0, ct9_0, t9_1, t9_2, H, rfl⟩))))))))))))))
     ·
      refine ov (EV.ex rfl rfl) rfl (xs [] [0, 1, 2] rfl rfl rfl ?_)
      refine one2 7 10 rfl rfl rfl rfl ?_ ?_
      ·
       exact ov (EV.ex rfl rfl) rfl (xs [] [0, 1, 2] rfl rfl rfl (one1 10 rfl rfl (op_st (cs' := [.slice At9_0 t9_0.length ct9_0, .int .i64 t9_1, .int .i64 t9_2]) 1 rfl rfl rfl rfl rfl rfl (xn rfl (xd (pr [0, 2, 4, 6] [0, 1, 2] [0, 2, 4] rfl rfl rfl rfl (ge (rg (sv (EV.mv rfl) rfl (sv (EV.sub rfl rfl) rfl (sv (EV.as rfl) rfl (re (wk [0, 2, 4, 6] [2, 0, 1] [⟨0, 2, 1, true⟩, ⟨2, 1, 2, true⟩, ⟨1, 0, 0, false⟩] (ih0 _ (by omega) _ ⟨wrap64 (x4_6 - 1), t8_1, t8_2, x4_2_0, Ax4_2_0, cx4_2_0, x4_2_1, x4_2_2, t9_0, At9_0, ct9_0, t9_1, t9_2, H, rfl⟩))))))))))))))
      ·
       exact op_st (cs' := [.slice At9_0 t9_0.length ct9_0, .int .i64 t9_1, .int .i64 t9_2]) 1 rfl rfl rfl rfl rfl rfl (xn rfl (one1 7 rfl rfl (ov (EV.ex rfl rfl) rfl (xs [] [0, 1, 2] rfl rfl rfl (xd (pr [0, 2, 4, 6] [0, 1, 2] [0, 2, 4] rfl rfl rfl rfl (ge (rg (sv (EV.mv rfl) rfl (sv (EV.sub rfl rfl) rfl (sv (EV.as rfl) rfl (re (wk [0, 2, 4, 6] [2, 0, 1] [⟨0, 2, 1, true⟩, ⟨2, 1, 2, true⟩, ⟨1, 0, 0, false⟩] (ih0 _ (by omega) _ ⟨wrap64 (x4_6 - 1), t8_1, t8_2, x4_2_0, Ax4_2_0, cx4_2_0, x4_2_1, x4_2_2, t9_0, At9_0, ct9_0, t9_1, t9_2, H, rfl⟩))))))))))))))
     ·
      refine op_st (cs' := [.slice At9_0 t9_0.length ct9_0, .int .i64 t9_1, .int .i64 t9_2]) 1 rfl rfl rfl rfl rfl rfl (xn rfl ?_)
      refine one2 7 8 rfl rfl rfl rfl ?_ ?_
      ·
       exact ov (EV.ex rfl rfl) rfl (xs [] [0, 1, 2] rfl rfl rfl (one1 8 rfl rfl (ov (EV.ex rfl rfl) rfl (xs [] [0, 1, 2] rfl rfl rfl (xd (pr [0, 2, 4, 6] [0, 1, 2] [0, 2, 4] rfl rfl rfl rfl (ge (rg (sv (EV.mv rfl) rfl (sv (EV.sub rfl rfl) rfl (sv (EV.as rfl) rfl (re (wk [0, 2, 4, 6] [2, 0, 1] [⟨0, 2, 1, true⟩, ⟨2, 1, 2, true⟩, ⟨1, 0, 0, false⟩] (ih0 _ (by omega) _ ⟨wrap64 (x4_6 - 1), t8_1, t8_2, x4_2_0, Ax4_2_0, cx4_2_0, x4_2_1, x4_2_2, t9_0, At9_0, ct9_0, t9_1, t9_2, H, rfl⟩))))))))))))))
      ·
       exact ov (EV.ex rfl rfl) rfl (xs [] [0, 1, 2] rfl rfl rfl (one1 7 rfl rfl (ov (EV.ex rfl rfl) rfl (xs [] [0, 1, 2] rfl rfl rfl (xd (pr [0, 2, 4, 6] [0, 1, 2] [0, 2, 4] rfl rfl rfl rfl (ge (rg (sv (EV.mv rfl) rfl (sv (EV.sub rfl rfl) rfl (sv (EV.as rfl) rfl (re (wk [0, 2, 4, 6] [2, 0, 1] [⟨0, 2, 1, true⟩, ⟨2, 1, 2, true⟩, ⟨1, 0, 0, false⟩] (ih0 _ (by omega) _ ⟨wrap64 (x4_6 - 1), t8_1, t8_2, x4_2_0, Ax4_2_0, cx4_2_0, x4_2_1, x4_2_2, t9_0, At9_0, ct9_0, t9_1, t9_2, H, rfl⟩))))))))))))))
    ·
     refine op_st (cs' := [.slice At9_0 t9_0.length ct9_0, .int .i64 t9_1, .int .i64 t9_2]) 1 rfl rfl rfl rfl rfl rfl (xn rfl ?_)
     refine one3 7 8 9 rfl rfl rfl rfl rfl rfl ?_ ?_ ?_
     ·
      refine ov (EV.ex rfl rfl) rfl (xs [] [0, 1, 2] rfl rfl rfl ?_)
      refine one2 8 9 rfl rfl rfl rfl ?_ ?_
      ·
       exact ov (EV.ex rfl rfl) rfl (xs [] [0, 1, 2] rfl rfl rfl (one1 9 rfl rfl (ov (EV.ex rfl rfl) rfl (xs [] [0, 1, 2] rfl rfl rfl (xd (pr [0, 2, 4, 6] [0, 1, 2] [0, 2, 4] rfl rfl rfl rfl (ge (rg (sv (EV.mv rfl) rfl (sv (EV.sub rfl rfl) rfl (sv (EV.as rfl) rfl (re (wk [0, 2, 4, 6] [2, 0, 1] [⟨0, 2, 1, true⟩, ⟨2, 1, 2, true⟩, ⟨1, 0, 0, false⟩] (ih0 _ (by omega) _ ⟨wrap64 (x4_6 - 1), t8_1, t8_2, x4_2_0, Ax4_2_0, cx4_2_0, x4_2_1, x4_2_2, t9_0, At9_0, ct9_0, t9_1, t9_2, H, rfl⟩))))))))))))))
      ·
       exact ov (EV.ex rfl rfl) rfl (xs [] [0, 1, 2] rfl rfl rfl (one1 8 rfl rfl (ov (EV.ex rfl rfl) rfl (xs [] [0, 1, 2] rfl rfl rfl (xd (pr [0, 2, 4, 6] [0, 1, 2] [0, 2, 4] rfl rfl rfl rfl (ge (rg (sv (EV.mv rfl) rfl (sv (EV.sub rfl rfl) rfl (sv (EV.as rfl) rfl (re (wk [0, 2, 4, 6] [2, 0, 1] [⟨0, 2, 1, true⟩, ⟨2, 1, 2, true⟩, ⟨1, 0, 0, false⟩] (ih0 _ (by omega) _ ⟨wrap64 (x4_6 - 1), t8_1, t8_2, x4_2_0, Ax4_2_0, cx4_2_0, x4_2_1, x4_2_2, t9_0, At9_0, ct9_0, t9_1, t9_2, H, rfl⟩))))))))))))))
     ·
      refine ov (EV.ex rfl rfl) rfl (xs [] [0, 1, 2] rfl rfl rfl ?_)
      refine one2 7 9 rfl rfl rfl rfl ?_ ?_
      ·
       exact ov (EV.ex rfl rfl) rfl (xs [] [0, 1, 2] rfl rfl rfl (one1 9 rfl rfl (ov (EV.ex rfl rfl) rfl (xs [] [0, 1, 2] rfl rfl rfl (xd (pr [0, 2, 4, 6] [0, 1, 2] [0, 2, 4] rfl rfl rfl rfl (ge (rg (sv (EV.mv rfl) rfl (sv (EV.sub rfl rfl) rfl (sv (EV.as rfl) rfl (re (wk [0, 2, 4, 6] [2, 0, 1] [⟨0, 2, 1, true⟩, ⟨2, 1, 2, true⟩, ⟨1, 0, 0, false⟩] (ih0 _ (by omega) _ ⟨wrap64 (x4_6 - 1), t8_1, t8_2, x4_2_0, Ax4_2_0, cx4_2_0, x4_2_1, x4_2_2, t9_0, At9_0, ct9_0, t9_1, t9_2, H, rfl⟩))))))))))))))
      ·
       exact ov (EV.ex rfl rfl) rfl (xs [] [0, 1, 2] rfl rfl rfl (one1 7 rfl rfl (ov (EV.ex rfl rfl) rfl (xs [] [0, 1, 2] rfl rfl rfl (xd (pr [0, 2, 4, 6] [0, 1, 2] [0, 2, 4] rfl rfl rfl rfl (ge (rg (sv (EV.mv rfl) rfl (sv (EV.sub rfl rfl) rfl (sv (EV.as rfl) rfl (re (wk [0, 2, 4, 6] [2, 0, 1] [⟨0, 2, 1, true⟩, ⟨2, 1, 2, true⟩, ⟨1, 0, 0, false⟩] (ih0 _ (by omega) _ ⟨wrap64 (x4_6 - 1), t8_1, t8_2, x4_2_0, Ax4_2_0, cx4_2_0, x4_2_1, x4_2_2, t9_0, At9_0, ct9_0, t9_1, t9_2, H, rfl⟩))))))))))))))
     ·
      refine ov (EV.ex rfl rfl) rfl (xs [] [0, 1, 2] rfl rfl rfl ?_)
      refine one2 7 8 rfl rfl rfl rfl ?_ ?_
      ·
       exact ov (EV.ex rfl rfl) rfl (xs [] [0, 1, 2] rfl rfl rfl (one1 8 rfl rfl (ov (EV.ex rfl rfl) rfl (xs [] [0, 1, 2] rfl rfl rfl (xd (pr [0, 2, 4, 6] [0, 1, 2] [0, 2, 4] rfl rfl rfl rfl (ge (rg (sv (EV.mv rfl) rfl (sv (EV.sub rfl rfl) rfl (sv (EV.as rfl) rfl (re (wk [0, 2, 4, 6] [2, 0, 1] [⟨0, 2, 1, true⟩, ⟨2, 1, 2, true⟩, ⟨1, 0, 0, false⟩] (ih0 _ (by omega) _ ⟨wrap64 (x4_6 - 1), t8_1, t8_2, x4_2_0, Ax4_2_0, cx4_2_0, x4_2_1, x4_2_2, t9_0, At9_0, ct9_0, t9_1, t9_2, H, rfl⟩))))))))))))))
      ·
       exact ov (EV.ex rfl rfl) rfl (xs [] [0, 1, 2] rfl rfl rfl (one1 7 rfl rfl (ov (EV.ex rfl rfl) rfl (xs [] [0, 1, 2] rfl rfl rfl (xd (pr [0, 2, 4, 6] [0, 1, 2] [0, 2, 4] rfl rfl rfl rfl (ge (rg (sv (EV.mv rfl) rfl (sv (EV.sub rfl rfl) rfl (sv (EV.as rfl) rfl (re (wk [0, 2, 4, 6] [2, 0, 1] [⟨0, 2, 1, true⟩, ⟨2, 1, 2, true⟩, ⟨1, 0, 0, false⟩] (ih0 _ (by omega) _ ⟨wrap64 (x4_6 - 1), t8_1, t8_2, x4_2_0, Ax4_2_0, cx4_2_0, x4_2_1, x4_2_2, t9_0, At9_0, ct9_0, t9_1, t9_2, H, rfl⟩))))))))))))))
   ·
    refine ov (EV.ex rfl rfl) rfl (xs [] [0, 1, 2] rfl rfl rfl ?_)
    refine one3 6 8 9 rfl rfl rfl rfl rfl rfl ?_ ?_ ?_
    ·
     refine ov (EV.ex rfl rfl) rfl (xs [] [0, 1, 2] rfl rfl rfl ?_)
     refine one3 8 9 10 rfl rfl rfl rfl rfl rfl ?_ ?_ ?_
     ·
      refine ov (EV.ex rfl rfl) rfl (xs [] [0, 1, 2] rfl rfl rfl ?_)
      refine one2 9 10 rfl rfl rfl rfl ?_ ?_
      ·
       exact ov (EV.ex rfl rfl) rfl (xs [] [0, 1, 2] rfl rfl rfl (one1 10 rfl rfl (op_st (cs' := [.slice At9_0 t9_0.length ct9_0, .int .i64 t9_1, .int .i64 t9_2]) 1 rfl rfl rfl rfl rfl rfl (xn rfl (xd (pr [0, 2, 4, 6] [0, 1, 2] [0, 2, 4] rfl rfl rfl rfl (ge (rg (sv (EV.mv rfl) rfl (sv (EV.sub rfl rfl) rfl (sv (EV.as rfl) rfl (re (wk [0, 2, 4, 6] [2, 0, 1] [⟨0, 2, 1, true⟩, ⟨2, 1, 2, true⟩, ⟨1, 0, 0, false⟩] (ih0 _ (by omega) _ ⟨wrap64 (x4_6 - 1), t8_1, t8_2, x4_2_0, Ax4_2_0, cx4_2_0, x4_2_1, x4_2_2, t9_0, At9_0, ct9_0, t9_1, t9_2, H, rfl⟩))))))))))))))
      ·
       exact op_st (cs' := [.slice At9_0 t9_0.length ct9_0, .int .i64 t9_1, .int .i64 t9_2]) 1 rfl rfl rfl rfl rfl rfl (xn rfl (one1 9 rfl rfl (ov (EV.ex rfl rfl) rfl (xs [] [0, 1, 2] rfl rfl rfl (xd (pr [0, 2, 4, 6] [0, 1, 2] [0, 2, 4] rfl rfl rfl rfl (ge (rg (sv (EV.mv rfl) rfl (sv (EV.sub rfl rfl) rfl (sv (EV.as rfl) rfl (re (wk [0, 2, 4, 6] [2, 0, 1] [⟨0, 2, 1, true⟩, ⟨2, 1, 2, true⟩, ⟨1, 0, 0, false⟩] (ih0 _ (by omega) _ ⟨wrap64 (x4_6 - 1), t8_1, t8_2, x4_2_0, Ax4_2_0, cx4_2_0, x4_2_1, x4_2_2, t9_0, At9_0, ct9_0, t9_1, t9_2, H, rfl⟩))))))))))))))
     ·
      refine ov (EV.ex rfl rfl) rfl (xs [] [0, 1, 2] rfl rfl rfl ?_)
      refine one2 8 10 rfl rfl rfl rfl ?_ ?_
      ·
       exact ov (EV.ex rfl rfl) rfl (xs [] [0, 1, 2] rfl rfl rfl (one1 10 rfl rfl (op_st (cs' := [.slice At9_0 t9_0.length ct9_0, .int .i64 t9_1, .int .i64 t9_2]) 1 rfl rfl rfl rfl rfl rfl (xn rfl (xd (pr [0, 2, 4, 6] [0, 1, 2] [0, 2, 4] rfl rfl rfl rfl (ge (rg (sv (EV.mv rfl) rfl (sv (EV.sub rfl rfl) rfl (sv (EV.as rfl) rfl (re (wk [0, 2, 4, 6] [2, 0, 1] [⟨0, 2, 1, true⟩, ⟨2, 1, 2, true⟩, ⟨1, 0, 0, false⟩] (ih0 _ (by omega) _ ⟨wrap64 (x4_6 - 1), t8_1, t8_2, x4_2_0, Ax4_2_0, cx4_2_0, x4_2_1, x4_2_2, t9_0, At9_0, ct9_0, t9_1, t9_2, H, rfl⟩))))))))))))))
      ·
       exact op_st (cs' := [.slice At9_0 t9_0.length ct9_0, .int .i64 t9_1, .int .i64 t9_2]) 1 rfl rfl rfl rfl rfl rfl (xn rfl (one1 8 rfl rfl (ov (EV.ex rfl rfl) rfl (xs [] [0, 1, 2] rfl rfl rfl (xd (pr [0, 2, 4, 6] [0, 1, 2] [0, 2, 4] rfl rfl rfl rfl (ge (rg (sv (EV.mv rfl) rfl (sv (EV.sub rfl rfl) rfl (sv (EV.as rfl) rfl (re (wk [0, 2, 4, 6] [2, 0, 1] [⟨0, 2, 1, true⟩, ⟨2, 1, 2, true⟩, ⟨1, 0, 0, false⟩] (ih0 _ (by omega) _ ⟨wrap64 (x4_6 - 1), t8_1, t8_2, x4_2_0, Ax4_2_0, cx4_2_0, x4_2_1, x4_2_2, t9_0, At9_0, ct9_0, t9_1, t9_2, H, rfl⟩))))))))))))))
     ·
      refine op_st (cs' := [.slice At9_0 t9_0.length ct9_0, .int .i64 t9_1, .int .i64 t9_2]) 1 rfl rfl rfl rfl rfl rfl (xn rfl ?_)
      refine one2 8 9 rfl rfl rfl rfl ?_ ?_
      ·
       exact ov (EV.ex rfl rfl) rfl (xs [] [0, 1, 2] rfl rfl rfl (one1 9 rfl rfl (ov (EV.ex rfl rfl) rfl (xs [] [0, 1, 2] rfl rfl rfl (xd (pr [0, 2, 4, 6] [0, 1, 2] [0, 2, 4] rfl rfl rfl rfl (ge (rg (sv (EV.mv rfl) rfl (sv (EV.sub rfl rfl) rfl (sv (EV.as rfl) rfl (re (wk [0, 2, 4, 6] [2, 0, 1] [⟨0, 2, 1, true⟩, ⟨2, 1, 2, true⟩, ⟨1, 0, 0, false⟩] (ih0 _ (by omega) _ ⟨wrap64 (x4_6 - 1), t8_1, t8_2, x4_2_0, Ax4_2_0, cx4_2_0, x4_2_1, x4_2_2, t9_0, At9_0, ct9_0, t9_1, t9_2, H, rfl⟩))))))))))))))
      ·
       exact ov (EV.ex rfl rfl) rfl (xs [] [0, 1, 2] rfl rfl rfl (one1 8 rfl rfl (ov (EV.ex rfl rfl) rfl (xs [] [0, 1, 2] rfl rfl rfl (xd (pr [0, 2, 4, 6] [0, 1, 2] [0, 2, 4] rfl rfl rfl rfl (ge (rg (sv (EV.mv rfl) rfl (sv (EV.sub rfl rfl) rfl (sv (EV.as rfl) rfl (re (wk [0, 2, 4, 6] [2, 0, 1] [⟨0, 2, 1, true⟩, ⟨2, 1, 2, true⟩, ⟨1, 0, 0, false⟩] (ih0 _ (by omega) _ ⟨wrap64 (x4_6 - 1), t8_1, t8_2, x4_2_0, Ax4_2_0, cx4_2_0, x4_2_1, x4_2_2, t9_0, At9_0, ct9_0, t9_1, t9_2, H, rfl⟩))))))))))))))
    ·
     refine ov (EV.ex rfl rfl) rfl (xs [] [0, 1, 2] rfl rfl rfl ?_)
     refine one2 6 9 rfl rfl rfl rfl ?_ ?_
     ·
      refine ov (EV.ex rfl rfl) rfl (xs [] [0, 1, 2] rfl rfl rfl ?_)
      refine one2 9 10 rfl rfl rfl rfl ?_ ?_
      ·
       exact ov (EV.ex rfl rfl) rfl (xs [] [0, 1, 2] rfl rfl rfl (one1 10 rfl rfl (op_st (cs' := [.slice At9_0 t9_0.length ct9_0, .int .i64 t9_1, .int .i64 t9_2]) 1 rfl rfl rfl rfl rfl rfl (xn rfl (xd (pr [0, 2, 4, 6] [0, 1, 2] [0, 2, 4] rfl rfl rfl rfl (ge (rg (sv (EV.mv rfl) rfl (sv (EV.sub rfl rfl) rfl (sv (EV.as rfl) rfl (re (wk [0, 2, 4, 6] [2, 0, 1] [⟨0, 2, 1, true⟩, ⟨2, 1, 2, true⟩, ⟨1, 0, 0, false⟩] (ih0 _ (by omega) _ ⟨wrap64 (x4_6 - 1), t8_1, t8_2, x4_2_0, Ax4_2_0, cx4_2_0, x4_2_1, x4_2_2, t9_0, At9_0, ct9_0, t9_1, t9_2, H, rfl⟩))))))))))))))
      ·
       exact op_st (cs' := [.slice At9_0 t9_0.length ct9_0, .int .i64 t9_1, .int .i64 t9_2]) 1 rfl rfl rfl rfl rfl rfl (xn rfl (one1 9 rfl rfl (ov (EV.ex rfl rfl) rfl (xs [] [0, 1, 2] rfl rfl rfl (xd (pr [0, 2, 4, 6] [0, 1, 2] [0, 2, 4] rfl rfl rfl rfl (ge (rg (sv (EV.mv rfl) rfl (sv (EV.sub rfl rfl) rfl (sv (EV.as rfl) rfl (re (wk [0, 2, 4, 6] [2, 0, 1] [⟨0, 2, 1, true⟩, ⟨2, 1, 2, true⟩, ⟨1, 0, 0, false⟩] (ih0 _ (by omega) _ ⟨wrap64 (x4_6 - 1), t8_1, t8_2, x4_2_0, Ax4_2_0, cx4_2_0, x4_2_1, x4_2_2, t9_0, At9_0, ct9_0, t9_1, t9_2, H, rfl⟩))))))))))))))
     ·
      exact ov (EV.ex rfl rfl) rfl (xs [] [0, 1, 2] rfl rfl rfl (one1 6 rfl rfl (ov (EV.ex rfl rfl) rfl (xs [] [0, 1, 2] rfl rfl rfl (one1 10 rfl rfl (op_st (cs' := [.slice At9_0 t9_0.length ct9_0, .int .i64 t9_1, .int .i64 t9_2]) 1 rfl rfl rfl rfl rfl rfl (xn rfl (xd (pr [0, 2, 4, 6] [0, 1, 2] [0, 2, 4] rfl rfl rfl rfl (ge (rg (sv (EV.mv rfl) rfl (sv (EV.sub rfl rfl) rfl (sv (EV.as rfl) rfl (re (wk [0, 2, 4, 6] [2, 0, 1] [⟨0, 2, 1, true⟩, ⟨2, 1, 2, true⟩, ⟨1, 0, 0, false⟩] (ih0 _ (by omega) _ ⟨wrap64 (x4_6 - 1), t8_1, t8_2, x4_2_0, Ax4_2_0, cx4_2_0, x4_2_1, x4_2_2, t9_0, At9_0, ct9_0, t9_1, t9_2, H, rfl⟩)))))))))))))))))
    ·
     refine ov (EV.ex rfl rfl) rfl (xs [] [0, 1, 2] rfl rfl rfl ?_)
     refine one2 6 8 rfl rfl rfl rfl ?_ ?_
     ·
      refine ov (EV.ex rfl rfl) rfl (xs [] [0, 1, 2] rfl rfl rfl ?_)
      refine one2 8 10 rfl rfl rfl rfl ?_ ?_
      ·
       exact ov (EV.ex rfl rfl) rfl (xs [] [0, 1, 2] rfl rfl rfl (one1 10 rfl rfl (op_st (cs' := [.slice At9_0 t9_0.length ct9_0, .int .i64 t9_1, .int .i64 t9_2]) 1 rfl rfl rfl rfl rfl rfl (xn rfl (xd (pr [0, 2, 4, 6] [0, 1, 2] [0, 2, 4] rfl rfl rfl rfl (ge (rg (sv (EV.mv rfl) rfl (sv (EV.sub rfl rfl) rfl (sv (EV.as rfl) rfl (re (wk [0, 2, 4, 6] [2, 0, 1] [⟨0, 2, 1, true⟩, ⟨2, 1, 2, true⟩, ⟨1, 0, 0, false⟩] (ih0 _ (by omega) _ ⟨wrap64 (x4_6 - 1), t8_1, t8_2, x4_2_0, Ax4_2_0, cx4_2_0, x4_2_1, x4_2_2, t9_0, At9_0, ct9_0, t9_1, t9_2, H, rfl⟩))))))))))))))
      ·
       exact op_st (cs' := [.slice At9_0 t9_0.length ct9_0, .int .i64 t9_1, .int .i64 t9_2]) 1 rfl rfl rfl rfl rfl rfl (xn rfl (one1 8 rfl rfl (ov (EV.ex rfl rfl) rfl (xs [] [0, 1, 2] rfl rfl rfl (xd (pr [0, 2, 4, 6] [0, 1, 2] [0, 2, 4] rfl rfl rfl rfl (ge (rg (sv (EV.mv rfl) rfl (sv (EV.sub rfl rfl) rfl (sv (EV.as rfl) rfl (re (wk [0, 2, 4, 6] [2, 0, 1] [⟨0, 2, 1, true⟩, ⟨2, 1, 2, true⟩, ⟨1, 0, 0, false⟩] (ih0 _ (by omega) _ ⟨wrap64 (x4_6 - 1), t8_1, t8_2, x4_2_0, Ax4_2_0, cx4_2_0, x4_2_1, x4_2_2, t9_0, At9_0, ct9_0, t9_1, t9_2, H, rfl⟩))))))))))))))
     ·
      exact ov (EV.ex rfl rfl) rfl (xs [] [0, 1, 2] rfl rfl rfl (one1 6 rfl rfl (ov (EV.ex rfl rfl) rfl (xs [] [0, 1, 2] rfl rfl rfl (one1 10 rfl rfl (op_st (cs' := [.slice At9_0 t9_0.length ct9_0, .int .i64 t9_1, .int .i64 t9_2]) 1 rfl rfl rfl rfl rfl rfl (xn rfl (xd (pr [0, 2, 4, 6] [0, 1, 2] [0, 2, 4] rfl rfl rfl rfl (ge (rg (sv (EV.mv rfl) rfl (sv (EV.sub rfl rfl) rfl (sv (EV.as rfl) rfl (re (wk [0, 2, 4, 6] [2, 0, 1] [⟨0, 2, 1, true⟩, ⟨2, 1, 2, true⟩, ⟨1, 0, 0, false⟩] (ih0 _ (by omega) _ ⟨wrap64 (x4_6 - 1), t8_1, t8_2, x4_2_0, Ax4_2_0, cx4_2_0, x4_2_1, x4_2_2, t9_0, At9_0, ct9_0, t9_1, t9_2, H, rfl⟩)))))))))))))))))
   ·
    refine ov (EV.ex rfl rfl) rfl (xs [] [0, 1, 2] rfl rfl rfl ?_)
    refine one3 6 7 9 rfl rfl rfl rfl rfl rfl ?_ ?_ ?_
    ·
     refine ov (EV.ex rfl rfl) rfl (xs [] [0, 1, 2] rfl rfl rfl ?_)
     refine one3 7 9 10 rfl rfl rfl rfl rfl rfl ?_ ?_ ?_
     ·
      refine ov (EV.ex rfl rfl) rfl (xs [] [0, 1, 2] rfl rfl rfl ?_)
      refine one2 9 10 rfl rfl rfl rfl ?_ ?_
      ·
       exact ov (EV.ex rfl rfl) rfl (xs [] [0, 1, 2] rfl rfl rfl (one1 10 rfl rfl (op_st (cs' := [.slice At9_0 t9_0.length ct9_0, .int .i64 t9_1, .int .i64 t9_2]) 1 rfl rfl rfl rfl rfl rfl (xn rfl (xd (pr [0, 2, 4, 6] [0, 1, 2] [0, 2, 4] rfl rfl rfl rfl (ge (rg (sv (EV.mv rfl) rfl (sv (EV.sub rfl rfl) rfl (sv (EV.as rfl) rfl (re (wk [0, 2, 4, 6] [2, 0, 1] [⟨0, 2, 1, true⟩, ⟨2, 1, 2, true⟩, ⟨1, 0, 0, false⟩] (ih0 _ (by omega) _ ⟨wrap64 (x4_6 - 1), t8_1, t8_2, x4_2_0, Ax4_2_0, cx4_2_0, x4_2_1, x4_2_2, t9_0, At9_0, ct9_0, t9_1, t9_2, H, rfl⟩))))))))))))))
      ·
       exact op_st (cs' := [.slice At9_0 t9_0.length ct9_0, .int .i64 t9_1, .int .i64 t9_2]) 1 rfl rfl rfl rfl rfl rfl (xn rfl (one1 9 rfl rfl (ov (EV.ex rfl rfl) rfl (xs [] [0, 1, 2] rfl rfl rfl (xd (pr [0, 2, 4, 6] [0, 1, 2] [0, 2, 4] rfl rfl rfl rfl (ge (rg (sv (EV.mv rfl) rfl (sv (EV.sub rfl rfl) rfl (sv (EV.as rfl) rfl (re (wk [0, 2, 4, 6] [2, 0, 1] [⟨0, 2, 1, true⟩, ⟨2, 1, 2, true⟩, ⟨1, 0, 0, false⟩] (ih0 _ (by omega) _ ⟨wrap64 (x4_6 - 1), t8_1, t8_2, x4_2_0, Ax4_2_0, cx4_2_0, x4_2_1, x4_2_2, t9_0, At9_0, ct9_0, t9_1, t9_2, H, rfl⟩))))))))))))))
     ·
      refine ov (EV.ex rfl rfl) rfl (xs [] [0, 1, 2] rfl rfl rfl ?_)
      refine one2 7 10 rfl rfl rfl rfl ?_ ?_
      ·
       exact ov (EV.ex rfl rfl) rfl (xs [] [0, 1, 2] rfl rfl rfl (one1 10 rfl rfl (op_st (cs' := [.slice At9_0 t9_0.length ct9_0, .int .i64 t9_1, .int .i64 t9_2]) 1 rfl rfl rfl rfl rfl rfl (xn rfl (xd (pr [0, 2, 4, 6] [0, 1, 2] [0, 2, 4] rfl rfl rfl rfl (ge (rg (sv (EV.mv rfl) rfl (sv (EV.sub rfl rfl) rfl (sv (EV.as rfl) rfl (re (wk [0, 2, 4, 6] [2, 0, 1] [⟨0, 2, 1, true⟩, ⟨2, 1, 2, true⟩, ⟨1, 0, 0, false⟩] (ih0 _ (by omega) _ ⟨wrap64 (x4_6 - 1), t8_1, t8_2, x4_2_0, Ax4_2_0, cx4_2_0, x4_2_1, x4_2_2, t9_0, At9_0, ct9_0, t9_1, t9_2, H, rfl⟩))))))))))))))
      ·
       exact op_st (cs' := [.slice At9_0 t9_0.length ct9_0, .int .i64 t9_1, .int .i64 t9_2]) 1 rfl rfl rfl rfl rfl rfl (xn rfl (one1 7 rfl rfl (ov (EV.ex rfl rfl) rfl (xs [] [0, 1, 2] rfl rfl rfl (xd (pr [0, 2, 4, 6] [0, 1, 2] [0, 2, 4] rfl rfl rfl rfl (ge (rg (sv (EV.mv rfl) rfl (sv (EV.sub rfl rfl) rfl (sv (EV.as rfl) rfl (re (wk [0, 2, 4, 6] [2, 0, 1] [⟨0, 2, 1, true⟩, ⟨2, 1, 2, true⟩, ⟨1, 0, 0, false⟩] (ih0 _ (by omega) _ ⟨wrap64 (x4_6 - 1), t8_1, t8_2, x4_2_0, Ax4_2_0, cx4_2_0, x4_2_1, x4_2_2, t9_0, At9_0, ct9_0, t9_1, t9_2, H, rfl⟩))))))))))))))
     ·
      refine op_st (cs' := [.slice At9_0 t9_0.length ct9_0, .int .i64 t9_1, .int .i64 t9_2]) 1 rfl rfl rfl rfl rfl rfl (xn rfl ?_)
      refine one2 7 9 rfl rfl rfl rfl ?_ ?_
      ·
       exact ov (EV.ex rfl rfl) rfl (xs [] [0, 1, 2] rfl rfl rfl (one1 9 rfl rfl (ov (EV.ex rfl rfl) rfl (xs [] [0, 1, 2] rfl rfl rfl (xd (pr [0, 2, 4, 6] [0, 1, 2] [0, 2, 4] rfl rfl rfl rfl (ge (rg (sv (EV.mv rfl) rfl (sv (EV.sub rfl rfl) rfl (sv (EV.as rfl) rfl (re (wk [0, 2, 4, 6] [2, 0, 1] [⟨0, 2, 1, true⟩, ⟨2, 1, 2, true⟩, ⟨1, 0, 0, false⟩] (ih0 _ (by omega) _ ⟨wrap64 (x4_6 - 1), t8_1, t8_2, x4_2_0, Ax4_2_0, cx4_2_0, x4_2_1, x4_2_2, t9_0, At9_0, ct9_0, t9_1, t9_2, H, rfl⟩))))))))))))))
      ·
       exact ov (EV.ex rfl rfl) rfl (xs [] [0, 1, 2] rfl rfl rfl (one1 7 rfl rfl (ov (EV.ex rfl rfl) rfl (xs [] [0, 1, 2] rfl rfl rfl (xd (pr [0, 2, 4, 6] [0, 1, 2] [0, 2, 4] rfl rfl rfl rfl (ge (rg (sv (EV.mv rfl) rfl (sv (EV.sub rfl rfl) rfl (sv (EV.as rfl) rfl (re (wk [0, 2, 4, 6] [2, 0, 1] [⟨0, 2, 1, true⟩, ⟨2, 1, 2, true⟩, ⟨1, 0, 0, false⟩] (ih0 _ (by omega) _ ⟨wrap64 (x4_6 - 1), t8_1, t8_2, x4_2_0, Ax4_2_0, cx4_2_0, x4_2_1, x4_2_2, t9_0, At9_0, ct9_0, t9_1, t9_2, H, rfl⟩))))))))))))))
    ·
     refine ov (EV.ex rfl rfl) rfl (xs [] [0, 1, 2] rfl rfl rfl ?_)
     refine one2 6 9 rfl rfl rfl rfl ?_ ?_
     ·
      refine ov (EV.ex rfl rfl) rfl (xs [] [0, 1, 2] rfl rfl rfl ?_)
      refine one2 9 10 rfl rfl rfl rfl ?_ ?_
      ·
       exact ov (EV.ex rfl rfl) rfl (xs [] [0, 1, 2] rfl rfl rfl (one1 10 rfl rfl (op_st (cs' := [.slice At9_0 t9_0.length ct9_0, .int .i64 t9_1, .int .i64 t9_2]) 1 rfl rfl rfl rfl rfl rfl (xn rfl (xd (pr [0, 2, 4, 6] [0, 1, 2] [0, 2, 4] rfl rfl rfl rfl (ge (rg (sv (EV.mv rfl) rfl (sv (EV.sub rfl rfl) rfl (sv (EV.as rfl) rfl (re (wk [0, 2, 4, 6] [2, 0, 1] [⟨0, 2, 1, true⟩, ⟨2, 1, 2, true⟩, ⟨1, 0, 0, false⟩] (ih0 _ (by omega) _ ⟨wrap64 (x4_6 - 1), t8_1, t8_2, x4_2_0, Ax4_2_0, cx4_2_0, x4_2_1, x4_2_2, t9_0, At9_0, ct9_0, t9_1, t9_2, H, rfl⟩))))))))))))))
      ·
       exact op_st (cs' := [.slice At9_0 t9_0.length ct9_0, .int .i64 t9_1, .int .i64 t9_2]) 1 rfl rfl rfl rfl rfl rfl (xn rfl (one1 9 rfl rfl (ov (EV.ex rfl rfl) rfl (xs [] [0, 1, 2] rfl rfl rfl (xd (pr [0, 2, 4, 6] [0, 1, 2] [0, 2, 4] rfl rfl rfl rfl (ge (rg (sv (EV.mv rfl) rfl (sv (EV.sub rfl rfl) rfl (sv (EV.as rfl) rfl (re (wk [0, 2, 4, 6] [2, 0, 1] [⟨0, 2, 1, true⟩, ⟨2, 1, 2, true⟩, ⟨1, 0, 0, false⟩] (ih0 _ (by omega) _ ⟨wrap64 (x4_6 - 1), t8_1, t8_2, x4_2_0, Ax4_2_0, cx4_2_0, x4_2_1, x4_2_2, t9_0, At9_0, ct9_0, t9_1, t9_2, H, rfl⟩))))))))))))))
     ·
      exact ov (EV.ex rfl rfl) rfl (xs [] [0, 1, 2] rfl rfl rfl (one1 6 rfl rfl (ov (EV.ex rfl rfl) rfl (xs [] [0, 1, 2] rfl rfl rfl (one1 10 rfl rfl (op_st (cs' := [.slice At9_0 t9_0.length ct9_0, .int .i64 t9_1, .int .i64 t9_2]) 1 rfl rfl rfl rfl rfl rfl (xn rfl (xd (pr [0, 2, 4, 6] [0, 1, 2] [0, 2, 4] rfl rfl rfl rfl (ge (rg (sv (EV.mv rfl) rfl (sv (EV.sub rfl rfl) rfl (sv (EV.as rfl) rfl (re (wk [0, 2, 4, 6] [2, 0, 1] [⟨0, 2, 1, true⟩, ⟨2, 1, 2, true⟩, ⟨1, 0, 0, false⟩] (ih0 _ (by omega) _ ⟨wrap64 (x4_6 - 1), t8_1, t8_2, x4_2_0, Ax4_2_0, cx4_2_0, x4_2_1, x4_2_2, t9_0, At9_0, ct9_0, t9_1, t9_2, H, rfl⟩)))))))))))))))))
    ·
     refine ov (EV.ex rfl rfl) rfl (xs [] [0, 1, 2] rfl rfl rfl ?_)
     refine one2 6 7 rfl rfl rfl rfl ?_ ?_
     ·
      refine ov (EV.ex rfl rfl) rfl (xs [] [0, 1, 2] rfl rfl rfl ?_)
      refine one2 7 10 rfl rfl rfl rfl ?_ ?_
      ·
       exact ov (EV.ex rfl rfl) rfl (xs [] [0, 1, 2] rfl rfl rfl (one1 10 rfl rfl (op_st (cs' := [.slice At9_0 t9_0.length ct9_0, .int .i64 t9_1, .int .i64 t9_2]) 1 rfl rfl rfl rfl rfl rfl (xn rfl (xd (pr [0, 2, 4, 6] [0, 1, 2] [0, 2, 4] rfl rfl rfl rfl (ge (rg (sv (EV.mv rfl) rfl (sv (EV.sub rfl rfl) rfl (sv (EV.as rfl) rfl (re (wk [0, 2, 4, 6] [2, 0, 1] [⟨0, 2, 1, true⟩, ⟨2, 1, 2, true⟩, ⟨1, 0, 0, false⟩] (ih0 _ (by omega) _ ⟨wrap64 (x4_6 - 1), t8_1, t8_2, x4_2_0, Ax4_2_0, cx4_2_0, x4_2_1, x4_2_2, t9_0, At9_0, ct9_0, t9_1, t9_2, H, rfl⟩))))))))))))))
      ·
       exact op_st (cs' := [.slice At9_0 t9_0.length ct9_0, .int .i64 t9_1, .int .i64 t9_2]) 1 rfl rfl rfl rfl rfl rfl (xn rfl (one1 7 rfl rfl (ov (EV.ex rfl rfl) rfl (xs [] [0, 1, 2] rfl rfl rfl (xd (pr [0, 2, 4, 6] [0, 1, 2] [0, 2, 4] rfl rfl rfl rfl (ge (rg (sv (EV.mv rfl) rfl (sv (EV.sub rfl rfl) rfl (sv (EV.as rfl) rfl (re (wk [0, 2, 4, 6] [2, 0, 1] [⟨0, 2, 1, true⟩, ⟨2, 1, 2, true⟩, ⟨1, 0, 0, false⟩] (ih0 _ (by omega) _ ⟨wrap64 (x4_6 - 1), t8_1, t8_2, x4_2_0, Ax4_2_0, cx4_2_0, x4_2_1, x4_2_2, t9_0, At9_0, ct9_0, t9_1, t9_2, H, rfl⟩))))))))))))))
     ·
      exact ov (EV.ex rfl rfl) rfl (xs [] [0, 1, 2] rfl rfl rfl (one1 6 rfl rfl (ov (EV.ex rfl rfl) rfl (xs [] [0, 1, 2] rfl rfl rfl (one1 10 rfl rfl (op_st (cs' := [.slice At9_0 t9_0.length ct9_0, .int .i64 t9_1, .int .i64 t9_2]) 1 rfl rfl rfl rfl rfl rfl (xn rfl (xd (pr [0, 2, 4, 6] [0, 1, 2] [0, 2, 4] rfl rfl rfl rfl (ge (rg (sv (EV.mv rfl) rfl (sv (EV.sub rfl rfl) rfl (sv (EV.as rfl) rfl (re (wk [0, 2, 4, 6] [2, 0, 1] [⟨0, 2, 1, true⟩, ⟨2, 1, 2, true⟩, ⟨1, 0, 0, false⟩] (ih0 _ (by omega) _ ⟨wrap64 (x4_6 - 1), t8_1, t8_2, x4_2_0, Ax4_2_0, cx4_2_0, x4_2_1, x4_2_2, t9_0, At9_0, ct9_0, t9_1, t9_2, H, rfl⟩)))))))))))))))))
   ·
    refine ov (EV.ex rfl rfl) rfl (xs [] [0, 1, 2] rfl rfl rfl ?_)
    refine one3 6 7 8 rfl rfl rfl rfl rfl rfl ?_ ?_ ?_
    ·
     refine ov (EV.ex rfl rfl) rfl (xs [] [0, 1, 2] rfl rfl rfl ?_)
     refine one3 7 8 10 rfl rfl rfl rfl rfl rfl ?_ ?_ ?_
     ·
      refine ov (EV.ex rfl rfl) rfl (xs [] [0, 1, 2] rfl rfl rfl ?_)
      refine one2 8 10 rfl rfl rfl rfl ?_ ?_
      ·
       exact ov (EV.ex rfl rfl) rfl (xs [] [0, 1, 2] rfl rfl rfl (one1 10 rfl rfl (op_st (cs' := [.slice At9_0 t9_0.length ct9_0, .int .i64 t9_1, .int .i64 t9_2]) 1 rfl rfl rfl rfl rfl rfl (xn rfl (xd (pr [0, 2, 4, 6] [0, 1, 2] [0, 2, 4] rfl rfl rfl rfl (ge (rg (sv (EV.mv rfl) rfl (sv (EV.sub rfl rfl) rfl (sv (EV.as rfl) rfl (re (wk [0, 2, 4, 6] [2, 0, 1] [⟨0, 2, 1, true⟩, ⟨2, 1, 2, true⟩, ⟨1, 0, 0, false⟩] (ih0 _ (by omega) _ ⟨wrap64 (x4_6 - 1), t8_1, t8_2, x4_2_0, Ax4_2_0, cx4_2_0, x4_2_1, x4_2_2, t9_0, At9_0, ct9_0, t9_1, t9_2, H, rfl⟩))))))))))))))
      ·
       exact op_st (cs' := [.slice At9_0 t9_0.length ct9_0, .int .i64 t9_1, .int .i64 t9_2]) 1 rfl rfl rfl rfl rfl rfl (xn rfl (one1 8 rfl rfl (ov (EV.ex rfl rfl) rfl (xs [] [0, 1, 2] rfl rfl rfl (xd (pr [0, 2, 4, 6] [0, 1, 2] [0, 2, 4] rfl rfl rfl rfl (ge (rg (sv (EV.mv rfl) rfl (sv (EV.sub rfl rfl) rfl (sv (EV.as rfl) rfl (re (wk [0, 2, 4, 6] [2, 0, 1] [⟨0, 2, 1, true⟩, ⟨2, 1, 2, true⟩, ⟨1, 0, 0, false⟩] (ih0 _ (by omega) _ ⟨wrap64 (x4_6 - 1), t8_1, t8_2, x4_2_0, Ax4_2_0, cx4_2_0, x4_2_1, x4_2_2, t9_0, At9_0, ct9_0, t9_1, t9_2, H, rfl⟩))))))))))))))
     ·
      refine ov (EV.ex rfl rfl) rfl (xs [] [0, 1, 2] rfl rfl rfl ?_)
      refine one2 7 10 rfl rfl rfl rfl ?_ ?_
      ·
       exact ov (EV.ex rfl rfl) rfl (xs [] [0, 1, 2] rfl rfl rfl (one1 10 rfl rfl (op_st (cs' := [.slice At9_0 t9_0.length ct9_0, .int .i64 t9_1, .int .i64 t9_2]) 1 rfl rfl rfl rfl rfl rfl (xn rfl (xd (pr [0, 2, 4, 6] [0, 1, 2] [0, 2, 4] rfl rfl rfl rfl (ge (rg (sv (EV.mv rfl) rfl (sv (EV.sub rfl rfl) rfl (sv (EV.as rfl) rfl (re (wk [0, 2, 4, 6] [2, 0, 1] [⟨0, 2, 1, true⟩, ⟨2, 1, 2, true⟩, ⟨1, 0, 0, false⟩] (ih0 _ (by omega) _ ⟨wrap64 (x4_6 - 1), t8_1, t8_2, x4_2_0, Ax4_2_0, cx4_2_0, x4_2_1, x4_2_2, t9_0, At9_0, ct9_0, t9_1, t9_2, H, rfl⟩))))))))))))))
      ·
       exact op_st (cs' := [.slice At9_0 t9_0.length ct9_0, .int .i64 t9_1, .int .i64 t9_2]) 1 rfl rfl rfl rfl rfl rfl (xn rfl (one1 7 rfl rfl (ov (EV.ex rfl rfl) rfl (xs [] [0, 1, 2] rfl rfl rfl (xd (pr [0, 2, 4, 6] [0, 1, 2] [0, 2, 4] rfl rfl rfl rfl (ge (rg (sv (EV.mv rfl) rfl (sv (EV.sub rfl rfl) rfl (sv (EV.as rfl) rfl (re (wk [0, 2, 4, 6] [2, 0, 1] [⟨0, 2, 1, true⟩, ⟨2, 1, 2, true⟩, ⟨1, 0, 0, false⟩] (ih0 _ (by omega) _ ⟨wrap64 (x4_6 - 1), t8_1, t8_2, x4_2_0, Ax4_2_0, cx4_2_0, x4_2_1, x4_2_2, t9_0, At9_0, ct9_0, t9_1, t9_2, H, rfl⟩))))))))))))))
     ·
      refine op_st (cs' := [.slice At9_0 t9_0.length ct9_0, .int .i64 t9_1, .int .i64 t9_2]) 1 rfl rfl rfl rfl rfl rfl (xn rfl ?_)
      refine one2 7 8 rfl rfl rfl rfl ?_ ?_
      ·
       exact ov (EV.ex rfl rfl) rfl (xs [] [0, 1, 2] rfl rfl rfl (one1 8 rfl rfl (ov (EV.ex rfl rfl) rfl (xs [] [0, 1, 2] rfl rfl rfl (xd (pr [0, 2, 4, 6] [0, 1, 2] [0, 2, 4] rfl rfl rfl rfl (ge (rg (sv (EV.mv rfl) rfl (sv (EV.sub rfl rfl) rfl (sv (EV.as rfl) rfl (re (wk [0, 2, 4, 6] [2, 0, 1] [⟨0, 2, 1, true⟩, ⟨2, 1, 2, true⟩, ⟨1, 0, 0, false⟩] (ih0 _ (by omega) _ ⟨wrap64 (x4_6 - 1), t8_1, t8_2, x4_2_0, Ax4_2_0, cx4_2_0, x4_2_1, x4_2_2, t9_0, At9_0, ct9_0, t9_1, t9_2, H, rfl⟩))))))))))))))
      ·
       exact ov (EV.ex rfl rfl) rfl (xs [] [0, 1, 2] rfl rfl rfl (one1 7 rfl rfl (ov (EV.ex rfl rfl) rfl (xs [] [0, 1, 2] rfl rfl rfl (xd (pr [0, 2, 4, 6] [0, 1, 2] [0, 2, 4] rfl rfl rfl rfl (ge (rg (sv (EV.mv rfl) rfl (sv (EV.sub rfl rfl) rfl (sv (EV.as rfl) rfl (re (wk [0, 2, 4, 6] [2, 0, 1] [⟨0, 2, 1, true⟩, ⟨2, 1, 2, true⟩, ⟨1, 0, 0, false⟩] (ih0 _ (by omega) _ ⟨wrap64 (x4_6 - 1), t8_1, t8_2, x4_2_0, Ax4_2_0, cx4_2_0, x4_2_1, x4_2_2, t9_0, At9_0, ct9_0, t9_1, t9_2, H, rfl⟩))))))))))))))
    ·
     refine ov (EV.ex rfl rfl) rfl (xs [] [0, 1, 2] rfl rfl rfl ?_)
     refine one2 6 8 rfl rfl rfl rfl ?_ ?_
     ·
      refine ov (EV.ex rfl rfl) rfl (xs [] [0, 1, 2] rfl rfl rfl ?_)
      refine one2 8 10 rfl rfl rfl rfl ?_ ?_
      ·
       exact ov (EV.ex rfl rfl) rfl (xs [] [0, 1, 2] rfl rfl rfl (one1 10 rfl rfl (op_st (cs' := [.slice At9_0 t9_0.length ct9_0, .int .i64 t9_1, .int .i64 t9_2]) 1 rfl rfl rfl rfl rfl rfl (xn rfl (xd (pr [0, 2, 4, 6] [0, 1, 2] [0, 2, 4] rfl rfl rfl rfl (ge (rg (sv (EV.mv rfl) rfl (sv (EV.sub rfl rfl) rfl (sv (EV.as rfl) rfl (re (wk [0, 2, 4, 6] [2, 0, 1] [⟨0, 2, 1, true⟩, ⟨2, 1, 2, true⟩, ⟨1, 0, 0, false⟩] (ih0 _ (by omega) _ ⟨wrap64 (x4_6 - 1), t8_1, t8_2, x4_2_0, Ax4_2_0, cx4_2_0, x4_2_1, x4_2_2, t9_0, At9_0, ct9_0, t9_1, t9_2, H, rfl⟩))))))))))))))
      ·
       exact op_st (cs' := [.slice At9_0 t9_0.length ct9_0, .int .i64 t9_1, .int .i64 t9_2]) 1 rfl rfl rfl rfl rfl rfl (xn rfl (one1 8 rfl rfl (ov (EV.ex rfl rfl) rfl (xs [] [0, 1, 2] rfl rfl rfl (xd (pr [0, 2, 4, 6] [0, 1, 2] [0, 2, 4] rfl rfl rfl rfl (ge (rg (sv (EV.mv rfl) rfl (sv (EV.sub rfl rfl) rfl (sv (EV.as rfl) rfl (re (wk [0, 2, 4, 6] [2, 0, 1] [⟨0, 2, 1, true⟩, ⟨2, 1, 2, true⟩, ⟨1, 0, 0, false⟩] (ih0 _ (by omega) _ ⟨wrap64 (x4_6 - 1), t8_1, t8_2, x4_2_0, Ax4_2_0, cx4_2_0, x4_2_1, x4_2_2, t9_0, At9_0, ct9_0, t9_1, t9_2, H, rfl⟩))))))))))))))
     ·
      exact ov (EV.ex rfl rfl) rfl (xs [] [0, 1, 2] rfl rfl rfl (one1 6 rfl rfl (ov (EV.ex rfl rfl) rfl (xs [] [0, 1, 2] rfl rfl rfl (one1 10 rfl rfl (op_st (cs' := [.slice At9_0 t9_0.length ct9_0, .int .i64 t9_1, .int .i64 t9_2]) 1 rfl rfl rfl rfl rfl rfl (xn rfl (xd (pr [0, 2, 4, 6] [0, 1, 2] [0, 2, 4] rfl rfl rfl rfl (ge (rg (sv (EV.mv rfl) rfl (sv (EV.sub rfl rfl) rfl (sv (EV.as rfl) rfl (re (wk [0, 2, 4, 6] [2, 0, 1] [⟨0, 2, 1, true⟩, ⟨2, 1, 2, true⟩, ⟨1, 0, 0, false⟩] (ih0 _ (by omega) _ ⟨wrap64 (x4_6 - 1), t8_1, t8_2, x4_2_0, Ax4_2_0, cx4_2_0, x4_2_1, x4_2_2, t9_0, At9_0, ct9_0, t9_1, t9_2, H, rfl⟩)))))))))))))))))
    ·
     refine ov (EV.ex rfl rfl) rfl (xs [] [0, 1, 2] rfl rfl rfl ?_)
     refine one2 6 7 rfl rfl rfl rfl ?_ ?_
     ·
      refine ov (EV.ex rfl rfl) rfl (xs [] [0, 1, 2] rfl rfl rfl ?_)
      refine one2 7 10 rfl rfl rfl rfl ?_ ?_
      ·
       exact ov (EV.ex rfl rfl) rfl (xs [] [0, 1, 2] rfl rfl rfl (one1 10 rfl rfl (op_st (cs' := [.slice At9_0 t9_0.length ct9_0, .int .i64 t9_1, .int .i64 t9_2]) 1 rfl rfl rfl rfl rfl rfl (xn rfl (xd (pr [0, 2, 4, 6] [0, 1, 2] [0, 2, 4] rfl rfl rfl rfl (ge (rg (sv (EV.mv rfl) rfl (sv (EV.sub rfl rfl) rfl (sv (EV.as rfl) rfl (re (wk [0, 2, 4, 6] [2, 0, 1] [⟨0, 2, 1, true⟩, ⟨2, 1, 2, true⟩, ⟨1, 0, 0, false⟩] (ih0 _ (by omega) _ ⟨wrap64 (x4_6 - 1), t8_1, t8_2, x4_2_0, Ax4_2_0, cx4_2_0, x4_2_1, x4_2_2, t9_0, At9_0, ct9_0, t9_1, t9_2, H, rfl⟩))))))))))))))
      ·
       exact op_st (cs' := [.slice At9_0 t9_0.length ct9_0, .int .i64 t9_1, .int .i64 t9_2]) 1 rfl rfl rfl rfl rfl rfl (xn rfl (one1 7 rfl rfl (ov (EV.ex rfl rfl) rfl (xs [] [0, 1, 2] rfl rfl rfl (xd (pr [0, 2, 4, 6] [0, 1, 2] [0, 2, 4] rfl rfl rfl rfl (ge (rg (sv (EV.mv rfl) rfl (sv (EV.sub rfl rfl) rfl (sv (EV.as rfl) rfl (re (wk [0, 2, 4, 6] [2, 0, 1] [⟨0, 2, 1, true⟩, ⟨2, 1, 2, true⟩, ⟨1, 0, 0, false⟩] (ih0 _ (by omega) _ ⟨wrap64 (x4_6 - 1), t8_1, t8_2, x4_2_0, Ax4_2_0, cx4_2_0, x4_2_1, x4_2_2, t9_0, At9_0, ct9_0, t9_1, t9_2, H, rfl⟩))))))))))))))
     ·
      exact ov (EV.ex rfl rfl) rfl (xs [] [0, 1, 2] rfl rfl rfl (one1 6 rfl rfl (ov (EV.ex rfl rfl) rfl (xs [] [0, 1, 2] rfl rfl rfl (one1 10 rfl rfl (op_st (cs' := [.slice At9_0 t9_0.length ct9_0, .int .i64 t9_1, .int .i64 t9_2]) 1 rfl rfl rfl rfl rfl rfl (xn rfl (xd (pr [0, 2, 4, 6] [0, 1, 2] [0, 2, 4] rfl rfl rfl rfl (ge (rg (sv (EV.mv rfl) rfl (sv (EV.sub rfl rfl) rfl (sv (EV.as rfl) rfl (re (wk [0, 2, 4, 6] [2, 0, 1] [⟨0, 2, 1, true⟩, ⟨2, 1, 2, true⟩, ⟨1, 0, 0, false⟩] (ih0 _ (by omega) _ ⟨wrap64 (x4_6 - 1), t8_1, t8_2, x4_2_0, Ax4_2_0, cx4_2_0, x4_2_1, x4_2_2, t9_0, At9_0, ct9_0, t9_1, t9_2, H, rfl⟩)))))))))))))))))
  ·
   refine op_lit (s := 1) (by_ := 8) (.int .i64) ([8, 9, 12] : List Int) [[], [], []] [] 3 [.const (.int .i64 8), .const (.int .i64 9), .const (.int .i64 12)] rfl rfl rfl rfl rfl rfl rfl rfl rfl rfl rfl rfl rfl dq rfl fun A28_10 c28_10 => (xs [] [0, 1, 2] rfl rfl rfl ?_)
   refine one2 0 3 rfl rfl rfl rfl ?_ ?_
   ·
    refine ov (EV.ld (v := .agg #[.slice Ax4_4_0 x4_4_0.length cx4_4_0, .int .i64 x4_4_1, .int .i64 x4_4_2]) 2 (some 3) rfl rfl rfl) rfl (xs [] [0, 1, 2] rfl rfl rfl (one1 3 rfl rfl ?_))
    revert H; refine bdI ?_; rintro ⟨t11_0, t11_1, t11_2⟩ A11 H
    refine op_callM (spec_l1PickInt.ok b1000 l0_0 Al0_0 cl0_0 x4_1000_1 x4_1000_2 ([8, 9, 12] : List Int) A28_10 c28_10 _ _ _ A11) [⟨2, 0, 0, false⟩, ⟨3, 0, 0, false⟩] [0] [1, 2] 4 rfl rfl rfl rfl rfl rfl rfl rfl ?_
    rintro _ _ _ ⟨rfl, rfl, rfl⟩
    refine nmE (en := [.sl 2 k27 Ax4_2_0 cx4_2_0 x4_2_0 1 true, .sl 1 k27 Ax4_4_0 cx4_4_0 x4_4_0 2 true, .sl 0 (.int .u8) Al0_0 cl0_0 l0_0 0 false, .sl 2 (.int .i64) A28_10 c28_10 ([8, 9, 12] : List Int) 3 true]) (by kernel_rfl) (xs [] [0, 1, 2] rfl rfl rfl (one1 4 rfl rfl ?_))
    revert H; refine bdI ?_; rintro ⟨t12_0, t12_1, t12_2, t12_3, t12_4, t12_5⟩ A12 H
    refine op_call (spec_StepJoiner.ok n0 x4_4_0 Ax4_4_0 cx4_4_0 x4_4_1 x4_4_2 t11_0 _ _ _ _ _ _ A12) [⟨1, 0, 0, false⟩] 4 rfl rfl rfl rfl rfl ?_
    rintro _ _ _ ⟨At12_0, ct12_0, At12_3, ct12_3, rfl, rfl, rfl⟩
    refine xs [] [0, 1, 2] rfl rfl rfl (one1 5 rfl rfl (ov (EV.mv rfl) rfl (xs [] [0, 1, 2] rfl rfl rfl ?_)))
    refine one4 6 7 8 9 rfl rfl rfl rfl rfl rfl rfl rfl ?_ ?_ ?_ ?_
    ·
     refine ov (EV.ex rfl rfl) rfl (xs [] [0, 1, 2] rfl rfl rfl ?_)
     refine one4 7 8 9 10 rfl rfl rfl rfl rfl rfl rfl rfl ?_ ?_ ?_ ?_
     ·
      refine ov (EV.ex rfl rfl) rfl (xs [] [0, 1, 2] rfl rfl rfl ?_)
      refine one3 8 9 10 rfl rfl rfl rfl rfl rfl ?_ ?_ ?_
      ·
       refine ov (EV.ex rfl rfl) rfl (xs [] [0, 1, 2] rfl rfl rfl ?_)
       refine one2 9 10 rfl rfl rfl rfl ?_ ?_
       ·
        exact ov (EV.ex rfl rfl) rfl (xs [] [0, 1, 2] rfl rfl rfl (one1 10 rfl rfl (op_st (cs' := [.slice At12_0 t12_0.length ct12_0, .int .i64 t12_1, .int .i64 t12_2]) 1 rfl rfl rfl rfl rfl rfl (xn rfl (xd (pr [0, 2, 4, 6] [0, 1, 2] [0, 2, 4] rfl rfl rfl rfl (ge (rg (sv (EV.mv rfl) rfl (sv (EV.sub rfl rfl) rfl (sv (EV.as rfl) rfl (re (wk [0, 2, 4, 6] [2, 0, 1] [⟨0, 2, 1, true⟩, ⟨2, 1, 2, true⟩, ⟨1, 0, 0, false⟩] (ih0 _ (by omega) _ ⟨wrap64 (x4_6 - 1), t11_1, t11_2, x4_2_0, Ax4_2_0, cx4_2_0, x4_2_1, x4_2_2, t12_0, At12_0, ct12_0, t12_1, t12_2, H, rfl⟩))))))))))))))
       ·
        exact op_st (cs' := [.slice At12_0 t12_0.length ct12_0, .int .i64 t12_1, .int .i64 t12_2]) 1 rfl rfl rfl rfl rfl rfl (xn rfl (one1 9 rfl rfl (ov (EV.ex rfl rfl) rfl (xs [] [0, 1, 2] rfl rfl rfl (xd (pr [0, 2, 4, 6] [0, 1, 2] [0, 2, 4] rfl rfl rfl rfl (ge (rg (sv (EV.mv rfl) rfl (sv (EV.sub rfl rfl) rfl (sv (EV.as rfl) rfl (re (wk [0, 2, 4, 6] [2, 0, 1] [⟨0, 2, 1, true⟩, ⟨2, 1, 2, true⟩, ⟨1, 0, 0, false⟩] (ih0 _ (by omega) _ ⟨wrap64 (x4_6 - 1), t11_1, t11_2, x4_2_0, Ax4_2_0, cx4_2_0, x4_2_1, x4_2_2, t12_0, At12_0, ct12_0, t12_1, t12_2, H, rfl⟩))))))))))))))
      ·
       refine ov (EV.ex rfl rfl) rfl (xs [] [0, 1, 2] rfl rfl rfl ?_)
       refine one2 8 10 rfl rfl rfl rfl ?_ ?_
       ·
        exact ov (EV.ex rfl rfl) rfl (xs [] [0, 1, 2] rfl rfl rfl (one1 10 rfl rfl (op_st (cs' := [.slice At12_0 t12_0.length ct12_0, .int .i64 t12_1, .int .i64 t12_2]) 1 rfl rfl rfl rfl rfl rfl (xn rfl (xd (pr [0, 2, 4, 6] [0, 1, 2] [0, 2, 4] rfl rfl rfl rfl (ge (rg (sv (EV.mv rfl) rfl (sv (EV.sub rfl rfl) rfl (sv (EV.as rfl) rfl (re (wk [0, 2, 4, 6] [2, 0, 1] [⟨0, 2, 1, true⟩, ⟨2, 1, 2, true⟩, ⟨1, 0, 0, false⟩] (ih0 _ (by omega) _ ⟨wrap64 (x4_6 - 1), t11_1, t11_2, x4_2_0, Ax4_2_0, cx4_2_0, x4_2_1, x4_2_2, t12_0, At12_0, ct12_0, t12_1, t12_2, H, rfl⟩))))))))))))))
       ·
        exact op_st (cs' := [.slice At12_0 t12_0.length ct12_0, .int .i64 t12_1, .int .i64 t12_2]) 1 rfl rfl rfl rfl rfl rfl (xn rfl (one1 8 rfl rfl (ov (EV.ex rfl rfl) rfl (xs [] [0, 1, 2] rfl rfl rfl (xd (pr [0, 2, 4, 6] [0, 1, 2] [0, 2, 4] rfl rfl rfl rfl (ge (rg (sv (EV.mv rfl) rfl (sv (EV.sub rfl rfl) rfl (sv (EV.as rfl) rfl (re (wk [0, 2, 4, 6] [2, 0, 1] [⟨0, 2, 1, true⟩, ⟨2, 1, 2, true⟩, ⟨1, 0, 0, false⟩] (ih0 _ (by omega) _ ⟨wrap64 (x4_6 - 1), t11_1, t11_2, x4_2_0, Ax4_2_0, cx4_2_0, x4_2_1, x4_2_2, t12_0, At12_0, ct12_0, t12_1, t12_2, H, rfl⟩))))))))))))))
      ·
       refine op_st (cs' := [.slice At12_0 t12_0.length ct12_0, .int .i64 t12_1, .int .i64 t12_2]) 1 rfl rfl rfl rfl rfl rfl (xn rfl ?_)
       refine one2 8 9 rfl rfl rfl rfl ?_ ?_
       ·
        exact ov (EV.ex rfl rfl) rfl (xs [] [0, 1, 2] rfl rfl rfl (one1 9 rfl rfl (ov (EV.ex rfl rfl) rfl (xs [] [0, 1, 2] rfl rfl rfl (xd (pr [0, 2, 4, 6] [0, 1, 2] [0, 2, 4] rfl rfl rfl rfl (ge (rg (sv (EV.mv rfl) rfl (sv (EV.sub rfl rfl) rfl (sv (EV.as rfl) rfl (re (wk [0, 2, 4, 6] [2, 0, 1] [⟨0, 2, 1, true⟩, ⟨2, 1, 2, true⟩, ⟨1, 0, 0, false⟩] (ih0 _ (by omega) _ ⟨wrap64 (x4_6 - 1), t11_1, t11_2, x4_2_0, Ax4_2_0, cx4_2_0, x4_2_1, x4_2_2, t12_0, At12_0, ct12_0, t12_1, t12_2, H, rfl⟩))))))))))))))
       ·
        exact ov (EV.ex rfl rfl) rfl (xs [] [0, 1, 2] rfl rfl rfl (one1 8 rfl rfl (ov (EV.ex rfl rfl) rfl (xs [] [0, 1, 2] rfl rfl rfl (xd (pr [0, 2, 4, 6] [0, 1, 2] [0, 2, 4] rfl rfl rfl rfl (ge (rg (sv (EV.mv rfl) rfl (sv (EV.sub rfl rfl) rfl (sv (EV.as rfl) rfl (re (wk [0, 2, 4, 6] [2, 0, 1] [⟨0, 2, 1, true⟩, ⟨2, 1, 2, true⟩, ⟨1, 0, 0, false⟩] (ih0 _ (by omega) _ ⟨wrap64 (x4_6 - 1), t11_1, t11_2, x4_2_0, Ax4_2_0, cx4_2_0, x4_2_1, x4_2_2, t12_0, At12_0, ct12_0, t12_1, t12_2, H, rfl⟩))))))))))))))
     ·
      refine ov (EV.ex rfl rfl) rfl (xs [] [0, 1, 2] rfl rfl rfl ?_)
      refine one3 7 9 10 rfl rfl rfl rfl rfl rfl ?_ ?_ ?_
      ·
       refine ov (EV.ex rfl rfl) rfl (xs [] [0, 1, 2] rfl rfl rfl ?_)
       refine one2 9 10 rfl rfl rfl rfl ?_ ?_
       ·
        exact ov (EV.ex rfl rfl) rfl (xs [] [0, 1, 2] rfl rfl rfl (one1 10 rfl rfl (op_st (cs' := [.slice At12_0 t12_0.length ct12_0, .int .i64 t12_1, .int .i64 t12_2]) 1 rfl rfl rfl rfl rfl rfl (xn rfl (xd (pr [0, 2, 4, 6] [0, 1, 2] [0, 2, 4] rfl rfl rfl rfl (ge (rg (sv (EV.mv rfl) rfl (sv (EV.sub rfl rfl) rfl (sv (EV.as rfl) rfl (re (wk [0, 2, 4, 6] [2, 0, 1] [⟨0, 2, 1, true⟩, ⟨2, 1, 2, true⟩, ⟨1, 0, 0, false⟩] (ih0 _ (by omega) _ ⟨wrap64 (x4_6 - 1), t11_1, t11_2, x4_2_0, Ax4_2_0, cx4_2_0, x4_2_1, x4_2_2, t12_0, At12_0, ct12_0, t12_1, t12_2, H, rfl⟩))))))))))))))
       ·
        exact op_st (cs' := [.slice At12_0 t12_0.length ct12_0, .int .i64 t12_1, .int .i64 t12_2]) 1 rfl rfl rfl rfl rfl rfl (xn rfl (one1 9 rfl rfl (ov (EV.ex rfl rfl) rfl (xs [] [0, 1, 2] rfl rfl rfl (xd (pr [0, 2, 4, 6] [0, 1, 2] [0, 2, 4] rfl rfl rfl rfl (ge (rg (sv (EV.mv rfl) rfl (sv (EV.sub rfl rfl) rfl (sv (EV.as rfl) rfl (re (wk [0, 2, 4, 6] [2, 0, 1] [⟨0, 2, 1, true⟩, ⟨2, 1, 2, true⟩, ⟨1, 0, 0, false⟩] (ih0 _ (by omega) _ ⟨wrap64 (x4_6 - 1), t11_1, t11_2, x4_2_0, Ax4_2_0, cx4_2_0, x4_2_1, x4_2_2, t12_0, At12_0, ct12_0, t12_1, t12_2, H, rfl⟩))))))))))))))
      ·
       refine ov (EV.ex rfl rfl) rfl (xs [] [0, 1, 2] rfl rfl rfl ?_)
       refine one2 7 10 rfl rfl rfl rfl ?_ ?_
       ·
        exact ov (EV.ex rfl rfl) rfl (xs [] [0, 1, 2] rfl rfl rfl (one1 10 rfl rfl (op_st (cs' := [.slice At12_0 t12_0.length ct12_0, .int .i64 t12_1, .int .i64 t12_2]) 1 rfl rfl rfl rfl rfl rfl (xn rfl (xd (pr [0, 2, 4, 6] [0, 1, 2] [0, 2, 4] rfl rfl rfl rfl (ge (rg (sv (EV.mv rfl) rfl (sv (EV.sub rfl rfl) rfl (sv (EV.as rfl) rfl (re (wk [0, 2, 4, 6] [2, 0, 1] [⟨0, 2, 1, true⟩, ⟨2, 1, 2, true⟩, ⟨1, 0, 0, false⟩] (ih0 _ (by omega) _ ⟨wrap64 (x4_6 - 1), t11_1, t11_2, x4_2_0, Ax4_2_0, cx4_2_0, x4_2_1, x4_2_2, t12_0, At12_0, ct12_0, t12_1, t12_2, H, rfl⟩))))))))))))))
       ·
        exact op_st (cs' := [.slice At12_0 t12_0.length ct12_0, .int .i64 t12_1, .int .i64 t12_2]) 1 rfl rfl rfl rfl rfl rfl (xn rfl (one1 7 rfl rfl (ov (EV.ex rfl rfl) rfl (xs [] [0, 1, 2] rfl rfl rfl (xd (pr [0, 2, 4, 6] [0, 1, 2] [0, 2, 4] rfl rfl rfl rfl (ge (rg (sv (EV.mv rfl) rfl (sv (EV.sub rfl rfl) rfl (sv (EV.as rfl) rfl (re (wk [0, 2, 4, 6] [2, 0, 1] [⟨0, 2, 1, true⟩, ⟨2, 1, 2, true⟩, ⟨1, 0, 0, false⟩] (ih0 _ (by omega) _ ⟨wrap64 (x4_6 - 1), t11_1, t11_2, x4_2_0, Ax4_2_0, cx4_2_0, x4_2_1, x4_2_2, t12_0, At12_0, ct12_0, t12_1, t12_2, H, rfl⟩))))))))))))))
      ·
       refine op_st (cs' := [.slice At12_0 t12_0.length ct12_0, .int .i64 t12_1, .int .i64 t12_2]) 1 rfl rfl rfl rfl rfl rfl (xn rfl ?_)
       refine one2 7 9 rfl rfl rfl rfl ?_ ?_
       ·
        exact ov (EV.ex rfl rfl) rfl (xs [] [0, 1, 2] rfl rfl rfl (one1 9 rfl rfl (ov (EV.ex rfl rfl) rfl (xs [] [0, 1, 2] rfl rfl rfl (xd (pr [0, 2, 4, 6] [0, 1, 2] [0, 2, 4] rfl rfl rfl rfl (ge (rg (sv (EV.mv rfl) rfl (sv (EV.sub rfl rfl) rfl (sv (EV.as rfl) rfl (re (wk [0, 2, 4, 6] [2, 0, 1] [⟨0, 2, 1, true⟩, ⟨2, 1, 2, true⟩, ⟨1, 0, 0, false⟩] (ih0 _ (by omega) _ ⟨wrap64 (x4_6 - 1), t11_1, t11_2, x4_2_0, Ax4_2_0, cx4_2_0, x4_2_1, x4_2_2, t12_0, At12_0, ct12_0, t12_1, t12_2, H, rfl⟩))))))))))))))
       ·
        exact ov (EV.ex rfl rfl) rfl (xs [] [0, 1, 2] rfl rfl rfl (one1 7 rfl rfl (ov (EV.ex rfl rfl) rfl (xs [] [0, 1, 2] rfl rfl rfl (xd (pr [0, 2, 4, 6] [0, 1, 2] [0, 2, 4] rfl rfl rfl rfl (ge (rg (sv (EV.mv rfl) rfl (sv (EV.sub rfl rfl) rfl (sv (EV.as rfl) rfl (re (wk [0, 2, 4, 6] [2, 0, 1] [⟨0, 2, 1, true⟩, ⟨2, 1, 2, true⟩, ⟨1, 0, 0, false⟩] (ih0 _ (by omega) _ ⟨wrap64 (x4_6 - 1), t11_1, t11_2, x4_2_0, Ax4_2_0, cx4_2_0, x4_2_1, x4_2_2, t12_0, At12_0, ct12_0, t12_1, t12_2, H, rfl⟩))))))))))))))
     ·
      refine ov (EV.ex rfl rfl) rfl (xs [] [0, 1, 2] rfl rfl rfl ?_)
      refine one3 7 8 10 rfl rfl rfl rfl rfl rfl ?_ ?_ ?_
      ·
       refine ov (EV.ex rfl rfl) rfl (xs [] [0, 1, 2] rfl rfl rfl ?_)
       refine one2 8 10 rfl rfl rfl rfl ?_ ?_
       ·
        exact ov (EV.ex rfl rfl) rfl (xs [] [0, 1, 2] rfl rfl rfl (one1 10 rfl rfl (op_st (cs' := [.slice At12_0 t12_0.length ct12_0, .int .i64 t12_1, .int .i64 t12_2]) 1 rfl rfl rfl rfl rfl rfl (xn rfl (xd (pr [0, 2, 4, 6] [0, 1, 2] [0, 2, 4] rfl rfl rfl rfl (ge (rg (sv (EV.mv rfl) rfl (sv (EV.sub rfl rfl) rfl (sv (EV.as rfl) rfl (re (wk [0, 2, 4, 6] [2, 0, 1] [⟨0, 2, 1, true⟩, ⟨2, 1, 2, true⟩, ⟨1, 0, 0, false⟩] (ih0 _ (by omega) _ ⟨wrap64 (x4_6 - 1), t11_1, t11_2, x4_2_0, Ax4_2_0, cx4_2_0, x4_2_1, x4_2_2, t12_0, At12_0, ct12_0, t12_1, t12_2, H, rfl⟩))))))))))))))
       ·
        exact op_st (cs' := [.slice At12_0 t12_0.length ct12_0, .int .i64 t12_1, .int .i64 t12_2]) 1 rfl rfl rfl rfl rfl rfl (xn rfl (one1 8 rfl rfl (ov (EV.ex rfl rfl) rfl (xs [] [0, 1, 2] rfl rfl rfl (xd (pr [0, 2, 4, 6] [0, 1, 2] [0, 2, 4] rfl rfl rfl rfl (ge (rg (sv (EV.mv rfl) rfl (sv (EV.sub rfl rfl) rfl (sv (EV.as rfl) rfl (re (wk [0, 2, 4, 6] [2, 0, 1] [⟨0, 2, 1, true⟩, ⟨2, 1, 2, true⟩, ⟨1, 0, 0, false⟩] (ih0 _ (by omega) _ ⟨wrap64 (x4_6 - 1), t11_1, t11_2, x4_2_0, Ax4_2_0, cx4_2_0, x4_2_1, x4_2_2, t12_0, At12_0, ct12_0, t12_1, t12_2, H, rfl⟩))))))))))))))
      ·
       refine ov (EV.ex rfl rfl) rfl (xs [] [0, 1, 2] rfl rfl rfl ?_)
       refine one2 7 10 rfl rfl rfl rfl ?_ ?_
       ·
        exact ov (EV.ex rfl rfl) rfl (xs [] [0, 1, 2] rfl rfl rfl (one1 10 rfl rfl (op_st (cs' := [.slice At12_0 t12_0.length ct12_0, .int .i64 t12_1, .int .i64 t12_2]) 1 rfl rfl rfl rfl rfl rfl (xn rfl (xd (pr [0, 2, 4, 6] [0, 1, 2] [0, 2, 4] rfl rfl rfl rfl (ge (rg (sv (EV.mv rfl) rfl (sv (EV.sub rfl rfl) rfl (sv (EV.as rfl) rfl (re (wk [0, 2, 4, 6] [2, 0, 1] [⟨0, 2, 1, true⟩, ⟨2, 1, 2, true⟩, ⟨1, 0, 0, false⟩] (ih0 _ (by omega) _ ⟨wrap64 (x4_6 - 1), t11_1, t11_2, x4_2_0, Ax4_2_0, cx4_2_0, x4_2_1, x4_2_2, t12_0, At12_0, ct12_0, t12_1, t12_2, H, rfl⟩))))))))))))))
       ·
        exact op_st (cs' := [.slice At12_0 t12_0.length ct12_0, .int .i64 t12_1, .int .i64 t12_2]) 1 rfl rfl rfl rfl rfl rfl (xn rfl (one1 7 rfl rfl (ov (EV.ex rfl rfl) rfl (xs [] [0, 1, 2] rfl rfl rfl (xd (pr [0, 2, 4, 6] [0, 1, 2] [0, 2, 4] rfl rfl rfl rfl (ge (rg (sv (EV.mv rfl) rfl (sv (EV.sub rfl rfl) rfl (sv (EV.as rfl) rfl (re (wk [0, 2, 4, 6] [2, 0, 1] [⟨0, 2, 1, true⟩, ⟨2, 1, 2, true⟩, ⟨1, 0, 0, false⟩] (ih0 _ (by omega) _ ⟨wrap64 (x4_6 - 1), t11_1, t11_2, x4_2_0, Ax4_2_0, cx4_2_0, x4_2_1, x4_2_2, t12_0, At12_0, ct12_0, t12_1, t12_2, H, rfl⟩))))))))))))))
      ·
       refine op_st (cs' := [.slice At12_0 t12_0.length ct12_0, .int .i64 t12_1, .int .i64 t12_2]) 1 rfl rfl rfl rfl rfl rfl (xn rfl ?_)
       refine one2 7 8 rfl rfl rfl rfl ?_ ?_
       ·
        exact ov (EV.ex rfl rfl) rfl (xs [] [0, 1, 2] rfl rfl rfl (one1 8 rfl rfl (ov (EV.ex rfl rfl) rfl (xs [] [0, 1, 2] rfl rfl rfl (xd (pr [0, 2, 4, 6] [0, 1, 2] [0, 2, 4] rfl rfl rfl rfl (ge (rg (sv (EV.mv rfl) rfl (sv (EV.sub rfl rfl) rfl (sv (EV.as rfl) rfl (re (wk [0, 2, 4, 6] [2, 0, 1] [⟨0, 2, 1, true⟩, ⟨2, 1, 2, true⟩, ⟨1, 0, 0, false⟩] (ih0 _ (by omega) _ ⟨wrap64 (x4_6 - 1), t11_1, t11_2, x4_2_0, Ax4_2_0, cx4_2_0, x4_2_1, x4_2_2, t12_0, At12_0, ct12_0, t12_1, t12_2, H, rfl⟩))))))))))))))
       ·
        exact ov (EV.ex rfl rfl) rfl (xs [] [0, 1, 2] rfl rfl rfl (one1 7 rfl rfl (ov (EV.ex rfl rfl) rfl (xs [] [0, 1, 2] rfl rfl rfl (xd (pr [0, 2, 4, 6] [0, 1, 2] [0, 2, 4] rfl rfl rfl rfl (ge (rg (sv (EV.mv rfl) rfl (sv (EV.sub rfl rfl) rfl (sv (EV.as rfl) rfl (re (wk [0, 2, 4, 6] [2, 0, 1] [⟨0, 2, 1, true⟩, ⟨2, 1, 2, true⟩, ⟨1, 0, 0, false⟩] (ih0 _ (by omega) _ ⟨wrap64 (x4_6 - 1), t11_1, t11_2, x4_2_0, Ax4_2_0, cx4_2_0, x4_2_1, x4_2_2, t12_0, At12_0, ct12_0, t12_1, t12_2, H, rfl⟩))))))))))))))
     ·
      refine op_st (cs' := [.slice At12_0 t12_0.length ct12_0, .int .i64 t12_1, .int .i64 t12_2]) 1 rfl rfl rfl rfl rfl rfl (xn rfl ?_)
      refine one3 7 8 9 rfl rfl rfl rfl rfl rfl ?_ ?_ ?_
      ·
       refine ov (EV.ex rfl rfl) rfl (xs [] [0, 1, 2] rfl rfl rfl ?_)
       refine one2 8 9 rfl rfl rfl rfl ?_ ?_
       ·
        exact ov (EV.ex rfl rfl) rfl (xs [] [0, 1, 2] rfl rfl rfl (one1 9 rfl rfl (ov (EV.ex rfl rfl) rfl (xs [] [0, 1, 2] rfl rfl rfl (xd (pr [0, 2, 4, 6] [0, 1, 2] [0, 2, 4] rfl rfl rfl rfl (ge (rg (sv (EV.mv rfl) rfl (sv (EV.sub rfl rfl) rfl (sv (EV.as rfl) rfl (re (wk [0, 2, 4, 6] [2, 0, 1] [⟨0, 2, 1, true⟩, ⟨2, 1, 2, true⟩, ⟨1, 0, 0, false⟩] (ih0 _ (by omega) _ ⟨wrap64 (x4_6 - 1), t11_1, t11_2, x4_2_0, Ax4_2_0, cx4_2_0, x4_2_1, x4_2_2, t12_0, At12_0, ct12_0, t12_1, t12_2, H, rfl⟩))))))))))))))
       ·
        exact ov (EV.ex rfl rfl) rfl (xs [] [0, 1, 2] rfl rfl rfl (one1 8 rfl rfl (ov (EV.ex rfl rfl) rfl (xs [] [0, 1, 2] rfl rfl rfl (xd (pr [0, 2, 4, 6] [0, 1, 2] [0, 2, 4] rfl rfl rfl rfl (ge (rg (sv (EV.mv rfl) rfl (sv (EV.sub rfl rfl) rfl (sv (EV.as rfl) rfl (re (wk [0, 2, 4, 6] [2, 0, 1] [⟨0, 2, 1, true⟩, ⟨2, 1, 2, true⟩, ⟨1, 0, 0, false⟩] (ih0 _ (by omega) _ ⟨wrap64 (x4_6 - 1), t11_1, t11_2, x4_2_0, Ax4_2_0, cx4_2_0, x4_2_1, x4_2_2, t12_0, At12_0, ct12_0, t12_1, t12_2, H, rfl⟩))))))))))))))
      ·
       refine ov (EV.ex rfl rfl) rfl (xs [] [0, 1, 2] rfl rfl rfl ?_)
       refine one2 7 9 rfl rfl rfl rfl ?_ ?_
       ·
        exact ov (EV.ex rfl rfl) rfl (xs [] [0, 1, 2] rfl rfl rfl (one1 9 rfl rfl (ov (EV.ex rfl rfl) rfl (xs [] [0, 1, 2] rfl rfl rfl (xd (pr [0, 2, 4, 6] [0, 1, 2] [0, 2, 4] rfl rfl rfl rfl (ge (rg (sv (EV.mv rfl) rfl (sv (EV.sub rfl rfl) rfl (sv (EV.as rfl) rfl (re (wk [0, 2, 4, 6] [2, 0, 1] [⟨0, 2, 1, true⟩, ⟨2, 1, 2, true⟩, ⟨1, 0, 0, false⟩] (ih0 _ (by omega) _ ⟨wrap64 (x4_6 - 1), t11_1, t11_2, x4_2_0, Ax4_2_0, cx4_2_0, x4_2_1, x4_2_2, t12_0, At12_0, ct12_0, t12_1, t12_2, H, rfl⟩))))))))))))))
       ·
        exact ov (EV.ex rfl rfl) rfl (xs [] [0, 1, 2] rfl rfl rfl (one1 7 rfl rfl (ov (EV.ex rfl rfl) rfl (xs [] [0, 1, 2] rfl rfl rfl (xd (pr [0, 2, 4, 6] [0, 1, 2] [0, 2, 4] rfl rfl rfl rfl (ge (rg (sv (EV.mv rfl) rfl (sv (EV.sub rfl rfl) rfl (sv (EV.as rfl) rfl (re (wk [0, 2, 4, 6] [2, 0, 1] [⟨0, 2, 1, true⟩, ⟨2, 1, 2, true⟩, ⟨1, 0, 0, false⟩] (ih0 _ (by omega) _ ⟨wrap64 (x4_6 - 1), t11_1, t11_2, x4_2_0, Ax4_2_0, cx4_2_0, x4_2_1, x4_2_2, t12_0, At12_0, ct12_0, t12_1, t12_2, H, rfl⟩))))))))))))))
      ·
       refine ov (EV.ex rfl rfl) rfl (xs [] [0, 1, 2] rfl rfl rfl ?_)
       refine one2 7 8 rfl rfl rfl rfl ?_ ?_
       ·
        exact ov (EV.ex rfl rfl) rfl (xs [] [0, 1, 2] rfl rfl rfl (one1 8 rfl rfl (ov (EV.ex rfl rfl) rfl (xs [] [0, 1, 2] rfl rfl rfl (xd (pr [0, 2, 4, 6] [0, 1, 2] [0, 2, 4] rfl rfl rfl rfl (ge (rg (sv (EV.mv rfl) rfl (sv (EV.sub rfl rfl) rfl (sv (EV.as rfl) rfl (re (wk [0, 2, 4, 6] [2, 0, 1] [⟨0, 2, 1, true⟩, ⟨2, 1, 2, true⟩, ⟨1, 0, 0, false⟩] (ih0 _ (by omega) _ ⟨wrap64 (x4_6 - 1), t11_1, t11_2, x4_2_0, Ax4_2_0, cx4_2_0, x4_2_1, x4_2_2, t12_0, At12_0, ct12_0, t12_1, t12_2, H, rfl⟩))))))))))))))
       ·
        exact ov (EV.ex rfl rfl) rfl (xs [] [0, 1, 2] rfl rfl rfl (one1 7 rfl rfl (ov (EV.ex rfl rfl) rfl (xs [] [0, 1, 2] rfl rfl rfl (xd (pr [0, 2, 4, 6] [0, 1, 2] [0, 2, 4] rfl rfl rfl rfl (ge (rg (sv (EV.mv rfl) rfl (sv (EV.sub rfl rfl) rfl (sv (EV.as rfl) rfl (re (wk [0, 2, 4, 6] [2, 0, 1] [⟨0, 2, 1, true⟩, ⟨2, 1, 2, true⟩, ⟨1, 0, 0, false⟩] (ih0 _ (by omega) _ ⟨wrap64 (x4_6 - 1), t11_1, t11_2, x4_2_0, Ax4_2_0, cx4_2_0, x4_2_1, x4_2_2, t12_0, At12_0, ct12_0, t12_1, t12_2, H, rfl⟩))))))))))))))
    ·
     refine ov (EV.ex rfl rfl) rfl (xs [] [0, 1, 2] rfl rfl rfl ?_)
     refine one3 6 8 9 rfl rfl rfl rfl rfl rfl ?_ ?_ ?_
     ·
      refine ov (EV.ex rfl rfl) rfl (xs [] [0, 1, 2] rfl rfl rfl ?_)
      refine one3 8 9 10 rfl rfl rfl rfl rfl rfl ?_ ?_ ?_
      ·
       refine ov (EV.ex rfl rfl) rfl (xs [] [0, 1, 2] rfl rfl rfl ?_)
       refine one2 9 10 rfl rfl rfl rfl ?_ ?_
       ·
        exact ov (EV.ex rfl rfl) rfl (xs [] [0, 1, 2] rfl rfl rfl (one1 10 rfl rfl (op_st (cs' := [.slice At12_0 t12_0.length ct12_0, .int .i64 t12_1, .int .i64 t12_2]) 1 rfl rfl rfl rfl rfl rfl (xn rfl (xd (pr [0, 2, 4, 6] [0, 1, 2] [0, 2, 4] rfl rfl rfl rfl (ge (rg (sv (EV.mv rfl) rfl (sv (EV.sub rfl rfl) rfl (sv (EV.as rfl) rfl (re (wk [0, 2, 4, 6] [2, 0, 1] [⟨0, 2, 1, true⟩, ⟨2, 1, 2, true⟩, ⟨1, 0, 0, false⟩] (ih0 _ (by omega) _ ⟨wrap64 (x4_6 - 1), t11_1, t11_2, x4_2_0, Ax4_2_0, cx4_2_0, x4_2_1, x4_2_2, t12_0, At12_0, ct12_0, t12_1, t12_2, H, rfl⟩))))))))))))))
       ·
        exact op_st (cs' := [.slice At12_0 t12_0.length ct12_0, .int .i64 t12_1, .int .i64 t12_2]) 1 rfl rfl rfl rfl rfl rfl (xn rfl (one1 9 rfl rfl (ov (EV.ex rfl rfl) rfl (xs [] [0, 1, 2] rfl rfl rfl (xd (pr [0, 2, 4, 6] [0, 1, 2] [0, 2, 4] rfl rfl rfl rfl (ge (rg (sv (EV.mv rfl) rfl (sv (EV.sub rfl rfl) rfl (sv (EV.as rfl) rfl (re (wk [0, 2, 4, 6] [2, 0, 1] [⟨0, 2, 1, true⟩, ⟨2, 1, 2, true⟩, ⟨1, 0, 0, false⟩] (ih0 _ (by omega) _ ⟨wrap64 (x4_6 - 1), t11_1, t11_2, x4_2_0, Ax4_2_0, cx4_2_0, x4_2_1, x4_2_2, t12_0, At12_0, ct12_0, t12_1, t12_2, H, rfl⟩))))))))))))))
      ·
       refine ov (EV.ex rfl rfl) rfl (xs [] [0, 1, 2] rfl rfl rfl ?_)
       refine one2 8 10 rfl rfl rfl rfl ?_ ?_
       ·
        exact ov (EV.ex rfl rfl) rfl (xs [] [0, 1, 2] rfl rfl rfl (one1 10 rfl rfl (op_st (cs' := [.slice At12_0 t12_0.length ct12_0, .int .i64 t12_1, .int .i64 t12_2]) 1 rfl rfl rfl rfl rfl rfl (xn rfl (xd (pr [0, 2, 4, 6] [0, 1, 2] [0, 2, 4] rfl rfl rfl rfl (ge (rg (sv (EV.mv rfl) rfl (sv (EV.sub rfl rfl) rfl (sv (EV.as rfl) rfl (re (wk [0, 2, 4, 6] [2, 0, 1] [⟨0, 2, 1, true⟩, ⟨2, 1, 2, true⟩, ⟨1, 0, 0, false⟩] (ih0 _ (by omega) _ ⟨wrap64 (x4_6 - 1), t11_1, t11_2, x4_2_0, Ax4_2_0, cx4_2_0, x4_2_1, x4_2_2, t12_0, At12_0, ct12_0, t12_1, t12_2, H, rfl⟩))))))))))))))
       ·
        exact op_st (cs' := [.slice At12_0 t12_0.length ct12_0, .int .i64 t12_1, .int .i64 t12_2]) 1 rfl rfl rfl rfl rfl rfl (xn rfl (one1 8 rfl rfl (ov (EV.ex rfl rfl) rfl (xs [] [0, 1, 2] rfl rfl rfl (xd (pr [0, 2, 4, 6] [0, 1, 2] [0, 2, 4] rfl rfl rfl rfl (ge (rg (sv (EV.mv rfl) rfl (sv (EV.sub rfl rfl) rfl (sv (EV.as rfl) rfl (re (wk [0, 2, 4, 6] [2, 0, 1] [⟨0, 2, 1, true⟩, ⟨2, 1, 2, true⟩, ⟨1, 0, 0, false⟩] (ih0 _ (by omega) _ ⟨wrap64 (x4_6 - 1), t11_1, t11_2, x4_2_0, Ax4_2_0, cx4_2_0, x4_2_1, x4_2_2, t12_0, At12_0, ct12_0, t12_1, t12_2, H, rfl⟩))))))))))))))
      ·
       refine op_st (cs' := [.slice At12_0 t12_0.length ct12_0, .int .i64 t12_1, .int .i64 t12_2]) 1 rfl rfl rfl rfl rfl rfl (xn rfl ?_)
       refine one2 8 9 rfl rfl rfl rfl ?_ ?_
       ·
        exact ov (EV.ex rfl rfl) rfl (xs [] [0, 1, 2] rfl rfl rfl (one1 9 rfl rfl (ov (EV.ex rfl rfl) rfl (xs [] [0, 1, 2] rfl rfl rfl (xd (pr [0, 2, 4, 6] [0, 1, 2] [0, 2, 4] rfl rfl rfl rfl (ge (rg (sv (EV.mv rfl) rfl (sv (EV.sub rfl rfl) rfl (sv (EV.as rfl) rfl (re (wk [0, 2, 4, 6] [2, 0, 1] [⟨0, 2, 1, true⟩, ⟨2, 1, 2, true⟩, ⟨1, 0, 0, false⟩] (ih0 _ (by omega) _ ⟨wrap64 (x4_6 - 1), t11_1, t11_2, x4_2_0, Ax4_2_0, cx4_2_0, x4_2_1, x4_2_2, t12_0, At12_0, ct12_0, t12_1, t12_2, H, rfl⟩))))))))))))))
       ·
        exact ov (EV.ex rfl rfl) rfl (xs [] [0, 1, 2] rfl rfl rfl (one1 8 rfl rfl (ov (EV.ex rfl rfl) rfl (xs [] [0, 1, 2] rfl rfl rfl (xd (pr [0, 2, 4, 6] [0, 1, 2] [0, 2, 4] rfl rfl rfl rfl (ge (rg (sv (EV.mv rfl) rfl (sv (EV.sub rfl rfl) rfl (sv (EV.as rfl) rfl (re (wk [0, 2, 4, 6] [2, 0, 1] [⟨0, 2, 1, true⟩, ⟨2, 1, 2, true⟩, ⟨1, 0, 0, false⟩] (ih0 _ (by omega) _ ⟨wrap64 (x4_6 - 1), t11_1, t11_2, x4_2_0, Ax4_2_0, cx4_2_0, x4_2_1, x4_2_2, t12_0, At12_0, ct12_0, t12_1, t12_2, H, rfl⟩))))))))))))))
     ·
      refine ov (EV.ex rfl rfl) rfl (xs [] [0, 1, 2] rfl rfl rfl ?_)
      refine one2 6 9 rfl rfl rfl rfl ?_ ?_
      ·
       refine ov (EV.ex rfl rfl) rfl (xs [] [0, 1, 2] rfl rfl rfl ?_)
       refine one2 9 10 rfl rfl rfl rfl ?_ ?_
       ·
        exact ov (EV.ex rfl rfl) rfl (xs [] [0, 1, 2] rfl rfl rfl (one1 10 rfl rfl (op_st (cs' := [.slice At12_0 t12_0.length ct12_0, .int .i64 t12_1, .int .i64 t12_2]) 1 rfl rfl rfl rfl rfl rfl (xn rfl (xd (pr [0, 2, 4, 6] [0, 1, 2] [0, 2, 4] rfl rfl rfl rfl (ge (rg (sv (EV.mv rfl) rfl (sv (EV.sub rfl rfl) rfl (sv (EV.as rfl) rfl (re (wk [0, 2, 4, 6] [2, 0, 1] [⟨0, 2, 1, true⟩, ⟨2, 1, 2, true⟩, ⟨1, 0, 0, false⟩] (ih0 _ (by omega) _ ⟨wrap64 (x4_6 - 1), t11_1, t11_2, x4_2_0, Ax4_2_0, cx4_2_0, x4_2_1, x4_2_2, t12_0, At12_0, ct12_0, t12_1, t12_2, H, rfl⟩))))))))))))))
       ·
        exact op_st (cs' := [.slice At12_0 t12_0.length ct12_0, .int .i64 t12_1, .int .i64 t12_2]) 1 rfl rfl rfl rfl rfl rfl (xn rfl (one1 9 rfl rfl (ov (EV.ex rfl rfl) rfl (xs [] [0, 1, 2] rfl rfl rfl (xd (pr [0, 2, 4, 6] [0, 1, 2] [0, 2, 4] rfl rfl rfl rfl (ge (rg (sv (EV.mv rfl) rfl (sv (EV.sub rfl rfl) rfl (sv (EV.as rfl) rfl (re (wk [0, 2, 4, 6] [2, 0, 1] [⟨0, 2, 1, true⟩, ⟨2, 1, 2, true⟩, ⟨1, 0, 0, false⟩] (ih0 _ (by omega) _ ⟨wrap64 (x4_6 - 1), t11_1, t11_2, x4_2_0, Ax4_2_0, cx4_2_0, x4_2_1, x4_2_2, t12_0, At12_0, ct12_0, t12_1, t12_2, H, rfl⟩))))))))))))))
      ·
       exact ov (EV.ex rfl rfl) rfl (xs [] [0, 1, 2] rfl rfl rfl (one1 6 rfl rfl (ov (EV.ex rfl rfl) rfl (xs [] [0, 1, 2] rfl rfl rfl (one1 10 rfl rfl (op_st (cs' := [.slice At12_0 t12_0.length ct12_0, .int .i64 t12_1, .int .i64 t12_2]) 1 rfl rfl rfl rfl rfl rfl (xn rfl (xd (pr [0, 2, 4, 6] [0, 1, 2] [0, 2, 4] rfl rfl rfl rfl (ge (rg (sv (EV.mv rfl) rfl (sv (EV.sub rfl rfl) rfl (sv (EV.as rfl) rfl (re (wk [0, 2, 4, 6] [2, 0, 1] [⟨0, 2, 1, true⟩, ⟨2, 1, 2, true⟩, ⟨1, 0, 0, false⟩] (ih0 _ (by omega) _ ⟨wrap64 (x4_6 - 1), t11_1, t11_2, x4_2_0, Ax4_2_0, cx4_2_0, x4_2_1, x4_2_2, t12_0, At12_0, ct12_0, t12_1, t12_2, H, rfl⟩)))))))))))))))))
     ·
      refine ov (EV.ex rfl rfl) rfl (xs [] [0, 1, 2] rfl rfl rfl ?_)
      refine one2 6 8 rfl rfl rfl rfl ?_ ?_
      ·
       refine ov (EV.ex rfl rfl) rfl (xs [] [0, 1, 2] rfl rfl rfl ?_)
       refine one2 8 10 rfl rfl rfl rfl ?_ ?_
       ·
        exact ov (EV.ex rfl rfl) rfl (xs [] [0, 1, 2] rfl rfl rfl (one1 10 rfl rfl (op_st (cs' := [.slice At12_0 t12_0.length ct12_0, .int .i64 t12_1, .int .i64 t12_2]) 1 rfl rfl rfl rfl rfl rfl (xn rfl (xd (pr [0, 2, 4, 6] [0, 1, 2] [0, 2, 4] rfl rfl rfl rfl (ge (rg (sv (EV.mv rfl) rfl (sv (EV.sub rfl rfl) rfl (sv (EV.as rfl) rfl (re (wk [0, 2, 4, 6] [2, 0, 1] [⟨0, 2, 1, true⟩, ⟨2, 1, 2, true⟩, ⟨1, 0, 0, false⟩] (ih0 _ (by omega) _ ⟨wrap64 (x4_6 - 1), t11_1, t11_2, x4_2_0, Ax4_2_0, cx4_2_0, x4_2_1, x4_2_2, t12_0, At12_0, ct12_0, t12_1, t12_2, H, rfl⟩))))))))))))))
       ·
        exact op_st (cs' := [.slice At12_0 t12_0.length ct12_0, .int .i64 t12_1, .int .i64 t12_2]) 1 rfl rfl rfl rfl rfl rfl (xn rfl (one1 8 rfl rfl (ov (EV.ex rfl rfl) rfl (xs [] [0, 1, 2] rfl rfl rfl (xd (pr [0, 2, 4, 6] [0, 1, 2] [0, 2, 4] rfl rfl rfl rfl (ge (rg (sv (EV.mv rfl) rfl (sv (EV.sub rfl rfl) rfl (sv (EV.as rfl) rfl (re (wk [0, 2, 4, 6] [2, 0, 1] [⟨0, 2, 1, true⟩, ⟨2, 1, 2, true⟩, ⟨1, 0, 0, false⟩] (ih0 _ (by omega) _ ⟨wrap64 (x4_6 - 1), t11_1, t11_2, x4_2_0, Ax4_2_0, cx4_2_0, x4_2_1, x4_2_2, t12_0, At12_0, ct12_0, t12_1, t12_2, H, rfl⟩))))))))))))))
      ·
       exact ov (EV.ex rfl rfl) rfl (xs [] [0, 1, 2] rfl rfl rfl (one1 6 rfl rfl (ov (EV.ex rfl rfl) rfl (xs [] [0, 1, 2] rfl rfl rfl (one1 10 rfl rfl (op_st (cs' := [.slice At12_0 t12_0.length ct12_0, .int .i64 t12_1, .int .i64 t12_2]) 1 rfl rfl rfl rfl rfl rfl (xn rfl (xd (pr [0, 2, 4, 6] [0, 1, 2] [0, 2, 4] rfl rfl rfl rfl (ge (rg (sv (EV.mv rfl) rfl (sv (EV.sub rfl rfl) rfl (sv (EV.as rfl) rfl (re (wk [0, 2, 4, 6] [2, 0, 1] [⟨0, 2, 1, true⟩, ⟨2, 1, 2, true⟩, ⟨1, 0, 0, false⟩] (ih0 _ (by omega) _ ⟨wrap64 (x4_6 - 1), t11_1, t11_2, x4_2_0, Ax4_2_0, cx4_2_0, x4_2_1, x4_2_2, t12_0, At12_0, ct12_0, t12_1, t12_2, H, rfl⟩)))))))))))))))))
    ·
     refine ov (EV.ex rfl rfl) rfl (xs [] [0, 1, 2] rfl rfl rfl ?_)
     refine one3 6 7 9 rfl rfl rfl rfl rfl rfl ?_ ?_ ?_
     ·
      refine ov (EV.ex rfl rfl) rfl (xs [] [0, 1, 2] rfl rfl rfl ?_)
      refine one3 7 9 10 rfl rfl rfl rfl rfl rfl ?_ ?_ ?_
      ·
       refine ov (EV.ex rfl rfl) rfl (xs [] [0, 1, 2] rfl rfl rfl ?_)
       refine one2 9 10 rfl rfl rfl rfl ?_ ?_
       ·
        exact ov (EV.ex rfl rfl) rfl (xs [] [0, 1, 2] rfl rfl rfl (one1 10 rfl rfl (op_st (cs' := [.slice At12_0 t12_0.length ct12_0, .int .i64 t12_1, .int .i64 t12_2]) 1 rfl rfl rfl rfl rfl rfl (xn rfl (xd (pr [0, 2, 4, 6] [0, 1, 2] [0, 2, 4] rfl rfl rfl rfl (ge (rg (sv (EV.mv rfl) rfl (sv (EV.sub rfl rfl) rfl (sv (EV.as rfl) rfl (re (wk [0, 2, 4, 6] [2, 0, 1] [⟨0, 2, 1, true⟩, ⟨2, 1, 2, true⟩, ⟨1, 0, 0, false⟩] (ih0 _ (by omega) _ ⟨wrap64 (x4_6 - 1), t11_1, t11_2, x4_2_0, Ax4_2_0, cx4_2_0, x4_2_1, x4_2_2, t12_0, At12_0, ct12_0, t12_1, t12_2, H, rfl⟩))))))))))))))
       ·
        exact op_st (cs' := [.slice At12_0 t12_0.length ct12_0, .int .i64 t12_1, .int .i64 t12_2]) 1 rfl rfl rfl rfl rfl rfl (xn rfl (one1 9 rfl rfl (ov (EV.ex rfl rfl) rfl (xs [] [0, 1, 2] rfl rfl rfl (xd (pr [0, 2, 4, 6] [0, 1, 2] [0, 2, 4] rfl rfl rfl rfl (ge (rg (sv (EV.mv rfl) rfl (sv (EV.sub rfl rfl) rfl (sv (EV.as rfl) rfl (re (wk [0, 2, 4, 6] [2, 0, 1] [⟨0, 2, 1, true⟩, ⟨2, 1, 2, true⟩, ⟨1, 0, 0, false⟩] (ih0 _ (by omega) _ ⟨wrap64 (x4_6 - 1), t11_1, t11_2, x4_2_0, Ax4_2_0, cx4_2_0, x4_2_1, x4_2_2, t12_0, At12_0, ct12_0, t12_1, t12_2, H, rfl⟩))))))))))))))
      ·
       refine ov (EV.ex rfl rfl) rfl (xs [] [0, 1, 2] rfl rfl rfl ?_)
       refine one2 7 10 rfl rfl rfl rfl ?_ ?_
       ·
        exact ov (EV.ex rfl rfl) rfl (xs [] [0, 1, 2] rfl rfl rfl (one1 10 rfl rfl (op_st (cs' := [.slice At12_0 t12_0.length ct12_0, .int .i64 t12_1, .int .i64 t12_2]) 1 rfl rfl rfl rfl rfl rfl (xn rfl (xd (pr [0, 2, 4, 6] [0, 1, 2] [0, 2, 4] rfl rfl rfl rfl (ge (rg (sv (EV.mv rfl) rfl (sv (EV.sub rfl rfl) rfl (sv (EV.as rfl) rfl (re (wk [0, 2, 4, 6] [2, 0, 1] [⟨0, 2, 1, true⟩, ⟨2, 1, 2, true⟩, ⟨1, 0, 0, false⟩] (ih0 _ (by omega) _ ⟨wrap64 (x4_6 - 1), t11_1, t11_2, x4_2_0, Ax4_2_0, cx4_2_0, x4_2_1, x4_2_2, t12_0, At12_0, ct12_0, t12_1, t12_2, H, rfl⟩))))))))))))))
       ·
        exact op_st (cs' := [.slice At12_0 t12_0.length ct12_0, .int .i64 t12_1, .int .i64 t12_2]) 1 rfl rfl rfl rfl rfl rfl (xn rfl (one1 7 rfl rfl (ov (EV.ex rfl rfl) rfl (xs [] [0, 1, 2] rfl rfl rfl (xd (pr [0, 2, 4, 6] [0, 1, 2] [0, 2, 4] rfl rfl rfl rfl (ge (rg (sv (EV.mv rfl) rfl (sv (EV.sub rfl rfl) rfl (sv (EV.as rfl) rfl (re (wk [0, 2, 4, 6] [2, 0, 1] [⟨0, 2, 1, true⟩, ⟨2, 1, 2, true⟩, ⟨1, 0, 0, false⟩] (ih0 _ (by omega) _ ⟨wrap64 (x4_6 - 1), t11_1, t11_2, x4_2_0, Ax4_2_0, cx4_2_0, x4_2_1, x4_2_2, t12_0, At12_0, ct12_0, t12_1, t12_2, H, rfl⟩))))))))))))))
      ·
       refine op_st (cs' := [.slice At12_0 t12_0.length ct12_0, .int .i64 t12_1, .int .i64 t12_2]) 1 rfl rfl rfl rfl rfl rfl (xn rfl ?_)
       refine one2 7 9 rfl rfl rfl rfl ?_ ?_
       ·
        exact ov (EV.ex rfl rfl) rfl (xs [] [0, 1, 2] rfl rfl rfl (one1 9 rfl rfl (ov (EV.ex rfl rfl) rfl (xs [] [0, 1, 2] rfl rfl rfl (xd (pr [0, 2, 4, 6] [0, 1, 2] [0, 2, 4] rfl rfl rfl rfl (ge (rg (sv (EV.mv rfl) rfl (sv (EV.sub rfl rfl) rfl (sv (EV.as rfl) rfl (re (wk [0, 2, 4, 6] [2, 0, 1] [⟨0, 2, 1, true⟩, ⟨2, 1, 2, true⟩, ⟨1, 0, 0, false⟩] (ih0 _ (by omega) _ ⟨wrap64 (x4_6 - 1), t11_1, t11_2, x4_2_0, Ax4_2_0, cx4_2_0, x4_2_1, x4_2_2, t12_0, At12_0, ct12_0, t12_1, t12_2, H, rfl⟩))))))))))))))
       ·
        exact ov (EV.ex rfl rfl) rfl (xs [] [0, 1, 2] rfl rfl rfl (one1 7 rfl rfl (ov (EV.ex rfl rfl) rfl (xs [] [0, 1, 2] rfl rfl rfl (xd (pr [0, 2, 4, 6] [0, 1, 2] [0, 2, 4] rfl rfl rfl rfl (ge (rg (sv (EV.mv rfl) rfl (sv (EV.sub rfl rfl) rfl (sv (EV.as rfl) rfl (re (wk [0, 2, 4, 6] [2, 0, 1] [⟨0, 2, 1, true⟩, ⟨2, 1, 2, true⟩, ⟨1, 0, 0, false⟩] (ih0 _ (by omega) _ ⟨wrap64 (x4_6 - 1), t11_1, t11_2, x4_2_0, Ax4_2_0, cx4_2_0, x4_2_1, x4_2_2, t12_0, At12_0, ct12_0, t12_1, t12_2, H, rfl⟩))))))))))))))
     ·
      refine ov (EV.ex rfl rfl) rfl (xs [] [0, 1, 2] rfl rfl rfl ?_)
      refine one2 6 9 rfl rfl rfl rfl ?_ ?_
      ·
       refine ov (EV.ex rfl rfl) rfl (xs [] [0, 1, 2] rfl rfl rfl ?_)
       refine one2 9 10 rfl rfl rfl rfl ?_ ?_
       ·
        exact ov (EV.ex rfl rfl) rfl (xs [] [0, 1, 2] rfl rfl rfl (one1 10 rfl rfl (op_st (cs' := [.slice At12_0 t12_0.length ct12_0, .int .i64 t12_1, .int .i64 t12_2]) 1 rfl rfl rfl rfl rfl rfl (xn rfl (xd (pr [0, 2, 4, 6] [0, 1, 2] [0, 2, 4] rfl rfl rfl rfl (ge (rg (sv (EV.mv rfl) rfl (sv (EV.sub rfl rfl) rfl (sv (EV.as rfl) rfl (re (wk [0, 2, 4, 6] [2, 0, 1] [⟨0, 2, 1, true⟩, ⟨2, 1, 2, true⟩, ⟨1, 0, 0, false⟩] (ih0 _ (by omega) _ ⟨wrap64 (x4_6 - 1), t11_1, t11_2, x4_2_0, Ax4_2_0, cx4_2_0, x4_2_1, x4_2_2, t12_0, At12_0, ct12_0, t12_1, t12_2, H, rfl⟩))))))))))))))
       ·
        exact op_st (cs' := [.slice At12_0 t12_0.length ct12_0, .int .i64 t12_1, .int .i64 t12_2]) 1 rfl rfl rfl rfl rfl rfl (xn rfl (one1 9 rfl rfl (ov (EV.ex rfl rfl) rfl (xs [] [0, 1, 2] rfl rfl rfl (xd (pr [0, 2, 4, 6] [0, 1, 2] [0, 2, 4] rfl rfl rfl rfl (ge (rg (sv (EV.mv rfl) rfl (sv (EV.sub rfl rfl) rfl (sv (EV.as rfl) rfl (re (wk [0, 2, 4, 6] [2, 0, 1] [⟨0, 2, 1, true⟩, ⟨2, 1, 2, true⟩, ⟨1, 0, 0, false⟩] (ih0 _ (by omega) _ ⟨wrap64 (x4_6 - 1), t11_1, t11_2, x4_2_0, Ax4_2_0, cx4_2_0, x4_2_1, x4_2_2, t12_0, At12_0, ct12_0, t12_1, t12_2, H, rfl⟩))))))))))))))
      ·
       exact ov (EV.ex rfl rfl) rfl (xs [] [0, 1, 2] rfl rfl rfl (one1 6 rfl rfl (ov (EV.ex rfl rfl) rfl (xs [] [0, 1, 2] rfl rfl rfl (one1 10 rfl rfl (op_st (cs' := [.slice At12_0 t12_0.length ct12_0, .int .i64 t12_1, .int .i64 t12_2]) 1 rfl rfl rfl rfl rfl rfl (xn rfl (xd (pr [0, 2, 4, 6] [0, 1, 2] [0, 2, 4] rfl rfl rfl rfl (ge (rg (sv (EV.mv rfl) rfl (sv (EV.sub rfl rfl) rfl (sv (EV.as rfl) rfl (re (wk [0, 2, 4, 6] [2, 0, 1] [⟨0, 2, 1, true⟩, ⟨2, 1, 2, true⟩, ⟨1, 0, 0, false⟩] (ih0 _ (by omega) _ ⟨wrap64 (x4_6 - 1), t11_1, t11_2, x4_2_0, Ax4_2_0, cx4_2_0, x4_2_1, x4_2_2, t12_0, At12_0, ct12_0, t12_1, t12_2, H, rfl⟩)))))))))))))))))
     ·
      refine ov (EV.ex rfl rfl) rfl (xs [] [0, 1, 2] rfl rfl rfl ?_)
      refine one2 6 7 rfl rfl rfl rfl ?_ ?_
      ·
       refine ov (EV.ex rfl rfl) rfl (xs [] [0, 1, 2] rfl rfl rfl ?_)
       refine one2 7 10 rfl rfl rfl rfl ?_ ?_
       ·
        exact ov (EV.ex rfl rfl) rfl (xs [] [0, 1, 2] rfl rfl rfl (one1 10 rfl rfl (op_st (cs' := [.slice At12_0 t12_0.length ct12_0, .int .i64 t12_1, .int .i64 t12_2]) 1 rfl rfl rfl rfl rfl rfl (xn rfl (xd (pr [0, 2, 4, 6] [0, 1, 2] [0, 2, 4] rfl rfl rfl rfl (ge (rg (sv (EV.mv rfl) rfl (sv (EV.sub rfl rfl) rfl (sv (EV.as rfl) rfl (re (wk [0, 2, 4, 6] [2, 0, 1] [⟨0, 2, 1, true⟩, ⟨2, 1, 2, true⟩, ⟨1, 0, 0, false⟩] (ih0 _ (by omega) _ ⟨wrap64 (x4_6 - 1), t11_1, t11_2, x4_2_0, Ax4_2_0, cx4_2_0, x4_2_1, x4_2_2, t12_0, At12_0, ct12_0, t12_1, t12_2, H, rfl⟩))))))))))))))
       ·
        exact op_st (cs' := [.slice At12_0 t12_0.length ct12_0, .int .i64 t12_1, .int .i64 t12_2]) 1 rfl rfl rfl rfl rfl rfl (xn rfl (one1 7 rfl rfl (ov (EV.ex rfl rfl) rfl (xs [] [0, 1, 2] rfl rfl rfl (xd (pr [0, 2, 4, 6] [0, 1, 2] [0, 2, 4] rfl rfl rfl rfl (ge (rg (sv (EV.mv rfl) rfl (sv (EV.sub rfl rfl) rfl (sv (EV.as rfl) rfl (re (wk [0, 2, 4, 6] [2, 0, 1] [⟨0, 2, 1, true⟩, ⟨2, 1, 2, true⟩, ⟨1, 0, 0, false⟩] (ih0 _ (by omega) _ ⟨wrap64 (x4_6 - 1), t11_1, t11_2, x4_2_0, Ax4_2_0, cx4_2_0, x4_2_1, x4_2_2, t12_0, At12_0, ct12_0, t12_1, t12_2, H, rfl⟩))))))))))))))
      ·
       exact ov (EV.ex rfl rfl) rfl (xs [] [0, 1, 2] rfl rfl rfl (one1 6 rfl rfl (ov (EV.ex rfl rfl) rfl (xs [] [0, 1, 2] rfl rfl rfl (one1 10 rfl rfl (op_st (cs' := [.slice At12_0 t12_0.length ct12_0, .int .i64 t12_1, .int .i64 t12_2]) 1 rfl rfl rfl rfl rfl rfl (xn rfl (xd (pr [0, 2, 4, 6] [0, 1, 2] [0, 2, 4] rfl rfl rfl rfl (ge (rg (sv (EV.mv rfl) rfl (sv (EV.sub rfl rfl) rfl (sv (EV.as rfl) rfl (re (wk [0, 2, 4, 6] [2, 0, 1] [⟨0, 2, 1, true⟩, ⟨2, 1, 2, true⟩, ⟨1, 0, 0, false⟩] (ih0 _ (by omega) _ ⟨wrap64 (x4_6 - 1), t11_1, t11_2, x4_2_0, Ax4_2_0, cx4_2_0, x4_2_1, x4_2_2, t12_0, At12_0, ct12_0, t12_1, t12_2, H, rfl⟩)))))))))))))))))
    ·
     refine ov (EV.ex rfl rfl) rfl (xs [] [0, 1, 2] rfl rfl rfl ?_)
     refine one3 6 7 8 rfl rfl rfl rfl rfl rfl ?_ ?_ ?_
     ·
      refine ov (EV.ex rfl rfl) rfl (xs [] [0, 1, 2] rfl rfl rfl ?_)
      refine one3 7 8 10 rfl rfl rfl rfl rfl rfl ?_ ?_ ?_
      ·
       refine ov (EV.ex rfl rfl) rfl (xs [] [0, 1, 2] rfl rfl rfl ?_)
       refine one2 8 10 rfl rfl rfl rfl ?_ ?_
       ·
        exact ov (EV.ex rfl rfl) rfl (xs [] [0, 1, 2] rfl rfl rfl (one1 10 rfl rfl (op_st (cs' := [.slice At12_0 t12_0.length ct12_0, .int .i64 t12_1, .int .i64 t12_2]) 1 rfl rfl rfl rfl rfl rfl (xn rfl (xd (pr [0, 2, 4, 6] [0, 1, 2] [0, 2, 4] rfl rfl rfl rfl (ge (rg (sv (EV.mv rfl) rfl (sv (EV.sub rfl rfl) rfl (sv (EV.as rfl) rfl (re (wk [0, 2, 4, 6] [2, 0, 1] [⟨0, 2, 1, true⟩, ⟨2, 1, 2, true⟩, ⟨1, 0, 0, false⟩] (ih0 _ (by omega) _ ⟨wrap64 (x4_6 - 1), t11_1, t11_2, x4_2_0, Ax4_2_0, cx4_2_0, x4_2_1, x4_2_2, t12_0, At12_0, ct12_0, t12_1, t12_2, H, rfl⟩))))))))))))))
       ·
        exact op_st (cs' := [.slice At12_0 t12_0.length ct12_0, .int .i64 t12_1, .int .i64 t12_2]) 1 rfl rfl rfl rfl rfl rfl (xn rfl (one1 8 rfl rfl (ov (EV.ex rfl rfl) rfl (xs [] [0, 1, 2] rfl rfl rfl (xd (pr [0, 2, 4, 6] [0, 1, 2] [0, 2, 4] rfl rfl rfl rfl (ge (rg (sv (EV.mv rfl) rfl (sv (EV.sub rfl rfl) rfl (sv (EV.as rfl) rfl (re (wk [0, 2, 4, 6] [2, 0, 1] [⟨0, 2, 1, true⟩, ⟨2, 1, 2, true⟩, ⟨1, 0, 0, false⟩] (ih0 _ (by omega) _ ⟨wrap64 (x4_6 - 1), t11_1, t11_2, x4_2_0, Ax4_2_0, cx4_2_0, x4_2_1, x4_2_2, t12_0, At12_0, ct12_0, t12_1, t12_2, H, rfl⟩))))))))))))))
      ·
       refine ov (EV.ex rfl rfl) rfl (xs [] [0, 1, 2] rfl rfl rfl ?_)
       refine one2 7 10 rfl rfl rfl rfl ?_ ?_
       ·
        exact ov (EV.ex rfl rfl) rfl (xs [] [0, 1, 2] rfl rfl rfl (one1 10 rfl rfl (op_st (cs' := [.slice At12_0 t12_0.length ct12_0, .int .i64 t12_1, .int .i64 t12_2]) 1 rfl rfl rfl rfl rfl rfl (xn rfl (xd (pr [0, 2, 4, 6] [0, 1, 2] [0, 2, 4] rfl rfl rfl rfl (ge (rg (sv (EV.mv rfl) rfl (sv (EV.sub rfl rfl) rfl (sv (EV.as rfl) rfl (re (wk [0, 2, 4, 6] [2, 0, 1] [⟨0, 2, 1, true⟩, ⟨2, 1, 2, true⟩, ⟨1, 0, 0, false⟩] (ih0 _ (by omega) _ ⟨wrap64 (x4_6 - 1), t11_1, t11_2, x4_2_0, Ax4_2_0, cx4_2_0, x4_2_1, x4_2_2, t12_0, At12_0, ct12_0, t12_1, t12_2, H, rfl⟩))))))))))))))
       ·
        exact op_st (cs' := [.slice At12_0 t12_0.length ct12_0, .int .i64 t12_1, .int .i64 t12_2]) 1 rfl rfl rfl rfl rfl rfl (xn rfl (one1 7 rfl rfl (ov (EV.ex rfl rfl) rfl (xs [] [0, 1, 2] rfl rfl rfl (xd (pr [0, 2, 4, 6] [0, 1, 2] [0, 2, 4] rfl rfl rfl rfl (ge (rg (sv (EV.mv rfl) rfl (sv (EV.sub rfl rfl) rfl (sv (EV.as rfl) rfl (re (wk [0, 2, 4, 6] [2, 0, 1] [⟨0, 2, 1, true⟩, ⟨2, 1, 2, true⟩, ⟨1, 0, 0, false⟩] (ih0 _ (by omega) _ ⟨wrap64 (x4_6 - 1), t11_1, t11_2, x4_2_0, Ax4_2_0, cx4_2_0, x4_2_1, x4_2_2, t12_0, At12_0, ct12_0, t12_1, t12_2, H, rfl⟩))))))))))))))
      ·
       refine op_st (cs' := [.slice At12_0 t12_0.length ct12_0, .int .i64 t12_1, .int .i64 t12_2]) 1 rfl rfl rfl rfl rfl rfl (xn rfl ?_)
       refine one2 7 8 rfl rfl rfl rfl ?_ ?_
       ·
        exact ov (EV.ex rfl rfl) rfl (xs [] [0, 1, 2] rfl rfl rfl (one1 8 rfl rfl (ov (EV.ex rfl rfl) rfl (xs [] [0, 1, 2] rfl rfl rfl (xd (pr [0, 2, 4, 6] [0, 1, 2] [0, 2, 4] rfl rfl rfl rfl (ge (rg (sv (EV.mv rfl) rfl (sv (EV.sub rfl rfl) rfl (sv (EV.as rfl) rfl (re (wk [0, 2, 4, 6] [2, 0, 1] [⟨0, 2, 1, true⟩, ⟨2, 1, 2, true⟩, ⟨1, 0, 0, false⟩] (ih0 _ (by omega) _ ⟨wrap64 (x4_6 - 1), t11_1, t11_2, x4_2_0, Ax4_2_0, cx4_2_0, x4_2_1, x4_2_2, t12_0, At12_0, ct12_0, t12_1, t12_2, H, rfl⟩))))))))))))))
       ·
        exact ov (EV.ex rfl rfl) rfl (xs [] [0, 1, 2] rfl rfl rfl (one1 7 rfl rfl (ov (EV.ex rfl rfl) rfl (xs [] [0, 1, 2] rfl rfl rfl (xd (pr [0, 2, 4, 6] [0, 1, 2] [0, 2, 4] rfl rfl rfl rfl (ge (rg (sv (EV.mv rfl) rfl (sv (EV.sub rfl rfl) rfl (sv (EV.as rfl) rfl (re (wk [0, 2, 4, 6] [2, 0, 1] [⟨0, 2, 1, true⟩, ⟨2, 1, 2, true⟩, ⟨1, 0, 0, false⟩] (ih0 _ (by omega) _ ⟨wrap64 (x4_6 - 1), t11_1, t11_2, x4_2_0, Ax4_2_0, cx4_2_0, x4_2_1, x4_2_2, t12_0, At12_0, ct12_0, t12_1, t12_2, H, rfl⟩))))))))))))))
     ·
      refine ov (EV.ex rfl rfl) rfl (xs [] [0, 1, 2] rfl rfl rfl ?_)
      refine one2 6 8 rfl rfl rfl rfl ?_ ?_
      ·
       refine ov (EV.ex rfl rfl) rfl (xs [] [0, 1, 2] rfl rfl rfl ?_)
       refine one2 8 10 rfl rfl rfl rfl ?_ ?_
       ·
        exact ov (EV.ex rfl rfl) rfl (xs [] [0, 1, 2] rfl rfl rfl (one1 10 rfl rfl (op_st (cs' := [.slice At12_0 t12_0.length ct12_0, .int .i64 t12_1, .int .i64 t12_2]) 1 rfl rfl rfl rfl rfl rfl (xn rfl (xd (pr [0, 2, 4, 6] [0, 1, 2] [0, 2, 4] rfl rfl rfl rfl (ge (rg (sv (EV.mv rfl) rfl (sv (EV.sub rfl rfl) rfl (sv (EV.as rfl) rfl (re (wk [0, 2, 4, 6] [2, 0, 1] [⟨0, 2, 1, true⟩, ⟨2, 1, 2, true⟩, ⟨1, 0, 0, false⟩] (ih0 _ (by omega) _ ⟨wrap64 (x4_6 - 1), t11_1, t11_2, x4_2_0, Ax4_2_0, cx4_2_0, x4_2_1, x4_2_2, t12_0, At12_0, ct12_0, t12_1, t12_2, H, rfl⟩))))))))))))))
       ·
        exact op_st (cs' := [.slice At12_0 t12_0.length ct12_0, .int .i64 t12_1, .int .i64 t12_2]) 1 rfl rfl rfl rfl rfl rfl (xn rfl (one1 8 rfl rfl (ov (EV.ex rfl rfl) rfl (xs [] [0, 1, 2] rfl rfl rfl (xd (pr [0, 2, 4, 6] [0, 1, 2] [0, 2, 4] rfl rfl rfl rfl (ge (rg (sv (EV.mv rfl) rfl (sv (EV.sub rfl rfl) rfl (sv (EV.as rfl) rfl (re (wk [0, 2, 4, 6] [2, 0, 1] [⟨0, 2, 1, true⟩, ⟨2, 1, 2, true⟩, ⟨1, 0, 0, false⟩] (ih0 _ (by omega) _ ⟨wrap64 (x4_6 - 1), t11_1, t11_2, x4_2_0, Ax4_2_0, cx4_2_0, x4_2_1, x4_2_2, t12_0, At12_0, ct12_0, t12_1, t12_2, H, rfl⟩))))))))))))))
      ·
       exact ov (EV.ex rfl rfl) rfl (xs [] [0, 1, 2] rfl rfl rfl (one1 6 rfl rfl (ov (EV.ex rfl rfl) rfl (xs [] [0, 1, 2] rfl rfl rfl (one1 10 rfl rfl (op_st (cs' := [.slice At12_0 t12_0.length ct12_0, .int .i64 t12_1, .int .i64 t12_2]) 1 rfl rfl rfl rfl rfl rfl (xn rfl (xd (pr [0, 2, 4, 6] [0, 1, 2] [0, 2, 4] rfl rfl rfl rfl (ge (rg (sv (EV.mv rfl) rfl (sv (EV.sub rfl rfl) rfl (sv (EV.as rfl) rfl (re (wk [0, 2, 4, 6] [2, 0, 1] [⟨0, 2, 1, true⟩, ⟨2, 1, 2, true⟩, ⟨1, 0, 0, false⟩] (ih0 _ (by omega) _ ⟨wrap64 (x4_6 - 1), t11_1, t11_2, x4_2_0, Ax4_2_0, cx4_2_0, x4_2_1, x4_2_2, t12_0, At12_0, ct12_0, t12_1, t12_2, H, rfl⟩)))))))))))))))))
     ·
      refine ov (EV.ex rfl rfl) rfl (xs [] [0, 1, 2] rfl rfl rfl ?_)
      refine one2 6 7 rfl rfl rfl rfl ?_ ?_
      ·
       refine ov (EV.ex rfl rfl) rfl (xs [] [0, 1, 2] rfl rfl rfl ?_)
       refine one2 7 10 rfl rfl rfl rfl ?_ ?_
       ·
        exact ov (EV.ex rfl rfl) rfl (xs [] [0, 1, 2] rfl rfl rfl (one1 10 rfl rfl (op_st (cs' := [.slice At12_0 t12_0.length ct12_0, .int .i64 t12_1, .int .i64 t12_2]) 1 rfl rfl rfl rfl rfl rfl (xn rfl (xd (pr [0, 2, 4, 6] [0, 1, 2] [0, 2, 4] rfl rfl rfl rfl (ge (rg (sv (EV.mv rfl) rfl (sv (EV.sub rfl rfl) rfl (sv (EV.as rfl) rfl (re (wk [0, 2, 4, 6] [2, 0, 1] [⟨0, 2, 1, true⟩, ⟨2, 1, 2, true⟩, ⟨1, 0, 0, false⟩] (ih0 _ (by omega) _ ⟨wrap64 (x4_6 - 1), t11_1, t11_2, x4_2_0, Ax4_2_0, cx4_2_0, x4_2_1, x4_2_2, t12_0, At12_0, ct12_0, t12_1, t12_2, H, rfl⟩))))))))))))))
       ·
        exact op_st (cs' := [.slice At12_0 t12_0.length ct12_0, .int .i64 t12_1, .int .i64 t12_2]) 1 rfl rfl rfl rfl rfl rfl (xn rfl (one1 7 rfl rfl (ov (EV.ex rfl rfl) rfl (xs [] [0, 1, 2] rfl rfl rfl (xd (pr [0, 2, 4, 6] [0, 1, 2] [0, 2, 4] rfl rfl rfl rfl (ge (rg (sv (EV.mv rfl) rfl (sv (EV.sub rfl rfl) rfl (sv (EV.as rfl) rfl (re (wk [0, 2, 4, 6] [2, 0, 1] [⟨0, 2, 1, true⟩, ⟨2, 1, 2, true⟩, ⟨1, 0, 0, false⟩] (ih0 _ (by omega) _ ⟨wrap64 (x4_6 - 1), t11_1, t11_2, x4_2_0, Ax4_2_0, cx4_2_0, x4_2_1, x4_2_2, t12_0, At12_0, ct12_0, t12_1, t12_2, H, rfl⟩))))))))))))))
      ·
       exact ov (EV.ex rfl rfl) rfl (xs [] [0, 1, 2] rfl rfl rfl (one1 6 rfl rfl (ov (EV.ex rfl rfl) rfl (xs [] [0, 1, 2] rfl rfl rfl (one1 10 rfl rfl (op_st (cs' := [.slice At12_0 t12_0.length ct12_0, .int .i64 t12_1, .int .i64 t12_2]) 1 rfl rfl rfl rfl rfl rfl (xn rfl (xd (pr [0, 2, 4, 6] [0, 1, 2] [0, 2, 4] rfl rfl rfl rfl (ge (rg (sv (EV.mv rfl) rfl (sv (EV.sub rfl rfl) rfl (sv (EV.as rfl) rfl (re (wk [0, 2, 4, 6] [2, 0, 1] [⟨0, 2, 1, true⟩, ⟨2, 1, 2, true⟩, ⟨1, 0, 0, false⟩] (ih0 _ (by omega) _ ⟨wrap64 (x4_6 - 1), t11_1, t11_2, x4_2_0, Ax4_2_0, cx4_2_0, x4_2_1, x4_2_2, t12_0, At12_0, ct12_0, t12_1, t12_2, H, rfl⟩)))))))))))))))))
   ·
    revert H; refine bdI ?_; rintro ⟨t13_0, t13_1, t13_2⟩ A13 H
    refine op_callM (spec_l1PickInt.ok b1000 l0_0 Al0_0 cl0_0 x4_1000_1 x4_1000_2 ([8, 9, 12] : List Int) A28_10 c28_10 _ _ _ A13) [⟨2, 0, 0, false⟩, ⟨3, 0, 0, false⟩] [0] [1, 2] 4 rfl rfl rfl rfl rfl rfl rfl rfl ?_
    rintro _ _ _ ⟨rfl, rfl, rfl⟩
    refine nmE (en := [.sl 2 k27 Ax4_2_0 cx4_2_0 x4_2_0 1 true, .sl 1 k27 Ax4_4_0 cx4_4_0 x4_4_0 2 true, .sl 0 (.int .u8) Al0_0 cl0_0 l0_0 0 false, .sl 2 (.int .i64) A28_10 c28_10 ([8, 9, 12] : List Int) 3 true]) (by kernel_rfl) (xs [] [0, 1, 2] rfl rfl rfl (one1 0 rfl rfl (ov (EV.ld (v := .agg #[.slice Ax4_4_0 x4_4_0.length cx4_4_0, .int .i64 x4_4_1, .int .i64 x4_4_2]) 1 (some 3) rfl rfl rfl) rfl (xs [] [0, 1, 2] rfl rfl rfl (one1 4 rfl rfl ?_)))))
    revert H; refine bdI ?_; rintro ⟨t14_0, t14_1, t14_2, t14_3, t14_4, t14_5⟩ A14 H
    refine op_call (spec_StepJoiner.ok n0 x4_4_0 Ax4_4_0 cx4_4_0 x4_4_1 x4_4_2 t13_0 _ _ _ _ _ _ A14) [⟨1, 0, 0, false⟩] 4 rfl rfl rfl rfl rfl ?_
    rintro _ _ _ ⟨At14_0, ct14_0, At14_3, ct14_3, rfl, rfl, rfl⟩
    refine xs [] [0, 1, 2] rfl rfl rfl (one1 5 rfl rfl (ov (EV.mv rfl) rfl (xs [] [0, 1, 2] rfl rfl rfl ?_)))
    refine one4 6 7 8 9 rfl rfl rfl rfl rfl rfl rfl rfl ?_ ?_ ?_ ?_
    ·
     refine ov (EV.ex rfl rfl) rfl (xs [] [0, 1, 2] rfl rfl rfl ?_)
     refine one4 7 8 9 10 rfl rfl rfl rfl rfl rfl rfl rfl ?_ ?_ ?_ ?_
     ·
      refine ov (EV.ex rfl rfl) rfl (xs [] [0, 1, 2] rfl rfl rfl ?_)
      refine one3 8 9 10 rfl rfl rfl rfl rfl rfl ?_ ?_ ?_
      ·
       refine ov (EV.ex rfl rfl) rfl (xs [] [0, 1, 2] rfl rfl rfl ?_)
       refine one2 9 10 rfl rfl rfl rfl ?_ ?_
       ·
        exact ov (EV.ex rfl rfl) rfl (xs [] [0, 1, 2] rfl rfl rfl (one1 10 rfl rfl (op_st (cs' := [.slice At14_0 t14_0.length ct14_0, .int .i64 t14_1, .int .i64 t14_2]) 1 rfl rfl rfl rfl rfl rfl (xn rfl (xd (pr [0, 2, 4, 6] [0, 1, 2] [0, 2, 4] rfl rfl rfl rfl (ge (rg (sv (EV.mv rfl) rfl (sv (EV.sub rfl rfl) rfl (sv (EV.as rfl) rfl (re (wk [0, 2, 4, 6] [2, 0, 1] [⟨0, 2, 1, true⟩, ⟨2, 1, 2, true⟩, ⟨1, 0, 0, false⟩] (ih0 _ (by omega) _ ⟨wrap64 (x4_6 - 1), t13_1, t13_2, x4_2_0, Ax4_2_0, cx4_2_0, x4_2_1, x4_2_2, t14_0, At14_0, ct14_0, t14_1, t14_2, H, rfl⟩))))))))))))))
       ·
        exact op_st (cs' := [.slice At14_0 t14_0.length ct14_0, .int .i64 t14_1, .int .i64 t14_2]) 1 rfl rfl rfl rfl rfl rfl (xn rfl (one1 9 rfl rfl (ov (EV.ex rfl rfl) rfl (xs [] [0, 1, 2] rfl rfl rfl (xd (pr [0, 2, 4, 6] [0, 1, 2] [0, 2, 4] rfl rfl rfl rfl (ge (rg (sv (EV.mv rfl) rfl (sv (EV.sub rfl rfl) rfl (sv (EV.as rfl) rfl (re (wk [0, 2, 4, 6] [2, 0, 1] [⟨0, 2, 1, true⟩, ⟨2, 1, 2, true⟩, ⟨1, 0, 0, false⟩] (ih0 _ (by omega) _ ⟨wrap64 (x4_6 - 1), t13_1, t13_2, x4_2_0, Ax4_2_0, cx4_2_0, x4_2_1, x4_2_2, t14_0, At14_0, ct14_0, t14_1, t14_2, H, rfl⟩))))))))))))))
      ·
       refine ov (EV.ex rfl rfl) rfl (xs [] [0, 1, 2] rfl rfl rfl ?_)
       refine one2 8 10 rfl rfl rfl rfl ?_ ?_
       ·
        exact ov (EV.ex rfl rfl) rfl (xs [] [0, 1, 2] rfl rfl rfl (one1 10 rfl rfl (op_st (cs' := [.slice At14_0 t14_0.length ct14_0, .int .i64 t14_1, .int .i64 t14_2]) 1 rfl rfl rfl rfl rfl rfl (xn rfl (xd (pr [0, 2, 4, 6] [0, 1, 2] [0, 2, 4] rfl rfl rfl rfl (ge (rg (sv (EV.mv rfl) rfl (sv (EV.sub rfl rfl) rfl (sv (EV.as rfl) rfl (re (wk [0, 2, 4, 6] [2, 0, 1] [⟨0, 2, 1, true⟩, ⟨2, 1, 2, true⟩, ⟨1, 0, 0, false⟩] (ih0 _ (by omega) _ ⟨wrap64 (x4_6 - 1), t13_1, t13_2, x4_2_0, Ax4_2_0, cx4_2_0, x4_2_1, x4_2_2, t14_0, At14_0, ct14_0, t14_1, t14_2, H, rfl⟩))))))))))))))
       ·
        exact op_st (cs' := [.slice At14_0 t14_0.length ct14_0, .int .i64 t14_1, .int .i64 t14_2]) 1 rfl rfl rfl rfl rfl rfl (xn rfl (one1 8 rfl rfl (ov (EV.ex rfl rfl) rfl (xs [] [0, 1, 2] rfl rfl rfl (xd (pr [0, 2, 4, 6] [0, 1, 2] [0, 2, 4] rfl rfl rfl rfl (ge (rg (sv (EV.mv rfl) rfl (sv (EV.sub rfl rfl) rfl (sv (EV.as rfl) rfl (re (wk [0, 2, 4, 6] [2, 0, 1] [⟨0, 2, 1, true⟩, ⟨2, 1, 2, true⟩, ⟨1, 0, 0, false⟩] (ih0 _ (by omega) _ ⟨wrap64 (x4_6 - 1), t13_1, t13_2, x4_2_0, Ax4_2_0, cx4_2_0, x4_2_1, x4_2_2, t14_0, At14_0, ct14_0, t14_1, t14_2, H, rfl⟩))))))))))))))
      ·
       refine op_st (cs' := [.slice At14_0 t14_0.length ct14_0, .int .i64 t14_1, .int .i64 t14_2]) 1 rfl rfl rfl rfl rfl rfl (xn rfl ?_)
       refine one2 8 9 rfl rfl rfl rfl ?_ ?_
       ·
        exact ov (EV.ex rfl rfl) rfl (xs [] [0, 1, 2] rfl rfl rfl (one1 9 rfl rfl (ov (EV.ex rfl rfl) rfl (xs [] [0, 1, 2] rfl rfl rfl (xd (pr [0, 2, 4, 6] [0, 1, 2] [0, 2, 4] rfl rfl rfl rfl (ge (rg (sv (EV.mv rfl) rfl (sv (EV.sub rfl rfl) rfl (sv (EV.as rfl) rfl (re (wk [0, 2, 4, 6] [2, 0, 1] [⟨0, 2, 1, true⟩, ⟨2, 1, 2, true⟩, ⟨1, 0, 0, false⟩] (ih0 _ (by omega) _ ⟨wrap64 (x4_6 - 1), t13_1, t13_2, x4_2_0, Ax4_2_0, cx4_2_0, x4_2_1, x4_2_2, t14_0, At14_0, ct14_0, t14_1, t14_2, H, rfl⟩))))))))))))))
       ·
        exact ov (EV.ex rfl rfl) rfl (xs [] [0, 1, 2] rfl rfl rfl (one1 8 rfl rfl (ov (EV.ex rfl rfl) rfl (xs [] [0, 1, 2] rfl rfl rfl (xd (pr [0, 2, 4, 6] [0, 1, 2] [0, 2, 4] rfl rfl rfl rfl (ge (rg (sv (EV.mv rfl) rfl (sv (EV.sub rfl rfl) rfl (sv (EV.as rfl) rfl (re (wk [0, 2, 4, 6] [2, 0, 1] [⟨0, 2, 1, true⟩, ⟨2, 1, 2, true⟩, ⟨1, 0, 0, false⟩] (ih0 _ (by omega) _ ⟨wrap64 (x4_6 - 1), t13_1, t13_2, x4_2_0, Ax4_2_0, cx4_2_0, x4_2_1, x4_2_2, t14_0, At14_0, ct14_0, t14_1, t14_2, H, rfl⟩))))))))))))))
     ·
      refine ov (EV.ex rfl rfl) rfl (xs [] [0, 1, 2] rfl rfl rfl ?_)
      refine one3 7 9 10 rfl rfl rfl rfl rfl rfl ?_ ?_ ?_
      ·
       refine ov (EV.ex rfl rfl) rfl (xs [] [0, 1, 2] rfl rfl rfl ?_)
       refine one2 9 10 rfl rfl rfl rfl ?_ ?_
       ·
        exact ov (EV.ex rfl rfl) rfl (xs [] [0, 1, 2] rfl rfl rfl (one1 10 rfl rfl (op_st (cs' := [.slice At14_0 t14_0.length ct14_0, .int .i64 t14_1, .int .i64 t14_2]) 1 rfl rfl rfl rfl rfl rfl (xn rfl (xd (pr [0, 2, 4, 6] [0, 1, 2] [0, 2, 4] rfl rfl rfl rfl (ge (rg (sv (EV.mv rfl) rfl (sv (EV.sub rfl rfl) rfl (sv (EV.as rfl) rfl (re (wk [0, 2, 4, 6] [2, 0, 1] [⟨0, 2, 1, true⟩, ⟨2, 1, 2, true⟩, ⟨1, 0, 0, false⟩] (ih0 _ (by omega) _ ⟨wrap64 (x4_6 - 1), t13_1, t13_2, x4_2_0, Ax4_2_0, cx4_2_0, x4_2_1, x4_2_2, t14_0, At14_0, ct14_0, t14_1, t14_2, H, rfl⟩))))))))))))))
       ·
        exact op_st (cs' := [.slice At14_0 t14_0.length ct14_0, .int .i64 t14_1, .int .i64 t14_2]) 1 rfl rfl rfl rfl rfl rfl (xn rfl (one1 9 rfl rfl (ov (EV.ex rfl rfl) rfl (xs [] [0, 1, 2] rfl rfl rfl (xd (pr [0, 2, 4, 6] [0, 1, 2] [0, 2, 4] rfl rfl rfl rfl (ge (rg (sv (EV.mv rfl) rfl (sv (EV.sub rfl rfl) rfl (sv (EV.as rfl) rfl (re (wk [0, 2, 4, 6] [2, 0, 1] [⟨0, 2, 1, true⟩, ⟨2, 1, 2, true⟩, ⟨1, 0, 0, false⟩] (ih0 _ (by omega) _ ⟨wrap64 (x4_6 - 1), t13_1, t13_2, x4_2_0, Ax4_2_0, cx4_2_0, x4_2_1, x4_2_2, t14_0, At14_0, ct14_0, t14_1, t14_2, H, rfl⟩))))))))))))))
      ·
       refine ov (EV.ex rfl rfl) rfl (xs [] [0, 1, 2] rfl rfl rfl ?_)
       refine one2 7 10 rfl rfl rfl rfl ?_ ?_
       ·
        exact ov (EV.ex rfl rfl) rfl (xs [] [0, 1, 2] rfl rfl rfl (one1 10 rfl rfl (op_st (cs' := [.slice At14_0 t14_0.length ct14_0, .int .i64 t14_1, .int .i64 t14_2]) 1 rfl rfl rfl rfl rfl rfl (xn rfl (xd (pr [0, 2, 4, 6] [0, 1, 2] [0, 2, 4] rfl rfl rfl rfl (ge (rg (sv (EV.mv rfl) rfl (sv (EV.sub rfl rfl) rfl (sv (EV.as rfl) rfl (re (wk [0, 2, 4, 6] [2, 0, 1] [⟨0, 2, 1, true⟩, ⟨2, 1, 2, true⟩, ⟨1, 0, 0, false⟩] (ih0 _ (by omega) _ ⟨wrap64 (x4_6 - 1), t13_1, t13_2, x4_2_0, Ax4_2_0, cx4_2_0, x4_2_1, x4_2_2, t14_0, At14_0, ct14_0, t14_1, t14_2, H, rfl⟩))))))))))))))
       ·
        exact op_st (cs' := [.slice At14_0 t14_0.length ct14_0, .int .i64 t14_1, .int .i64 t14_2]) 1 rfl rfl rfl rfl rfl rfl (xn rfl (one1 7 rfl rfl (ov (EV.ex rfl rfl) rfl (xs [] [0, 1, 2] rfl rfl rfl (xd (pr [0, 2, 4, 6] [0, 1, 2] [0, 2, 4] rfl rfl rfl rfl (ge (rg (sv (EV.mv rfl) rfl (sv (EV.sub rfl rfl) rfl (sv (EV.as rfl) rfl (re (wk [0, 2, 4, 6] [2, 0, 1] [⟨0, 2, 1, true⟩, ⟨2, 1, 2, true⟩, ⟨1, 0, 0, false⟩] (ih0 _ (by omega) _ ⟨wrap64 (x4_6 - 1), t13_1, t13_2, x4_2_0, Ax4_2_0, cx4_2_0, x4_2_1, x4_2_2, t14_0, At14_0, ct14_0, t14_1, t14_2, H, rfl⟩))))))))))))))
      ·
       refine op_st (cs' := [.slice At14_0 t14_0.length ct14_0, .int .i64 t14_1, .int .i64 t14_2]) 1 rfl rfl rfl rfl rfl rfl (xn rfl ?_)
       refine one2 7 9 rfl rfl rfl rfl ?_ ?_
       ·
        exact ov (EV.ex rfl rfl) rfl (xs [] [0, 1, 2] rfl rfl rfl (one1 9 rfl rfl (ov (EV.ex rfl rfl) rfl (xs [] [0, 1, 2] rfl rfl rfl (xd (pr [0, 2, 4, 6] [0, 1, 2] [0, 2, 4] rfl rfl rfl rfl (ge (rg (sv (EV.mv rfl) rfl (sv (EV.sub rfl rfl) rfl (sv (EV.as rfl) rfl (re (wk [0, 2, 4, 6] [2, 0, 1] [⟨0, 2, 1, true⟩, ⟨2, 1, 2, true⟩, ⟨1, 0, 0, false⟩] (ih0 _ (by omega) _ ⟨wrap64 (x4_6 - 1), t13_1, t13_2, x4_2_0, Ax4_2_0, cx4_2_0, x4_2_1, x4_2_2, t14_0, At14_0, ct14_0, t14_1, t14_2, H, rfl⟩))))))))))))))
       ·
        exact ov (EV.ex rfl rfl) rfl (xs [] [0, 1, 2] rfl rfl rfl (one1 7 rfl rfl (ov (EV.ex rfl rfl) rfl (xs [] [0, 1, 2] rfl rfl rfl (xd (pr [0, 2, 4, 6] [0, 1, 2] [0, 2, 4] rfl rfl rfl rfl (ge (rg (sv (EV.mv rfl) rfl (sv (EV.sub rfl rfl) rfl (sv (EV.as rfl) rfl (re (wk [0, 2, 4, 6] [2, 0, 1] [⟨0, 2, 1, true⟩, ⟨2, 1, 2, true⟩, ⟨1, 0, 0, false⟩] (ih0 _ (by omega) _ ⟨wrap64 (x4_6 - 1), t13_1, t13_2, x4_2_0, Ax4_2_0, cx4_2_0, x4_2_1, x4_2_2, t14_0, At14_0, ct14_0, t14_1, t14_2, H, rfl⟩))))))))))))))
     ·
      refine ov (EV.ex rfl rfl) rfl (xs [] [0, 1, 2] rfl rfl rfl ?_)
      refine one3 7 8 10 rfl rfl rfl rfl rfl rfl ?_ ?_ ?_
      ·
       refine ov (EV.ex rfl rfl) rfl (xs [] [0, 1, 2] rfl rfl rfl ?_)
       refine one2 8 10 rfl rfl rfl rfl ?_ ?_
       ·
        exact ov (EV.ex rfl rfl) rfl (xs [] [0, 1, 2] rfl rfl rfl (one1 10 rfl rfl (op_st (cs' := [.slice At14_0 t14_0.length ct14_0, .int .i64 t14_1, .int .i64 t14_2]) 1 rfl rfl rfl rfl rfl rfl (xn rfl (xd (pr [0, 2, 4, 6] [0, 1, 2] [0, 2, 4] rfl rfl rfl rfl (ge (rg (sv (EV.mv rfl) rfl (sv (EV.sub rfl rfl) rfl (sv (EV.as rfl) rfl (re (wk [0, 2, 4, 6] [2, 0, 1] [⟨0, 2, 1, true⟩, ⟨2, 1, 2, true⟩, ⟨1, 0, 0, false⟩] (ih0 _ (by omega) _ ⟨wrap64 (x4_6 - 1), t13_1, t13_2, x4_2_0, Ax4_2_0, cx4_2_0, x4_2_1, x4_2_2, t14_0, At14_0, ct14_0, t14_1, t14_2, H, rfl⟩))))))))))))))
       ·
        exact op_st (cs' := [.slice At14_0 t14_0.length ct14_0, .int .i64 t14_1, .int .i64 t14_2]) 1 rfl rfl rfl rfl rfl rfl (xn rfl (one1 8 rfl rfl (ov (EV.ex rfl rfl) rfl (xs [] [0, 1, 2] rfl rfl rfl (xd (pr [0, 2, 4, 6] [0, 1, 2] [0, 2, 4] rfl rfl rfl rfl (ge (rg (sv (EV.mv rfl) rfl (sv (EV.sub rfl rfl) rfl (sv (EV.as rfl) rfl (re (wk [0, 2, 4, 6] [2, 0, 1] [⟨0, 2, 1, true⟩, ⟨2, 1, 2, true⟩, ⟨1, 0, 0, false⟩] (ih0 _ (by omega) _ ⟨wrap64 (x4_6 - 1), t13_1, t13_2, x4_2_0, Ax4_2_0, cx4_2_0, x4_2_1, x4_2_2, t14_0, At14_0, ct14_0, t14_1, t14_2, H, rfl⟩))))))))))))))
      ·
       refine ov (EV.ex rfl rfl) rfl (xs [] [0, 1, 2] rfl rfl rfl ?_)
       refine one2 7 10 rfl rfl rfl rfl ?_ ?_
       ·
        exact ov (EV.ex rfl rfl) rfl (xs [] [0, 1, 2] rfl rfl rfl (one1 10 rfl rfl (op_st (cs' := [.slice At14_0 t14_0.length ct14_0, .int .i64 t14_1, .int .i64 t14_2]) 1 rfl rfl rfl rfl rfl rfl (xn rfl (xd (pr [0, 2, 4, 6] [0, 1, 2] [0, 2, 4] rfl rfl rfl rfl (ge (rg (sv (EV.mv rfl) rfl (sv (EV.sub rfl rfl) rfl (sv (EV.as rfl) rfl (re (wk [0, 2, 4, 6] [2, 0, 1] [⟨0, 2, 1, true⟩, ⟨2, 1, 2, true⟩, ⟨1, 0, 0, false⟩] (ih0 _ (by omega) _ ⟨wrap64 (x4_6 - 1), t13_1, t13_2, x4_2_0, Ax4_2_0, cx4_2_0, x4_2_1, x4_2_2, t14_0, At14_0, ct14_0, t14_1, t14_2, H, rfl⟩))))))))))))))
       ·
        exact op_st (cs' := [.slice At14_0 t14_0.length ct14_0, .int .i64 t14_1, .int .i64 t14_2]) 1 rfl rfl rfl rfl rfl rfl (xn rfl (one1 7 rfl rfl (ov (EV.ex rfl rfl) rfl (xs [] [0, 1, 2] rfl rfl rfl (xd (pr [0, 2, 4, 6] [0, 1, 2] [0, 2, 4] rfl rfl rfl rfl (ge (rg (sv (EV.mv rfl) rfl (sv (EV.sub rfl rfl) rfl (sv (EV.as rfl) rfl (re (wk [0, 2, 4, 6] [2, 0, 1] [⟨0, 2, 1, true⟩, ⟨2, 1, 2, true⟩, ⟨1, 0, 0, false⟩] (ih0 _ (by omega) _ ⟨wrap64 (x4_6 - 1), t13_1, t13_2, x4_2_0, Ax4_2_0, cx4_2_0, x4_2_1, x4_2_2, t14_0, At14_0, ct14_0, t14_1, t14_2, H, rfl⟩))))))))))))))
      ·
       refine op_st (cs' := [.slice At14_0 t14_0.length ct14_0, .int .i64 t14_1, .int .i64 t14_2]) 1 rfl rfl rfl rfl rfl rfl (xn rfl ?_)
       refine one2 7 8 rfl rfl rfl rfl ?_ ?_
       ·
        exact ov (EV.ex rfl rfl) rfl (xs [] [0, 1, 2] rfl rfl rfl (one1 8 rfl rfl (ov (EV.ex rfl rfl) rfl (xs [] [0, 1, 2] rfl rfl rfl (xd (pr [0, 2, 4, 6] [0, 1, 2] [0, 2, 4] rfl rfl rfl rfl (ge (rg (sv (EV.mv rfl) rfl (sv (EV.sub rfl rfl) rfl (sv (EV.as rfl) rfl (re (wk [0, 2, 4, 6] [2, 0, 1] [⟨0, 2, 1, true⟩, ⟨2, 1, 2, true⟩, ⟨1, 0, 0, false⟩] (ih0 _ (by omega) _ ⟨wrap64 (x4_6 - 1), t13_1, t13_2, x4_2_0, Ax4_2_0, cx4_2_0, x4_2_1, x4_2_2, t14_0, At14_0, ct14_0, t14_1, t14_2, H, rfl⟩))))))))))))))
       ·
        exact ov (EV.ex rfl rfl) rfl (xs [] [0, 1, 2] rfl rfl rfl (one1 7 rfl rfl (ov (EV.ex rfl rfl) rfl (xs [] [0, 1, 2] rfl rfl rfl (xd (pr [0, 2, 4, 6] [0, 1, 2] [0, 2, 4] rfl rfl rfl rfl (ge (rg (sv (EV.mv rfl) rfl (sv (EV.sub rfl rfl) rfl (sv (EV.as rfl) rfl (re (wk [0, 2, 4, 6] [2, 0, 1] [⟨0, 2, 1, true⟩, ⟨2, 1, 2, true⟩, ⟨1, 0, 0, false⟩] (ih0 _ (by omega) _ ⟨wrap64 (x4_6 - 1), t13_1, t13_2, x4_2_0, Ax4_2_0, cx4_2_0, x4_2_1, x4_2_2, t14_0, At14_0, ct14_0, t14_1, t14_2, H, rfl⟩))))))))))))))
     ·
      refine op_st (cs' := [.slice At14_0 t14_0.length ct14_0, .int .i64 t14_1, .int .i64 t14_2]) 1 rfl rfl rfl rfl rfl rfl (xn rfl ?_)
      refine one3 7 8 9 rfl rfl rfl rfl rfl rfl ?_ ?_ ?_
      ·
       refine ov (EV.ex rfl rfl) rfl (xs [] [0, 1, 2] rfl rfl rfl ?_)
       refine one2 8 9 rfl rfl rfl rfl ?_ ?_
       ·
        exact ov (EV.ex rfl rfl) rfl (xs [] [0, 1, 2] rfl rfl rfl (one1 9 rfl rfl (ov (EV.ex rfl rfl) rfl (xs [] [0, 1, 2] rfl rfl rfl (xd (pr [0, 2, 4, 6] [0, 1, 2] [0, 2, 4] rfl rfl rfl rfl (ge (rg (sv (EV.mv rfl) rfl (sv (EV.sub rfl rfl) rfl (sv (EV.as rfl) rfl (re (wk [0, 2, 4, 6] [2, 0, 1] [⟨0, 2, 1, true⟩, ⟨2, 1, 2, true⟩, ⟨1, 0, 0, false⟩] (ih0 _ (by omega) _ ⟨wrap64 (x4_6 - 1), t13_1, t13_2, x4_2_0, Ax4_2_0, cx4_2_0, x4_2_1, x4_2_2, t14_0, At14_0, ct14_0, t14_1, t14_2, H, rfl⟩))))))))))))))
       ·
        exact ov (EV.ex rfl rfl) rfl (xs [] [0, 1, 2] rfl rfl rfl (one1 8 rfl rfl (ov (EV.ex rfl rfl) rfl (xs [] [0, 1, 2] rfl rfl rfl (xd (pr [0, 2, 4, 6] [0, 1, 2] [0, 2, 4] rfl rfl rfl rfl (ge (rg (sv (EV.mv rfl) rfl (sv (EV.sub rfl rfl) rfl (sv (EV.as rfl) rfl (re (wk [0, 2, 4, 6] [2, 0, 1] [⟨0, 2, 1, true⟩, ⟨2, 1, 2, true⟩, ⟨1, 0, 0, false⟩] (ih0 _ (by omega) _ ⟨wrap64 (x4_6 - 1), t13_1, t13_2, x4_2_0, Ax4_2_0, cx4_2_0, x4_2_1, x4_2_2, t14_0, At14_0, ct14_0, t14_1, t14_2, H, rfl⟩))))))))))))))
      ·
       refine ov (EV.ex rfl rfl) rfl (xs [] [0, 1, 2] rfl rfl rfl ?_)
       refine one2 7 9 rfl rfl rfl rfl ?_ ?_
       ·
        exact ov (EV.ex rfl rfl) rfl (xs [] [0, 1, 2] rfl rfl rfl (one1 9 rfl rfl (ov (EV.ex rfl rfl) rfl (xs [] [0, 1, 2] rfl rfl rfl (xd (pr [0, 2, 4, 6] [0, 1, 2] [0, 2, 4] rfl rfl rfl rfl (ge (rg (sv (EV.mv rfl) rfl (sv (EV.sub rfl rfl) rfl (sv (EV.as rfl) rfl (re (wk [0, 2, 4, 6] [2, 0, 1] [⟨0, 2, 1, true⟩, ⟨2, 1, 2, true⟩, ⟨1, 0, 0, false⟩] (ih0 _ (by omega) _ ⟨wrap64 (x4_6 - 1), t13_1, t13_2, x4_2_0, Ax4_2_0, cx4_2_0, x4_2_1, x4_2_2, t14_0, At14_0, ct14_0, t14_1, t14_2, H, rfl⟩))))))))))))))
       ·
        exact ov (EV.ex rfl rfl) rfl (xs [] [0, 1, 2] rfl rfl rfl (one1 7 rfl rfl (ov (EV.ex rfl rfl) rfl (xs [] [0, 1, 2] rfl rfl rfl (xd (pr [0, 2, 4, 6] [0, 1, 2] [0, 2, 4] rfl rfl rfl rfl (ge (rg (sv (EV.mv rfl) rfl (sv (EV.sub rfl rfl) rfl (sv (EV.as rfl) rfl (re (wk [0, 2, 4, 6] [2, 0, 1] [⟨0, 2, 1, true⟩, ⟨2, 1, 2, true⟩, ⟨1, 0, 0, false⟩] (ih0 _ (by omega) _ ⟨wrap64 (x4_6 - 1), t13_1, t13_2, x4_2_0, Ax4_2_0, cx4_2_0, x4_2_1, x4_2_2, t14_0, At14_0, ct14_0, t14_1, t14_2, H, rfl⟩))))))))))))))
      ·
       refine ov (EV.ex rfl rfl) rfl (xs [] [0, 1, 2] rfl rfl rfl ?_)
       refine one2 7 8 rfl rfl rfl rfl ?_ ?_
       ·
        exact ov (EV.ex rfl rfl) rfl (xs [] [0, 1, 2] rfl rfl rfl (one1 8 rfl rfl (ov (EV.ex rfl rfl) rfl (xs [] [0, 1, 2] rfl rfl rfl (xd (pr [0, 2, 4, 6] [0, 1, 2] [0, 2, 4] rfl rfl rfl rfl (ge (rg (sv (EV.mv rfl) rfl (sv (EV.sub rfl rfl) rfl (sv (EV.as rfl) rfl (re (wk [0, 2, 4, 6] [2, 0, 1] [⟨0, 2, 1, true⟩, ⟨2, 1, 2, true⟩, ⟨1, 0, 0, false⟩] (ih0 _ (by omega) _ ⟨wrap64 (x4_6 - 1), t13_1, t13_2, x4_2_0, Ax4_2_0, cx4_2_0, x4_2_1, x4_2_2, t14_0, At14_0, ct14_0, t14_1, t14_2, H, rfl⟩))))))))))))))
       ·
        exact ov (EV.ex rfl rfl) rfl (xs [] [0, 1, 2] rfl rfl rfl (one1 7 rfl rfl (ov (EV.ex rfl rfl) rfl (xs [] [0, 1, 2] rfl rfl rfl (xd (pr [0, 2, 4, 6] [0, 1, 2] [0, 2, 4] rfl rfl rfl rfl (ge (rg (sv (EV.mv rfl) rfl (sv (EV.sub rfl rfl) rfl (sv (EV.as rfl) rfl (re (wk [0, 2, 4, 6] [2, 0, 1] [⟨0, 2, 1, true⟩, ⟨2, 1, 2, true⟩, ⟨1, 0, 0, false⟩] (ih0 _ (by omega) _ ⟨wrap64 (x4_6 - 1), t13_1, t13_2, x4_2_0, Ax4_2_0, cx4_2_0, x4_2_1, x4_2_2, t14_0, At14_0, ct14_0, t14_1, t14_2, H, rfl⟩))))))))))))))
    ·
     refine ov (EV.ex rfl rfl) rfl (xs [] [0, 1, 2] rfl rfl rfl ?_)
     refine one3 6 8 9 rfl rfl rfl rfl rfl rfl ?_ ?_ ?_
     ·
      refine ov (EV.ex rfl rfl) rfl (xs [] [0, 1, 2] rfl rfl rfl ?_)
      refine one3 8 9 10 rfl rfl rfl rfl rfl rfl ?_ ?_ ?_
      ·
       refine ov (EV.ex rfl rfl) rfl (xs [] [0, 1, 2] rfl rfl rfl ?_)
       refine one2 9 10 rfl rfl rfl rfl ?_ ?_
       ·
        exact ov (EV.ex rfl rfl) rfl (xs [] [0, 1, 2] rfl rfl rfl (one1 10 rfl rfl (op_st (cs' := [.slice At14_0 t14_0.length ct14_0, .int .i64 t14_1, .int .i64 t14_2]) 1 rfl rfl rfl rfl rfl rfl (xn rfl (xd (pr [0, 2, 4, 6] [0, 1, 2] [0, 2, 4] rfl rfl rfl rfl (ge (rg (sv (EV.mv rfl) rfl (sv (EV.sub rfl rfl) rfl (sv (EV.as rfl) rfl (re (wk [0, 2, 4, 6] [2, 0, 1] [⟨0, 2, 1, true⟩, ⟨2, 1, 2, true⟩, ⟨1, 0, 0, false⟩] (ih0 _ (by omega) _ ⟨wrap64 (x4_6 - 1), t13_1, t13_2, x4_2_0, Ax4_2_0, cx4_2_0, x4_2_1, x4_2_2, t14_0, At14_0, ct14_0, t14_1, t14_2, H, rfl⟩))))))))))))))
       ·
        exact op_st (cs' := [.slice At14_0 t14_0.length ct14_0, .int .i64 t14_1, .int .i64 t14_2]) 1 rfl rfl rfl rfl rfl rfl (xn rfl (one1 9 rfl rfl (ov (EV.ex rfl rfl) rfl (xs [] [0, 1, 2] rfl rfl rfl (xd (pr [0, 2, 4, 6] [0, 1, 2] [0, 2, 4] rfl rfl rfl rfl (ge (rg (sv (EV.mv rfl) rfl (sv (EV.sub rfl rfl) rfl (sv (EV.as rfl) rfl (re (wk [0, 2, 4, 6] [2, 0, 1] [⟨0, 2, 1, true⟩, ⟨2, 1, 2, true⟩, ⟨1, 0, 0, false⟩] (ih0 _ (by omega) _ ⟨wrap64 (x4_6 - 1), t13_1, t13_2, x4_2_0, Ax4_2_0, cx4_2_0, x4_2_1, x4_2_2, t14_0, At14_0, ct14_0, t14_1, t14_2, H, rfl⟩))))))))))))))
      ·
       refine ov (EV.ex rfl rfl) rfl (xs [] [0, 1, 2] rfl rfl rfl ?_)
       refine one2 8 10 rfl rfl rfl rfl ?_ ?_
       ·
        exact ov (EV.ex rfl rfl) rfl (xs [] [0, 1, 2] rfl rfl rfl (one1 10 rfl rfl (op_st (cs' := [.slice At14_0 t14_0.length ct14_0, .int .i64 t14_1, .int .i64 t14_2]) 1 rfl rfl rfl rfl rfl rfl (xn rfl (xd (pr [0, 2, 4, 6] [0, 1, 2] [0, 2, 4] rfl rfl rfl rfl (ge (rg (sv (EV.mv rfl) rfl (sv (EV.sub rfl rfl) rfl (sv (EV.as rfl) rfl (re (wk [0, 2, 4, 6] [2, 0, 1] [⟨0, 2, 1, true⟩, ⟨2, 1, 2, true⟩, ⟨1, 0, 0, false⟩] (ih0 _ (by omega) _ ⟨wrap64 (x4_6 - 1), t13_1, t13_2, x4_2_0, Ax4_2_0, cx4_2_0, x4_2_1, x4_2_2, t14_0, At14_0, ct14_0, t14_1, t14_2, H, rfl⟩))))))))))))))
       ·
        exact op_st (cs' := [.slice At14_0 t14_0.length ct14_0, .int .i64 t14_1, .int .i64 t14_2]) 1 rfl rfl rfl rfl rfl rfl (xn rfl (one1 8 rfl rfl (ov (EV.ex rfl rfl) rfl (xs [] [0, 1, 2] rfl rfl rfl (xd (pr [0, 2, 4, 6] [0, 1, 2] [0, 2, 4] rfl rfl rfl rfl (ge (rg (sv (EV.mv rfl) rfl (sv (EV.sub rfl rfl) rfl (sv (EV.as rfl) rfl (re (wk [0, 2, 4, 6] [2, 0, 1] [⟨0, 2, 1, true⟩, ⟨2, 1, 2, true⟩, ⟨1, 0, 0, false⟩] (ih0 _ (by omega) _ ⟨wrap64 (x4_6 - 1), t13_1, t13_2, x4_2_0, Ax4_2_0, cx4_2_0, x4_2_1, x4_2_2, t14_0, At14_0, ct14_0, t14_1, t14_2, H, rfl⟩))))))))))))))
      ·
       refine op_st (cs' := [.slice At14_0 t14_0.length ct14_0, .int .i64 t14_1, .int .i64 t14_2]) 1 rfl rfl rfl rfl rfl rfl (xn rfl ?_)
       refine one2 8 9 rfl rfl rfl rfl ?_ ?_
       ·
        exact ov (EV.ex rfl rfl) rfl (xs [] [0, 1, 2] rfl rfl rfl (one1 9 rfl rfl (ov (EV.ex rfl rfl) rfl (xs [] [0, 1, 2] rfl rfl rfl (xd (pr [0, 2, 4, 6] [0, 1, 2] [0, 2, 4] rfl rfl rfl rfl (ge (rg (sv (EV.mv rfl) rfl (sv (EV.sub rfl rfl) rfl (sv (EV.as rfl) rfl (re (wk [0, 2, 4, 6] [2, 0, 1] [⟨0, 2, 1, true⟩, ⟨2, 1, 2, true⟩, ⟨1, 0, 0, false⟩] (ih0 _ (by omega) _ ⟨wrap64 (x4_6 - 1), t13_1, t13_2, x4_2_0, Ax4_2_0, cx4_2_0, x4_2_1, x4_2_2, t14_0, At14_0, ct14_0, t14_1, t14_2, H, rfl⟩))))))))))))))
       ·
        exact ov (EV.ex rfl rfl) rfl (xs [] [0, 1, 2] rfl rfl rfl (one1 8 rfl rfl (ov (EV.ex rfl rfl) rfl (xs [] [0, 1, 2] rfl rfl rfl (xd (pr [0, 2, 4, 6] [0, 1, 2] [0, 2, 4] rfl rfl rfl rfl (ge (rg (sv (EV.mv rfl) rfl (sv (EV.sub rfl rfl) rfl (sv (EV.as rfl) rfl (re (wk [0, 2, 4, 6] [2, 0, 1] [⟨0, 2, 1, true⟩, ⟨2, 1, 2, true⟩, ⟨1, 0, 0, false⟩] (ih0 _ (by omega) _ ⟨wrap64 (x4_6 - 1), t13_1, t13_2, x4_2_0, Ax4_2_0, cx4_2_0, x4_2_1, x4_2_2, t14_0, At14_0, ct14_0, t14_1, t14_2, H, rfl⟩))))))))))))))
     ·
      refine ov (EV.ex rfl rfl) rfl (xs [] [0, 1, 2] rfl rfl rfl ?_)
      refine one2 6 9 rfl rfl rfl rfl ?_ ?_
      ·
       refine ov (EV.ex rfl rfl) rfl (xs [] [0, 1, 2] rfl rfl rfl ?_)
       refine one2 9 10 rfl rfl rfl rfl ?_ ?_
       ·
        exact ov (EV.ex rfl rfl) rfl (xs [] [0, 1, 2] rfl rfl rfl (one1 10 rfl rfl (op_st (cs' := [.slice At14_0 t14_0.length ct14_0, .int .i64 t14_1, .int .i64 t14_2]) 1 rfl rfl rfl rfl rfl rfl (xn rfl (xd (pr [0, 2, 4, 6] [0, 1, 2] [0, 2, 4] rfl rfl rfl rfl (ge (rg (sv (EV.mv rfl) rfl (sv (EV.sub rfl rfl) rfl (sv (EV.as rfl) rfl (re (wk [0, 2, 4, 6] [2, 0, 1] [⟨0, 2, 1, true⟩, ⟨2, 1, 2, true⟩, ⟨1, 0, 0, false⟩] (ih0 _ (by omega) _ ⟨wrap64 (x4_6 - 1), t13_1, t13_2, x4_2_0, Ax4_2_0, cx4_2_0, x4_2_1, x4_2_2, t14_0, At14_0, ct14_0, t14_1, t14_2, H, rfl⟩))))))))))))))
       ·
        exact op_st (cs' := [.slice At14_0 t14_0.length ct14_0, .int .i64 t14_1, .int .i64 t14_2]) 1 rfl rfl rfl rfl rfl rfl (xn rfl (one1 9 rfl rfl (ov (EV.ex rfl rfl) rfl (xs [] [0, 1, 2] rfl rfl rfl (xd (pr [0, 2, 4, 6] [0, 1, 2] [0, 2, 4] rfl rfl rfl rfl (ge (rg (sv (EV.mv rfl) rfl (sv (EV.sub rfl rfl) rfl (sv (EV.as rfl) rfl (re (wk [0, 2, 4, 6] [2, 0, 1] [⟨0, 2, 1, true⟩, ⟨2, 1, 2, true⟩, ⟨1, 0, 0, false⟩] (ih0 _ (by omega) _ ⟨wrap64 (x4_6 - 1), t13_1, t13_2, x4_2_0, Ax4_2_0, cx4_2_0, x4_2_1, x4_2_2, t14_0, At14_0, ct14_0, t14_1, t14_2, H, rfl⟩))))))))))))))
      ·
       exact ov (EV.ex rfl rfl) rfl (xs [] [0, 1, 2] rfl rfl rfl (one1 6 rfl rfl (ov (EV.ex rfl rfl) rfl (xs [] [0, 1, 2] rfl rfl rfl (one1 10 rfl rfl (op_st (cs' := [.slice At14_0 t14_0.length ct14_0, .int .i64 t14_1, .int .i64 t14_2]) 1 rfl rfl rfl rfl rfl rfl (xn rfl (xd (pr [0, 2, 4, 6] [0, 1, 2] [0, 2, 4] rfl rfl rfl rfl (ge (rg (sv (EV.mv rfl) rfl (sv (EV.sub rfl rfl) rfl (sv (EV.as rfl) rfl (re (wk [0, 2, 4, 6] [2, 0, 1] [⟨0, 2, 1, true⟩, ⟨2, 1, 2, true⟩, ⟨1, 0, 0, false⟩] (ih0 _ (by omega) _ ⟨wrap64 (x4_6 - 1), t13_1, t13_2, x4_2_0, Ax4_2_0, cx4_2_0, x4_2_1, x4_2_2, t14_0, At14_0, ct14_0, t14_1, t14_2, H, rfl⟩)))))))))))))))))
     ·
      refine ov (EV.ex rfl rfl) rfl (xs [] [0, 1, 2] rfl rfl rfl ?_)
      refine one2 6 8 rfl rfl rfl rfl ?_ ?_
      ·
       refine ov (EV.ex rfl rfl) rfl (xs [] [0, 1, 2] rfl rfl rfl ?_)
       refine one2 8 10 rfl rfl rfl rfl ?_ ?_
       ·
        exact ov (EV.ex rfl rfl) rfl (xs [] [0, 1, 2] rfl rfl rfl (one1 10 rfl rfl (op_st (cs' := [.slice At14_0 t14_0.length ct14_0, .int .i64 t14_1, .int .i64 t14_2]) 1 rfl rfl rfl rfl rfl rfl (xn rfl (xd (pr [0, 2, 4, 6] [0, 1, 2] [0, 2, 4] rfl rfl rfl rfl (ge (rg (sv (EV.mv rfl) rfl (sv (EV.sub rfl rfl) rfl (sv (EV.as rfl) rfl (re (wk [0, 2, 4, 6] [2, 0, 1] [⟨0, 2, 1, true⟩, ⟨2, 1, 2, true⟩, ⟨1, 0, 0, false⟩] (ih0 _ (by omega) _ ⟨wrap64 (x4_6 - 1), t13_1, t13_2, x4_2_0, Ax4_2_0, cx4_2_0, x4_2_1, x4_2_2, t14_0, At14_0, ct14_0, t14_1, t14_2, H, rfl⟩))))))))))))))
       ·
        exact op_st (cs' := [.slice At14_0 t14_0.length ct14_0, .int .i64 t14_1, .int .i64 t14_2]) 1 rfl rfl rfl rfl rfl rfl (xn rfl (one1 8 rfl rfl (ov (EV.ex rfl rfl) rfl (xs [] [0, 1, 2] rfl rfl rfl (xd (pr [0, 2, 4, 6] [0, 1, 2] [0, 2, 4] rfl rfl rfl rfl (ge (rg (sv (EV.mv rfl) rfl (sv (EV.sub rfl rfl) rfl (sv (EV.as rfl) rfl (re (wk [0, 2, 4, 6] [2, 0, 1] [⟨0, 2, 1, true⟩, ⟨2, 1, 2, true⟩, ⟨1, 0, 0, false⟩] (ih0 _ (by omega) _ ⟨wrap64 (x4_6 - 1), t13_1, t13_2, x4_2_0, Ax4_2_0, cx4_2_0, x4_2_1, x4_2_2, t14_0, At14_0, ct14_0, t14_1, t14_2, H, rfl⟩))))))))))))))
      ·
       exact ov (EV.ex rfl rfl) rfl (xs [] [0, 1, 2] rfl rfl rfl (one1 6 rfl rfl (ov (EV.ex rfl rfl) rfl (xs [] [0, 1, 2] rfl rfl rfl (one1 10 rfl rfl (op_st (cs' := [.slice At14_0 t14_0.length ct14_0, .int .i64 t14_1, .int .i64 t14_2]) 1 rfl rfl rfl rfl rfl rfl (xn rfl (xd (pr [0, 2, 4, 6] [0, 1, 2] [0, 2, 4] rfl rfl rfl rfl (ge (rg (sv (EV.mv rfl) rfl (sv (EV.sub rfl rfl) rfl (sv (EV.as rfl) rfl (re (wk [0, 2, 4, 6] [2, 0, 1] [⟨0, 2, 1, true⟩, ⟨2, 1, 2, true⟩, ⟨1, 0, 0, false⟩] (ih0 _ (by omega) _ ⟨wrap64 (x4_6 - 1), t13_1, t13_2, x4_2_0, Ax4_2_0, cx4_2_0, x4_2_1, x4_2_2, t14_0, At14_0, ct14_0, t14_1, t14_2, H, rfl⟩)))))))))))))))))
    ·
     refine ov (EV.ex rfl rfl) rfl (xs [] [0, 1, 2] rfl rfl rfl ?_)
     refine one3 6 7 9 rfl rfl rfl rfl rfl rfl ?_ ?_ ?_
     ·
      refine ov (EV.ex rfl rfl) rfl (xs [] [0, 1, 2] rfl rfl rfl ?_)
      refine one3 7 9 10 rfl rfl rfl rfl rfl rfl ?_ ?_ ?_
      ·
       refine ov (EV.ex rfl rfl) rfl (xs [] [0, 1, 2] rfl rfl rfl ?_)
       refine one2 9 10 rfl rfl rfl rfl ?_ ?_
       ·
        exact ov (EV.ex rfl rfl) rfl (xs [] [0, 1, 2] rfl rfl rfl (one1 10 rfl rfl (op_st (cs' := [.slice At14_0 t14_0.length ct14_0, .int .i64 t14_1, .int .i64 t14_2]) 1 rfl rfl rfl rfl rfl rfl (xn rfl (xd (pr [0, 2, 4, 6] [0, 1, 2] [0, 2, 4] rfl rfl rfl rfl (ge (rg (sv (EV.mv rfl) rfl (sv (EV.sub rfl rfl) rfl (sv (EV.as rfl) rfl (re (wk [0, 2, 4, 6] [2, 0, 1] [⟨0, 2, 1, true⟩, ⟨2, 1, 2, true⟩, ⟨1, 0, 0, false⟩] (ih0 _ (by omega) _ ⟨wrap64 (x4_6 - 1), t13_1, t13_2, x4_2_0, Ax4_2_0, cx4_2_0, x4_2_1, x4_2_2, t14_0, At14_0, ct14_0, t14_1, t14_2, H, rfl⟩))))))))))))))
       ·
        exact op_st (cs' := [.slice At14_0 t14_0.length ct14_0, .int .i64 t14_1, .int .i64 t14_2]) 1 rfl rfl rfl rfl rfl rfl (xn rfl (one1 9 rfl rfl (ov (EV.ex rfl rfl) rfl (xs [] [0, 1, 2] rfl rfl rfl (xd (pr [0, 2, 4, 6] [0, 1, 2] [0, 2, 4] rfl rfl rfl rfl (ge (rg (sv (EV.mv rfl) rfl (sv (EV.sub rfl rfl) rfl (sv (EV.as rfl) rfl (re (wk [0, 2, 4, 6] [2, 0, 1] [⟨0, 2, 1, true⟩, ⟨2, 1, 2, true⟩, ⟨1, 0, 0, false⟩] (ih0 _ (by omega) _ ⟨wrap64 (x4_6 - 1), t13_1, t13_2, x4_2_0, Ax4_2_0, cx4_2_0, x4_2_1, x4_2_2, t14_0, At14_0, ct14_0, t14_1, t14_2, H, rfl⟩))))))))))))))
      ·
       refine ov (EV.ex rfl rfl) rfl (xs [] [0, 1, 2] rfl rfl rfl ?_)
       refine one2 7 10 rfl rfl rfl rfl ?_ ?_
       ·
        exact ov (EV.ex rfl rfl) rfl (xs [] [0, 1, 2] rfl rfl rfl (one1 10 rfl rfl (op_st (cs' := [.slice At14_0 t14_0.length ct14_0, .int .i64 t14_1, .int .i64 t14_2]) 1 rfl rfl rfl rfl rfl rfl (xn rfl (xd (pr [0, 2, 4, 6] [0, 1, 2] [0, 2, 4] rfl rfl rfl rfl (ge (rg (sv (EV.mv rfl) rfl (sv (EV.sub rfl rfl) rfl (sv (EV.as rfl) rfl (re (wk [0, 2, 4, 6] [2, 0, 1] [⟨0, 2, 1, true⟩, ⟨2, 1, 2, true⟩, ⟨1, 0, 0, false⟩] (ih0 _ (by omega) _ ⟨wrap64 (x4_6 - 1), t13_1, t13_2, x4_2_0, Ax4_2_0, cx4_2_0, x4_2_1, x4_2_2, t14_0, At14_0, ct14_0, t14_1, t14_2, H, rfl⟩))))))))))))))
       ·
        exact op_st (cs' := [.slice At14_0 t14_0.length ct14_0, .int .i64 t14_1, .int .i64 t14_2]) 1 rfl rfl rfl rfl rfl rfl (xn rfl (one1 7 rfl rfl (ov (EV.ex rfl rfl) rfl (xs [] [0, 1, 2] rfl rfl rfl (xd (pr [0, 2, 4, 6] [0, 1, 2] [0, 2, 4] rfl rfl rfl rfl (ge (rg (sv (EV.mv rfl) rfl (sv (EV.sub rfl rfl) rfl (sv (EV.as rfl) rfl (re (wk [0, 2, 4, 6] [2, 0, 1] [⟨0, 2, 1, true⟩, ⟨2, 1, 2, true⟩, ⟨1, 0, 0, false⟩] (ih0 _ (by omega) _ ⟨wrap64 (x4_6 - 1), t13_1, t13_2, x4_2_0, Ax4_2_0, cx4_2_0, x4_2_1, x4_2_2, t14_0, At14_0, ct14_0, t14_1, t14_2, H, rfl⟩))))))))))))))
      ·
       refine op_st (cs' := [.slice At14_0 t14_0.length ct14_0, .int .i64 t14_1, .int .i64 t14_2]) 1 rfl rfl rfl rfl rfl rfl (xn rfl ?_)
       refine one2 7 9 rfl rfl rfl rfl ?_ ?_
       ·
        exact ov (EV.ex rfl rfl) rfl (xs [] [0, 1, 2] rfl rfl rfl (one1 9 rfl rfl (ov (EV.ex rfl rfl) rfl (xs [] [0, 1, 2] rfl rfl rfl (xd (pr [0, 2, 4, 6] [0, 1, 2] [0, 2, 4] rfl rfl rfl rfl (ge (rg (sv (EV.mv rfl) rfl (sv (EV.sub rfl rfl) rfl (sv (EV.as rfl) rfl (re (wk [0, 2, 4, 6] [2, 0, 1] [⟨0, 2, 1, true⟩, ⟨2, 1, 2, true⟩, ⟨1, 0, 0, false⟩] (ih0 _ (by omega) _ ⟨wrap64 (x4_6 - 1), t13_1, t13_2, x4_2_0, Ax4_2_0, cx4_2_0, x4_2_1, x4_2_2, t14_0, At14_0, ct14_0, t14_1, t14_2, H, rfl⟩))))))))))))))
       ·
        exact ov (EV.ex rfl rfl) rfl (xs [] [0, 1, 2] rfl rfl rfl (one1 7 rfl rfl (ov (EV.ex rfl rfl) rfl (xs [] [0, 1, 2] rfl rfl rfl (xd (pr [0, 2, 4, 6] [0, 1, 2] [0, 2, 4] rfl rfl rfl rfl (ge (rg (sv (EV.mv rfl) rfl (sv (EV.sub rfl rfl) rfl (sv (EV.as rfl) rfl (re (wk [0, 2, 4, 6] [2, 0, 1] [⟨0, 2, 1, true⟩, ⟨2, 1, 2, true⟩, ⟨1, 0, 0, false⟩] (ih0 _ (by omega) _ ⟨wrap64 (x4_6 - 1), t13_1, t13_2, x4_2_0, Ax4_2_0, cx4_2_0, x4_2_1, x4_2_2, t14_0, At14_0, ct14_0, t14_1, t14_2, H, rfl⟩))))))))))))))
     ·
      refine ov (EV.ex rfl rfl) rfl (xs [] [0, 1, 2] rfl rfl rfl ?_)
      refine one2 6 9 rfl rfl rfl rfl ?_ ?_
      ·
       refine ov (EV.ex rfl rfl) rfl (xs [] [0, 1, 2] rfl rfl rfl ?_)
       refine one2 9 10 rfl rfl rfl rfl ?_ ?_
       ·
        exact ov (EV.ex rfl rfl) rfl (xs [] [0, 1, 2] rfl rfl rfl (one1 10 rfl rfl (op_st (cs' := [.slice At14_0 t14_0.length ct14_0, .int .i64 t14_1, .int .i64 t14_2]) 1 rfl rfl rfl rfl rfl rfl (xn rfl (xd (pr [0, 2, 4, 6] [0, 1, 2] [0, 2, 4] rfl rfl rfl rfl (ge (rg (sv (EV.mv rfl) rfl (sv (EV.sub rfl rfl) rfl (sv (EV.as rfl) rfl (re (wk [0, 2, 4, 6] [2, 0, 1] [⟨0, 2, 1, true⟩, ⟨2, 1, 2, true⟩, ⟨1, 0, 0, false⟩] (ih0 _ (by omega) _ ⟨wrap64 (x4_6 - 1), t13_1, t13_2, x4_2_0, Ax4_2_0, cx4_2_0, x4_2_1, x4_2_2, t14_0, At14_0, ct14_0, t14_1, t14_2, H, rfl⟩))))))))))))))
       ·
        exact op_st (cs' := [.slice At14_0 t14_0.length ct14_0, .int .i64 t14_1, .int .i64 t14_2]) 1 rfl rfl rfl rfl rfl rfl (xn rfl (one1 9 rfl rfl (ov (EV.ex rfl rfl) rfl (xs [] [0, 1, 2] rfl rfl rfl (xd (pr [0, 2, 4, 6] [0, 1, 2] [0, 2, 4] rfl rfl rfl rfl (ge (rg (sv (EV.mv rfl) rfl (sv (EV.sub rfl rfl) rfl (sv (EV.as rfl) rfl (re (wk [0, 2, 4, 6] [2, 0, 1] [⟨0, 2, 1, true⟩, ⟨2, 1, 2, true⟩, ⟨1, 0, 0, false⟩] (ih0 _ (by omega) _ ⟨wrap64 (x4_6 - 1), t13_1, t13_2, x4_2_0, Ax4_2_0, cx4_2_0, x4_2_1, x4_2_2, t14_0, At14_0, ct14_0, t14_1, t14_2, H, rfl⟩))))))))))))))
      ·
       exact ov (EV.ex rfl rfl) rfl (xs [] [0, 1, 2] rfl rfl rfl (one1 6 rfl rfl (ov (EV.ex rfl rfl) rfl (xs [] [0, 1, 2] rfl rfl rfl (one1 10 rfl rfl (op_st (cs' := [.slice At14_0 t14_0.length ct14_0, .int .i64 t14_1, .int .i64 t14_2]) 1 rfl rfl rfl rfl rfl rfl (xn rfl (xd (pr [0, 2, 4, 6] [0, 1, 2] [0, 2, 4] rfl rfl rfl rfl (ge (rg (sv (EV.mv rfl) rfl (sv (EV.sub rfl rfl) rfl (sv (EV.as rfl) rfl (re (wk [0, 2, 4, 6] [2, 0, 1] [⟨0, 2, 1, true⟩, ⟨2, 1, 2, true⟩, ⟨1, 0, 0, false⟩] (ih0 _ (by omega) _ ⟨wrap64 (x4_6 - 1), t13_1, t13_2, x4_2_0, Ax4_2_0, cx4_2_0, x4_2_1, x4_2_2, t14_0, At14_0, ct14_0, t14_1, t14_2, H, rfl⟩)))))))))))))))))
     ·
      refine ov (EV.ex rfl rfl) rfl (xs [] [0, 1, 2] rfl rfl rfl ?_)
      refine one2 6 7 rfl rfl rfl rfl ?_ ?_
      ·
       refine ov (EV.ex rfl rfl) rfl (xs [] [0, 1, 2] rfl rfl rfl ?_)
       refine one2 7 10 rfl rfl rfl rfl ?_ ?_
       ·
        exact ov (EV.ex rfl rfl) rfl (xs [] [0, 1, 2] rfl rfl rfl (one1 10 rfl rfl (op_st (cs' := [.slice At14_0 t14_0.length ct14_0, .int .i64 t14_1, .int .i64 t14_2]) 1 rfl rfl rfl rfl rfl rfl (xn rfl (xd (pr [0, 2, 4, 6] [0, 1, 2] [0, 2, 4] rfl rfl rfl rfl (ge (rg (sv (EV.mv rfl) rfl (sv (EV.sub rfl rfl) rfl (sv (EV.as rfl) rfl (re (wk [0, 2, 4, 6] [2, 0, 1] [⟨0, 2, 1, true⟩, ⟨2, 1, 2, true⟩, ⟨1, 0, 0, false⟩] (ih0 _ (by omega) _ ⟨wrap64 (x4_6 - 1), t13_1, t13_2, x4_2_0, Ax4_2_0, cx4_2_0, x4_2_1, x4_2_2, t14_0, At14_0, ct14_0, t14_1, t14_2, H, rfl⟩))))))))))))))
       ·
        exact op_st (cs' := [.slice At14_0 t14_0.length ct14_0, .int .i64 t14_1, .int .i64 t14_2]) 1 rfl rfl rfl rfl rfl rfl (xn rfl (one1 7 rfl rfl (ov (EV.ex rfl rfl) rfl (xs [] [0, 1, 2] rfl rfl rfl (xd (pr [0, 2, 4, 6] [0, 1, 2] [0, 2, 4] rfl rfl rfl rfl (ge (rg (sv (EV.mv rfl) rfl (sv (EV.sub rfl rfl) rfl (sv (EV.as rfl) rfl (re (wk [0, 2, 4, 6] [2, 0, 1] [⟨0, 2, 1, true⟩, ⟨2, 1, 2, true⟩, ⟨1, 0, 0, false⟩] (ih0 _ (by omega) _ ⟨wrap64 (x4_6 - 1), t13_1, t13_2, x4_2_0, Ax4_2_0, cx4_2_0, x4_2_1, x4_2_2, t14_0, At14_0, ct14_0, t14_1, t14_2, H, rfl⟩))))))))))))))
      ·
       exact ov (EV.ex rfl rfl) rfl (xs [] [0, 1, 2] rfl rfl rfl (one1 6 rfl rfl (ov (EV.ex rfl rfl) rfl (xs [] [0, 1, 2] rfl rfl rfl (one1 10 rfl rfl (op_st (cs' := [.slice At14_0 t14_0.length ct14_0, .int .i64 t14_1, .int .i64 t14_2]) 1 rfl rfl rfl rfl rfl rfl (xn rfl (xd (pr [0, 2, 4, 6] [0, 1, 2] [0, 2, 4] rfl rfl rfl rfl (ge (rg (sv (EV.mv rfl) rfl (sv (EV.sub rfl rfl) rfl (sv (EV.as rfl) rfl (re (wk [0, 2, 4, 6] [2, 0, 1] [⟨0, 2, 1, true⟩, ⟨2, 1, 2, true⟩, ⟨1, 0, 0, false⟩] (ih0 _ (by omega) _ ⟨wrap64 (x4_6 - 1), t13_1, t13_2, x4_2_0, Ax4_2_0, cx4_2_0, x4_2_1, x4_2_2, t14_0, At14_0, ct14_0, t14_1, t14_2, H, rfl⟩)))))))))))))))))
    ·
     refine ov (EV.ex rfl rfl) rfl (xs [] [0, 1, 2] rfl rfl rfl ?_)
     refine one3 6 7 8 rfl rfl rfl rfl rfl rfl ?_ ?_ ?_
     ·
      refine ov (EV.ex rfl rfl) rfl (xs [] [0, 1, 2] rfl rfl rfl ?_)
      refine one3 7 8 10 rfl rfl rfl rfl rfl rfl ?_ ?_ ?_
      ·
       refine ov (EV.ex rfl rfl) rfl (xs [] [0, 1, 2] rfl rfl rfl ?_)
       refine one2 8 10 rfl rfl rfl rfl ?_ ?_
       ·
        exact ov (EV.ex rfl rfl) rfl (xs [] [0, 1, 2] rfl rfl rfl (one1 10 rfl rfl (op_st (cs' := [.slice At14_0 t14_0.length ct14_0, .int .i64 t14_1, .int .i64 t14_2]) 1 rfl rfl rfl rfl rfl rfl (xn rfl (xd (pr [0, 2, 4, 6] [0, 1, 2] [0, 2, 4] rfl rfl rfl rfl (ge (rg (sv (EV.mv rfl) rfl (sv (EV.sub rfl rfl) rfl (sv (EV.as rfl) rfl (re (wk [0, 2, 4, 6] [2, 0, 1] [⟨0, 2, 1, true⟩, ⟨2, 1, 2, true⟩, ⟨1, 0, 0, false⟩] (ih0 _ (by omega) _ ⟨wrap64 (x4_6 - 1), t13_1, t13_2, x4_2_0, Ax4_2_0, cx4_2_0, x4_2_1, x4_2_2, t14_0, At14_0, ct14_0, t14_1, t14_2, H, rfl⟩))))))))))))))
       ·
        exact op_st (cs' := [.slice At14_0 t14_0.length ct14_0, .int .i64 t14_1, .int .i64 t14_2]) 1 rfl rfl rfl rfl rfl rfl (xn rfl (one1 8 rfl rfl (ov (EV.ex rfl rfl) rfl (xs [] [0, 1, 2] rfl rfl rfl (xd (pr [0, 2, 4, 6] [0, 1, 2] [0, 2, 4] rfl rfl rfl rfl (ge (rg (sv (EV.mv rfl) rfl (sv (EV.sub rfl rfl) rfl (sv (EV.as rfl) rfl (re (wk [0, 2, 4, 6] [2, 0, 1] [⟨0, 2, 1, true⟩, ⟨2, 1, 2, true⟩, ⟨1, 0, 0, false⟩] (ih0 _ (by omega) _ ⟨wrap64 (x4_6 - 1), t13_1, t13_2, x4_2_0, Ax4_2_0, cx4_2_0, x4_2_1, x4_2_2, t14_0, At14_0, ct14_0, t14_1, t14_2, H, rfl⟩))))))))))))))
      ·
       refine ov (EV.ex rfl rfl) rfl (xs [] [0, 1, 2] rfl rfl rfl ?_)
       refine one2 7 10 rfl rfl rfl rfl ?_ ?_
       ·
        exact ov (EV.ex rfl rfl) rfl (xs [] [0, 1, 2] rfl rfl rfl (one1 10 rfl rfl (op_st (cs' := [.slice At14_0 t14_0.length ct14_0, .int .i64 t14_1, .int .i64 t14_2]) 1 rfl rfl rfl rfl rfl rfl (xn rfl (xd (pr [0, 2, 4, 6] [0, 1, 2] [0, 2, 4] rfl rfl rfl rfl (ge (rg (sv (EV.mv rfl) rfl (sv (EV.sub rfl rfl) rfl (sv (EV.as rfl) rfl (re (wk [0, 2, 4, 6] [2, 0, 1] [⟨0, 2, 1, true⟩, ⟨2, 1, 2, true⟩, ⟨1, 0, 0, false⟩] (ih0 _ (by omega) _ ⟨wrap64 (x4_6 - 1), t13_1, t13_2, x4_2_0, Ax4_2_0, cx4_2_0, x4_2_1, x4_2_2, t14_0, At14_0, ct14_0, t14_1, t14_2, H, rfl⟩))))))))))))))
       ·
        exact op_st (cs' := [.slice At14_0 t14_0.length ct14_0, .int .i64 t14_1, .int .i64 t14_2]) 1 rfl rfl rfl rfl rfl rfl (xn rfl (one1 7 rfl rfl (ov (EV.ex rfl rfl) rfl (xs [] [0, 1, 2] rfl rfl rfl (xd (pr [0, 2, 4, 6] [0, 1, 2] [0, 2, 4] rfl rfl rfl rfl (ge (rg (sv (EV.mv rfl) rfl (sv (EV.sub rfl rfl) rfl (sv (EV.as rfl) rfl (re (wk [0, 2, 4, 6] [2, 0, 1] [⟨0, 2, 1, true⟩, ⟨2, 1, 2, true⟩, ⟨1, 0, 0, false⟩] (ih0 _ (by omega) _ ⟨wrap64 (x4_6 - 1), t13_1, t13_2, x4_2_0, Ax4_2_0, cx4_2_0, x4_2_1, x4_2_2, t14_0, At14_0, ct14_0, t14_1, t14_2, H, rfl⟩))))))))))))))
      ·
       refine op_st (cs' := [.slice At14_0 t14_0.length ct14_0, .int .i64 t14_1, .int .i64 t14_2]) 1 rfl rfl rfl rfl rfl rfl (xn rfl ?_)
       refine one2 7 8 rfl rfl rfl rfl ?_ ?_
       ·
        exact ov (EV.ex rfl rfl) rfl (xs [] [0, 1, 2] rfl rfl rfl (one1 8 rfl rfl (ov (EV.ex rfl rfl) rfl (xs [] [0, 1, 2] rfl rfl rfl (xd (pr [0, 2, 4, 6] [0, 1, 2] [0, 2, 4] rfl rfl rfl rfl (ge (rg (sv (EV.mv rfl) rfl (sv (EV.sub rfl rfl) rfl (sv (EV.as rfl) rfl (re (wk [0, 2, 4, 6] [2, 0, 1] [⟨0, 2, 1, true⟩, ⟨2, 1, 2, true⟩, ⟨1, 0, 0, false⟩] (ih0 _ (by omega) _ ⟨wrap64 (x4_6 - 1), t13_1, t13_2, x4_2_0, Ax4_2_0, cx4_2_0, x4_2_1, x4_2_2, t14_0, At14_0, ct14_0, t14_1, t14_2, H, rfl⟩))))))))))))))
       ·
        exact ov (EV.ex rfl rfl) rfl (xs [] [0, 1, 2] rfl rfl rfl (one1 7 rfl rfl (ov (EV.ex rfl rfl) rfl (xs [] [0, 1, 2] rfl rfl rfl (xd (pr [0, 2, 4, 6] [0, 1, 2] [0, 2, 4] rfl rfl rfl rfl (ge (rg (sv (EV.mv rfl) rfl (sv (EV.sub rfl rfl) rfl (sv (EV.as rfl) rfl (re (wk [0, 2, 4, 6] [2, 0, 1] [⟨0, 2, 1, true⟩, ⟨2, 1, 2, true⟩, ⟨1, 0, 0, false⟩] (ih0 _ (by omega) _ ⟨wrap64 (x4_6 - 1), t13_1, t13_2, x4_2_0, Ax4_2_0, cx4_2_0, x4_2_1, x4_2_2, t14_0, At14_0, ct14_0, t14_1, t14_2, H, rfl⟩))))))))))))))
     ·
      refine ov (EV.ex rfl rfl) rfl (xs [] [0, 1, 2] rfl rfl rfl ?_)
      refine one2 6 8 rfl rfl rfl rfl ?_ ?_
      ·
       refine ov (EV.ex rfl rfl) rfl (xs [] [0, 1, 2] rfl rfl rfl ?_)
       refine one2 8 10 rfl rfl rfl rfl ?_ ?_
       ·
        exact ov (EV.ex rfl rfl) rfl (xs [] [0, 1, 2] rfl rfl rfl (one1 10 rfl rfl (op_st (cs' := [.slice At14_0 t14_0.length ct14_0, .int .i64 t14_1, .int .i64 t14_2]) 1 rfl rfl rfl rfl rfl rfl (xn rfl (xd (pr [0, 2, 4, 6] [0, 1, 2] [0, 2, 4] rfl rfl rfl rfl (ge (rg (sv (EV.mv rfl) rfl (sv (EV.sub rfl rfl) rfl (sv (EV.as rfl) rfl (re (wk [0, 2, 4, 6] [2, 0, 1] [⟨0, 2, 1, true⟩, ⟨2, 1, 2, true⟩, ⟨1, 0, 0, false⟩] (ih0 _ (by omega) _ ⟨wrap64 (x4_6 - 1), t13_1, t13_2, x4_2_0, Ax4_2_0, cx4_2_0, x4_2_1, x4_2_2, t14_0, At14_0, ct14_0, t14_1, t14_2, H, rfl⟩))))))))))))))
       ·
        exact op_st (cs' := [.slice At14_0 t14_0.length ct14_0, .int .i64 t14_1, .int .i64 t14_2]) 1 rfl rfl rfl rfl rfl rfl (xn rfl (one1 8 rfl rfl (ov (EV.ex rfl rfl) rfl (xs [] [0, 1, 2] rfl rfl rfl (xd (pr [0, 2, 4, 6] [0, 1, 2] [0, 2, 4] rfl rfl rfl rfl (ge (rg (sv (EV.mv rfl) rfl (sv (EV.sub rfl rfl) rfl (sv (EV.as rfl) rfl (re (wk [0, 2, 4, 6] [2, 0, 1] [⟨0, 2, 1, true⟩, ⟨2, 1, 2, true⟩, ⟨1, 0, 0, false⟩] (ih0 _ (by omega) _ ⟨wrap64 (x4_6 - 1), t13_1, t13_2, x4_2_0, Ax4_2_0, cx4_2_0, x4_2_1, x4_2_2, t14_0, At14_0, ct14_0, t14_1, t14_2, H, rfl⟩))))))))))))))
      ·
       exact ov (EV.ex rfl rfl) rfl (xs [] [0, 1, 2] rfl rfl rfl (one1 6 rfl rfl (ov (EV.ex rfl rfl) rfl (xs [] [0, 1, 2] rfl rfl rfl (one1 10 rfl rfl (op_st (cs' := [.slice At14_0 t14_0.length ct14_0, .int .i64 t14_1, .int .i64 t14_2]) 1 rfl rfl rfl rfl rfl rfl (xn rfl (xd (pr [0, 2, 4, 6] [0, 1, 2] [0, 2, 4] rfl rfl rfl rfl (ge (rg (sv (EV.mv rfl) rfl (sv (EV.sub rfl rfl) rfl (sv (EV.as rfl) rfl (re (wk [0, 2, 4, 6] [2, 0, 1] [⟨0, 2, 1, true⟩, ⟨2, 1, 2, true⟩, ⟨1, 0, 0, false⟩] (ih0 _ (by omega) _ ⟨wrap64 (x4_6 - 1), t13_1, t13_2, x4_2_0, Ax4_2_0, cx4_2_0, x4_2_1, x4_2_2, t14_0, At14_0, ct14_0, t14_1, t14_2, H, rfl⟩)))))))))))))))))
     ·
      refine ov (EV.ex rfl rfl) rfl (xs [] [0, 1, 2] rfl rfl rfl ?_)
      refine one2 6 7 rfl rfl rfl rfl ?_ ?_
      ·
       refine ov (EV.ex rfl rfl) rfl (xs [] [0, 1, 2] rfl rfl rfl ?_)
       refine one2 7 10 rfl rfl rfl rfl ?_ ?_
       ·
        exact ov (EV.ex rfl rfl) rfl (xs [] [0, 1, 2] rfl rfl rfl (one1 10 rfl rfl (op_st (cs' := [.slice At14_0 t14_0.length ct14_0, .int .i64 t14_1, .int .i64 t14_2]) 1 rfl rfl rfl rfl rfl rfl (xn rfl (xd (pr [0, 2, 4, 6] [0, 1, 2] [0, 2, 4] rfl rfl rfl rfl (ge (rg (sv (EV.mv rfl) rfl (sv (EV.sub rfl rfl) rfl (sv (EV.as rfl) rfl (re (wk [0, 2, 4, 6] [2, 0, 1] [⟨0, 2, 1, true⟩, ⟨2, 1, 2, true⟩, ⟨1, 0, 0, false⟩] (ih0 _ (by omega) _ ⟨wrap64 (x4_6 - 1), t13_1, t13_2, x4_2_0, Ax4_2_0, cx4_2_0, x4_2_1, x4_2_2, t14_0, At14_0, ct14_0, t14_1, t14_2, H, rfl⟩))))))))))))))
       ·
        exact op_st (cs' := [.slice At14_0 t14_0.length ct14_0, .int .i64 t14_1, .int .i64 t14_2]) 1 rfl rfl rfl rfl rfl rfl (xn rfl (one1 7 rfl rfl (ov (EV.ex rfl rfl) rfl (xs [] [0, 1, 2] rfl rfl rfl (xd (pr [0, 2, 4, 6] [0, 1, 2] [0, 2, 4] rfl rfl rfl rfl (ge (rg (sv (EV.mv rfl) rfl (sv (EV.sub rfl rfl) rfl (sv (EV.as rfl) rfl (re (wk [0, 2, 4, 6] [2, 0, 1] [⟨0, 2, 1, true⟩, ⟨2, 1, 2, true⟩, ⟨1, 0, 0, false⟩] (ih0 _ (by omega) _ ⟨wrap64 (x4_6 - 1), t13_1, t13_2, x4_2_0, Ax4_2_0, cx4_2_0, x4_2_1, x4_2_2, t14_0, At14_0, ct14_0, t14_1, t14_2, H, rfl⟩))))))))))))))
      ·
       exact ov (EV.ex rfl rfl) rfl (xs [] [0, 1, 2] rfl rfl rfl (one1 6 rfl rfl (ov (EV.ex rfl rfl) rfl (xs [] [0, 1, 2] rfl rfl rfl (one1 10 rfl rfl (op_st (cs' := [.slice At14_0 t14_0.length ct14_0, .int .i64 t14_1, .int .i64 t14_2]) 1 rfl rfl rfl rfl rfl rfl (xn rfl (xd (pr [0, 2, 4, 6] [0, 1, 2] [0, 2, 4] rfl rfl rfl rfl (ge (rg (sv (EV.mv rfl) rfl (sv (EV.sub rfl rfl) rfl (sv (EV.as rfl) rfl (re (wk [0, 2, 4, 6] [2, 0, 1] [⟨0, 2, 1, true⟩, ⟨2, 1, 2, true⟩, ⟨1, 0, 0, false⟩] (ih0 _ (by omega) _ ⟨wrap64 (x4_6 - 1), t13_1, t13_2, x4_2_0, Ax4_2_0, cx4_2_0, x4_2_1, x4_2_2, t14_0, At14_0, ct14_0, t14_1, t14_2, H, rfl⟩)))))))))))))))))
 ·
  refine gf rfl (dF c6) (gx rfl (gs (gs (rg (sv (EV.mv rfl) rfl ?_)))))
  revert H; refine bdI ?_; rintro ⟨t15_0, t15_1, t15_2⟩ A15 H
  refine so rfl (op_callM (spec_l1Below.ok b1000 l0_0 Al0_0 cl0_0 x4_1000_1 x4_1000_2 16 _ _ _ A15) [⟨2, 0, 0, false⟩] [0] [1, 2] 3 rfl rfl rfl rfl rfl rfl rfl rfl ?_)
  rintro _ _ _ ⟨rfl, rfl, rfl⟩
  refine nmE (en := [.sl 2 k27 Ax4_2_0 cx4_2_0 x4_2_0 1 true, .sl 1 k27 Ax4_4_0 cx4_4_0 x4_4_0 2 true, .sl 0 (.int .u8) Al0_0 cl0_0 l0_0 0 false]) (by kernel_rfl) (re (gb (gs (rg (sv (EV.eql rfl rfl) rfl (sv (EV.as rfl) rfl (re ?_)))))))
  revert H; refine ifsI ?_ ?_ <;> intro c16 H
  ·
   refine gt rfl (dT c16) ?_
   revert H; refine ggI ?_; intro g17 H
   refine dr [0, 1] [0, 2] [6, 7] 8 rfl rfl rfl rfl (xv 0 [0, 1] [0, 2] rfl (EV.fa 0 rfl) rfl rfl rfl rfl (xv 1 [0, 1] [0, 2] rfl (EV.ld 1 none rfl rfl rfl) rfl rfl rfl rfl (xv 2 [0, 1] [0, 2] rfl (EV.mv rfl) rfl rfl rfl rfl (one1 3 rfl rfl ?_))))
   revert H; refine bdI ?_; rintro ⟨t18_0, t18_1, t18_2, t18_3, t18_4, t18_5, t18_6⟩ A18 H
   refine op_callM (spec_l16Any.ok n0 b1000 l0_0 Al0_0 cl0_0 t15_1 t15_2 3 _ _ _ _ _ _ _ A18) [⟨2, 0, 0, false⟩] [2] [0, 1] 3 rfl rfl rfl rfl rfl rfl rfl rfl ?_
   rintro _ _ _ ⟨At18_1, ct18_1, At18_2, ct18_2, At18_3, ct18_3, rfl, rfl, rfl⟩
   refine nmE (en := [.sl 2 k27 Ax4_2_0 cx4_2_0 x4_2_0 1 true, .sl 1 k27 Ax4_4_0 cx4_4_0 x4_4_0 2 true, .sl 0 (.int .u8) Al0_0 cl0_0 l0_0 0 false, .sl 2 k99 At18_1 ct18_1 t18_1 4 true, .sl 2 k99 At18_2 ct18_2 t18_2 5 true, .sl 2 .bool At18_3 ct18_3 t18_3 6 true]) (by kernel_rfl) (xs [0, 1] [0, 2] rfl rfl rfl (one1 4 rfl rfl (op_lit (s := 5) (by_ := 88) k27 ([(⟨t18_0, t18_1, t18_2, t18_3, t18_4⟩ : S27)] : List S27) [[(At18_1, ct18_1), (At18_2, ct18_2), (At18_3, ct18_3)]] [3, 4, 5] 7 [.tmp 42] rfl rfl rfl rfl rfl rfl rfl rfl rfl rfl rfl rfl rfl dq rfl fun A43_19 c43_19 => (nmE (en := [.sl 2 k27 Ax4_2_0 cx4_2_0 x4_2_0 1 true, .sl 1 k27 Ax4_4_0 cx4_4_0 x4_4_0 2 true, .sl 0 (.int .u8) Al0_0 cl0_0 l0_0 0 false, .sl 2 k99 At18_1 ct18_1 t18_1 7 true, .sl 2 k99 At18_2 ct18_2 t18_2 7 true, .sl 2 .bool At18_3 ct18_3 t18_3 7 true, .sl 2 k27 A43_19 c43_19 ([(⟨t18_0, t18_1, t18_2, t18_3, t18_4⟩ : S27)] : List S27) 7 true]) (by kernel_rfl) (xs [0, 1] [0, 2] rfl rfl rfl (one1 5 rfl rfl (op_app (k := k27) (s := 5) (by_ := 88) 1 6 rfl rfl rfl rfl (ap1 g17 dq) (ap1n g17 dq) (.inr ⟨dq, dq, rfl, dq⟩) true (fun _ => .inr ⟨rfl, rfl, dq⟩) rfl rfl fun A44_20 c44_20 => (nmE (en := [.sl 2 k27 Ax4_2_0 cx4_2_0 x4_2_0 1 true, .sl 0 (.int .u8) Al0_0 cl0_0 l0_0 0 false, .sl 2 k99 At18_1 ct18_1 t18_1 2 true, .sl 2 k99 At18_2 ct18_2 t18_2 2 true, .sl 2 .bool At18_3 ct18_3 t18_3 2 true, .sl 2 k27 A43_19 c43_19 ([(⟨t18_0, t18_1, t18_2, t18_3, t18_4⟩ : S27)] : List S27) 2 true, .sl 1 k27 A44_20 c44_20 (x4_4_0 ++ ([(⟨t18_0, t18_1, t18_2, t18_3, t18_4⟩ : S27)] : List S27)) 2 true]) (by kernel_rfl) (xs [0, 1] [0, 1] rfl rfl rfl (one1 6 rfl rfl (ov (EV.fa 0 rfl) rfl (xn rfl (one1 7 rfl rfl (op_st (cs' := [.slice A44_20 (x4_4_0 ++ ([(⟨t18_0, t18_1, t18_2, t18_3, t18_4⟩ : S27)] : List S27)).length c44_20, .int .i64 x4_4_1, .int .i64 x4_4_2]) 1 rfl rfl rfl rfl rfl rfl (xn rfl (xd (pr [2, 4] [0, 1, 2] [0, 1, 6] rfl rfl rfl rfl (ge (gs (rg (sv (EV.ld (v := .agg #[.slice A44_20 (x4_4_0 ++ ([(⟨t18_0, t18_1, t18_2, t18_3, t18_4⟩ : S27)] : List S27)).length c44_20, .int .i64 x4_4_1, .int .i64 x4_4_2]) 1 (some 3) rfl rfl rfl) rfl (so rfl (op_st (cs' := [.slice A44_20 (x4_4_0 ++ ([(⟨t18_0, t18_1, t18_2, t18_3, t18_4⟩ : S27)] : List S27)).length c44_20, .int .i64 x4_4_1, .int .i64 x4_4_2]) 0 rfl rfl rfl rfl rfl rfl (re ?_))))))))))))))))))))))))
   cases H
   exact rt Try.func89 rfl (.cell 0 (some 3) rfl rfl rfl .nil) rfl [2] [⟨2, 1, 1, true⟩] rfl rfl rfl rfl rfl ⟨_, _, rfl, rfl, rfl⟩
  ·
   refine gf rfl (dF c16) (gs (rg (sv (EV.eql rfl rfl) rfl (sv (EV.as rfl) rfl (re (pr [0, 2, 4, 36, 46] [0, 1, 2] [0, 1, 2] rfl rfl rfl rfl ?_))))))
   revert H; refine ifsI ?_ ?_ <;> intro c21 H
   ·
    refine gt rfl (dT c21) (rg (sv (EV.mv rfl) rfl (so rfl (op_lit (s := 1) (by_ := 8) (.int .i64) ([(-1), 100001] : List Int) [[], []] [] 3 [.const (.int .i64 (-1)), .const (.int .i64 100001)] rfl rfl rfl rfl rfl rfl rfl rfl rfl rfl rfl rfl rfl dq rfl fun A49_22 c49_22 => ?_))))
    revert H; refine bdI ?_; rintro ⟨t23_0, t23_1, t23_2⟩ A23 H
    refine so rfl (op_callM (spec_l1PickInt.ok b1000 l0_0 Al0_0 cl0_0 t15_1 t15_2 ([(-1), 100001] : List Int) A49_22 c49_22 _ _ _ A23) [⟨2, 0, 0, false⟩, ⟨3, 0, 0, false⟩] [2] [0, 1] 4 rfl rfl rfl rfl rfl rfl rfl rfl ?_)
    rintro _ _ _ ⟨rfl, rfl, rfl⟩
    refine nmE (en := [.sl 2 k27 Ax4_2_0 cx4_2_0 x4_2_0 1 true, .sl 1 k27 Ax4_4_0 cx4_4_0 x4_4_0 2 true, .sl 0 (.int .u8) Al0_0 cl0_0 l0_0 0 false, .sl 2 (.int .i64) A49_22 c49_22 ([(-1), 100001] : List Int) 3 true]) (by kernel_rfl) (sv (EV.fa 1 rfl) rfl (so rfl (op_st (cs' := [.slice Ax4_4_0 x4_4_0.length cx4_4_0, .int .i64 t23_0, .int .i64 x4_4_2]) 1 rfl rfl rfl rfl rfl rfl (re (pr [2, 4] [0, 1, 2] [0, 1, 2] rfl rfl rfl rfl (ge (gs (rg (sv (EV.ld (v := .agg #[.slice Ax4_4_0 x4_4_0.length cx4_4_0, .int .i64 t23_0, .int .i64 x4_4_2]) 1 (some 3) rfl rfl rfl) rfl (so rfl (op_st (cs' := [.slice Ax4_4_0 x4_4_0.length cx4_4_0, .int .i64 t23_0, .int .i64 x4_4_2]) 0 rfl rfl rfl rfl rfl rfl (re ?_))))))))))))
    cases H
    exact rt Try.func89 rfl (.cell 0 (some 3) rfl rfl rfl .nil) rfl [2] [⟨1, 1, 1, true⟩] rfl rfl rfl rfl rfl ⟨_, _, rfl, rfl, rfl⟩
   ·
    refine gf rfl (dF c21) (gs (rg (sv (EV.eql rfl rfl) rfl (sv (EV.as rfl) rfl (re ?_)))))
    revert H; refine ifsI ?_ ?_ <;> intro c24 H
    ·
     refine gt rfl (dT c24) (rg (sv (EV.fa 2 rfl) rfl (so rfl (op_st (cs' := [.slice Ax4_4_0 x4_4_0.length cx4_4_0, .int .i64 x4_4_1, .int .i64 (-1)]) 1 rfl rfl rfl rfl rfl rfl (re (pr [2, 4] [0, 1, 2] [0, 1, 2] rfl rfl rfl rfl (ge (gs (rg (sv (EV.ld (v := .agg #[.slice Ax4_4_0 x4_4_0.length cx4_4_0, .int .i64 x4_4_1, .int .i64 (-1)]) 1 (some 3) rfl rfl rfl) rfl (so rfl (op_st (cs' := [.slice Ax4_4_0 x4_4_0.length cx4_4_0, .int .i64 x4_4_1, .int .i64 (-1)]) 0 rfl rfl rfl rfl rfl rfl (re ?_)))))))))))))
     cases H
     exact rt Try.func89 rfl (.cell 0 (some 3) rfl rfl rfl .nil) rfl [2] [⟨1, 1, 1, true⟩] rfl rfl rfl rfl rfl ⟨_, _, rfl, rfl, rfl⟩
    ·
     refine gf rfl (dF c24) (gk (ge (gs (rg (sv (EV.ld (v := .agg #[.slice Ax4_4_0 x4_4_0.length cx4_4_0, .int .i64 x4_4_1, .int .i64 x4_4_2]) 1 (some 3) rfl rfl rfl) rfl (so rfl (op_st (cs' := [.slice Ax4_4_0 x4_4_0.length cx4_4_0, .int .i64 x4_4_1, .int .i64 x4_4_2]) 0 rfl rfl rfl rfl rfl rfl (re (pr [2] [0, 2] [1, 2] rfl rfl rfl rfl ?_)))))))))
     cases H
     exact rt Try.func89 rfl (.cell 0 (some 3) rfl rfl rfl .nil) rfl [1] [⟨0, 1, 1, true⟩] rfl rfl rfl rfl rfl ⟨_, _, rfl, rfl, rfl⟩
end Go.Proofs.Ytamjndlkompeeaa.K
namespace Go.Proofs.Ytamjndlkompeeaa.K
open Go Go.RowKit
set_option linter.unusedVariables false
set_option linter.unusedSimpArgs false
def spec_DrawFormatJoiner.f (k : Nat) (l0 : List Int) : Option ((List S27) × Int × Int) := (spec_l1New.f k l0).bind fun bt1 => ((spec_l19Joiner.f k l0 bt1.1 bt1.2).bind fun bt2 => (some (bt2.1, bt2.2.1, bt2.2.2.1)))
set_option maxHeartbeats 4000000 in
set_option maxRecDepth 100000 in
theorem spec_DrawFormatJoiner.ok (k : Nat) (l0 : List Int) (Al0 : Option Addr) (cl0 : Nat) (r0 : List S27) (r1 : Int) (r2 : Int) (H : spec_DrawFormatJoiner.f k l0 = some (r0, r1, r2)) : Fn Try.prog 44 [.slice Al0 l0.length cl0] [] [.sl 0 (.int .u8) Al0 cl0 l0 0 false] (fun v bx en => ∃ A0 c0, v = .agg #[.slice A0 r0.length c0, .int .i64 r1, .int .i64 r2] ∧ bx = [] ∧ en = [.sl 1 k27 A0 c0 r0 1 true]) := by
 refine fn_ 6 Try.func44 rfl rfl rfl (fun base T w0 => ?_)
 rw [spec_DrawFormatJoiner.f] at H
 refine gs (rg (so rfl (op_alloc (cs := [.slice none 0 0, .int .i64 0, .int .i64 0]) (by kernel_rfl) rfl fun b2 => (re (gs (rg (sv (EV.mv rfl) rfl ?_)))))))
 revert H; refine bdI ?_; rintro ⟨t1_0, t1_1⟩ A1 H
 refine so rfl (op_callM (spec_l1New.ok k l0 Al0 cl0 _ _ A1) [⟨0, 0, 0, false⟩] [] [0] 1 rfl rfl rfl rfl rfl rfl rfl rfl ?_)
 rintro _ _ _ ⟨b2001, rfl, rfl, rfl⟩
 refine nmE (en := [.sl 0 (.int .u8) Al0 cl0 l0 0 false]) (by kernel_rfl) ?_
 revert H; refine bdI ?_; rintro ⟨t2_0, t2_1, t2_2, t2_3, t2_4⟩ A2 H
 refine so rfl (op_callM (spec_l19Joiner.ok k b2001 l0 Al0 cl0 t1_0 t1_1 _ _ _ _ _ A2) [⟨0, 0, 0, false⟩] [1] [0] 1 rfl rfl rfl rfl rfl rfl rfl rfl ?_)
 rintro _ _ _ ⟨At2_0, ct2_0, rfl, rfl, rfl⟩
 refine nmE (en := [.sl 0 (.int .u8) Al0 cl0 l0 0 false, .sl 1 k27 At2_0 ct2_0 t2_0 2 true]) (by kernel_rfl) (so rfl (op_st (cs' := [.slice At2_0 t2_0.length ct2_0, .int .i64 t2_1, .int .i64 t2_2]) 0 rfl rfl rfl rfl rfl rfl (re ?_)))
 cases H
 exact rt Try.func44 rfl (.cell 0 (some 3) rfl rfl rfl .nil) rfl [] [⟨1, 1, 1, true⟩] rfl rfl rfl rfl rfl ⟨_, _, rfl, rfl, rfl⟩
end Go.Proofs.Ytamjndlkompeeaa.K
namespace Go.Proofs.Ytamjndlkompeeaa.K
open Go Go.RowKit
set_option linter.unusedVariables false
set_option linter.unusedSimpArgs false
def spec_l1Pick.f (l0_0 : List Int) (a0_1 : Int) (a0_2 : Int) (l1 : List ByteArray) : Option (ByteArray × Int × Int) := (spec_l1Below.f l0_0 a0_1 a0_2 (l1.length : Int)).bind fun bt1 => (if 0 ≤ bt1.1 then (if bt1.1 < (l1.length : Int) then (some (rdOf ByteArray.empty l1 bt1.1, bt1.2.1, bt1.2.2)) else none) else none)
set_option maxHeartbeats 4000000 in
set_option maxRecDepth 100000 in
theorem spec_l1Pick.ok (b1000 : Nat) (l0_0 : List Int) (Al0_0 : Option Addr) (cl0_0 : Nat) (a0_1 : Int) (a0_2 : Int) (l1 : List ByteArray) (Al1 : Option Addr) (cl1 : Nat) (r0 : ByteArray) (r1 : Int) (r2 : Int) (H : spec_l1Pick.f l0_0 a0_1 a0_2 l1 = some (r0, r1, r2)) : Fn Try.prog 64 [.pointer (some ⟨b1000, 0, none⟩), .slice Al1 l1.length cl1] [⟨b1000, 119, [.slice Al0_0 l0_0.length cl0_0, .int .i64 a0_1, .int .i64 a0_2]⟩] [.sl 0 (.int .u8) Al0_0 cl0_0 l0_0 0 false, .sl 0 .str Al1 cl1 l1 0 false] (fun v bx en => v = .string r0 ∧ bx = [⟨b1000, 119, [.slice Al0_0 l0_0.length cl0_0, .int .i64 r1, .int .i64 r2]⟩] ∧ en = []) := by
 refine fn_ 12 Try.func64 rfl rfl rfl (fun base T w0 => ?_)
 rw [spec_l1Pick.f] at H
 refine gs (rg (sv (EV.as rfl) rfl (re (gs (rg (sv (EV.mv rfl) rfl (sv (EV.mv rfl) rfl (sv (EV.mv rfl) rfl (sv (EV.ln rfl) rfl ?_)))))))))
 revert H; refine bdI ?_; rintro ⟨t1_0, t1_1, t1_2⟩ A1 H
 refine so rfl (op_callM (spec_l1Below.ok b1000 l0_0 Al0_0 cl0_0 a0_1 a0_2 (l1.length : Int) _ _ _ A1) [⟨0, 0, 0, false⟩] [0] [] 1 rfl rfl rfl rfl rfl rfl rfl rfl ?_)
 rintro _ _ _ ⟨rfl, rfl, rfl⟩
 refine nmE (en := [.sl 0 (.int .u8) Al0_0 cl0_0 l0_0 0 false, .sl 0 .str Al1 cl1 l1 0 false]) (by kernel_rfl) ?_
 revert H; refine ggI ?_; intro g2 H
 revert H; refine ggI ?_; intro g3 H
 refine sv (EV.ix 1 rfl rfl rfl g2 g3 rfl) rfl (sv (EV.le (v := .string (rdOf ByteArray.empty l1 t1_0)) t1_0 0 none 1 ByteArray.empty rfl rfl rfl g2 g3 rfl rfl rfl) rfl (sv (EV.as rfl) rfl (re (pr [4] [0] [0] rfl rfl rfl rfl ?_))))
 cases H
 exact rt Try.func64 rfl (.tmp rfl .nil) rfl [0] [] rfl rfl rfl rfl rfl ⟨rfl, rfl, rfl⟩
end Go.Proofs.Ytamjndlkompeeaa.K
namespace Go.Proofs.Ytamjndlkompeeaa.K
open Go Go.RowKit
set_option linter.unusedVariables false
set_option linter.unusedSimpArgs false
mutual
def spec_l1Text.j1 : Nat → (List Int) → Int → Int → Int → Int → Int → (List Int) → Option (ByteArray × Int × Int)
 | 0, _, _, _, _, _, _, _ => none
 | k + 1, x18_5, x18_6, x18_7, x18_8, x18_1000_1, x18_1000_2, l0_0 => if x18_5.length < 140737488355328 then (spec_l1Text.l0 k (x18_5 ++ ([IntKind.u8.wrap x18_8] : List Int)) x18_6 (wrap64 (x18_7 - 1)) x18_1000_1 x18_1000_2 l0_0) else none
def spec_l1Text.j0 : Nat → (List Int) → Int → Int → Int → Int → Int → (List Int) → Option (ByteArray × Int × Int)
 | 0, _, _, _, _, _, _, _ => none
 | k + 1, x17_5, x17_6, x17_7, x17_8, x17_1000_1, x17_1000_2, l0_0 => if x17_6 = 2 then (spec_l1Text.j1 k x17_5 x17_6 x17_7 (wrap64 (97 + (Int.tmod x17_8 4))) x17_1000_1 x17_1000_2 l0_0) else (spec_l1Text.j1 k x17_5 x17_6 x17_7 x17_8 x17_1000_1 x17_1000_2 l0_0)
def spec_l1Text.l0 : Nat → (List Int) → Int → Int → Int → Int → (List Int) → Option (ByteArray × Int × Int)
 | 0, _, _, _, _, _, _ => none
 | k + 1, x10_5, x10_6, x10_7, x10_1000_1, x10_1000_2, l0_0 => if x10_7 > 0 then ((spec_l1Byte.f l0_0 x10_1000_1 x10_1000_2).bind fun bt5 => (if x10_6 = 1 then (spec_l1Text.j0 k x10_5 x10_6 x10_7 (Int.tmod bt5.1 2) bt5.2.1 bt5.2.2 l0_0) else (spec_l1Text.j0 k x10_5 x10_6 x10_7 bt5.1 bt5.2.1 bt5.2.2 l0_0))) else (some (strOfNums x10_5, x10_1000_1, x10_1000_2))
end
def spec_l1Text.f (k : Nat) (l0_0 : List Int) (a0_1 : Int) (a0_2 : Int) (a1 : Int) : Option (ByteArray × Int × Int) := (spec_l1Below.f l0_0 a0_1 a0_2 4).bind fun bt2 => ((spec_l1Below.f l0_0 bt2.2.1 bt2.2.2 (wrap64 (a1 + 1))).bind fun bt3 => (spec_l1Text.l0 k [] bt2.1 bt3.1 bt3.2.1 bt3.2.2 l0_0))
set_option maxHeartbeats 4000000 in
set_option maxRecDepth 100000 in
theorem spec_l1Text.ok (k : Nat) (b1000 : Nat) (l0_0 : List Int) (Al0_0 : Option Addr) (cl0_0 : Nat) (a0_1 : Int) (a0_2 : Int) (a1 : Int) (r0 : ByteArray) (r1 : Int) (r2 : Int) (H : spec_l1Text.f k l0_0 a0_1 a0_2 a1 = some (r0, r1, r2)) : Fn Try.prog 108 [.pointer (some ⟨b1000, 0, none⟩), .int .i64 a1] [⟨b1000, 119, [.slice Al0_0 l0_0.length cl0_0, .int .i64 a0_1, .int .i64 a0_2]⟩] [.sl 0 (.int .u8) Al0_0 cl0_0 l0_0 0 false] (fun v bx en => v = .string r0 ∧ bx = [⟨b1000, 119, [.slice Al0_0 l0_0.length cl0_0, .int .i64 r1, .int .i64 r2]⟩] ∧ en = []) := by
 refine fn_ 38 Try.func108 rfl rfl rfl (fun base T w0 => ?_)
 rw [spec_l1Text.f] at H
 refine gs (rg (sv (EV.as rfl) rfl (re (gs (rg (so rfl (op_lit (s := 1) (by_ := 1) (.int .u8) ([] : List Int) [] [] 1 [] rfl rfl rfl rfl rfl rfl rfl rfl rfl rfl rfl rfl rfl dq rfl fun A9_1 c9_1 => (sv (EV.as rfl) rfl (re (gs (rg (sv (EV.mv rfl) rfl ?_))))))))))))
 revert H; refine bdI ?_; rintro ⟨t2_0, t2_1, t2_2⟩ A2 H
 refine so rfl (op_callM (spec_l1Below.ok b1000 l0_0 Al0_0 cl0_0 a0_1 a0_2 4 _ _ _ A2) [⟨0, 0, 0, false⟩] [0] [] 2 rfl rfl rfl rfl rfl rfl rfl rfl ?_)
 rintro _ _ _ ⟨rfl, rfl, rfl⟩
 refine nmE (en := [.sl 0 (.int .u8) Al0_0 cl0_0 l0_0 0 false, .sl 2 (.int .u8) A9_1 c9_1 [] 1 true]) (by kernel_rfl) (sv (EV.as rfl) rfl (re (gs (gs (rg (sv (EV.mv rfl) rfl (sv (EV.mv rfl) rfl (sv (EV.add rfl rfl) rfl ?_))))))))
 revert H; refine bdI ?_; rintro ⟨t3_0, t3_1, t3_2⟩ A3 H
 refine so rfl (op_callM (spec_l1Below.ok b1000 l0_0 Al0_0 cl0_0 t2_1 t2_2 (wrap64 (a1 + 1)) _ _ _ A3) [⟨0, 0, 0, false⟩] [0] [] 2 rfl rfl rfl rfl rfl rfl rfl rfl ?_)
 rintro _ _ _ ⟨rfl, rfl, rfl⟩
 refine nmE (en := [.sl 0 (.int .u8) Al0_0 cl0_0 l0_0 0 false, .sl 2 (.int .u8) A9_1 c9_1 [] 1 true]) (by kernel_rfl) (sv (EV.as rfl) rfl (re (pr [0, 5, 6, 7] [0] [0, 1] rfl rfl rfl rfl (gb ?_))))
 refine lo (fun kk S => ∃ (x10_5 : List Int) (Ax10_5 : Option Addr) (cx10_5 : Nat) (x10_6 : Int) (x10_7 : Int) (x10_1000_1 : Int) (x10_1000_2 : Int), spec_l1Text.l0 kk x10_5 x10_6 x10_7 x10_1000_1 x10_1000_2 l0_0 = some (r0, r1, r2) ∧ S = ⟨[(0, .pointer (some ⟨b1000, 0, none⟩)), (5, .slice Ax10_5 x10_5.length cx10_5), (6, .int .i64 x10_6), (7, .int .i64 x10_7)], [⟨b1000, 119, [.slice Al0_0 l0_0.length cl0_0, .int .i64 x10_1000_1, .int .i64 x10_1000_2]⟩], [.sl 2 (.int .u8) Ax10_5 cx10_5 x10_5 1 true, .sl 0 (.int .u8) Al0_0 cl0_0 l0_0 0 false]⟩) (fun S hS => ?_) (fun n0 ih0 S hS => ?_) ⟨[], A9_1, c9_1, t2_0, t3_0, t3_1, t3_2, H, rfl⟩ (fun h => wk [0, 5, 6, 7] [0] [⟨1, 2, 1, true⟩, ⟨0, 0, 0, false⟩] h)
 · clear H; obtain ⟨_, _, _, _, _, _, _, H, _⟩ := hS; rw [spec_l1Text.l0] at H; cases H
 clear H
 obtain ⟨x10_5, Ax10_5, cx10_5, x10_6, x10_7, x10_1000_1, x10_1000_2, H, rfl⟩ := hS
 rw [spec_l1Text.l0] at H
 refine gs (gs (rg (sv (EV.mv rfl) rfl (sv (EV.gtr rfl rfl) rfl (re ?_)))))
 revert H; refine ifsI ?_ ?_ <;> intro c4 H
 ·
  refine gt rfl (dT c4) (gk (gs (gb (gs (rg (sv (EV.mv rfl) rfl ?_))))))
  revert H; refine bdI ?_; rintro ⟨t5_0, t5_1, t5_2⟩ A5 H
  refine so rfl (op_callM (spec_l1Byte.ok b1000 l0_0 Al0_0 cl0_0 x10_1000_1 x10_1000_2 _ _ _ A5) [⟨1, 0, 0, false⟩] [0] [] 2 rfl rfl rfl rfl rfl rfl rfl rfl ?_)
  rintro _ _ _ ⟨rfl, rfl, rfl⟩
  refine nmE (en := [.sl 2 (.int .u8) Ax10_5 cx10_5 x10_5 1 true, .sl 0 (.int .u8) Al0_0 cl0_0 l0_0 0 false]) (by kernel_rfl) (sv (EV.as rfl) rfl (re ?_))
  refine jo (fun S => ∃ (m : Nat) (x17_5 : List Int) (Ax17_5 : Option Addr) (cx17_5 : Nat) (x17_6 : Int) (x17_7 : Int) (x17_8 : Int) (x17_1000_1 : Int) (x17_1000_2 : Int), m ≤ n0 ∧ spec_l1Text.j0 m x17_5 x17_6 x17_7 x17_8 x17_1000_1 x17_1000_2 l0_0 = some (r0, r1, r2) ∧ S = ⟨[(0, .pointer (some ⟨b1000, 0, none⟩)), (5, .slice Ax17_5 x17_5.length cx17_5), (6, .int .i64 x17_6), (7, .int .i64 x17_7), (8, .int .i64 x17_8)], [⟨b1000, 119, [.slice Al0_0 l0_0.length cl0_0, .int .i64 x17_1000_1, .int .i64 x17_1000_2]⟩], [.sl 2 (.int .u8) Ax17_5 cx17_5 x17_5 1 true, .sl 0 (.int .u8) Al0_0 cl0_0 l0_0 0 false]⟩) (fun S hS => ?_) (fun jh0 => ?_)
  ·
   clear H
   obtain ⟨m6, x17_5, Ax17_5, cx17_5, x17_6, x17_7, x17_8, x17_1000_1, x17_1000_2, lm6, H, rfl⟩ := hS
   rcases m6 with _ | m6
   · rw [spec_l1Text.j0] at H; cases H
   rw [spec_l1Text.j0] at H
   refine jo (fun S => ∃ (m : Nat) (x18_5 : List Int) (Ax18_5 : Option Addr) (cx18_5 : Nat) (x18_6 : Int) (x18_7 : Int) (x18_8 : Int) (x18_1000_1 : Int) (x18_1000_2 : Int), m ≤ m6 ∧ spec_l1Text.j1 m x18_5 x18_6 x18_7 x18_8 x18_1000_1 x18_1000_2 l0_0 = some (r0, r1, r2) ∧ S = ⟨[(0, .pointer (some ⟨b1000, 0, none⟩)), (5, .slice Ax18_5 x18_5.length cx18_5), (6, .int .i64 x18_6), (7, .int .i64 x18_7), (8, .int .i64 x18_8)], [⟨b1000, 119, [.slice Al0_0 l0_0.length cl0_0, .int .i64 x18_1000_1, .int .i64 x18_1000_2]⟩], [.sl 2 (.int .u8) Ax18_5 cx18_5 x18_5 1 true, .sl 0 (.int .u8) Al0_0 cl0_0 l0_0 0 false]⟩) (fun S hS => ?_) (fun jh1 => ?_)
   ·
    clear H
    obtain ⟨m7, x18_5, Ax18_5, cx18_5, x18_6, x18_7, x18_8, x18_1000_1, x18_1000_2, lm7, H, rfl⟩ := hS
    rcases m7 with _ | m7
    · rw [spec_l1Text.j1] at H; cases H
    rw [spec_l1Text.j1] at H
    refine rg (sv (EV.mv rfl) rfl (sv (EV.mv rfl) rfl (sv (EV.cv (k' := .u8) rfl) rfl (so rfl (op_lit (s := 1) (by_ := 1) (.int .u8) ([IntKind.u8.wrap x18_8] : List Int) [[]] [] 2 [.tmp 33] rfl rfl rfl rfl rfl rfl rfl rfl rfl rfl rfl rfl rfl dq rfl fun A34_8 c34_8 => ?_)))))
    revert H; refine ggI ?_; intro g9 H
    exact so rfl (op_app (k := (.int .u8)) (s := 1) (by_ := 1) 0 2 rfl rfl rfl rfl (ap1 g9 dq) (ap1n g9 dq) (.inl rfl) true (fun _ => .inl rfl) rfl rfl fun A35_10 c35_10 => (nmE (en := [.sl 0 (.int .u8) Al0_0 cl0_0 l0_0 0 false, .sl 2 (.int .u8) A34_8 c34_8 ([IntKind.u8.wrap x18_8] : List Int) 2 true, .sl 2 (.int .u8) A35_10 c35_10 (x18_5 ++ ([IntKind.u8.wrap x18_8] : List Int)) 1 true]) (by kernel_rfl) (sv (EV.as rfl) rfl (re (pr [0, 5, 6, 7] [0] [0, 2] rfl rfl rfl rfl (ge (rg (sv (EV.mv rfl) rfl (sv (EV.sub rfl rfl) rfl (sv (EV.as rfl) rfl (re (wk [0, 5, 6, 7] [0] [⟨1, 2, 1, true⟩, ⟨0, 0, 0, false⟩] (ih0 _ (by omega) _ ⟨x18_5 ++ ([IntKind.u8.wrap x18_8] : List Int), A35_10, c35_10, x18_6, wrap64 (x18_7 - 1), x18_1000_1, x18_1000_2, H, rfl⟩)))))))))))))
   ·
    refine gs (rg (sv (EV.mv rfl) rfl (sv (EV.eql rfl rfl) rfl (re ?_))))
    revert H; refine ifsI ?_ ?_ <;> intro c11 H
    ·
     exact gt rfl (dT c11) (rg (sv (EV.mv rfl) rfl (sv (EV.rem rfl rfl dq) rfl (sv (EV.add rfl rfl) rfl (sv (EV.as rfl) rfl (re (wk [0, 5, 6, 7, 8] [0] [⟨0, 2, 1, true⟩, ⟨1, 0, 0, false⟩] (jh1 _ ⟨_, x17_5, Ax17_5, cx17_5, x17_6, x17_7, wrap64 (97 + (Int.tmod x17_8 4)), x17_1000_1, x17_1000_2, by omega, H, rfl⟩))))))))
    ·
     exact gf rfl (dF c11) (gk (wk [0, 5, 6, 7, 8] [0] [⟨0, 2, 1, true⟩, ⟨1, 0, 0, false⟩] (jh1 _ ⟨_, x17_5, Ax17_5, cx17_5, x17_6, x17_7, x17_8, x17_1000_1, x17_1000_2, by omega, H, rfl⟩)))
  ·
   refine gs (rg (sv (EV.mv rfl) rfl (sv (EV.eql rfl rfl) rfl (re ?_))))
   revert H; refine ifsI ?_ ?_ <;> intro c12 H
   ·
    exact gt rfl (dT c12) (rg (sv (EV.mv rfl) rfl (sv (EV.rem rfl rfl dq) rfl (sv (EV.as rfl) rfl (re (pr [0, 5, 6, 7, 8] [0] [0, 1] rfl rfl rfl rfl (wk [0, 5, 6, 7, 8] [0] [⟨0, 2, 1, true⟩, ⟨1, 0, 0, false⟩] (jh0 _ ⟨_, x10_5, Ax10_5, cx10_5, x10_6, x10_7, Int.tmod t5_0 2, t5_1, t5_2, by omega, H, rfl⟩))))))))
   ·
    exact gf rfl (dF c12) (gk (wk [0, 5, 6, 7, 8] [0] [⟨0, 2, 1, true⟩, ⟨1, 0, 0, false⟩] (jh0 _ ⟨_, x10_5, Ax10_5, cx10_5, x10_6, x10_7, t5_0, t5_1, t5_2, by omega, H, rfl⟩)))
 ·
  refine gf rfl (dF c4) (gx rfl (gs (rg (sv (EV.mv rfl) rfl (sv (EV.bs 0 rfl rfl) rfl (sv (EV.as rfl) rfl (re (pr [4] [0] [1] rfl rfl rfl rfl ?_))))))))
  cases H
  exact rt Try.func108 rfl (.tmp rfl .nil) rfl [0] [] rfl rfl rfl rfl rfl ⟨rfl, rfl, rfl⟩
end Go.Proofs.Ytamjndlkompeeaa.K
