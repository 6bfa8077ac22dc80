/- Walks: what the functions compute. Printed by gen.py; no condition. -/
import Derived.Test.YtfoblaonklkaoaaGreatProg
import Derived.Test.YtfoblaonklkaoaaGreatSB
namespace Go.Proofs.YtfoblaonklkaoaaGreat.K
open Go Go.RowKit
set_option linter.unusedVariables false
set_option linter.unusedSimpArgs false
set_option maxHeartbeats 4000000
set_option maxRecDepth 100000
structure ah where
  f0 : Int
  f1 : Int
  f2 : Int
def cK : ah := ⟨0,0,0⟩
def ai : Kd ah := .iso (fun p => ⟨p.1,p.2.1,p.2.2⟩) (fun x => (x.f0,x.f1,x.f2)) (fun _ => rfl) (.pair (.int .i64) (.pair (.int .i64) (.int .i64)))
def aa (xs : List ah) (i : Int) : ah := xs.getD i.toNat cK
structure aT where
  f0 : List ah
def n5 : aT := ⟨[]⟩
def aZ : Kd aT := .iso (fun p => ⟨p⟩) (fun x => (x.f0)) (fun _ => rfl) (.slice ai)
def aC (xs : List aT) (i : Int) : aT := xs.getD i.toNat n5
structure eQ where
  f0 : List ah
  f1 : Int
  f2 : List ah
  f3 : List ah
  f4 : List ah
  f5 : List aT
  f6 : Int
  f7 : Int
  f8 : Int
  f9 : Int
def Dv : eQ := ⟨[],0,[],[],[],[],0,0,0,0⟩
def k27 : Kd eQ := .iso (fun p => ⟨p.1,p.2.1,p.2.2.1,p.2.2.2.1,p.2.2.2.2.1,p.2.2.2.2.2.1,p.2.2.2.2.2.2.1,p.2.2.2.2.2.2.2.1,p.2.2.2.2.2.2.2.2.1,p.2.2.2.2.2.2.2.2.2⟩) (fun x => (x.f0,x.f1,x.f2,x.f3,x.f4,x.f5,x.f6,x.f7,x.f8,x.f9)) (fun _ => rfl) (.pair (.slice ai) (.pair (.int .i64) (.pair (.slice ai) (.pair (.slice ai) (.pair (.slice ai) (.pair (.slice aZ) (.pair (.int .i64) (.pair (.int .i64) (.pair (.int .i64) (.int .i64))))))))))
def agm (xs : List eQ) (i : Int) : eQ := xs.getD i.toNat Dv
structure Ya where
  f0 : List Int
  f1 : Int
  f2 : Int
def z92 : Ya := ⟨[],0,0⟩
def k92 : Kd Ya := .iso (fun p => ⟨p.1,p.2.1,p.2.2⟩) (fun x => (x.f0,x.f1,x.f2)) (fun _ => rfl) (.pair (.slice (.int .u8)) (.pair (.int .i64) (.int .i64)))
def agl (xs : List Ya) (i : Int) : Ya := xs.getD i.toNat z92
theorem adq (d : Nat) (w : World) (x0 y0 : Int) (x1 y1 : Int) (x2 y2 : Int) : (Op.equalIn (d + 2) 73 (.agg #[.int .i64 x0,.int .i64 x1,.int .i64 x2]) (.agg #[.int .i64 y0,.int .i64 y1,.int .i64 y2])).run Tryz.prog w = .ok (x0 == y0 && (x1 == y1 && (x2 == y2))) w := by
  refine adp (d := d + 1) Tryz.underlying73 kK ?_
  refine RL (by rfl) (by first | (go_simp; done) | (go_simp; rfl)) (by first | (go_simp; done) | (go_simp; rfl)) (by go_simp) ?_
  refine RL (by rfl) (by first | (go_simp; done) | (go_simp; rfl)) (by first | (go_simp; done) | (go_simp; rfl)) (by go_simp) ?_
  exact YJ (by rfl) (by first | (go_simp; done) | (go_simp; rfl)) (by first | (go_simp; done) | (go_simp; rfl)) (by go_simp)
theorem S2 (d : Nat) (w : World) (x0 y0 : Int) (x1 y1 : Int) (x2 y2 : Int) : (Op.equalIn (d + 20) 73 (.agg #[.int .i64 x0,.int .i64 x1,.int .i64 x2]) (.agg #[.int .i64 y0,.int .i64 y1,.int .i64 y2])).run Tryz.prog w = .ok (x0 == y0 && (x1 == y1 && (x2 == y2))) w := adq (d + 18) w x0 y0 x1 y1 x2 y2

def gO.f (a0 : Int) (a1 : Int) (a2 : Int) : Option (Bool) := if a0 ≥ a1 then (some (decide (a0 ≤ a2))) else (some false)
theorem gO.ok (a0 : Int) (a1 : Int) (a2 : Int) (r0 : Bool) (H : gO.f a0 a1 a2 = some r0) : Fn Tryz.prog 44 [.int .i64 a0,.int .i64 a1,.int .i64 a2] [] [] (fun v bx en => v = .bool r0 ∧ bx = [] ∧ en = []) := by
 refine eD 15 Tryz.func44 zZ zZ zZ (fun base T w0 => ?_)
 rw [gO.f] at H
 refine gs (rg (au ac (re (gs (rg (al ac (al ac (sv (Ac zZ zZ) zZ (al ac ?_)))))))))
 revert H; refine aJ ?_ ?_ <;> intro c1 H
 ·
  refine ts 10 zZ (dT c1) (al ac (al ac (sv (jv ac) zZ (sv (aQ ag) zZ (au ac (re (aB [6] [] [] ae ?_)))))))
  cases H
  exact rt Tryz.func44 zZ (.tmp zZ .nil) zZ [] [] zZ zZ zZ zZ zZ ⟨zZ,zZ,zZ⟩
 ·
  refine ts 10 zZ (dF c1) (sk zZ (sk zZ (sk zZ (sv (aI ag) zZ (au ac (re (aB [6] [] [] ae ?_)))))))
  cases H
  exact rt Tryz.func44 zZ (.tmp zZ .nil) zZ [] [] zZ zZ zZ zZ zZ ⟨zZ,zZ,zZ⟩
def iv.f (fb : Int) (aF : Int) (cw : Int) : Option (Bool) := (gO.f fb 0 9).bind fun t1 => (if t1 = true then ((gO.f aF 0 99).bind fun t3 => (if t3 = true then ((gO.f cw 0 3).bind fun t5 => (some t5)) else (some false))) else (some false))
theorem iv.ok (fb : Int) (aF : Int) (cw : Int) (r0 : Bool) (H : iv.f fb aF cw = some r0) : Fn Tryz.prog 91 [.agg #[.int .i64 fb,.int .i64 aF,.int .i64 cw]] [] [] (fun v bx en => v = .bool r0 ∧ bx = [] ∧ en = []) := by
 refine eD 16 Tryz.func91 zZ zZ zZ (fun base T w0 => ?_)
 rw [iv.f] at H
 refine gs (rg (so zZ (gU (cs := [.int .i64 fb,.int .i64 aF,.int .i64 cw]) ag fun b1 => (au ac (re (gs (rg (sv (aq 0 zZ) zZ (sv (am 0 none ag) zZ ?_)))))))))
 revert H; refine aS ?_; rintro t1 A1 H
 refine so zZ (ax (gO.ok fb 0 9 _ A1) [] 1 aG ?_)
 rintro _ _ _ ⟨rfl,rfl,rfl⟩
 refine al ac ?_
 revert H; refine aJ ?_ ?_ <;> intro c2 H
 ·
  subst c2
  refine eq 6 ac (sv (aq 1 zZ) zZ (sv (am 0 none ag) zZ ?_))
  revert H; refine aS ?_; rintro t3 A3 H
  refine so zZ (ax (gO.ok aF 0 99 _ A3) [] 1 aG ?_)
  rintro _ _ _ ⟨rfl,rfl,rfl⟩
  refine sv (aQ ag) zZ (al ac ?_)
  revert H; refine aJ ?_ ?_ <;> intro c4 H
  ·
   subst c4
   refine eq 11 ac (sv (aq 2 zZ) zZ (sv (am 0 none ag) zZ ?_))
   revert H; refine aS ?_; rintro t5 A5 H
   refine so zZ (ax (gO.ok cw 0 3 _ A5) [] 1 aG ?_)
   rintro _ _ _ ⟨rfl,rfl,rfl⟩
   refine sv (aQ ag) zZ (au ac (re (aB [2] [] [] ae ?_)))
   cases H
   exact rt Tryz.func91 zZ (.tmp zZ .nil) zZ [] [] zZ zZ zZ zZ zZ ⟨zZ,zZ,zZ⟩
  ·
   have xc4 := bF c4; subst xc4
   refine eq 11 ac (sk zZ (sk zZ (sk zZ (sv (aI ag) zZ (au ac (re (aB [2] [] [] ae ?_)))))))
   cases H
   exact rt Tryz.func91 zZ (.tmp zZ .nil) zZ [] [] zZ zZ zZ zZ zZ ⟨zZ,zZ,zZ⟩
 ·
  have xc2 := bF c2; subst xc2
  refine eq 6 ac (sk zZ (sk zZ (sk zZ (sv (aI ag) zZ (al ac (sk zZ (sk zZ (sk zZ (sv (aI ag) zZ (au ac (re (aB [2] [] [] ae ?_))))))))))))
  cases H
  exact rt Tryz.func91 zZ (.tmp zZ .nil) zZ [] [] zZ zZ zZ zZ zZ ⟨zZ,zZ,zZ⟩
def dA.l0 : Nat → Int → (List ah) → Option (Bool)
 | 0,_,_ => none
 | k + 1,aY,l0 => if aY < (l0.length : Int) then (if 0 ≤ aY then ((iv.f ((aa l0 aY).f0) ((aa l0 aY).f1) ((aa l0 aY).f2)).bind fun t3 => (if t3 = true then (dA.l0 k (wrap64 (aY + 1)) l0) else (some false))) else none) else (some (decide ((l0.length : Int) ≤ 24)))
def dA.f (k : Nat) (l0 : List ah) : Option (Bool) := dA.l0 k 0 l0
theorem dA.ok (k : Nat) (l0 : List ah) (ay : Option Addr) (az : Nat) (r0 : Bool) (H : dA.f k l0 = some r0) : Fn Tryz.prog 45 [.slice ay l0.length az] [] [.sl 0 ai ay az l0 0 false] (fun v bx en => v = .bool r0 ∧ bx = [] ∧ en = []) := by
 refine eD 19 Tryz.func45 zZ zZ zZ (fun base T w0 => ?_)
 rw [dA.f] at H
 refine gs (rg (au ac (re (gs (gs (rg (au ac (re (gb ?_)))))))))
 refine lo (fun kk S => ∃ (aY : Int),dA.l0 kk aY l0 = some r0 ∧ S = ⟨[(0,.slice ay l0.length az),(3,.int .i64 aY)],[],[.sl 0 ai ay az l0 0 false]⟩) (fun S hS => ?_) (fun n0 cZ S hS => ?_) ⟨0,H,zZ⟩ (fun h => wk [0,3] [] [(aw 0)] h)
 · clear H; obtain ⟨_,H,_⟩ := hS; rw [dA.l0] at H; cases H
 clear H
 obtain ⟨aY,H,rfl⟩ := hS
 rw [dA.l0] at H
 refine gs (gs (rg (al ac (al ac (sv (bG zZ) zZ (sv (bS ac) zZ (re ?_)))))))
 revert H; refine aJ ?_ ?_ <;> intro c1 H
 ·
  refine gt zZ (dT c1) (gk (gs (gb (gs (rg (al ac (al ac ?_)))))))
  revert H; refine aU ?_; intro g2 H
  refine sv (aM 0 ag g2 c1 zZ) zZ (sv (bg (v := .agg #[.int .i64 ((aa l0 aY).f0),.int .i64 ((aa l0 aY).f1),.int .i64 ((aa l0 aY).f2)]) aY 0 (some 3) 0 cK zZ zZ zZ g2 c1 zZ zZ zZ) zZ ?_)
  revert H; refine aS ?_; rintro t3 A3 H
  refine so zZ (ax (iv.ok ((aa l0 aY).f0) ((aa l0 aY).f1) ((aa l0 aY).f2) _ A3) [] 1 aG ?_)
  rintro _ _ _ ⟨rfl,rfl,rfl⟩
  refine sv (eE zZ) zZ (re (aB [0,3,15] [] [0] ae ?_))
  revert H; refine aJ ?_ ?_ <;> intro c4 H
  ·
   subst c4
   exact gf zZ zZ (gk (ge (rg (al ac (sv (ba ac) zZ (au ac (re (wk [0,3] [] [(aw 0)] (cZ _ (by omega) _ ⟨wrap64 (aY + 1),H,zZ⟩)))))))))
  ·
   have xc4 := bF c4; subst xc4
   refine gt zZ zZ (gs (rg (au ac (re ?_))))
   cases H
   exact rt Tryz.func45 zZ (.tmp zZ .nil) zZ [] [] zZ zZ zZ zZ zZ ⟨zZ,zZ,zZ⟩
 ·
  refine gf zZ (dF c1) (gx zZ (gs (rg (al ac (sv (bG zZ) zZ (sv (jv ac) zZ (au ac (re (aB [2] [] [] ae ?_)))))))))
  cases H
  exact rt Tryz.func45 zZ (.tmp zZ .nil) zZ [] [] zZ zZ zZ zZ zZ ⟨zZ,zZ,zZ⟩
def cY.l0 : Nat → (List Int) → (List Int) → Int → Option (Int)
 | 0,_,_,_ => none
 | k + 1,bW,dt,bV => if bV < 3 then (if 0 ≤ bV then (if bV < (bW.length : Int) then (if bV < (dt.length : Int) then (if (bu 0 bW bV) < (bu 0 dt bV) then (some (-1)) else (if (bu 0 bW bV) > (bu 0 dt bV) then (some 1) else (cY.l0 k bW dt (wrap64 (bV + 1))))) else none) else none) else none) else (some 0)
def cY.f (k : Nat) (fb : Int) (aF : Int) (cw : Int) (oz : Int) (mu : Int) (xA : Int) : Option (Int) := cY.l0 k ([fb,aF,cw] : List Int) ([oz,mu,xA] : List Int) 0
theorem cY.ok (k : Nat) (fb : Int) (aF : Int) (cw : Int) (oz : Int) (mu : Int) (xA : Int) (r0 : Int) (H : cY.f k fb aF cw oz mu xA = some r0) : Fn Tryz.prog 48 [.agg #[.int .i64 fb,.int .i64 aF,.int .i64 cw],.agg #[.int .i64 oz,.int .i64 mu,.int .i64 xA]] [] [] (fun v bx en => v = .int .i64 r0 ∧ bx = [] ∧ en = []) := by
 refine eD 44 Tryz.func48 zZ zZ zZ (fun base T w0 => ?_)
 rw [cY.f] at H
 refine gs (rg (so zZ (gU (cs := [.int .i64 fb,.int .i64 aF,.int .i64 cw]) ag fun b2 => (so zZ (gU (cs := [.int .i64 oz,.int .i64 mu,.int .i64 xA]) ag fun b3 => (au ac (re (gs (rg (sv (aq 0 zZ) zZ (sv (am 0 none ag) zZ (sv (aq 1 zZ) zZ (sv (am 0 none ag) zZ (sv (aq 2 zZ) zZ (sv (am 0 none ag) zZ (so zZ (bH (s := 1) (by_ := 8) (.int .i64) ([fb,aF,cw] : List Int) [[],[],[]] [] 1 [.tmp 9,.tmp 11,.tmp 13] dp dq zZ fun ad3 adH => (au ac (re (aB [3,5] [1] [0] ae (gs (rg (sv (aq 0 zZ) zZ (sv (am 0 none ag) zZ (sv (aq 1 zZ) zZ (sv (am 0 none ag) zZ (sv (aq 2 zZ) zZ (sv (am 0 none ag) zZ (so zZ ?_)))))))))))))))))))))))))))))
 refine bH (s := 1) (by_ := 8) (.int .i64) ([oz,mu,xA] : List Int) [[],[],[]] [] 2 [.tmp 16,.tmp 18,.tmp 20] dp dq zZ fun adZ adD => (au ac (re (aB [5,6] [] [0,1] ae (gs (gs (rg (au ac (re (gb ?_)))))))))
 refine lo (fun kk S => ∃ (bW : List Int) (kU : Option Addr) (kT : Nat) (dt : List Int) (AZ : Option Addr) (AX : Nat) (bV : Int),cY.l0 kk bW dt bV = some r0 ∧ S = ⟨[(5,.slice kU bW.length kT),(6,.slice AZ dt.length AX),(7,.int .i64 bV)],[],[.sl 2 (.int .i64) kU kT bW 1 true,.sl 2 (.int .i64) AZ AX dt 2 true]⟩) (fun S hS => ?_) (fun n0 cZ S hS => ?_) ⟨([fb,aF,cw] : List Int),ad3,adH,([oz,mu,xA] : List Int),adZ,adD,0,H,zZ⟩ (fun h => wk [5,6,7] [] [(aj 0 2 1),(aj 1 2 2)] h)
 · clear H; obtain ⟨_,_,_,_,_,_,_,H,_⟩ := hS; rw [cY.l0] at H; cases H
 clear H
 obtain ⟨bW,kU,kT,dt,AZ,AX,bV,H,rfl⟩ := hS
 rw [cY.l0] at H
 refine gs (gs (rg (al ac (sv (bS ac) zZ (re ?_)))))
 revert H; refine aJ ?_ ?_ <;> intro c3 H
 ·
  refine gt zZ (dT c3) (gk (gs (gb (gs (gs ?_)))))
  revert H; refine aU ?_; intro g4 H
  revert H; refine aU ?_; intro g5 H
  revert H; refine aU ?_; intro g6 H
  refine fj [] [0,1] [] 9 ae (ap 0 [] [0,1] zZ (aA zZ) ae (ap 1 [] [0,1] zZ (aA zZ) ae (ap 2 [] [0,1] zZ (aM 0 ag g4 g5 zZ) ae (ap 3 [] [0,1] zZ (bg (v := .int .i64 (bu 0 bW bV)) bV 0 none 0 0 zZ zZ zZ g4 g5 zZ zZ zZ) ae (ap 4 [] [0,1] zZ (aA zZ) ae (ap 5 [] [0,1] zZ (aA zZ) ae (ap 6 [] [0,1] zZ (aM 1 ag g4 g6 zZ) ae (ap 7 [] [0,1] zZ (bg (v := .int .i64 (bu 0 dt bV)) bV 0 none 1 0 zZ zZ zZ g4 g6 zZ zZ zZ) ae (ap 8 [] [0,1] zZ (bS ac) ae (xd (aB [5,6,7,34] [] [0,1] ae ?_)))))))))))
  revert H; refine aJ ?_ ?_ <;> intro c7 H
  ·
   refine gt zZ (dT c7) (gs (rg (au ac (re ?_))))
   cases H
   exact rt Tryz.func48 zZ (.tmp zZ .nil) zZ [] [] zZ zZ zZ zZ zZ ⟨zZ,zZ,zZ⟩
  ·
   refine gf zZ (dF c7) (gk (gs (fj [] [0,1] [] 9 ae (ap 0 [] [0,1] zZ (aA zZ) ae (ap 1 [] [0,1] zZ (aA zZ) ae (ap 2 [] [0,1] zZ (aM 0 ag g4 g5 zZ) ae (ap 3 [] [0,1] zZ (bg (v := .int .i64 (bu 0 bW bV)) bV 0 none 0 0 zZ zZ zZ g4 g5 zZ zZ zZ) ae (ap 4 [] [0,1] zZ (aA zZ) ae (ap 5 [] [0,1] zZ (aA zZ) ae (ap 6 [] [0,1] zZ (aM 1 ag g4 g6 zZ) ae (ap 7 [] [0,1] zZ (bg (v := .int .i64 (bu 0 dt bV)) bV 0 none 1 0 zZ zZ zZ g4 g6 zZ zZ zZ) ae (ap 8 [] [0,1] zZ (dV ac) ae (xd (aB [5,6,7,43] [] [0,1] ae ?_))))))))))))))
   revert H; refine aJ ?_ ?_ <;> intro c8 H
   ·
    refine gt zZ (dT c8) (gs (rg (au ac (re ?_))))
    cases H
    exact rt Tryz.func48 zZ (.tmp zZ .nil) zZ [] [] zZ zZ zZ zZ zZ ⟨zZ,zZ,zZ⟩
   ·
    exact gf zZ (dF c8) (gk (ge (rg (al ac (sv (ba ac) zZ (au ac (re (wk [5,6,7] [] [(aj 0 2 1),(aj 1 2 2)] (cZ _ (by omega) _ ⟨bW,kU,kT,dt,AZ,AX,wrap64 (bV + 1),H,zZ⟩)))))))))
 ·
  refine gf zZ (dF c3) (gx zZ (gs (rg (au ac (re ?_)))))
  cases H
  exact rt Tryz.func48 zZ (.tmp zZ .nil) zZ [] [] zZ zZ zZ zZ zZ ⟨zZ,zZ,zZ⟩
def fQ.l0 : Nat → Int → (List ah) → Option (Bool)
 | 0,_,_ => none
 | k + 1,aY,l0 => if aY < (l0.length : Int) then (if 0 ≤ (wrap64 (aY - 1)) then (if (wrap64 (aY - 1)) < (l0.length : Int) then (if 0 ≤ aY then ((cY.f k ((aa l0 (wrap64 (aY - 1))).f0) ((aa l0 (wrap64 (aY - 1))).f1) ((aa l0 (wrap64 (aY - 1))).f2) ((aa l0 aY).f0) ((aa l0 aY).f1) ((aa l0 aY).f2)).bind fun t5 => (if t5 > 0 then (some false) else (fQ.l0 k (wrap64 (aY + 1)) l0))) else none) else none) else none) else (some true)
def fQ.f (k : Nat) (l0 : List ah) : Option (Bool) := fQ.l0 k 1 l0
theorem fQ.ok (k : Nat) (l0 : List ah) (ay : Option Addr) (az : Nat) (r0 : Bool) (H : fQ.f k l0 = some r0) : Fn Tryz.prog 47 [.slice ay l0.length az] [] [.sl 0 ai ay az l0 0 false] (fun v bx en => v = .bool r0 ∧ bx = [] ∧ en = []) := by
 refine eD 21 Tryz.func47 zZ zZ zZ (fun base T w0 => ?_)
 rw [fQ.f] at H
 refine gs (rg (au ac (re (gs (gs (rg (au ac (re (gb ?_)))))))))
 refine lo (fun kk S => ∃ (aY : Int),fQ.l0 kk aY l0 = some r0 ∧ S = ⟨[(0,.slice ay l0.length az),(3,.int .i64 aY)],[],[.sl 0 ai ay az l0 0 false]⟩) (fun S hS => ?_) (fun n0 cZ S hS => ?_) ⟨1,H,zZ⟩ (fun h => wk [0,3] [] [(aw 0)] h)
 · clear H; obtain ⟨_,H,_⟩ := hS; rw [fQ.l0] at H; cases H
 clear H
 obtain ⟨aY,H,rfl⟩ := hS
 rw [fQ.l0] at H
 refine gs (gs (rg (al ac (al ac (sv (bG zZ) zZ (sv (bS ac) zZ (re ?_)))))))
 revert H; refine aJ ?_ ?_ <;> intro c1 H
 ·
  refine gt zZ (dT c1) (gk (gs (gb (gs ?_))))
  revert H; refine aU ?_; intro g2 H
  revert H; refine aU ?_; intro g3 H
  revert H; refine aU ?_; intro g4 H
  refine fj [] [0] [] 11 ae (ap 0 [] [0] zZ (aA zZ) ae (ap 1 [] [0] zZ (aA zZ) ae (ap 2 [] [0] zZ (co ac) ae (ap 3 [] [0] zZ (aM 0 ag g2 g3 zZ) ae (ap 4 [] [0] zZ (bg (v := .agg #[.int .i64 ((aa l0 (wrap64 (aY - 1))).f0),.int .i64 ((aa l0 (wrap64 (aY - 1))).f1),.int .i64 ((aa l0 (wrap64 (aY - 1))).f2)]) (wrap64 (aY - 1)) 0 (some 3) 0 cK zZ zZ zZ g2 g3 zZ zZ zZ) ae (ap 5 [] [0] zZ (aA zZ) ae (ap 6 [] [0] zZ (aA zZ) ae (ap 7 [] [0] zZ (aM 0 ag g4 c1 zZ) ae (ap 8 [] [0] zZ (bg (v := .agg #[.int .i64 ((aa l0 aY).f0),.int .i64 ((aa l0 aY).f1),.int .i64 ((aa l0 aY).f2)]) aY 0 (some 3) 0 cK zZ zZ zZ g4 c1 zZ zZ zZ) ae (ar 9 ac ?_))))))))))
  revert H; refine aS ?_; rintro t5 A5 H
  refine ax (cY.ok n0 ((aa l0 (wrap64 (aY - 1))).f0) ((aa l0 (wrap64 (aY - 1))).f1) ((aa l0 (wrap64 (aY - 1))).f2) ((aa l0 aY).f0) ((aa l0 aY).f1) ((aa l0 aY).f2) _ A5) [] 1 aG ?_
  rintro _ _ _ ⟨rfl,rfl,rfl⟩
  refine aN [] [0] ag (ap 10 [] [0] zZ (dV ac) ae (xd (aB [0,3,20] [] [0] ae ?_)))
  revert H; refine aJ ?_ ?_ <;> intro c6 H
  ·
   refine gt zZ (dT c6) (gs (rg (au ac (re ?_))))
   cases H
   exact rt Tryz.func47 zZ (.tmp zZ .nil) zZ [] [] zZ zZ zZ zZ zZ ⟨zZ,zZ,zZ⟩
  ·
   exact gf zZ (dF c6) (gk (ge (rg (al ac (sv (ba ac) zZ (au ac (re (wk [0,3] [] [(aw 0)] (cZ _ (by omega) _ ⟨wrap64 (aY + 1),H,zZ⟩)))))))))
 ·
  refine gf zZ (dF c1) (gx zZ (gs (rg (au ac (re (aB [2] [] [] ae ?_))))))
  cases H
  exact rt Tryz.func47 zZ (.tmp zZ .nil) zZ [] [] zZ zZ zZ zZ zZ ⟨zZ,zZ,zZ⟩
def fd.l0 : Nat → Int → (List aT) → Option (Bool)
 | 0,_,_ => none
 | k + 1,aY,l0 => if aY < (l0.length : Int) then (if 0 ≤ aY then (if (((aC l0 aY).f0).length : Int) = 0 then (some false) else ((fQ.f k ((aC l0 aY).f0)).bind fun t5 => (if t5 = true then ((dA.f k ((aC l0 aY).f0)).bind fun t7 => (if t7 = true then (fd.l0 k (wrap64 (aY + 1)) l0) else (some false))) else (some false)))) else none) else (some true)
def fd.f (k : Nat) (l0 : List aT) : Option (Bool) := fd.l0 k 0 l0
theorem fd.ok (k : Nat) (l0 : List aT) (ay : Option Addr) (az : Nat) (r0 : Bool) (H : fd.f k l0 = some r0) : Fn Tryz.prog 46 [.slice ay l0.length az] [] [.sl 0 aZ ay az l0 0 false] (fun v bx en => v = .bool r0 ∧ bx = [] ∧ en = []) := by
 refine eD 35 Tryz.func46 zZ zZ zZ (fun base T w0 => ?_)
 rw [fd.f] at H
 refine gs (rg (au ac (re (gs (gs (rg (au ac (re (gb ?_)))))))))
 refine lo (fun kk S => ∃ (aY : Int),fd.l0 kk aY l0 = some r0 ∧ S = ⟨[(0,.slice ay l0.length az),(3,.int .i64 aY)],[],[.sl 0 aZ ay az l0 0 false]⟩) (fun S hS => ?_) (fun n0 cZ S hS => ?_) ⟨0,H,zZ⟩ (fun h => wk [0,3] [] [(aw 0)] h)
 · clear H; obtain ⟨_,H,_⟩ := hS; rw [fd.l0] at H; cases H
 clear H
 obtain ⟨aY,H,rfl⟩ := hS
 rw [fd.l0] at H
 refine gs (gs (rg (al ac (al ac (sv (bG zZ) zZ (sv (bS ac) zZ (re ?_)))))))
 revert H; refine aJ ?_ ?_ <;> intro c1 H
 ·
  refine gt zZ (dT c1) (gk (gs (gb (gs (rg (al ac (al ac ?_)))))))
  revert H; refine aU ?_; intro g2 H
  refine sv (aM 0 ag g2 c1 zZ) zZ (sv (aq 0 zZ) zZ (qt (i := aY) 0 n5 zZ g2 c1 fun Q2 Qq => (sv (ig (v := .slice Q2 ((aC l0 aY).f0).length Qq) 0 none 1 ae) zZ (sv (bG zZ) zZ (sv (bZ ac) zZ (al ac ?_))))))
  revert H; refine aJ ?_ ?_ <;> intro c4 H
  ·
   refine ts 17 zZ (dT c4) (sk zZ (sk zZ (sk zZ (sk zZ (sk zZ (sk zZ (sk zZ (sv (aQ ag) zZ (al ac (sk zZ (sk zZ (sk zZ (sk zZ (sk zZ (sk zZ (sk zZ (sv (aQ ag) zZ (re (aB [0,3,34] [] [0] ae (gt zZ zZ (gs (rg (au ac (re ?_))))))))))))))))))))))))
   cases H
   exact rt Tryz.func46 zZ (.tmp zZ .nil) zZ [] [] zZ zZ zZ zZ zZ ⟨zZ,zZ,zZ⟩
  ·
   refine ts 17 zZ (dF c4) (al ac (al ac (sv (aM 0 ag g2 c1 zZ) zZ (sv (aq 0 zZ) zZ (sv (ig (v := .slice Q2 ((aC l0 aY).f0).length Qq) 0 none 1 ae) zZ ?_)))))
   revert H; refine aS ?_; rintro t5 A5 H
   refine so zZ (ax (fQ.ok n0 ((aC l0 aY).f0) Q2 Qq _ A5) [(aw 2)] 1 aG ?_)
   rintro _ _ _ ⟨rfl,rfl,rfl⟩
   refine sv (eE zZ) zZ (sv (aI ag) zZ (al ac ?_))
   revert H; refine aJ ?_ ?_ <;> intro c6 H
   ·
    subst c6
    refine eq 26 ac (al ac (al ac (sv (aM 0 ag g2 c1 zZ) zZ (sv (aq 0 zZ) zZ (sv (ig (v := .slice Q2 ((aC l0 aY).f0).length Qq) 0 none 1 ae) zZ ?_)))))
    revert H; refine aS ?_; rintro t7 A7 H
    refine so zZ (ax (dA.ok n0 ((aC l0 aY).f0) Q2 Qq _ A7) [(aw 2)] 1 aG ?_)
    rintro _ _ _ ⟨rfl,rfl,rfl⟩
    refine sv (eE zZ) zZ (sv (aI ag) zZ (re (aB [0,3,18,19,20,21,22,23,24,27,28,29,30,31,32,33,34] [] [0,1,2] ae ?_)))
    revert H; refine aJ ?_ ?_ <;> intro c8 H
    ·
     subst c8
     exact gf zZ zZ (gk (ge (rg (al ac (sv (ba ac) zZ (au ac (re (wk [0,3] [] [(aw 0)] (cZ _ (by omega) _ ⟨wrap64 (aY + 1),H,zZ⟩)))))))))
    ·
     have xc8 := bF c8; subst xc8
     refine gt zZ zZ (gs (rg (au ac (re (aB [2] [] [] ae ?_)))))
     cases H
     exact rt Tryz.func46 zZ (.tmp zZ .nil) zZ [] [] zZ zZ zZ zZ zZ ⟨zZ,zZ,zZ⟩
   ·
    have xc6 := bF c6; subst xc6
    refine eq 26 ac (sk zZ (sk zZ (sk zZ (sk zZ (sk zZ (sk zZ (sk zZ (sv (aQ ag) zZ (re (aB [0,3,18,19,20,21,22,23,24,34] [] [0,1,2] ae (gt zZ zZ (gs (rg (au ac (re (aB [2] [] [] ae ?_))))))))))))))))
    cases H
    exact rt Tryz.func46 zZ (.tmp zZ .nil) zZ [] [] zZ zZ zZ zZ zZ ⟨zZ,zZ,zZ⟩
 ·
  refine gf zZ (dF c1) (gx zZ (gs (rg (au ac (re (aB [2] [] [] ae ?_))))))
  cases H
  exact rt Tryz.func46 zZ (.tmp zZ .nil) zZ [] [] zZ zZ zZ zZ zZ ⟨zZ,zZ,zZ⟩
def ey.l0 : Nat → (List ah) → Int → (List aT) → Option ((List ah))
 | 0,_,_,_ => none
 | k + 1,aY,bL,l0 => if bL < (l0.length : Int) then (if 0 ≤ bL then (if aY.length + ((aC l0 bL).f0).length ≤ 5864062014805 then (ey.l0 k (aY ++ ((aC l0 bL).f0)) (wrap64 (bL + 1)) l0) else none) else none) else (some aY)
def ey.f (k : Nat) (l0 : List aT) : Option ((List ah)) := ey.l0 k [] 0 l0
theorem ey.ok (k : Nat) (l0 : List aT) (ay : Option Addr) (az : Nat) (r0 : List ah) (H : ey.f k l0 = some r0) : Fn Tryz.prog 49 [.slice ay l0.length az] [] [.sl 0 aZ ay az l0 0 false] (fun v bx en => ∃ A0 c0,v = .slice A0 r0.length c0 ∧ bx = [] ∧ en = [.sl 2 ai A0 c0 r0 1 true]) := by
 refine eD 20 Tryz.func49 zZ zZ zZ (fun base T w0 => ?_)
 rw [ey.f] at H
 refine gs (rg (au ac (re (gs (rg (so zZ (bH (s := 3) (by_ := 24) ai ([] : List ah) [] [] 1 [] dp dq zZ fun Tm Tb => (au ac (re (gs (gs (rg (au ac (re (gb ?_)))))))))))))))
 refine lo (fun kk S => ∃ (aY : List ah) (i0 : Option Addr) (iV : Nat) (bL : Int),ey.l0 kk aY bL l0 = some r0 ∧ S = ⟨[(0,.slice ay l0.length az),(3,.slice i0 aY.length iV),(4,.int .i64 bL)],[],[.sl 2 ai i0 iV aY 1 true,.sl 0 aZ ay az l0 0 false]⟩) (fun S hS => ?_) (fun n0 cZ S hS => ?_) ⟨[],Tm,Tb,0,H,zZ⟩ (fun h => wk [0,3,4] [] [(aj 1 2 1),(aw 0)] h)
 · clear H; obtain ⟨_,_,_,_,H,_⟩ := hS; rw [ey.l0] at H; cases H
 clear H
 obtain ⟨aY,i0,iV,bL,H,rfl⟩ := hS
 rw [ey.l0] at H
 refine gs (gs (rg (al ac (al ac (sv (bG zZ) zZ (sv (bS ac) zZ (re ?_)))))))
 revert H; refine aJ ?_ ?_ <;> intro c2 H
 ·
  refine gt zZ (dT c2) (gk (gs (gb (rg (al ac (al ac (al ac ?_)))))))
  revert H; refine aU ?_; intro g3 H
  refine sv (aM 1 ag g3 c2 zZ) zZ (sv (aq 0 zZ) zZ (qt (i := bL) 1 n5 zZ g3 c2 fun xI xw => (sv (ig (v := .slice xI ((aC l0 bL).f0).length xw) 0 none 2 ae) zZ ?_)))
  revert H; refine aU ?_; intro g5 H
  exact so zZ (di (k := ai) (s := 3) (by_ := 24) 0 3 ae (JY g5 dq) (Du g5 dq) (.inl zZ) true (fun _ => .inl zZ) ac fun Yo X4 => (bR (en := [.sl 0 aZ ay az l0 0 false,yu ay (bL.toNat * 1) [.slice xI ((aC l0 bL).f0).length xw] 0,.sl 0 ai xI xw ((aC l0 bL).f0) 0 false,.sl 2 ai Yo X4 (aY ++ ((aC l0 bL).f0)) 1 true]) kK (au ac (re (aB [0,3,4] [] [0,3] ae (ge (rg (al ac (sv (ba ac) zZ (au ac (re (wk [0,3,4] [] [(aj 1 2 1),(aw 0)] (cZ _ (by omega) _ ⟨aY ++ ((aC l0 bL).f0),Yo,X4,wrap64 (bL + 1),H,zZ⟩)))))))))))))
 ·
  refine gf zZ (dF c2) (gx zZ (gs (rg (al ac (au ac (re (aB [2] [] [0] ae ?_)))))))
  cases H
  exact rt Tryz.func49 zZ (.tmp zZ .nil) zZ [] [(aj 0 2 1)] zZ zZ zZ zZ zZ ⟨_,_,zZ,zZ,zZ⟩
def hX.f (l0 : List aT) (a1 : Int) (a2 : Int) : Option ((List ah)) := if a1 < (l0.length : Int) then (if 0 ≤ a1 then (if a2 < (((aC l0 a1).f0).length : Int) then (if 0 ≤ a2 then (some ([(⟨(aa ((aC l0 a1).f0) a2).f0,(aa ((aC l0 a1).f0) a2).f1,(aa ((aC l0 a1).f0) a2).f2⟩ : ah)] : List ah)) else none) else (some [])) else none) else (some [])
theorem hX.ok (l0 : List aT) (ay : Option Addr) (az : Nat) (a1 : Int) (a2 : Int) (r0 : List ah) (H : hX.f l0 a1 a2 = some r0) : Fn Tryz.prog 69 [.slice ay l0.length az,.int .i64 a1,.int .i64 a2] [] [.sl 0 aZ ay az l0 0 false] (fun v bx en => ∃ A0 c0,v = .slice A0 r0.length c0 ∧ bx = [] ∧ en = [.sl 2 ai A0 c0 r0 1 true]) := by
 refine eD 31 Tryz.func69 zZ zZ zZ (fun base T w0 => ?_)
 rw [hX.f] at H
 refine gs (rg (au ac (re (gs (gs (rg (al ac (al ac (sv (bG zZ) zZ (sv (bS ac) zZ (al ac ?_)))))))))))
 revert H; refine aJ ?_ ?_ <;> intro c1 H
 ·
  refine ts 11 zZ (dT c1) (al ac (al ac (al ac ?_)))
  revert H; refine aU ?_; intro g2 H
  refine sv (aM 0 ag g2 c1 zZ) zZ (sv (aq 0 zZ) zZ (qt (i := a1) 0 n5 zZ g2 c1 fun Q2 Qq => (sv (ig (v := .slice Q2 ((aC l0 a1).f0).length Qq) 0 none 1 ae) zZ (sv (bG zZ) zZ (sv (bS ac) zZ (sv (aQ ag) zZ (re (aB [0,1,2,20] [] [0] ae ?_))))))))
  revert H; refine aJ ?_ ?_ <;> intro c4 H
  ·
   refine gt zZ (dT c4) (gs (rg (al ac (al ac (sv (aM 0 ag g2 c1 zZ) zZ (sv (aq 0 zZ) zZ (qt (i := a1) 0 n5 zZ g2 c1 fun oB oA => (sv (ig (v := .slice oB ((aC l0 a1).f0).length oA) 0 none 1 ae) zZ (al ac ?_)))))))))
   revert H; refine aU ?_; intro g6 H
   refine sv (aM 2 ag g6 c4 zZ) zZ (sv (bg (v := .agg #[.int .i64 ((aa ((aC l0 a1).f0) a2).f0),.int .i64 ((aa ((aC l0 a1).f0) a2).f1),.int .i64 ((aa ((aC l0 a1).f0) a2).f2)]) a2 0 (some 3) 2 cK zZ zZ zZ g6 c4 zZ zZ zZ) zZ (so zZ (bH (s := 3) (by_ := 24) ai ([(⟨(aa ((aC l0 a1).f0) a2).f0,(aa ((aC l0 a1).f0) a2).f1,(aa ((aC l0 a1).f0) a2).f2⟩ : ah)] : List ah) [[]] [] 1 [.tmp 28] dp dq zZ fun ahG ahv => (au ac (re (aB [6] [] [3] ae ?_))))))
   cases H
   exact rt Tryz.func69 zZ (.tmp zZ .nil) zZ [] [(aj 0 2 1)] zZ zZ zZ zZ zZ ⟨_,_,zZ,zZ,zZ⟩
  ·
   refine gf zZ (dF c4) (gk (gs (rg (so zZ (bH (s := 3) (by_ := 24) ai ([] : List ah) [] [] 1 [] dp dq zZ fun ahF ahu => (au ac (re ?_)))))))
   cases H
   exact rt Tryz.func69 zZ (.tmp zZ .nil) zZ [] [(aj 1 2 1)] zZ zZ zZ zZ zZ ⟨_,_,zZ,zZ,zZ⟩
 ·
  refine ts 11 zZ (dF c1) (sk zZ (sk zZ (sk zZ (sk zZ (sk zZ (sk zZ (sk zZ (sk zZ (sv (aI ag) zZ (re (aB [0,1,2,20] [] [0] ae (gf zZ zZ (gk (gs (rg (so zZ (bH (s := 3) (by_ := 24) ai ([] : List ah) [] [] 1 [] dp dq zZ fun ahE aht => (au ac (re ?_)))))))))))))))))))
  cases H
  exact rt Tryz.func69 zZ (.tmp zZ .nil) zZ [] [(aj 1 2 1)] zZ zZ zZ zZ zZ ⟨_,_,zZ,zZ,zZ⟩
def gp.f (fb : Int) (aF : Int) (cw : Int) : Option (Int) := (iv.f fb aF cw).bind fun t1 => (if t1 = true then (some (wrap64 (1 + cw))) else (some 0))
theorem gp.ok (fb : Int) (aF : Int) (cw : Int) (r0 : Int) (H : gp.f fb aF cw = some r0) : Fn Tryz.prog 66 [.agg #[.int .i64 fb,.int .i64 aF,.int .i64 cw]] [] [] (fun v bx en => v = .int .i64 r0 ∧ bx = [] ∧ en = []) := by
 refine eD 9 Tryz.func66 zZ zZ zZ (fun base T w0 => ?_)
 rw [gp.f] at H
 refine gs (rg (so zZ (gU (cs := [.int .i64 fb,.int .i64 aF,.int .i64 cw]) ag fun b1 => (au ac (re (gs (gs (rg (sv (am (v := .agg #[.int .i64 fb,.int .i64 aF,.int .i64 cw]) 0 (some 3) ag) zZ ?_)))))))))
 revert H; refine aS ?_; rintro t1 A1 H
 refine so zZ (ax (iv.ok fb aF cw _ A1) [] 1 aG ?_)
 rintro _ _ _ ⟨rfl,rfl,rfl⟩
 refine sv (eE zZ) zZ (re ?_)
 revert H; refine aJ ?_ ?_ <;> intro c2 H
 ·
  subst c2
  refine gf zZ zZ (gk (gs (rg (sv (aq 2 zZ) zZ (sv (am 0 none ag) zZ (sv (ba ac) zZ (au ac (re (aB [2] [] [] ae ?_)))))))))
  cases H
  exact rt Tryz.func66 zZ (.tmp zZ .nil) zZ [] [] zZ zZ zZ zZ zZ ⟨zZ,zZ,zZ⟩
 ·
  have xc2 := bF c2; subst xc2
  refine gt zZ zZ (gs (rg (au ac (re ?_))))
  cases H
  exact rt Tryz.func66 zZ (.tmp zZ .nil) zZ [] [] zZ zZ zZ zZ zZ ⟨zZ,zZ,zZ⟩
def eu.l0 : Nat → Int → Int → (List ah) → Option (Int)
 | 0,_,_,_ => none
 | k + 1,aY,bL,l0 => if bL < (l0.length : Int) then (if 0 ≤ bL then ((gp.f ((aa l0 bL).f0) ((aa l0 bL).f1) ((aa l0 bL).f2)).bind fun t3 => (eu.l0 k (wrap64 (aY + t3)) (wrap64 (bL + 1)) l0)) else none) else (some aY)
def eu.f (k : Nat) (l0 : List ah) : Option (Int) := eu.l0 k 0 0 l0
theorem eu.ok (k : Nat) (l0 : List ah) (ay : Option Addr) (az : Nat) (r0 : Int) (H : eu.f k l0 = some r0) : Fn Tryz.prog 92 [.slice ay l0.length az] [] [.sl 0 ai ay az l0 0 false] (fun v bx en => v = .int .i64 r0 ∧ bx = [] ∧ en = []) := by
 refine eD 19 Tryz.func92 zZ zZ zZ (fun base T w0 => ?_)
 rw [eu.f] at H
 refine gs (rg (au ac (re (gs (rg (au ac (re (gs (gs (rg (au ac (re (gb ?_)))))))))))))
 refine lo (fun kk S => ∃ (aY : Int) (bL : Int),eu.l0 kk aY bL l0 = some r0 ∧ S = ⟨[(0,.slice ay l0.length az),(3,.int .i64 aY),(4,.int .i64 bL)],[],[.sl 0 ai ay az l0 0 false]⟩) (fun S hS => ?_) (fun n0 cZ S hS => ?_) ⟨0,0,H,zZ⟩ (fun h => wk [0,3,4] [] [(aw 0)] h)
 · clear H; obtain ⟨_,_,H,_⟩ := hS; rw [eu.l0] at H; cases H
 clear H
 obtain ⟨aY,bL,H,rfl⟩ := hS
 rw [eu.l0] at H
 refine gs (gs (rg (al ac (al ac (sv (bG zZ) zZ (sv (bS ac) zZ (re ?_)))))))
 revert H; refine aJ ?_ ?_ <;> intro c1 H
 ·
  refine gt zZ (dT c1) (gk (gs (gb (rg (al ac (al ac (al ac ?_)))))))
  revert H; refine aU ?_; intro g2 H
  refine sv (aM 0 ag g2 c1 zZ) zZ (sv (bg (v := .agg #[.int .i64 ((aa l0 bL).f0),.int .i64 ((aa l0 bL).f1),.int .i64 ((aa l0 bL).f2)]) bL 0 (some 3) 0 cK zZ zZ zZ g2 c1 zZ zZ zZ) zZ ?_)
  revert H; refine aS ?_; rintro t3 A3 H
  refine so zZ (ax (gp.ok ((aa l0 bL).f0) ((aa l0 bL).f1) ((aa l0 bL).f2) _ A3) [] 1 aG ?_)
  rintro _ _ _ ⟨rfl,rfl,rfl⟩
  exact sv (ba ac) zZ (au ac (re (aB [0,3,4] [] [0] ae (ge (rg (al ac (sv (ba ac) zZ (au ac (re (wk [0,3,4] [] [(aw 0)] (cZ _ (by omega) _ ⟨wrap64 (aY + t3),wrap64 (bL + 1),H,zZ⟩)))))))))))
 ·
  refine gf zZ (dF c1) (gx zZ (gs (rg (al ac (au ac (re (aB [2] [] [] ae ?_)))))))
  cases H
  exact rt Tryz.func92 zZ (.tmp zZ .nil) zZ [] [] zZ zZ zZ zZ zZ ⟨zZ,zZ,zZ⟩
def hI.f (k : Nat) (av : List ah) (aF : Int) (aP : List ah) (aW : List ah) (aO : List ah) (aH : List aT) (bD : Int) (bI : Int) (bK : Int) (bE : Int) : Option (Int) := if bK = 1 then ((eu.f k aP).bind fun t2 => ((eu.f k aW).bind fun t3 => (some (wrap64 (t2 + t3))))) else (if bK = 2 then (if bD < 0 then (some 0) else (if bI < 0 then (some 0) else ((hX.f aH 0 bD).bind fun t7 => ((eu.f k t7).bind fun t8 => ((hX.f aH 1 bI).bind fun t9 => ((eu.f k t9).bind fun oa => (some (wrap64 (t8 + oa))))))))) else (if bK = 3 then (if bD < 0 then (some 0) else ((hX.f aH 0 bD).bind fun vJ => ((eu.f k vJ).bind fun qp => (some qp)))) else (some 0)))
theorem hI.ok (k : Nat) (av : List ah) (aL : Option Addr) (aK : Nat) (aF : Int) (aP : List ah) (bB : Option Addr) (bA : Nat) (aW : List ah) (bm : Option Addr) (bk : Nat) (aO : List ah) (bo : Option Addr) (bn : Nat) (aH : List aT) (bl : Option Addr) (bj : Nat) (bD : Int) (bI : Int) (bK : Int) (bE : Int) (r0 : Int) (H : hI.f k av aF aP aW aO aH bD bI bK bE = some r0) : Fn Tryz.prog 50 [.agg #[.slice aL av.length aK,.int .i64 aF,.slice bB aP.length bA,.slice bm aW.length bk,.slice bo aO.length bn,.slice bl aH.length bj,.int .i64 bD,.int .i64 bI,.int .i64 bK,.int .i64 bE]] [] [.sl 0 ai aL aK av 0 false,.sl 0 ai bB bA aP 0 false,.sl 0 ai bm bk aW 0 false,.sl 0 ai bo bn aO 0 false,.sl 0 aZ bl bj aH 0 false] (fun v bx en => v = .int .i64 r0 ∧ bx = [] ∧ en = []) := by
 refine eD 48 Tryz.func50 zZ zZ zZ (fun base T w0 => ?_)
 rw [hI.f] at H
 refine gs (rg (so zZ (gU (cs := [.slice aL av.length aK,.int .i64 aF,.slice bB aP.length bA,.slice bm aW.length bk,.slice bo aO.length bn,.slice bl aH.length bj,.int .i64 bD,.int .i64 bI,.int .i64 bK,.int .i64 bE]) ag fun b1 => (au ac (re (gs (gs (rg (sv (aq 8 zZ) zZ (sv (am 0 none ag) zZ (re (gb (gs (rg (sv (bZ ac) zZ (au ac (re ?_)))))))))))))))))
 revert H; refine aJ ?_ ?_ <;> intro c1 H
 ·
  refine gt zZ (dT c1) (gs (fj [0] [0,1,2,3,4] [] 8 ae (ap 0 [0] [0,1,2,3,4] zZ (aq 2 zZ) ae (ap 1 [0] [0,1,2,3,4] zZ (am 0 none ag) ae (ap 3 [0] [0,1,2,3,4] zZ (aq 3 zZ) ae (ap 4 [0] [0,1,2,3,4] zZ (am 0 none ag) ae (ar 2 ac ?_)))))))
  revert H; refine aS ?_; rintro t2 A2 H
  refine ax (eu.ok k aP bB bA _ A2) [(aw 1)] 1 aG ?_
  rintro _ _ _ ⟨rfl,rfl,rfl⟩
  refine aN [0] [0,1,2,3,4] ag (ar 5 ac ?_)
  revert H; refine aS ?_; rintro t3 A3 H
  refine ax (eu.ok k aW bm bk _ A3) [(aw 2)] 1 aG ?_
  rintro _ _ _ ⟨rfl,rfl,rfl⟩
  refine aN [0] [0,1,2,3,4] ag (ap 6 [0] [0,1,2,3,4] zZ (ba ac) ae (ap 7 [0] [0,1,2,3,4] zZ (gE zZ) ae (xd (aB [2] [] [] ae ?_))))
  cases H
  exact rt Tryz.func50 zZ (.tmp zZ .nil) zZ [] [] zZ zZ zZ zZ zZ ⟨zZ,zZ,zZ⟩
 ·
  refine gf zZ (dF c1) (gs (rg (sv (bZ ac) zZ (au ac (re (aB [1,4,14] [0] [0,1,2,3,4] ae ?_))))))
  revert H; refine aJ ?_ ?_ <;> intro c4 H
  ·
   refine gt zZ (dT c4) (gs (gs (rg (sv (aq 6 zZ) zZ (sv (am 0 none ag) zZ (sv (bS ac) zZ (al ac ?_)))))))
   revert H; refine aJ ?_ ?_ <;> intro c5 H
   ·
    refine ts 19 zZ (dT c5) (sk zZ (sk zZ (sk zZ (sv (aQ ag) zZ (re (aB [1,23] [0] [0,1,2,3,4] ae (gt zZ zZ (gs (rg (au ac (re ?_)))))))))))
    cases H
    exact rt Tryz.func50 zZ (.tmp zZ .nil) zZ [] [] zZ zZ zZ zZ zZ ⟨zZ,zZ,zZ⟩
   ·
    refine ts 19 zZ (dF c5) (sv (aq 7 zZ) zZ (sv (am 0 none ag) zZ (sv (bS ac) zZ (sv (aI ag) zZ (re (aB [1,23] [0] [0,1,2,3,4] ae ?_))))))
    revert H; refine aJ ?_ ?_ <;> intro c6 H
    ·
     refine gt zZ (dT c6) (gs (rg (au ac (re ?_))))
     cases H
     exact rt Tryz.func50 zZ (.tmp zZ .nil) zZ [] [] zZ zZ zZ zZ zZ ⟨zZ,zZ,zZ⟩
    ·
     refine gf zZ (dF c6) (gk (gs (fj [0] [0,1,2,3,4] [] 14 ae (ap 0 [0] [0,1,2,3,4] zZ (aq 5 zZ) ae (ap 1 [0] [0,1,2,3,4] zZ (am 0 none ag) ae (ap 2 [0] [0,1,2,3,4] zZ (aq 6 zZ) ae (ap 3 [0] [0,1,2,3,4] zZ (am 0 none ag) ae (ap 6 [0] [0,1,2,3,4] zZ (aq 5 zZ) ae (ap 7 [0] [0,1,2,3,4] zZ (am 0 none ag) ae (ap 8 [0] [0,1,2,3,4] zZ (aq 7 zZ) ae (ap 9 [0] [0,1,2,3,4] zZ (am 0 none ag) ae (ar 4 ac ?_))))))))))))
     revert H; refine aS ?_; rintro t7 A7 H
     refine ax (hX.ok aH bl bj 0 bD _ A7) [(aw 4)] 1 aG ?_
     rintro _ _ _ ⟨At7,ct7,rfl,rfl,rfl⟩
     refine aN [0] [0,1,2,3,4] ag (ar 5 ac ?_)
     revert H; refine aS ?_; rintro t8 A8 H
     refine ax (eu.ok k t7 At7 ct7 _ A8) [(aw 5)] 3 aG ?_
     rintro _ _ _ ⟨rfl,rfl,rfl⟩
     refine aN [0] [0,1,2,3,4] ag (ar 10 ac ?_)
     revert H; refine aS ?_; rintro t9 A9 H
     refine ax (hX.ok aH bl bj 1 bI _ A9) [(aw 4)] 3 aG ?_
     rintro _ _ _ ⟨At9,ct9,rfl,rfl,rfl⟩
     refine aN [0] [0,1,2,3,4] ag (ar 11 ac ?_)
     revert H; refine aS ?_; rintro oa mz H
     refine ax (eu.ok k t9 At9 ct9 _ mz) [(aw 6)] 5 aG ?_
     rintro _ _ _ ⟨rfl,rfl,rfl⟩
     refine aN [0] [0,1,2,3,4] ag (ap 12 [0] [0,1,2,3,4] zZ (ba ac) ae (ap 13 [0] [0,1,2,3,4] zZ (gE zZ) ae (xd (aB [2] [] [] ae ?_))))
     cases H
     exact rt Tryz.func50 zZ (.tmp zZ .nil) zZ [] [] zZ zZ zZ zZ zZ ⟨zZ,zZ,zZ⟩
  ·
   refine gf zZ (dF c4) (gs (rg (sv (bZ ac) zZ (au ac (re ?_)))))
   revert H; refine aJ ?_ ?_ <;> intro qR H
   ·
    refine gt zZ (dT qR) (gs (gs (rg (sv (aq 6 zZ) zZ (sv (am 0 none ag) zZ (sv (bS ac) zZ (re (aB [1,41] [0] [0,1,2,3,4] ae ?_))))))))
    revert H; refine aJ ?_ ?_ <;> intro Aa H
    ·
     refine gt zZ (dT Aa) (gs (rg (au ac (re ?_))))
     cases H
     exact rt Tryz.func50 zZ (.tmp zZ .nil) zZ [] [] zZ zZ zZ zZ zZ ⟨zZ,zZ,zZ⟩
    ·
     refine gf zZ (dF Aa) (gk (gs (rg (sv (aq 5 zZ) zZ (sv (am 0 none ag) zZ (sv (aq 6 zZ) zZ (sv (am 0 none ag) zZ ?_)))))))
     revert H; refine aS ?_; rintro vJ AI H
     refine so zZ (ax (hX.ok aH bl bj 0 bD _ AI) [(aw 4)] 1 aG ?_)
     rintro _ _ _ ⟨Q1,Qp,rfl,rfl,rfl⟩
     revert H; refine aS ?_; rintro qp sA H
     refine so zZ (ax (eu.ok k vJ Q1 Qp _ sA) [(aw 5)] 3 aG ?_)
     rintro _ _ _ ⟨rfl,rfl,rfl⟩
     refine au ac (re (aB [2] [] [] ae ?_))
     cases H
     exact rt Tryz.func50 zZ (.tmp zZ .nil) zZ [] [] zZ zZ zZ zZ zZ ⟨zZ,zZ,zZ⟩
   ·
    refine gf zZ (dF qR) (gk (ge (gs (rg (au ac (re ?_))))))
    cases H
    exact rt Tryz.func50 zZ (.tmp zZ .nil) zZ [] [] zZ zZ zZ zZ zZ ⟨zZ,zZ,zZ⟩
mutual
def cW.j0 : Nat → (List ah) → Int → Int → (List ah) → Option ((List ah))
 | 0,_,_,_,_ => none
 | k + 1,ii,hK,ja,l0 => if 0 ≤ hK then (if hK < (l0.length : Int) then (if 0 ≤ ja then (if ja ≤ (ii.length : Int) then (if ([(⟨(aa l0 hK).f0,(aa l0 hK).f1,(aa l0 hK).f2⟩ : ah)] : List ah).length + (ii.drop ja.toNat).length ≤ 5864062014805 then (if (ii.take ja.toNat).length ≤ 5864062014805 then (if (ii.take ja.toNat).length + (([(⟨(aa l0 hK).f0,(aa l0 hK).f1,(aa l0 hK).f2⟩ : ah)] : List ah) ++ (ii.drop ja.toNat)).length ≤ 5864062014805 then (cW.l0 k ((ii.take ja.toNat) ++ (([(⟨(aa l0 hK).f0,(aa l0 hK).f1,(aa l0 hK).f2⟩ : ah)] : List ah) ++ (ii.drop ja.toNat))) (wrap64 (hK + 1)) l0) else none) else none) else none) else none) else none) else none) else none
def cW.l1 : Nat → (List ah) → Int → Int → (List ah) → Option ((List ah))
 | 0,_,_,_,_ => none
 | k + 1,mA,lV,k7,l0 => if k7 > 0 then (if 0 ≤ (wrap64 (k7 - 1)) then (if (wrap64 (k7 - 1)) < (mA.length : Int) then (if 0 ≤ lV then (if lV < (l0.length : Int) then ((cY.f k ((aa mA (wrap64 (k7 - 1))).f0) ((aa mA (wrap64 (k7 - 1))).f1) ((aa mA (wrap64 (k7 - 1))).f2) ((aa l0 lV).f0) ((aa l0 lV).f1) ((aa l0 lV).f2)).bind fun TE => (if TE > 0 then (cW.l1 k mA lV (wrap64 (k7 - 1)) l0) else (cW.j0 k mA lV k7 l0))) else none) else none) else none) else none) else (cW.j0 k mA lV k7 l0)
def cW.l0 : Nat → (List ah) → Int → (List ah) → Option ((List ah))
 | 0,_,_,_ => none
 | k + 1,yG,FV,l0 => if FV < (l0.length : Int) then (cW.l1 k yG FV (yG.length : Int) l0) else (some yG)
end
def cW.f (k : Nat) (l0 : List ah) : Option ((List ah)) := cW.l0 k [] 0 l0
theorem cW.ok (k : Nat) (l0 : List ah) (ay : Option Addr) (az : Nat) (r0 : List ah) (H : cW.f k l0 = some r0) : Fn Tryz.prog 93 [.slice ay l0.length az] [] [.sl 0 ai ay az l0 0 false] (fun v bx en => ∃ A0 c0,v = .slice A0 r0.length c0 ∧ bx = [] ∧ en = [.sl 2 ai A0 c0 r0 1 true]) := by
 refine eD 50 Tryz.func93 zZ zZ zZ (fun base T w0 => ?_)
 rw [cW.f] at H
 refine gs (rg (au ac (re (gs (rg (so zZ (bH (s := 3) (by_ := 24) ai ([] : List ah) [] [] 1 [] dp dq zZ fun afT afH => (au ac (re (gs (gs (rg (au ac (re (gb ?_)))))))))))))))
 refine lo (fun kk S => ∃ (yG : List ah) (Ms : Option Addr) (LJ : Nat) (FV : Int),cW.l0 kk yG FV l0 = some r0 ∧ S = ⟨[(0,.slice ay l0.length az),(3,.slice Ms yG.length LJ),(4,.int .i64 FV)],[],[.sl 2 ai Ms LJ yG 1 true,.sl 0 ai ay az l0 0 false]⟩) (fun S hS => ?_) (fun n0 cZ S hS => ?_) ⟨[],afT,afH,0,H,zZ⟩ (fun h => wk [0,3,4] [] [(aj 1 2 1),(aw 0)] h)
 · clear H; obtain ⟨_,_,_,_,H,_⟩ := hS; rw [cW.l0] at H; cases H
 clear H
 obtain ⟨yG,Ms,LJ,FV,H,rfl⟩ := hS
 rw [cW.l0] at H
 refine gs (gs (rg (al ac (al ac (sv (bG zZ) zZ (sv (bS ac) zZ (re ?_)))))))
 revert H; refine aJ ?_ ?_ <;> intro c2 H
 ·
  refine gt zZ (dT c2) (gk (gs (gb (gs (rg (al ac (sv (bG zZ) zZ (au ac (re (aB [0,3,4,5] [] [0,1] ae ?_))))))))))
  refine jo (fun S => ∃ (m : Nat) (ii : List ah) (xC : Option Addr) (tw : Nat) (hK : Int) (ja : Int),m ≤ n0 ∧ cW.j0 m ii hK ja l0 = some r0 ∧ S = ⟨[(0,.slice ay l0.length az),(3,.slice xC ii.length tw),(4,.int .i64 hK),(5,.int .i64 ja)],[],[.sl 2 ai xC tw ii 1 true,.sl 0 ai ay az l0 0 false]⟩) (fun S hS => ?_) (fun gw => ?_)
  ·
   clear H
   obtain ⟨m3,ii,xC,tw,hK,ja,lm3,H,rfl⟩ := hS
   rcases m3 with _ | m3
   · rw [cW.j0] at H; cases H
   rw [cW.j0] at H
   refine gs ?_
   revert H; refine aU ?_; intro g4 H
   revert H; refine aU ?_; intro g5 H
   revert H; refine aU ?_; intro g6 H
   revert H; refine aU ?_; intro g7 H
   refine fj [] [0,1] [9] 10 ae (ap 0 [] [0,1] zZ (aA zZ) ae (ap 1 [] [0,1] zZ (aA zZ) ae (ap 2 [] [0,1] zZ (aM 1 ag g4 g5 zZ) ae (ap 3 [] [0,1] zZ (bg (v := .agg #[.int .i64 ((aa l0 hK).f0),.int .i64 ((aa l0 hK).f1),.int .i64 ((aa l0 hK).f2)]) hK 0 (some 3) 1 cK zZ zZ zZ g4 g5 zZ zZ zZ) ae (ap 5 [] [0,1] zZ (aA zZ) ae (ap 6 [] [0,1] zZ (aA zZ) ae (oY (l' := ii.drop ja.toNat) ja (ii.length : Int) 0 zZ g6 g7 (Int.le_refl _) zZ 1 dq (.inl dq) JW (ap 7 [] [0,1] zZ (lL ja (ii.length : Int) 0 zZ zZ zZ zZ g6 g7 (Int.le_refl _) zZ zZ Ds) ae (ar 4 ac (bH (s := 3) (by_ := 24) ai ([(⟨(aa l0 hK).f0,(aa l0 hK).f1,(aa l0 hK).f2⟩ : ah)] : List ah) [[]] [] 2 [.tmp 36] dp dq zZ fun ahD ahs => (aN [] [0,1] ag (ar 8 ac ?_))))))))))))
   revert H; refine aU ?_; intro g9 H
   refine di (k := ai) (s := 3) (by_ := 24) 3 2 ae (JY g9 dq) (Du g9 dq) (.inl zZ) true (fun _ => .inl zZ) ac fun Rc Qz => (bR (en := [.sl 2 ai xC tw ii 1 true,.sl 0 ai ay az l0 0 false,.sl 1 ai (je xC tw ja.toNat 3) (tw - ja.toNat) (ii.drop ja.toNat) 1 true,.sl 2 ai Rc Qz (([(⟨(aa l0 hK).f0,(aa l0 hK).f1,(aa l0 hK).f2⟩ : ah)] : List ah) ++ (ii.drop ja.toNat)) 2 true]) kK (aN [] [0,1] ag (ar 9 ac (ov (gE zZ) zZ (xn zZ (xd (aB [0,3,4,5,6] [] [0,1,3] ae (rg (so zZ (bH (s := 3) (by_ := 24) ai ([] : List ah) [] [] 3 [] dp dq zZ fun ag3 agy => (al ac (al ac (oY (l' := ii.take ja.toNat) 0 ja 0 zZ (Int.le_refl 0) g6 g7 zZ 2 dq (.inr zZ) zZ (sv (lL 0 ja 0 zZ zZ zZ zZ (Int.le_refl 0) g6 g7 zZ zZ yr) zZ ?_))))))))))))))
   revert H; refine aU ?_; intro ju H
   refine so zZ (di (k := ai) (s := 3) (by_ := 24) 3 4 ae (Mm ju dq) (GB ju dq) (.inl zZ) true (fun _ => .inl zZ) ac fun abp aaw => (bR (en := [.sl 2 ai xC tw ii 1 true,.sl 0 ai ay az l0 0 false,.sl 2 ai Rc Qz (([(⟨(aa l0 hK).f0,(aa l0 hK).f1,(aa l0 hK).f2⟩ : ah)] : List ah) ++ (ii.drop ja.toNat)) 2 true,.sl 2 ai (je xC tw (0 : Int).toNat 3) (tw - (0 : Int).toNat) (ii.take ja.toNat) 1 true,.sl 2 ai abp aaw (ii.take ja.toNat) 3 true]) kK (al ac ?_)))
   revert H; refine aU ?_; intro JU H
   exact so zZ (di (k := ai) (s := 3) (by_ := 24) 4 2 ae (JY JU dq) (Du JU dq) (.inl zZ) true (fun _ => .inl zZ) ac fun Wh Vh => (bR (en := [.sl 2 ai xC tw ii 1 true,.sl 0 ai ay az l0 0 false,.sl 2 ai Rc Qz (([(⟨(aa l0 hK).f0,(aa l0 hK).f1,(aa l0 hK).f2⟩ : ah)] : List ah) ++ (ii.drop ja.toNat)) 2 true,.sl 2 ai (je xC tw (0 : Int).toNat 3) (tw - (0 : Int).toNat) (ii.take ja.toNat) 1 true,.sl 2 ai Wh Vh ((ii.take ja.toNat) ++ (([(⟨(aa l0 hK).f0,(aa l0 hK).f1,(aa l0 hK).f2⟩ : ah)] : List ah) ++ (ii.drop ja.toNat))) 3 true]) kK (au ac (re (aB [0,3,4] [] [1,4] ae (ge (rg (al ac (sv (ba ac) zZ (au ac (re (wk [0,3,4] [] [(aj 1 2 1),(aw 0)] (cZ _ (by omega) _ ⟨(ii.take ja.toNat) ++ (([(⟨(aa l0 hK).f0,(aa l0 hK).f1,(aa l0 hK).f2⟩ : ah)] : List ah) ++ (ii.drop ja.toNat)),Wh,Vh,wrap64 (hK + 1),H,zZ⟩)))))))))))))
  ·
   refine gb ?_
   refine lo (fun kk S => ∃ (mA : List ah) (Fm : Option Addr) (Ey : Nat) (lV : Int) (k7 : Int),kk ≤ n0 ∧ cW.l1 kk mA lV k7 l0 = some r0 ∧ S = ⟨[(0,.slice ay l0.length az),(3,.slice Fm mA.length Ey),(4,.int .i64 lV),(5,.int .i64 k7)],[],[.sl 2 ai Fm Ey mA 1 true,.sl 0 ai ay az l0 0 false]⟩) (fun S hS => ?_) (fun n1 xO S hS => ?_) ⟨yG,Ms,LJ,FV,(yG.length : Int),by omega,H,zZ⟩ (fun h => wk [0,3,4,5] [] [(aj 0 2 1),(aw 1)] h)
   · clear H; obtain ⟨_,_,_,_,_,_,H,_⟩ := hS; rw [cW.l1] at H; cases H
   clear H
   obtain ⟨mA,Fm,Ey,lV,k7,ZX,H,rfl⟩ := hS
   rw [cW.l1] at H
   refine gs (gs (fj [] [0,1] [] 15 ae (ap 0 [] [0,1] zZ (aA zZ) ae (ap 1 [] [0,1] zZ (dV ac) ae (ap 2 [] [0,1] zZ (aA zZ) ae ?_)))))
   revert H; refine aJ ?_ ?_ <;> intro zY H
   ·
    refine ts 18 zZ (dT zY) (ap 3 [] [0,1] zZ (aA zZ) ae (ap 4 [] [0,1] zZ (aA zZ) ae (ap 5 [] [0,1] zZ (co ac) ae ?_)))
    revert H; refine aU ?_; intro JS H
    revert H; refine aU ?_; intro AE H
    refine ap 6 [] [0,1] zZ (aM 0 ag JS AE zZ) ae (ap 7 [] [0,1] zZ (bg (v := .agg #[.int .i64 ((aa mA (wrap64 (k7 - 1))).f0),.int .i64 ((aa mA (wrap64 (k7 - 1))).f1),.int .i64 ((aa mA (wrap64 (k7 - 1))).f2)]) (wrap64 (k7 - 1)) 0 (some 3) 0 cK zZ zZ zZ JS AE zZ zZ zZ) ae (ap 8 [] [0,1] zZ (aA zZ) ae (ap 9 [] [0,1] zZ (aA zZ) ae ?_)))
    revert H; refine aU ?_; intro tN H
    revert H; refine aU ?_; intro PX H
    refine ap 10 [] [0,1] zZ (aM 1 ag tN PX zZ) ae (ap 11 [] [0,1] zZ (bg (v := .agg #[.int .i64 ((aa l0 lV).f0),.int .i64 ((aa l0 lV).f1),.int .i64 ((aa l0 lV).f2)]) lV 0 (some 3) 1 cK zZ zZ zZ tN PX zZ zZ zZ) ae (ar 12 ac ?_))
    revert H; refine aS ?_; rintro TE FF H
    refine ax (cY.ok n1 ((aa mA (wrap64 (k7 - 1))).f0) ((aa mA (wrap64 (k7 - 1))).f1) ((aa mA (wrap64 (k7 - 1))).f2) ((aa l0 lV).f0) ((aa l0 lV).f1) ((aa l0 lV).f2) _ FF) [] 2 aG ?_
    rintro _ _ _ ⟨rfl,rfl,rfl⟩
    refine aN [] [0,1] ag (ap 13 [] [0,1] zZ (dV ac) ae (ap 14 [] [0,1] zZ (aQ ag) ae (xd ?_)))
    revert H; refine aJ ?_ ?_ <;> intro VD H
    ·
     exact gt zZ (dT VD) (gk (gb (rg (al ac (sv (co ac) zZ (au ac (re (aB [0,3,4,5,19,20,21,22,23,24,25,26,27,28,29] [] [0,1] ae (ge (wk [0,3,4,5] [] [(aj 0 2 1),(aw 1)] (xO _ (by omega) _ ⟨mA,Fm,Ey,lV,wrap64 (k7 - 1),by omega,H,zZ⟩)))))))))))
    ·
     exact gf zZ (dF VD) (gx zZ (wk [0,3,4,5] [] [(aj 0 2 1),(aw 1)] (gw _ ⟨_,mA,Fm,Ey,lV,k7,by omega,H,zZ⟩)))
   ·
    exact ts 18 zZ (dF zY) (bv 3 [] [0,1] aG (bv 4 [] [0,1] aG (bv 5 [] [0,1] aG (bv 6 [] [0,1] aG (bv 7 [] [0,1] aG (bv 8 [] [0,1] aG (bv 9 [] [0,1] aG (bv 10 [] [0,1] aG (bv 11 [] [0,1] aG (bv 12 [] [0,1] aG (bv 13 [] [0,1] aG (ap 14 [] [0,1] zZ (aI ag) ae (xd (aB [0,3,4,5,30] [] [0,1] ae (gf zZ zZ (gx zZ (wk [0,3,4,5] [] [(aj 0 2 1),(aw 1)] (gw _ ⟨_,mA,Fm,Ey,lV,k7,by omega,H,zZ⟩))))))))))))))))))
 ·
  refine gf zZ (dF c2) (gx zZ (gs (rg (al ac (au ac (re (aB [2] [] [0] ae ?_)))))))
  cases H
  exact rt Tryz.func93 zZ (.tmp zZ .nil) zZ [] [(aj 0 2 1)] zZ zZ zZ zZ zZ ⟨_,_,zZ,zZ,zZ⟩
def eN.l0 : Nat → (List ah) → (List ah) → Int → Option (Bool)
 | 0,_,_,_ => none
 | k + 1,bW,dt,bV => if bV < (bW.length : Int) then (if 0 ≤ bV then (if bV < (dt.length : Int) then (if (((aa bW bV).f0) == ((aa dt bV).f0) && (((aa bW bV).f1) == ((aa dt bV).f1) && (((aa bW bV).f2) == ((aa dt bV).f2)))) = true then (eN.l0 k bW dt (wrap64 (bV + 1))) else (some false)) else none) else none) else (some true)
def eN.f (k : Nat) (l0 : List ah) (l1 : List ah) : Option (Bool) := (cW.f k l0).bind fun t1 => ((cW.f k l1).bind fun t2 => (if (t1.length : Int) = (t2.length : Int) then (eN.l0 k t1 t2 0) else (some false)))
theorem eN.ok (k : Nat) (l0 : List ah) (ay : Option Addr) (az : Nat) (l1 : List ah) (i9 : Option Addr) (i7 : Nat) (r0 : Bool) (H : eN.f k l0 l1 = some r0) : Fn Tryz.prog 51 [.slice ay l0.length az,.slice i9 l1.length i7] [] [.sl 0 ai ay az l0 0 false,.sl 0 ai i9 i7 l1 0 false] (fun v bx en => v = .bool r0 ∧ bx = [] ∧ en = []) := by
 refine eD 32 Tryz.func51 zZ zZ zZ (fun base T w0 => ?_)
 rw [eN.f] at H
 refine gs (rg (au ac (re (gs (rg (al ac ?_))))))
 revert H; refine aS ?_; rintro t1 A1 H
 refine so zZ (ax (cW.ok k l0 ay az _ A1) [(aw 0)] 1 aG ?_)
 rintro _ _ _ ⟨iF,iE,rfl,rfl,rfl⟩
 refine au ac (re (gs (rg (al ac ?_))))
 revert H; refine aS ?_; rintro t2 A2 H
 refine so zZ (ax (cW.ok k l1 i9 i7 _ A2) [(aw 1)] 3 aG ?_)
 rintro _ _ _ ⟨G2,GX,rfl,rfl,rfl⟩
 refine au ac (re (aB [5,6] [] [2,3] ae (gs (gs (rg (al ac (sv (bG zZ) zZ (al ac (sv (bG zZ) zZ (sv (lK zZ zZ) zZ (re ?_)))))))))))
 revert H; refine aJ ?_ ?_ <;> intro c3 H
 ·
  refine gf zZ (nF c3) (gk (gs (gs (rg (au ac (re (gb ?_)))))))
  refine lo (fun kk S => ∃ (bW : List ah) (kU : Option Addr) (kT : Nat) (dt : List ah) (AZ : Option Addr) (AX : Nat) (bV : Int),eN.l0 kk bW dt bV = some r0 ∧ S = ⟨[(5,.slice kU bW.length kT),(6,.slice AZ dt.length AX),(7,.int .i64 bV)],[],[.sl 2 ai kU kT bW 1 true,.sl 2 ai AZ AX dt 2 true]⟩) (fun S hS => ?_) (fun n0 cZ S hS => ?_) ⟨t1,iF,iE,t2,G2,GX,0,H,zZ⟩ (fun h => wk [5,6,7] [] [(aj 0 2 1),(aj 1 2 2)] h)
  · clear H; obtain ⟨_,_,_,_,_,_,_,H,_⟩ := hS; rw [eN.l0] at H; cases H
  clear H
  obtain ⟨bW,kU,kT,dt,AZ,AX,bV,H,rfl⟩ := hS
  rw [eN.l0] at H
  refine gs (gs (rg (al ac (al ac (sv (bG zZ) zZ (sv (bS ac) zZ (re ?_)))))))
  revert H; refine aJ ?_ ?_ <;> intro c4 H
  ·
   refine gt zZ (dT c4) (gk (gs (gb (gs ?_))))
   revert H; refine aU ?_; intro g5 H
   revert H; refine aU ?_; intro g6 H
   refine fj [] [0,1] [] 9 ae (ap 0 [] [0,1] zZ (aA zZ) ae (ap 1 [] [0,1] zZ (aA zZ) ae (ap 2 [] [0,1] zZ (aM 0 ag g5 c4 zZ) ae (ap 3 [] [0,1] zZ (bg (v := .agg #[.int .i64 ((aa bW bV).f0),.int .i64 ((aa bW bV).f1),.int .i64 ((aa bW bV).f2)]) bV 0 (some 3) 0 cK zZ zZ zZ g5 c4 zZ zZ zZ) ae (ap 4 [] [0,1] zZ (aA zZ) ae (ap 5 [] [0,1] zZ (aA zZ) ae (ap 6 [] [0,1] zZ (aM 1 ag g5 g6 zZ) ae (ap 7 [] [0,1] zZ (bg (v := .agg #[.int .i64 ((aa dt bV).f0),.int .i64 ((aa dt bV).f1),.int .i64 ((aa dt bV).f2)]) bV 0 (some 3) 1 cK zZ zZ zZ g5 g6 zZ zZ zZ) ae (ap 8 [] [0,1] zZ (Mo zZ zZ (fun d w => S2 d w ((aa bW bV).f0) ((aa dt bV).f0) ((aa bW bV).f1) ((aa dt bV).f1) ((aa bW bV).f2) ((aa dt bV).f2))) ae (xd (aB [5,6,7,31] [] [0,1] ae ?_)))))))))))
   revert H; refine aJ ?_ ?_ <;> intro c7 H
   ·
    exact gf zZ (bN c7) (gk (ge (rg (al ac (sv (ba ac) zZ (au ac (re (wk [5,6,7] [] [(aj 0 2 1),(aj 1 2 2)] (cZ _ (by omega) _ ⟨bW,kU,kT,dt,AZ,AX,wrap64 (bV + 1),H,zZ⟩)))))))))
   ·
    refine gt zZ (bM c7) (gs (rg (au ac (re ?_))))
    cases H
    exact rt Tryz.func51 zZ (.tmp zZ .nil) zZ [] [] zZ zZ zZ zZ zZ ⟨zZ,zZ,zZ⟩
  ·
   refine gf zZ (dF c4) (gx zZ (gs (rg (au ac (re (aB [4] [] [] ae ?_))))))
   cases H
   exact rt Tryz.func51 zZ (.tmp zZ .nil) zZ [] [] zZ zZ zZ zZ zZ ⟨zZ,zZ,zZ⟩
 ·
  refine gt zZ (nT c3) (gs (rg (au ac (re (aB [4] [] [] ae ?_)))))
  cases H
  exact rt Tryz.func51 zZ (.tmp zZ .nil) zZ [] [] zZ zZ zZ zZ zZ ⟨zZ,zZ,zZ⟩
mutual
def cI.j0 : Nat → (List ah) → Int → Int → (List ah) → (List ah) → Option ((List ah))
 | 0,_,_,_,_,_ => none
 | k + 1,iQ,fP,fB,l0,l1 => if fB = (l1.length : Int) then (if 0 ≤ fP then (if fP < (l0.length : Int) then (if iQ.length < 5864062014805 then (cI.l0 k (iQ ++ ([(⟨(aa l0 fP).f0,(aa l0 fP).f1,(aa l0 fP).f2⟩ : ah)] : List ah)) (wrap64 (fP + 1)) fB l0 l1) else none) else none) else none) else (if fP < (l0.length : Int) then (if 0 ≤ fP then (if 0 ≤ fB then (if fB < (l1.length : Int) then ((cY.f k ((aa l0 fP).f0) ((aa l0 fP).f1) ((aa l0 fP).f2) ((aa l1 fB).f0) ((aa l1 fB).f1) ((aa l1 fB).f2)).bind fun vJ => (if vJ ≤ 0 then (if iQ.length < 5864062014805 then (cI.l0 k (iQ ++ ([(⟨(aa l0 fP).f0,(aa l0 fP).f1,(aa l0 fP).f2⟩ : ah)] : List ah)) (wrap64 (fP + 1)) fB l0 l1) else none) else (if iQ.length < 5864062014805 then (cI.l0 k (iQ ++ ([(⟨(aa l1 fB).f0,(aa l1 fB).f1,(aa l1 fB).f2⟩ : ah)] : List ah)) fP (wrap64 (fB + 1)) l0 l1) else none))) else none) else none) else none) else (if 0 ≤ fB then (if fB < (l1.length : Int) then (if iQ.length < 5864062014805 then (cI.l0 k (iQ ++ ([(⟨(aa l1 fB).f0,(aa l1 fB).f1,(aa l1 fB).f2⟩ : ah)] : List ah)) fP (wrap64 (fB + 1)) l0 l1) else none) else none) else none))
def cI.l0 : Nat → (List ah) → Int → Int → (List ah) → (List ah) → Option ((List ah))
 | 0,_,_,_,_,_ => none
 | k + 1,nL,mb,FO,l0,l1 => if mb < (l0.length : Int) then (cI.j0 k nL mb FO l0 l1) else (if FO < (l1.length : Int) then (cI.j0 k nL mb FO l0 l1) else (some nL))
end
def cI.f (k : Nat) (l0 : List ah) (l1 : List ah) : Option ((List ah)) := cI.l0 k [] 0 0 l0 l1
theorem cI.ok (k : Nat) (l0 : List ah) (ay : Option Addr) (az : Nat) (l1 : List ah) (i9 : Option Addr) (i7 : Nat) (r0 : List ah) (H : cI.f k l0 l1 = some r0) : Fn Tryz.prog 52 [.slice ay l0.length az,.slice i9 l1.length i7] [] [.sl 0 ai ay az l0 0 false,.sl 0 ai i9 i7 l1 0 false] (fun v bx en => ∃ A0 c0,v = .slice A0 r0.length c0 ∧ bx = [] ∧ en = [.sl 2 ai A0 c0 r0 1 true]) := by
 refine eD 60 Tryz.func52 zZ zZ zZ (fun base T w0 => ?_)
 rw [cI.f] at H
 refine gs (rg (au ac (re (gs (rg (so zZ (bH (s := 3) (by_ := 24) ai ([] : List ah) [] [] 1 [] dp dq zZ fun GL Gr => (au ac (re (gs (rg (au ac (re (gs (rg (au ac (re (gs (gb ?_)))))))))))))))))))
 refine lo (fun kk S => ∃ (nL : List ah) (Mq : Option Addr) (LH : Nat) (mb : Int) (FO : Int),cI.l0 kk nL mb FO l0 l1 = some r0 ∧ S = ⟨[(0,.slice ay l0.length az),(1,.slice i9 l1.length i7),(5,.slice Mq nL.length LH),(6,.int .i64 mb),(7,.int .i64 FO)],[],[.sl 2 ai Mq LH nL 1 true,.sl 0 ai ay az l0 0 false,.sl 0 ai i9 i7 l1 0 false]⟩) (fun S hS => ?_) (fun n0 cZ S hS => ?_) ⟨[],GL,Gr,0,0,H,zZ⟩ (fun h => wk [0,1,5,6,7] [] [(aj 2 2 1),(aw 0),(aw 1)] h)
 · clear H; obtain ⟨_,_,_,_,_,H,_⟩ := hS; rw [cI.l0] at H; cases H
 clear H
 obtain ⟨nL,Mq,LH,mb,FO,H,rfl⟩ := hS
 rw [cI.l0] at H
 refine jo (fun S => ∃ (m : Nat) (iQ : List ah) (Ti : Option Addr) (S4 : Nat) (fP : Int) (fB : Int),m ≤ n0 ∧ cI.j0 m iQ fP fB l0 l1 = some r0 ∧ S = ⟨[(0,.slice ay l0.length az),(1,.slice i9 l1.length i7),(5,.slice Ti iQ.length S4),(6,.int .i64 fP),(7,.int .i64 fB)],[],[.sl 2 ai Ti S4 iQ 1 true,.sl 0 ai ay az l0 0 false,.sl 0 ai i9 i7 l1 0 false]⟩) (fun S hS => ?_) (fun gw => ?_)
 ·
  clear H
  obtain ⟨m2,iQ,Ti,S4,fP,fB,lm2,H,rfl⟩ := hS
  rcases m2 with _ | m2
  · rw [cI.j0] at H; cases H
  rw [cI.j0] at H
  refine gb (gs (fj [] [0,1,2] [] 22 ae (ap 0 [] [0,1,2] zZ (aA zZ) ae (ap 1 [] [0,1,2] zZ (aA zZ) ae (ap 2 [] [0,1,2] zZ (bG zZ) ae (ap 3 [] [0,1,2] zZ (bZ ac) ae (ap 4 [] [0,1,2] zZ (aA zZ) ae ?_)))))))
  revert H; refine aJ ?_ ?_ <;> intro c3 H
  ·
   refine ts 23 zZ (dT c3) (bv 5 [] [0,1,2] aG (bv 6 [] [0,1,2] aG (bv 7 [] [0,1,2] aG (bv 8 [] [0,1,2] aG (bv 9 [] [0,1,2] aG (bv 10 [] [0,1,2] aG (bv 11 [] [0,1,2] aG (bv 12 [] [0,1,2] aG (bv 13 [] [0,1,2] aG (bv 14 [] [0,1,2] aG (bv 15 [] [0,1,2] aG (bv 16 [] [0,1,2] aG (bv 17 [] [0,1,2] aG (bv 18 [] [0,1,2] aG (bv 19 [] [0,1,2] aG (bv 20 [] [0,1,2] aG (ap 21 [] [0,1,2] zZ (aQ ag) ae (xd (aB [0,1,5,6,7,40] [] [0,1,2] ae (gt zZ zZ (gs (rg (al ac (al ac (al ac ?_)))))))))))))))))))))))))
   revert H; refine aU ?_; intro g4 H
   revert H; refine aU ?_; intro g5 H
   refine sv (aM 1 ag g4 g5 zZ) zZ (sv (bg (v := .agg #[.int .i64 ((aa l0 fP).f0),.int .i64 ((aa l0 fP).f1),.int .i64 ((aa l0 fP).f2)]) fP 0 (some 3) 1 cK zZ zZ zZ g4 g5 zZ zZ zZ) zZ (so zZ (bH (s := 3) (by_ := 24) ai ([(⟨(aa l0 fP).f0,(aa l0 fP).f1,(aa l0 fP).f2⟩ : ah)] : List ah) [[]] [] 2 [.tmp 45] dp dq zZ fun adS adw => ?_)))
   revert H; refine aU ?_; intro g7 H
   exact so zZ (di (k := ai) (s := 3) (by_ := 24) 0 3 ae (km g7 dq) (iz g7 dq) (.inl zZ) true (fun _ => .inl zZ) ac fun Yh XY => (bR (en := [.sl 0 ai ay az l0 0 false,.sl 0 ai i9 i7 l1 0 false,.sl 2 ai adS adw ([(⟨(aa l0 fP).f0,(aa l0 fP).f1,(aa l0 fP).f2⟩ : ah)] : List ah) 2 true,.sl 2 ai Yh XY (iQ ++ ([(⟨(aa l0 fP).f0,(aa l0 fP).f1,(aa l0 fP).f2⟩ : ah)] : List ah)) 1 true]) kK (au ac (re (aB [0,1,5,6,7] [] [0,1,3] ae (rg (al ac (sv (ba ac) zZ (au ac (re (ge (wk [0,1,5,6,7] [] [(aj 2 2 1),(aw 0),(aw 1)] (cZ _ (by omega) _ ⟨iQ ++ ([(⟨(aa l0 fP).f0,(aa l0 fP).f1,(aa l0 fP).f2⟩ : ah)] : List ah),Yh,XY,wrap64 (fP + 1),fB,H,zZ⟩)))))))))))))
  ·
   refine ts 23 zZ (dF c3) (ap 5 [] [0,1,2] zZ (aA zZ) ae (ap 6 [] [0,1,2] zZ (aA zZ) ae (ap 7 [] [0,1,2] zZ (bG zZ) ae (ap 8 [] [0,1,2] zZ (bS ac) ae (ap 9 [] [0,1,2] zZ (aA zZ) ae ?_)))))
   revert H; refine aJ ?_ ?_ <;> intro c9 H
   ·
    refine ts 28 zZ (dT c9) (ap 10 [] [0,1,2] zZ (aA zZ) ae (ap 11 [] [0,1,2] zZ (aA zZ) ae ?_))
    revert H; refine aU ?_; intro iU H
    refine ap 12 [] [0,1,2] zZ (aM 1 ag iU c9 zZ) ae (ap 13 [] [0,1,2] zZ (bg (v := .agg #[.int .i64 ((aa l0 fP).f0),.int .i64 ((aa l0 fP).f1),.int .i64 ((aa l0 fP).f2)]) fP 0 (some 3) 1 cK zZ zZ zZ iU c9 zZ zZ zZ) ae (ap 14 [] [0,1,2] zZ (aA zZ) ae (ap 15 [] [0,1,2] zZ (aA zZ) ae ?_)))
    revert H; refine aU ?_; intro lR H
    revert H; refine aU ?_; intro ju H
    refine ap 16 [] [0,1,2] zZ (aM 2 ag lR ju zZ) ae (ap 17 [] [0,1,2] zZ (bg (v := .agg #[.int .i64 ((aa l1 fB).f0),.int .i64 ((aa l1 fB).f1),.int .i64 ((aa l1 fB).f2)]) fB 0 (some 3) 2 cK zZ zZ zZ lR ju zZ zZ zZ) ae (ar 18 ac ?_))
    revert H; refine aS ?_; rintro vJ AI H
    refine ax (cY.ok m2 ((aa l0 fP).f0) ((aa l0 fP).f1) ((aa l0 fP).f2) ((aa l1 fB).f0) ((aa l1 fB).f1) ((aa l1 fB).f2) _ AI) [] 2 aG ?_
    rintro _ _ _ ⟨rfl,rfl,rfl⟩
    refine aN [] [0,1,2] ag (ap 19 [] [0,1,2] zZ (jv ac) ae (ap 20 [] [0,1,2] zZ (aQ ag) ae (ap 21 [] [0,1,2] zZ (aI ag) ae (xd ?_))))
    revert H; refine aJ ?_ ?_ <;> intro sC H
    ·
     refine gt zZ (dT sC) (gs (rg (al ac (al ac (al ac (sv (aM 1 ag iU c9 zZ) zZ (sv (bg (v := .agg #[.int .i64 ((aa l0 fP).f0),.int .i64 ((aa l0 fP).f1),.int .i64 ((aa l0 fP).f2)]) fP 0 (some 3) 1 cK zZ zZ zZ iU c9 zZ zZ zZ) zZ (so zZ (bH (s := 3) (by_ := 24) ai ([(⟨(aa l0 fP).f0,(aa l0 fP).f1,(aa l0 fP).f2⟩ : ah)] : List ah) [[]] [] 2 [.tmp 45] dp dq zZ fun abo aav => ?_)))))))))
     revert H; refine aU ?_; intro wv H
     exact so zZ (di (k := ai) (s := 3) (by_ := 24) 0 3 ae (km wv dq) (iz wv dq) (.inl zZ) true (fun _ => .inl zZ) ac fun Wi Vj => (bR (en := [.sl 0 ai ay az l0 0 false,.sl 0 ai i9 i7 l1 0 false,.sl 2 ai abo aav ([(⟨(aa l0 fP).f0,(aa l0 fP).f1,(aa l0 fP).f2⟩ : ah)] : List ah) 2 true,.sl 2 ai Wi Vj (iQ ++ ([(⟨(aa l0 fP).f0,(aa l0 fP).f1,(aa l0 fP).f2⟩ : ah)] : List ah)) 1 true]) kK (au ac (re (aB [0,1,5,6,7,24,25,26,27,28,29,30,31,32,33,34,35,36,37,38,39] [] [0,1,3] ae (rg (al ac (sv (ba ac) zZ (au ac (re (ge (wk [0,1,5,6,7] [] [(aj 2 2 1),(aw 0),(aw 1)] (cZ _ (by omega) _ ⟨iQ ++ ([(⟨(aa l0 fP).f0,(aa l0 fP).f1,(aa l0 fP).f2⟩ : ah)] : List ah),Wi,Vj,wrap64 (fP + 1),fB,H,zZ⟩)))))))))))))
    ·
     refine gf zZ (dF sC) (gs (rg (al ac (al ac (al ac (sv (aM 2 ag lR ju zZ) zZ (sv (bg (v := .agg #[.int .i64 ((aa l1 fB).f0),.int .i64 ((aa l1 fB).f1),.int .i64 ((aa l1 fB).f2)]) fB 0 (some 3) 2 cK zZ zZ zZ lR ju zZ zZ zZ) zZ (so zZ (bH (s := 3) (by_ := 24) ai ([(⟨(aa l1 fB).f0,(aa l1 fB).f1,(aa l1 fB).f2⟩ : ah)] : List ah) [[]] [] 2 [.tmp 54] dp dq zZ fun abm aat => ?_)))))))))
     revert H; refine aU ?_; intro tN H
     exact so zZ (di (k := ai) (s := 3) (by_ := 24) 0 3 ae (km tN dq) (iz tN dq) (.inl zZ) true (fun _ => .inl zZ) ac fun We Vd => (bR (en := [.sl 0 ai ay az l0 0 false,.sl 0 ai i9 i7 l1 0 false,.sl 2 ai abm aat ([(⟨(aa l1 fB).f0,(aa l1 fB).f1,(aa l1 fB).f2⟩ : ah)] : List ah) 2 true,.sl 2 ai We Vd (iQ ++ ([(⟨(aa l1 fB).f0,(aa l1 fB).f1,(aa l1 fB).f2⟩ : ah)] : List ah)) 1 true]) kK (au ac (re (aB [0,1,5,6,7,24,25,26,27,28,29,30,31,32,33,34,35,36,37,38,39] [] [0,1,3] ae (rg (al ac (sv (ba ac) zZ (au ac (re (ge (wk [0,1,5,6,7] [] [(aj 2 2 1),(aw 0),(aw 1)] (cZ _ (by omega) _ ⟨iQ ++ ([(⟨(aa l1 fB).f0,(aa l1 fB).f1,(aa l1 fB).f2⟩ : ah)] : List ah),We,Vd,fP,wrap64 (fB + 1),H,zZ⟩)))))))))))))
   ·
    refine ts 28 zZ (dF c9) (bv 10 [] [0,1,2] aG (bv 11 [] [0,1,2] aG (bv 12 [] [0,1,2] aG (bv 13 [] [0,1,2] aG (bv 14 [] [0,1,2] aG (bv 15 [] [0,1,2] aG (bv 16 [] [0,1,2] aG (bv 17 [] [0,1,2] aG (bv 18 [] [0,1,2] aG (bv 19 [] [0,1,2] aG (ap 20 [] [0,1,2] zZ (aI ag) ae (ap 21 [] [0,1,2] zZ (aI ag) ae (xd (aB [0,1,5,6,7,24,25,26,27,28,39,40] [] [0,1,2] ae (gf zZ zZ (gs (rg (al ac (al ac (al ac ?_))))))))))))))))))))
    revert H; refine aU ?_; intro xm H
    revert H; refine aU ?_; intro qy H
    refine sv (aM 2 ag xm qy zZ) zZ (sv (bg (v := .agg #[.int .i64 ((aa l1 fB).f0),.int .i64 ((aa l1 fB).f1),.int .i64 ((aa l1 fB).f2)]) fB 0 (some 3) 2 cK zZ zZ zZ xm qy zZ zZ zZ) zZ (so zZ (bH (s := 3) (by_ := 24) ai ([(⟨(aa l1 fB).f0,(aa l1 fB).f1,(aa l1 fB).f2⟩ : ah)] : List ah) [[]] [] 2 [.tmp 54] dp dq zZ fun abl aas => ?_)))
    revert H; refine aU ?_; intro GV H
    exact so zZ (di (k := ai) (s := 3) (by_ := 24) 0 3 ae (km GV dq) (iz GV dq) (.inl zZ) true (fun _ => .inl zZ) ac fun Wd Vc => (bR (en := [.sl 0 ai ay az l0 0 false,.sl 0 ai i9 i7 l1 0 false,.sl 2 ai abl aas ([(⟨(aa l1 fB).f0,(aa l1 fB).f1,(aa l1 fB).f2⟩ : ah)] : List ah) 2 true,.sl 2 ai Wd Vc (iQ ++ ([(⟨(aa l1 fB).f0,(aa l1 fB).f1,(aa l1 fB).f2⟩ : ah)] : List ah)) 1 true]) kK (au ac (re (aB [0,1,5,6,7,24,25,26,27,28,39] [] [0,1,3] ae (rg (al ac (sv (ba ac) zZ (au ac (re (ge (wk [0,1,5,6,7] [] [(aj 2 2 1),(aw 0),(aw 1)] (cZ _ (by omega) _ ⟨iQ ++ ([(⟨(aa l1 fB).f0,(aa l1 fB).f1,(aa l1 fB).f2⟩ : ah)] : List ah),Wd,Vc,fP,wrap64 (fB + 1),H,zZ⟩)))))))))))))
 ·
  refine gs (rg (al ac (al ac (sv (bG zZ) zZ (sv (bS ac) zZ (al ac ?_))))))
  revert H; refine aJ ?_ ?_ <;> intro AF H
  ·
   exact ts 13 zZ (dT AF) (sk zZ (sk zZ (sk zZ (sk zZ (sv (aQ ag) zZ (re (aB [0,1,5,6,7,18] [] [0,1,2] ae (gt zZ zZ (gk (wk [0,1,5,6,7] [] [(aj 0 2 1),(aw 1),(aw 2)] (gw _ ⟨_,nL,Mq,LH,mb,FO,by omega,H,zZ⟩)))))))))))
  ·
   refine ts 13 zZ (dF AF) (al ac (al ac (sv (bG zZ) zZ (sv (bS ac) zZ (sv (aI ag) zZ (re ?_))))))
   revert H; refine aJ ?_ ?_ <;> intro zX H
   ·
    exact gt zZ (dT zX) (gk (wk [0,1,5,6,7] [] [(aj 0 2 1),(aw 1),(aw 2)] (gw _ ⟨_,nL,Mq,LH,mb,FO,by omega,H,zZ⟩)))
   ·
    refine gf zZ (dF zX) (gx zZ (gs (rg (al ac (au ac (re (aB [4] [] [0] ae ?_)))))))
    cases H
    exact rt Tryz.func52 zZ (.tmp zZ .nil) zZ [] [(aj 0 2 1)] zZ zZ zZ zZ zZ ⟨_,_,zZ,zZ,zZ⟩
def eM.l0 : Nat → Int → (List ah) → (List ah) → Option (Bool)
 | 0,_,_,_ => none
 | k + 1,bW,l0,l1 => if bW < (l0.length : Int) then (if 0 ≤ bW then (if bW < (l1.length : Int) then (if (((aa l0 bW).f0) == ((aa l1 bW).f0) && (((aa l0 bW).f1) == ((aa l1 bW).f1) && (((aa l0 bW).f2) == ((aa l1 bW).f2)))) = true then (eM.l0 k (wrap64 (bW + 1)) l0 l1) else (some false)) else none) else none) else (some true)
def eM.f (k : Nat) (l0 : List ah) (l1 : List ah) : Option (Bool) := if (l0.length : Int) = (l1.length : Int) then (eM.l0 k 0 l0 l1) else (some false)
theorem eM.ok (k : Nat) (l0 : List ah) (ay : Option Addr) (az : Nat) (l1 : List ah) (i9 : Option Addr) (i7 : Nat) (r0 : Bool) (H : eM.f k l0 l1 = some r0) : Fn Tryz.prog 53 [.slice ay l0.length az,.slice i9 l1.length i7] [] [.sl 0 ai ay az l0 0 false,.sl 0 ai i9 i7 l1 0 false] (fun v bx en => v = .bool r0 ∧ bx = [] ∧ en = []) := by
 refine eD 26 Tryz.func53 zZ zZ zZ (fun base T w0 => ?_)
 rw [eM.f] at H
 refine gs (rg (au ac (re (gs (gs (rg (al ac (sv (bG zZ) zZ (al ac (sv (bG zZ) zZ (sv (lK zZ zZ) zZ (re ?_))))))))))))
 revert H; refine aJ ?_ ?_ <;> intro c1 H
 ·
  refine gf zZ (nF c1) (gk (gs (gs (rg (au ac (re (aB [0,1,5] [] [0,1] ae (gb ?_))))))))
  refine lo (fun kk S => ∃ (bW : Int),eM.l0 kk bW l0 l1 = some r0 ∧ S = ⟨[(0,.slice ay l0.length az),(1,.slice i9 l1.length i7),(5,.int .i64 bW)],[],[.sl 0 ai ay az l0 0 false,.sl 0 ai i9 i7 l1 0 false]⟩) (fun S hS => ?_) (fun n0 cZ S hS => ?_) ⟨0,H,zZ⟩ (fun h => wk [0,1,5] [] [(aw 0),(aw 1)] h)
  · clear H; obtain ⟨_,H,_⟩ := hS; rw [eM.l0] at H; cases H
  clear H
  obtain ⟨bW,H,rfl⟩ := hS
  rw [eM.l0] at H
  refine gs (gs (rg (al ac (al ac (sv (bG zZ) zZ (sv (bS ac) zZ (re ?_)))))))
  revert H; refine aJ ?_ ?_ <;> intro c2 H
  ·
   refine gt zZ (dT c2) (gk (gs (gb (gs ?_))))
   revert H; refine aU ?_; intro g3 H
   revert H; refine aU ?_; intro g4 H
   refine fj [] [0,1] [] 9 ae (ap 0 [] [0,1] zZ (aA zZ) ae (ap 1 [] [0,1] zZ (aA zZ) ae (ap 2 [] [0,1] zZ (aM 0 ag g3 c2 zZ) ae (ap 3 [] [0,1] zZ (bg (v := .agg #[.int .i64 ((aa l0 bW).f0),.int .i64 ((aa l0 bW).f1),.int .i64 ((aa l0 bW).f2)]) bW 0 (some 3) 0 cK zZ zZ zZ g3 c2 zZ zZ zZ) ae (ap 4 [] [0,1] zZ (aA zZ) ae (ap 5 [] [0,1] zZ (aA zZ) ae (ap 6 [] [0,1] zZ (aM 1 ag g3 g4 zZ) ae (ap 7 [] [0,1] zZ (bg (v := .agg #[.int .i64 ((aa l1 bW).f0),.int .i64 ((aa l1 bW).f1),.int .i64 ((aa l1 bW).f2)]) bW 0 (some 3) 1 cK zZ zZ zZ g3 g4 zZ zZ zZ) ae (ap 8 [] [0,1] zZ (Mo zZ zZ (fun d w => S2 d w ((aa l0 bW).f0) ((aa l1 bW).f0) ((aa l0 bW).f1) ((aa l1 bW).f1) ((aa l0 bW).f2) ((aa l1 bW).f2))) ae (xd (aB [0,1,5,25] [] [0,1] ae ?_)))))))))))
   revert H; refine aJ ?_ ?_ <;> intro c5 H
   ·
    exact gf zZ (bN c5) (gk (ge (rg (al ac (sv (ba ac) zZ (au ac (re (wk [0,1,5] [] [(aw 0),(aw 1)] (cZ _ (by omega) _ ⟨wrap64 (bW + 1),H,zZ⟩)))))))))
   ·
    refine gt zZ (bM c5) (gs (rg (au ac (re ?_))))
    cases H
    exact rt Tryz.func53 zZ (.tmp zZ .nil) zZ [] [] zZ zZ zZ zZ zZ ⟨zZ,zZ,zZ⟩
  ·
   refine gf zZ (dF c2) (gx zZ (gs (rg (au ac (re (aB [4] [] [] ae ?_))))))
   cases H
   exact rt Tryz.func53 zZ (.tmp zZ .nil) zZ [] [] zZ zZ zZ zZ zZ ⟨zZ,zZ,zZ⟩
 ·
  refine gt zZ (nT c1) (gs (rg (au ac (re (aB [4] [] [] ae ?_)))))
  cases H
  exact rt Tryz.func53 zZ (.tmp zZ .nil) zZ [] [] zZ zZ zZ zZ zZ ⟨zZ,zZ,zZ⟩
def dx.l0 : Nat → Int → Int → Int → Int → Int → Int → Int → (List ah) → (List ah) → (List ah) → (List ah) → (List aT) → Option (Bool)
 | 0,_,_,_,_,_,_,_,_,_,_,_,_ => none
 | k + 1,aY,bL,ir,gT,hU,lZ,pK,av,aP,aW,aO,aH => if bL < (aP.length : Int) then (if aY ≥ 0 then (if 0 ≤ bL then (if 0 ≤ aY then (if aY < (aO.length : Int) then ((cY.f k ((aa aP bL).f0) ((aa aP bL).f1) ((aa aP bL).f2) ((aa aO aY).f0) ((aa aO aY).f1) ((aa aO aY).f2)).bind fun w6 => (if w6 < 0 then (some false) else (dx.l0 k aY (wrap64 (bL + 1)) ir gT hU lZ pK av aP aW aO aH))) else none) else none) else none) else (dx.l0 k aY (wrap64 (bL + 1)) ir gT hU lZ pK av aP aW aO aH)) else (if lZ = 1 then ((ey.f k aH).bind fun Da => (if Da.length + aO.length ≤ 5864062014805 then (if (Da ++ aO).length + aP.length ≤ 5864062014805 then (if ((Da ++ aO) ++ aP).length + aW.length ≤ 5864062014805 then (if gT = 0 then (if hU = 0 then (if (aW.length : Int) = 0 then ((hI.f k av ir aP aW aO aH gT hU lZ pK).bind fun iT => (if iT ≤ 60 then (if 0 ≤ ir then (if ir ≤ (av.length : Int) then ((eN.f k (((Da ++ aO) ++ aP) ++ aW) (av.take ir.toNat)).bind fun t32 => (some t32)) else none) else none) else (some false))) else (if aY ≥ 0 then ((hI.f k av ir aP aW aO aH gT hU lZ pK).bind fun TD => (if TD ≤ 60 then (if 0 ≤ ir then (if ir ≤ (av.length : Int) then ((eN.f k (((Da ++ aO) ++ aP) ++ aW) (av.take ir.toNat)).bind fun N3 => (some N3)) else none) else none) else (some false))) else (some false))) else (some false)) else (some false)) else none) else none) else none)) else (if ir = (av.length : Int) then (if (wrap64 ((aP.length : Int) + (aW.length : Int))) > 0 then (some false) else (if lZ = 2 then (if (aH.length : Int) < 2 then (some false) else (if 0 < (aH.length : Int) then (if 1 < (aH.length : Int) then ((gO.f gT 0 (((aC aH 0).f0).length : Int)).bind fun t47 => (if t47 = true then ((gO.f hU 0 (((aC aH 1).f0).length : Int)).bind fun TC => (if TC = true then (if 0 ≤ gT then (if gT ≤ (((aC aH 0).f0).length : Int) then (if 0 ≤ hU then (if hU ≤ (((aC aH 1).f0).length : Int) then ((cI.f k (((aC aH 0).f0).take gT.toNat) (((aC aH 1).f0).take hU.toNat)).bind fun iS => (if 0 ≤ (wrap64 (gT + hU)) then ((cI.f k ((aC aH 0).f0) ((aC aH 1).f0)).bind fun TB => (if (wrap64 (gT + hU)) ≤ (TB.length : Int) then ((eM.f k aO (TB.take (wrap64 (gT + hU)).toNat)).bind fun TA => (if TA = true then ((eM.f k iS aO).bind fun t65 => (if t65 = true then ((ey.f k aH).bind fun Zf => ((eN.f k Zf av).bind fun t68 => (some t68))) else (some false))) else (some false))) else none)) else none)) else none) else none) else none) else none) else (some false))) else (some false))) else none) else none)) else (if (aH.length : Int) > 1 then (some false) else (if hU = 0 then (if (aO.length : Int) > 0 then (some false) else ((ey.f k aH).bind fun Ze => ((eN.f k Ze av).bind fun JI => (if JI = true then (if lZ = 3 then (if (aH.length : Int) = 1 then ((gO.f gT 0 (wrap64 ((av.length : Int) - 1))).bind fun Po => (some Po)) else (some false)) else (if lZ = 4 then (some (decide (gT = (av.length : Int)))) else (some false))) else (some false))))) else (some false))))) else (some false)))
def dx.f (k : Nat) (av : List ah) (aF : Int) (aP : List ah) (aW : List ah) (aO : List ah) (aH : List aT) (bD : Int) (bI : Int) (bK : Int) (bE : Int) : Option (Bool) := (dA.f k av).bind fun t1 => (if t1 = true then ((gO.f aF 0 (av.length : Int)).bind fun t3 => (if t3 = true then ((fd.f k aH).bind fun t5 => (if t5 = true then (if bE < 0 then (some false) else ((fQ.f k aO).bind fun t8 => (if t8 = true then (dx.l0 k (wrap64 ((aO.length : Int) - 1)) 0 aF bD bI bK bE av aP aW aO aH) else (some false)))) else (some false))) else (some false))) else (some false))
theorem dx.ok (k : Nat) (av : List ah) (aL : Option Addr) (aK : Nat) (aF : Int) (aP : List ah) (bB : Option Addr) (bA : Nat) (aW : List ah) (bm : Option Addr) (bk : Nat) (aO : List ah) (bo : Option Addr) (bn : Nat) (aH : List aT) (bl : Option Addr) (bj : Nat) (bD : Int) (bI : Int) (bK : Int) (bE : Int) (r0 : Bool) (H : dx.f k av aF aP aW aO aH bD bI bK bE = some r0) : Fn Tryz.prog 14 [.agg #[.slice aL av.length aK,.int .i64 aF,.slice bB aP.length bA,.slice bm aW.length bk,.slice bo aO.length bn,.slice bl aH.length bj,.int .i64 bD,.int .i64 bI,.int .i64 bK,.int .i64 bE]] [] [.sl 0 ai aL aK av 0 false,.sl 0 ai bB bA aP 0 false,.sl 0 ai bm bk aW 0 false,.sl 0 ai bo bn aO 0 false,.sl 0 aZ bl bj aH 0 false] (fun v bx en => v = .bool r0 ∧ bx = [] ∧ en = []) := by
 refine eD 260 Tryz.func14 zZ zZ zZ (fun base T w0 => ?_)
 rw [dx.f] at H
 refine gs (rg (so zZ (gU (cs := [.slice aL av.length aK,.int .i64 aF,.slice bB aP.length bA,.slice bm aW.length bk,.slice bo aO.length bn,.slice bl aH.length bj,.int .i64 bD,.int .i64 bI,.int .i64 bK,.int .i64 bE]) ag fun b1 => (au ac (re (gs (gs (rg (sv (aq 0 zZ) zZ (sv (am 0 none ag) zZ ?_))))))))))
 revert H; refine aS ?_; rintro t1 A1 H
 refine so zZ (ax (dA.ok k av aL aK _ A1) [(aw 0)] 1 aG ?_)
 rintro _ _ _ ⟨rfl,rfl,rfl⟩
 refine sv (eE zZ) zZ (al ac ?_)
 revert H; refine aJ ?_ ?_ <;> intro c2 H
 ·
  subst c2
  refine eq 11 ac (sv (aq 1 zZ) zZ (sv (am 0 none ag) zZ (sv (aq 0 zZ) zZ (sv (am 0 none ag) zZ (sv (bG zZ) zZ ?_)))))
  revert H; refine aS ?_; rintro t3 A3 H
  refine so zZ (ax (gO.ok aF 0 (av.length : Int) _ A3) [] 1 aG ?_)
  rintro _ _ _ ⟨rfl,rfl,rfl⟩
  refine sv (eE zZ) zZ (sv (aI ag) zZ (al ac ?_))
  revert H; refine aJ ?_ ?_ <;> intro c4 H
  ·
   subst c4
   refine eq 20 ac (sv (aq 5 zZ) zZ (sv (am 0 none ag) zZ ?_))
   revert H; refine aS ?_; rintro t5 A5 H
   refine so zZ (ax (fd.ok k aH bl bj _ A5) [(aw 4)] 1 aG ?_)
   rintro _ _ _ ⟨rfl,rfl,rfl⟩
   refine sv (eE zZ) zZ (sv (aI ag) zZ (al ac ?_))
   revert H; refine aJ ?_ ?_ <;> intro c6 H
   ·
    subst c6
    refine eq 26 ac (sv (aq 9 zZ) zZ (sv (am 0 none ag) zZ (sv (bS ac) zZ (sv (aI ag) zZ (al ac ?_)))))
    revert H; refine aJ ?_ ?_ <;> intro c7 H
    ·
     refine ts 31 zZ (dT c7) (sk zZ (sk zZ (sk zZ (sk zZ (sv (aQ ag) zZ (re (aB [1,36] [0] [0,1,2,3,4] ae (gt zZ zZ (gs (rg (au ac (re ?_))))))))))))
     cases H
     exact rt Tryz.func14 zZ (.tmp zZ .nil) zZ [] [] zZ zZ zZ zZ zZ ⟨zZ,zZ,zZ⟩
    ·
     refine ts 31 zZ (dF c7) (sv (aq 4 zZ) zZ (sv (am 0 none ag) zZ ?_))
     revert H; refine aS ?_; rintro t8 A8 H
     refine so zZ (ax (fQ.ok k aO bo bn _ A8) [(aw 3)] 1 aG ?_)
     rintro _ _ _ ⟨rfl,rfl,rfl⟩
     refine sv (eE zZ) zZ (sv (aI ag) zZ (re (aB [1,36] [0] [0,1,2,3,4] ae ?_)))
     revert H; refine aJ ?_ ?_ <;> intro c9 H
     ·
      subst c9
      refine gf zZ zZ (gk (gs (rg (sv (aq 4 zZ) zZ (sv (am 0 none ag) zZ (sv (bG zZ) zZ (sv (co ac) zZ (au ac (re (gs (gs (rg (au ac (re (gb ?_)))))))))))))))
      refine lo (fun kk S => ∃ (aY : Int) (bL : Int) (ir : Int) (gT : Int) (hU : Int) (lZ : Int) (pK : Int),dx.l0 kk aY bL ir gT hU lZ pK av aP aW aO aH = some r0 ∧ S = ⟨[(1,.pointer (some ⟨b1,0,none⟩)),(3,.int .i64 aY),(4,.int .i64 bL)],[⟨b1,27,[.slice aL av.length aK,.int .i64 ir,.slice bB aP.length bA,.slice bm aW.length bk,.slice bo aO.length bn,.slice bl aH.length bj,.int .i64 gT,.int .i64 hU,.int .i64 lZ,.int .i64 pK]⟩],[.sl 0 ai aL aK av 0 false,.sl 0 ai bB bA aP 0 false,.sl 0 ai bm bk aW 0 false,.sl 0 ai bo bn aO 0 false,.sl 0 aZ bl bj aH 0 false]⟩) (fun S hS => ?_) (fun n0 cZ S hS => ?_) ⟨wrap64 ((aO.length : Int) - 1),0,aF,bD,bI,bK,bE,H,zZ⟩ (fun h => wk [1,3,4] [0] [(aw 0),(aw 1),(aw 2),(aw 3),(aw 4)] h)
      · clear H; obtain ⟨_,_,_,_,_,_,_,H,_⟩ := hS; rw [dx.l0] at H; cases H
      clear H
      obtain ⟨aY,bL,ir,gT,hU,lZ,pK,H,rfl⟩ := hS
      rw [dx.l0] at H
      refine gs (gs (rg (al ac (sv (aq 2 zZ) zZ (sv (am 0 none ag) zZ (sv (bG zZ) zZ (sv (bS ac) zZ (re ?_))))))))
      revert H; refine aJ ?_ ?_ <;> intro lS H
      ·
       refine gt zZ (dT lS) (gk (gs (gb (gs ?_))))
       revert H; refine aJ ?_ ?_ <;> intro qR H
       ·
        revert H; refine aU ?_; intro ju H
        revert H; refine aU ?_; intro jQ H
        revert H; refine aU ?_; intro JU H
        refine fj [0] [0,1,2,3,4] [] 16 ae (ap 0 [0] [0,1,2,3,4] zZ (aA zZ) ae (ap 1 [0] [0,1,2,3,4] zZ (Ac zZ zZ) ae (ap 2 [0] [0,1,2,3,4] zZ (aA zZ) ae (ts 50 zZ (dT qR) (ap 3 [0] [0,1,2,3,4] zZ (aq 2 zZ) ae (ap 4 [0] [0,1,2,3,4] zZ (am 0 none ag) ae (ap 5 [0] [0,1,2,3,4] zZ (aA zZ) ae (ap 6 [0] [0,1,2,3,4] zZ (aM 1 ag ju lS zZ) ae (ap 7 [0] [0,1,2,3,4] zZ (bg (v := .agg #[.int .i64 ((aa aP bL).f0),.int .i64 ((aa aP bL).f1),.int .i64 ((aa aP bL).f2)]) bL 0 (some 3) 1 cK zZ zZ zZ ju lS zZ zZ zZ) ae (ap 8 [0] [0,1,2,3,4] zZ (aq 4 zZ) ae (ap 9 [0] [0,1,2,3,4] zZ (am 0 none ag) ae (ap 10 [0] [0,1,2,3,4] zZ (aA zZ) ae (ap 11 [0] [0,1,2,3,4] zZ (aM 3 ag jQ JU zZ) ae (ap 12 [0] [0,1,2,3,4] zZ (bg (v := .agg #[.int .i64 ((aa aO aY).f0),.int .i64 ((aa aO aY).f1),.int .i64 ((aa aO aY).f2)]) aY 0 (some 3) 3 cK zZ zZ zZ jQ JU zZ zZ zZ) ae (ar 13 ac ?_)))))))))))))))
        revert H; refine aS ?_; rintro w6 xP H
        refine ax (cY.ok n0 ((aa aP bL).f0) ((aa aP bL).f1) ((aa aP bL).f2) ((aa aO aY).f0) ((aa aO aY).f1) ((aa aO aY).f2) _ xP) [] 1 aG ?_
        rintro _ _ _ ⟨rfl,rfl,rfl⟩
        refine aN [0] [0,1,2,3,4] ag (ap 14 [0] [0,1,2,3,4] zZ (bS ac) ae (ap 15 [0] [0,1,2,3,4] zZ (aQ ag) ae (xd (aB [1,3,4,51,52,53,54,55,56,57,58,59,60,61,62,63] [0] [0,1,2,3,4] ae ?_))))
        revert H; refine aJ ?_ ?_ <;> intro zY H
        ·
         refine gt zZ (dT zY) (gs (rg (au ac (re (aB [2] [] [] ae ?_)))))
         cases H
         exact rt Tryz.func14 zZ (.tmp zZ .nil) zZ [] [] zZ zZ zZ zZ zZ ⟨zZ,zZ,zZ⟩
        ·
         exact gf zZ (dF zY) (gk (ge (rg (al ac (sv (ba ac) zZ (au ac (re (wk [1,3,4] [0] [(aw 0),(aw 1),(aw 2),(aw 3),(aw 4)] (cZ _ (by omega) _ ⟨aY,wrap64 (bL + 1),ir,gT,hU,lZ,pK,H,zZ⟩)))))))))
       ·
        exact fj [0] [0,1,2,3,4] [] 16 ae (ap 0 [0] [0,1,2,3,4] zZ (aA zZ) ae (ap 1 [0] [0,1,2,3,4] zZ (Ac zZ zZ) ae (ap 2 [0] [0,1,2,3,4] zZ (aA zZ) ae (ts 50 zZ (dF qR) (bv 3 [0] [0,1,2,3,4] aG (bv 4 [0] [0,1,2,3,4] aG (bv 5 [0] [0,1,2,3,4] aG (bv 6 [0] [0,1,2,3,4] aG (bv 7 [0] [0,1,2,3,4] aG (bv 8 [0] [0,1,2,3,4] aG (bv 9 [0] [0,1,2,3,4] aG (bv 10 [0] [0,1,2,3,4] aG (bv 11 [0] [0,1,2,3,4] aG (bv 12 [0] [0,1,2,3,4] aG (bv 13 [0] [0,1,2,3,4] aG (bv 14 [0] [0,1,2,3,4] aG (ap 15 [0] [0,1,2,3,4] zZ (aI ag) ae (xd (aB [1,3,4,63] [0] [0,1,2,3,4] ae (gf zZ zZ (gk (ge (rg (al ac (sv (ba ac) zZ (au ac (re (wk [1,3,4] [0] [(aw 0),(aw 1),(aw 2),(aw 3),(aw 4)] (cZ _ (by omega) _ ⟨aY,wrap64 (bL + 1),ir,gT,hU,lZ,pK,H,zZ⟩)))))))))))))))))))))))))))))
      ·
       refine gf zZ (dF lS) (gx zZ (gs (gs (rg (sv (aq 8 zZ) zZ (sv (am 0 none ag) zZ (sv (bZ ac) zZ (re (aB [1,3,66] [0] [0,1,2,3,4] ae ?_)))))))))
       revert H; refine aJ ?_ ?_ <;> intro Dm H
       ·
        refine gt zZ (dT Dm) (gs (fj [0] [0,1,2,3,4] [12] 13 ae (ap 0 [0] [0,1,2,3,4] zZ (aq 5 zZ) ae (ap 1 [0] [0,1,2,3,4] zZ (am 0 none ag) ae (ap 3 [0] [0,1,2,3,4] zZ (aq 4 zZ) ae (ap 4 [0] [0,1,2,3,4] zZ (am 0 none ag) ae (ap 6 [0] [0,1,2,3,4] zZ (aq 2 zZ) ae (ap 7 [0] [0,1,2,3,4] zZ (am 0 none ag) ae (ap 9 [0] [0,1,2,3,4] zZ (aq 3 zZ) ae (ap 10 [0] [0,1,2,3,4] zZ (am 0 none ag) ae (ar 2 ac ?_)))))))))))
        revert H; refine aS ?_; rintro Da MW H
        refine ax (ey.ok n0 aH bl bj _ MW) [(aw 4)] 1 aG ?_
        rintro _ _ _ ⟨ahR,ahP,rfl,rfl,rfl⟩
        refine aN [0] [0,1,2,3,4] ag (ar 5 ac ?_)
        revert H; refine aU ?_; intro tN H
        refine di (k := ai) (s := 3) (by_ := 24) 5 3 ae (JY tN dq) (Du tN dq) (.inl zZ) true (fun _ => .inl zZ) ac fun abf aar => (bR (en := [.sl 0 ai aL aK av 0 false,.sl 0 ai bB bA aP 0 false,.sl 0 ai bm bk aW 0 false,.sl 0 ai bo bn aO 0 false,.sl 0 aZ bl bj aH 0 false,.sl 2 ai abf aar (Da ++ aO) 2 true]) kK (aN [0] [0,1,2,3,4] ag (ar 8 ac ?_)))
        revert H; refine aU ?_; intro xm H
        refine di (k := ai) (s := 3) (by_ := 24) 5 1 ae (JY xm dq) (Du xm dq) (.inl zZ) true (fun _ => .inl zZ) ac fun abe aaq => (bR (en := [.sl 0 ai aL aK av 0 false,.sl 0 ai bB bA aP 0 false,.sl 0 ai bm bk aW 0 false,.sl 0 ai bo bn aO 0 false,.sl 0 aZ bl bj aH 0 false,.sl 2 ai abe aaq ((Da ++ aO) ++ aP) 2 true]) kK (aN [0] [0,1,2,3,4] ag (ar 11 ac ?_)))
        revert H; refine aU ?_; intro PW H
        refine di (k := ai) (s := 3) (by_ := 24) 5 2 ae (JY PW dq) (Du PW dq) (.inl zZ) true (fun _ => .inl zZ) ac fun Q9 Qx => (bR (en := [.sl 0 ai aL aK av 0 false,.sl 0 ai bB bA aP 0 false,.sl 0 ai bm bk aW 0 false,.sl 0 ai bo bn aO 0 false,.sl 0 aZ bl bj aH 0 false,.sl 2 ai Q9 Qx (((Da ++ aO) ++ aP) ++ aW) 2 true]) kK (aN [0] [0,1,2,3,4] ag (ar 12 ac (ov (gE zZ) zZ (xn zZ (xd (aB [1,3,5] [0] [0,1,2,3,4,5] ae (gs (rg (sv (aq 6 zZ) zZ (sv (am 0 none ag) zZ (sv (bZ ac) zZ (al ac ?_)))))))))))))
        revert H; refine aJ ?_ ?_ <;> intro Dl H
        ·
         refine ts 82 zZ (dT Dl) (sv (aq 7 zZ) zZ (sv (am 0 none ag) zZ (sv (bZ ac) zZ (sv (aQ ag) zZ (al ac ?_)))))
         revert H; refine aJ ?_ ?_ <;> intro AF H
         ·
          refine ts 87 zZ (dT AF) (sv (aq 3 zZ) zZ (sv (am 0 none ag) zZ (sv (bG zZ) zZ (sv (bZ ac) zZ (al ac ?_)))))
          revert H; refine aJ ?_ ?_ <;> intro zX H
          ·
           refine ts 92 zZ (dT zX) (sk zZ (sk zZ (sv (aQ ag) zZ (sv (aQ ag) zZ (al ac (sv (am (v := .agg #[.slice aL av.length aK,.int .i64 ir,.slice bB aP.length bA,.slice bm aW.length bk,.slice bo aO.length bn,.slice bl aH.length bj,.int .i64 gT,.int .i64 hU,.int .i64 lZ,.int .i64 pK]) 0 (some 10) ag) zZ ?_))))))
           revert H; refine aS ?_; rintro iT J3 H
           refine so zZ (ax (hI.ok n0 av aL aK ir aP bB bA aW bm bk aO bo bn aH bl bj gT hU lZ pK _ J3) [(aw 0),(aw 1),(aw 2),(aw 3),(aw 4)] 3 aG ?_)
           rintro _ _ _ ⟨rfl,rfl,rfl⟩
           refine sv (jv ac) zZ (sv (aQ ag) zZ (al ac ?_))
           revert H; refine aJ ?_ ?_ <;> intro Ox H
           ·
            refine ts 102 zZ (dT Ox) (al ac (sv (aq 0 zZ) zZ (sv (am 0 none ag) zZ (sv (aq 1 zZ) zZ (sv (am 0 none ag) zZ ?_)))))
            revert H; refine aU ?_; intro xl H
            revert H; refine aU ?_; intro Uv H
            refine oY (l' := av.take ir.toNat) 0 ir 0 zZ (Int.le_refl 0) xl Uv zZ 0 dq (.inr zZ) zZ (sv (lL 0 ir 0 zZ zZ zZ zZ (Int.le_refl 0) xl Uv zZ zZ yr) zZ ?_)
            revert H; refine aS ?_; rintro t32 A32 H
            refine so zZ (ax (eN.ok n0 (((Da ++ aO) ++ aP) ++ aW) Q9 Qx (av.take ir.toNat) (je aL aK (0 : Int).toNat 3) (aK - (0 : Int).toNat) _ A32) [(aw 5),(aw 6)] 3 aG ?_)
            rintro _ _ _ ⟨rfl,rfl,rfl⟩
            refine sv (aQ ag) zZ (au ac (re (aB [2] [] [] ae ?_)))
            cases H
            exact rt Tryz.func14 zZ (.tmp zZ .nil) zZ [] [] zZ zZ zZ zZ zZ ⟨zZ,zZ,zZ⟩
           ·
            refine ts 102 zZ (dF Ox) (sk zZ (sk zZ (sk zZ (sk zZ (sk zZ (sk zZ (sk zZ (sv (aI ag) zZ (au ac (re (aB [2] [] [] ae ?_)))))))))))
            cases H
            exact rt Tryz.func14 zZ (.tmp zZ .nil) zZ [] [] zZ zZ zZ zZ zZ ⟨zZ,zZ,zZ⟩
          ·
           refine ts 92 zZ (dF zX) (al ac (sv (Ac zZ zZ) zZ (sv (aI ag) zZ (sv (aQ ag) zZ (al ac ?_)))))
           revert H; refine aJ ?_ ?_ <;> intro Ov H
           ·
            refine ts 97 zZ (dT Ov) (sv (am (v := .agg #[.slice aL av.length aK,.int .i64 ir,.slice bB aP.length bA,.slice bm aW.length bk,.slice bo aO.length bn,.slice bl aH.length bj,.int .i64 gT,.int .i64 hU,.int .i64 lZ,.int .i64 pK]) 0 (some 10) ag) zZ ?_)
            revert H; refine aS ?_; rintro TD A34 H
            refine so zZ (ax (hI.ok n0 av aL aK ir aP bB bA aW bm bk aO bo bn aH bl bj gT hU lZ pK _ A34) [(aw 0),(aw 1),(aw 2),(aw 3),(aw 4)] 3 aG ?_)
            rintro _ _ _ ⟨rfl,rfl,rfl⟩
            refine sv (jv ac) zZ (sv (aQ ag) zZ (al ac ?_))
            revert H; refine aJ ?_ ?_ <;> intro Vv H
            ·
             refine ts 102 zZ (dT Vv) (al ac (sv (aq 0 zZ) zZ (sv (am 0 none ag) zZ (sv (aq 1 zZ) zZ (sv (am 0 none ag) zZ ?_)))))
             revert H; refine aU ?_; intro Ur H
             revert H; refine aU ?_; intro Oh H
             refine oY (l' := av.take ir.toNat) 0 ir 0 zZ (Int.le_refl 0) Ur Oh zZ 0 dq (.inr zZ) zZ (sv (lL 0 ir 0 zZ zZ zZ zZ (Int.le_refl 0) Ur Oh zZ zZ yr) zZ ?_)
             revert H; refine aS ?_; rintro N3 MU H
             refine so zZ (ax (eN.ok n0 (((Da ++ aO) ++ aP) ++ aW) Q9 Qx (av.take ir.toNat) (je aL aK (0 : Int).toNat 3) (aK - (0 : Int).toNat) _ MU) [(aw 5),(aw 6)] 3 aG ?_)
             rintro _ _ _ ⟨rfl,rfl,rfl⟩
             refine sv (aQ ag) zZ (au ac (re (aB [2] [] [] ae ?_)))
             cases H
             exact rt Tryz.func14 zZ (.tmp zZ .nil) zZ [] [] zZ zZ zZ zZ zZ ⟨zZ,zZ,zZ⟩
            ·
             refine ts 102 zZ (dF Vv) (sk zZ (sk zZ (sk zZ (sk zZ (sk zZ (sk zZ (sk zZ (sv (aI ag) zZ (au ac (re (aB [2] [] [] ae ?_)))))))))))
             cases H
             exact rt Tryz.func14 zZ (.tmp zZ .nil) zZ [] [] zZ zZ zZ zZ zZ ⟨zZ,zZ,zZ⟩
           ·
            refine ts 97 zZ (dF Ov) (sk zZ (sk zZ (sk zZ (sv (aI ag) zZ (al ac (sk zZ (sk zZ (sk zZ (sk zZ (sk zZ (sk zZ (sk zZ (sv (aI ag) zZ (au ac (re (aB [2] [] [] ae ?_))))))))))))))))
            cases H
            exact rt Tryz.func14 zZ (.tmp zZ .nil) zZ [] [] zZ zZ zZ zZ zZ ⟨zZ,zZ,zZ⟩
         ·
          refine ts 87 zZ (dF AF) (sk zZ (sk zZ (sk zZ (sk zZ (sk zZ (sk zZ (sk zZ (sk zZ (sv (aI ag) zZ (al ac (sk zZ (sk zZ (sk zZ (sv (aI ag) zZ (al ac (sk zZ (sk zZ (sk zZ (sk zZ (sk zZ (sk zZ (sk zZ (sv (aI ag) zZ (au ac (re (aB [2] [] [] ae ?_))))))))))))))))))))))))))
          cases H
          exact rt Tryz.func14 zZ (.tmp zZ .nil) zZ [] [] zZ zZ zZ zZ zZ ⟨zZ,zZ,zZ⟩
        ·
         refine ts 82 zZ (dF Dl) (sk zZ (sk zZ (sk zZ (sv (aI ag) zZ (al ac (sk zZ (sk zZ (sk zZ (sk zZ (sk zZ (sk zZ (sk zZ (sk zZ (sv (aI ag) zZ (al ac (sk zZ (sk zZ (sk zZ (sv (aI ag) zZ (al ac (sk zZ (sk zZ (sk zZ (sk zZ (sk zZ (sk zZ (sk zZ (sv (aI ag) zZ (au ac ?_)))))))))))))))))))))))))))))
         refine re (aB [2] [] [] ae ?_)
         cases H
         exact rt Tryz.func14 zZ (.tmp zZ .nil) zZ [] [] zZ zZ zZ zZ zZ ⟨zZ,zZ,zZ⟩
       ·
        refine gf zZ (dF Dm) (gk (gs (gs (rg (sv (aq 1 zZ) zZ (sv (am 0 none ag) zZ (sv (aq 0 zZ) zZ (sv (am 0 none ag) zZ (sv (bG zZ) zZ (sv (lK zZ zZ) zZ (al ac ?_)))))))))))
        revert H; refine aJ ?_ ?_ <;> intro H2 H
        ·
         refine ts 117 zZ (nF H2) (sv (aq 2 zZ) zZ (sv (am 0 none ag) zZ (sv (bG zZ) zZ (sv (aq 3 zZ) zZ (sv (am 0 none ag) zZ (sv (bG zZ) zZ (sv (ba ac) zZ (sv (dV ac) zZ (sv (aI ag) zZ (re (aB [1,126] [0] [0,1,2,3,4] ae ?_)))))))))))
         revert H; refine aJ ?_ ?_ <;> intro zW H
         ·
          refine gt zZ (dT zW) (gs (rg (au ac (re ?_))))
          cases H
          exact rt Tryz.func14 zZ (.tmp zZ .nil) zZ [] [] zZ zZ zZ zZ zZ ⟨zZ,zZ,zZ⟩
         ·
          refine gf zZ (dF zW) (gk (gs (gs (rg (sv (aq 8 zZ) zZ (sv (am 0 none ag) zZ (sv (bZ ac) zZ (re ?_))))))))
          revert H; refine aJ ?_ ?_ <;> intro H1 H
          ·
           refine gt zZ (dT H1) (gs (gs ?_))
           revert H; refine aJ ?_ ?_ <;> intro Vp H
           ·
            refine fj [0] [0,1,2,3,4] [] 28 ae (ap 0 [0] [0,1,2,3,4] zZ (aq 5 zZ) ae (ap 1 [0] [0,1,2,3,4] zZ (am 0 none ag) ae (ap 2 [0] [0,1,2,3,4] zZ (bG zZ) ae (ap 3 [0] [0,1,2,3,4] zZ (bS ac) ae (ap 4 [0] [0,1,2,3,4] zZ (aA zZ) ae (ts 134 zZ (dT Vp) (bv 5 [0] [0,1,2,3,4] aG (bv 6 [0] [0,1,2,3,4] aG (bv 7 [0] [0,1,2,3,4] aG (bv 8 [0] [0,1,2,3,4] aG (bv 9 [0] [0,1,2,3,4] aG (bv 10 [0] [0,1,2,3,4] aG (bv 11 [0] [0,1,2,3,4] aG (bv 12 [0] [0,1,2,3,4] aG (bv 13 [0] [0,1,2,3,4] aG (bv 14 [0] [0,1,2,3,4] aG (ap 15 [0] [0,1,2,3,4] zZ (aQ ag) ae (ap 16 [0] [0,1,2,3,4] zZ (aA zZ) ae (bv 17 [0] [0,1,2,3,4] aG (bv 18 [0] [0,1,2,3,4] aG (bv 19 [0] [0,1,2,3,4] aG (bv 20 [0] [0,1,2,3,4] aG (bv 21 [0] [0,1,2,3,4] aG (bv 22 [0] [0,1,2,3,4] aG (bv 23 [0] [0,1,2,3,4] aG (bv 24 [0] [0,1,2,3,4] aG (bv 25 [0] [0,1,2,3,4] aG (bv 26 [0] [0,1,2,3,4] aG (ap 27 [0] [0,1,2,3,4] zZ (aQ ag) ae ?_)))))))))))))))))))))))))))))
            refine xd (aB [1,157] [0] [0,1,2,3,4] ae (gt zZ zZ (gs (rg (au ac (re ?_))))))
            cases H
            exact rt Tryz.func14 zZ (.tmp zZ .nil) zZ [] [] zZ zZ zZ zZ zZ ⟨zZ,zZ,zZ⟩
           ·
            revert H; refine aU ?_; intro oW H
            refine qt (i := 0) 4 n5 zZ dq oW fun afR afF => ?_
            revert H; refine aU ?_; intro RH H
            refine qt (i := 1) 4 n5 zZ dq RH fun afQ afE => (fj [0] [0,1,2,3,4,5,6,7,8] [] 28 ae (ap 0 [0] [0,1,2,3,4,5,6,7,8] zZ (aq 5 zZ) ae (ap 1 [0] [0,1,2,3,4,5,6,7,8] zZ (am 0 none ag) ae (ap 2 [0] [0,1,2,3,4,5,6,7,8] zZ (bG zZ) ae (ap 3 [0] [0,1,2,3,4,5,6,7,8] zZ (bS ac) ae (ap 4 [0] [0,1,2,3,4,5,6,7,8] zZ (aA zZ) ae (ts 134 zZ (dF Vp) (ap 5 [0] [0,1,2,3,4,5,6,7,8] zZ (aq 6 zZ) ae (ap 6 [0] [0,1,2,3,4,5,6,7,8] zZ (am 0 none ag) ae (ap 7 [0] [0,1,2,3,4,5,6,7,8] zZ (aq 5 zZ) ae (ap 8 [0] [0,1,2,3,4,5,6,7,8] zZ (am 0 none ag) ae (ap 9 [0] [0,1,2,3,4,5,6,7,8] zZ (aM 4 ag dq oW zZ) ae (ap 10 [0] [0,1,2,3,4,5,6,7,8] zZ (aq 0 zZ) ae (ap 11 [0] [0,1,2,3,4,5,6,7,8] zZ (ig (v := .slice afR ((aC aH 0).f0).length afF) 0 none 5 ae) ae (ap 12 [0] [0,1,2,3,4,5,6,7,8] zZ (bG zZ) ae (ar 13 ac ?_))))))))))))))))
            revert H; refine aS ?_; rintro t47 R6 H
            refine ax (gO.ok gT 0 (((aC aH 0).f0).length : Int) _ R6) [] 1 aG ?_
            rintro _ _ _ ⟨rfl,rfl,rfl⟩
            refine aN [0] [0,1,2,3,4,5,6,7,8] ag (ap 14 [0] [0,1,2,3,4,5,6,7,8] zZ (eE zZ) ae (ap 15 [0] [0,1,2,3,4,5,6,7,8] zZ (aI ag) ae (ap 16 [0] [0,1,2,3,4,5,6,7,8] zZ (aA zZ) ae ?_)))
            revert H; refine aJ ?_ ?_ <;> intro Vi H
            ·
             subst Vi
             refine eq 146 ac (ap 17 [0] [0,1,2,3,4,5,6,7,8] zZ (aq 7 zZ) ae (ap 18 [0] [0,1,2,3,4,5,6,7,8] zZ (am 0 none ag) ae (ap 19 [0] [0,1,2,3,4,5,6,7,8] zZ (aq 5 zZ) ae (ap 20 [0] [0,1,2,3,4,5,6,7,8] zZ (am 0 none ag) ae (ap 21 [0] [0,1,2,3,4,5,6,7,8] zZ (aM 4 ag dq RH zZ) ae (ap 22 [0] [0,1,2,3,4,5,6,7,8] zZ (aq 0 zZ) ae (ap 23 [0] [0,1,2,3,4,5,6,7,8] zZ (ig (v := .slice afQ ((aC aH 1).f0).length afE) 0 none 7 ae) ae (ap 24 [0] [0,1,2,3,4,5,6,7,8] zZ (bG zZ) ae (ar 25 ac ?_)))))))))
             revert H; refine aS ?_; rintro TC Wg H
             refine ax (gO.ok hU 0 (((aC aH 1).f0).length : Int) _ Wg) [] 1 aG ?_
             rintro _ _ _ ⟨rfl,rfl,rfl⟩
             refine aN [0] [0,1,2,3,4,5,6,7,8] ag (ap 26 [0] [0,1,2,3,4,5,6,7,8] zZ (eE zZ) ae (ap 27 [0] [0,1,2,3,4,5,6,7,8] zZ (aI ag) ae (xd (aB [1,157] [0] [0,1,2,3,4] ae ?_))))
             revert H; refine aJ ?_ ?_ <;> intro c50 H
             ·
              subst c50
              refine gf zZ zZ (gk (gs (qt (i := 0) 4 n5 zZ dq oW fun aa6 WY => ?_)))
              revert H; refine aU ?_; intro HP H
              revert H; refine aU ?_; intro Og H
              refine qt (i := 1) 4 n5 zZ dq RH fun aa5 WX => ?_
              revert H; refine aU ?_; intro Un H
              revert H; refine aU ?_; intro g56 H
              refine fj [0] [0,1,2,3,4,5,6,7,8] [] 18 ae (ap 0 [0] [0,1,2,3,4,5,6,7,8] zZ (aq 5 zZ) ae (ap 1 [0] [0,1,2,3,4,5,6,7,8] zZ (am 0 none ag) ae (ap 2 [0] [0,1,2,3,4,5,6,7,8] zZ (aM 4 ag dq oW zZ) ae (ap 3 [0] [0,1,2,3,4,5,6,7,8] zZ (aq 0 zZ) ae (ap 4 [0] [0,1,2,3,4,5,6,7,8] zZ (ig (v := .slice aa6 ((aC aH 0).f0).length WY) 0 none 5 ae) ae (ap 5 [0] [0,1,2,3,4,5,6,7,8] zZ (aq 6 zZ) ae (ap 6 [0] [0,1,2,3,4,5,6,7,8] zZ (am 0 none ag) ae (oY (l' := ((aC aH 0).f0).take gT.toNat) 0 gT 6 zZ (Int.le_refl 0) HP Og zZ 0 dq (.inr zZ) zZ (ap 7 [0] [0,1,2,3,4,5,6,7,8] zZ (lL 0 gT 6 zZ zZ zZ zZ (Int.le_refl 0) HP Og zZ zZ yr) ae (ap 8 [0] [0,1,2,3,4,5,6,7,8] zZ (aq 5 zZ) ae (ap 9 [0] [0,1,2,3,4,5,6,7,8] zZ (am 0 none ag) ae (ap 10 [0] [0,1,2,3,4,5,6,7,8] zZ (aM 4 ag dq RH zZ) ae (ap 11 [0] [0,1,2,3,4,5,6,7,8] zZ (aq 0 zZ) ae (ap 12 [0] [0,1,2,3,4,5,6,7,8] zZ (ig (v := .slice aa5 ((aC aH 1).f0).length WX) 0 none 7 ae) ae (ap 13 [0] [0,1,2,3,4,5,6,7,8] zZ (aq 7 zZ) ae (ap 14 [0] [0,1,2,3,4,5,6,7,8] zZ (am 0 none ag) ae (oY (l' := ((aC aH 1).f0).take hU.toNat) 0 hU 8 zZ (Int.le_refl 0) Un g56 zZ 0 dq (.inr zZ) zZ (ap 15 [0] [0,1,2,3,4,5,6,7,8] zZ (lL 0 hU 8 zZ zZ zZ zZ (Int.le_refl 0) Un g56 zZ zZ yr) ae (ar 16 ac ?_)))))))))))))))))))
              revert H; refine aS ?_; rintro iS G3 H
              refine ax (cI.ok n0 (((aC aH 0).f0).take gT.toNat) (je aa6 WY (0 : Int).toNat 3) (WY - (0 : Int).toNat) (((aC aH 1).f0).take hU.toNat) (je aa5 WX (0 : Int).toNat 3) (WX - (0 : Int).toNat) _ G3) [(aw 9),(aw 10)] 1 aG ?_
              rintro _ _ _ ⟨W0,S6,rfl,rfl,rfl⟩
              refine aN [0] [0,1,2,3,4,5,6,7,8] ag (ap 17 [0] [0,1,2,3,4,5,6,7,8] zZ (gE zZ) ae (xd (aB [1,6] [0] [0,1,2,3,4,11] ae (gs (qt (i := 0) 4 n5 zZ dq oW fun aa4 aak => (qt (i := 1) 4 n5 zZ dq RH fun aa3 aaj => ?_))))))
              revert H; refine aU ?_; intro g60 H
              refine fj [0] [0,1,2,3,4,5,6,7,8,9] [] 35 ae (ap 0 [0] [0,1,2,3,4,5,6,7,8,9] zZ (aq 4 zZ) ae (ap 1 [0] [0,1,2,3,4,5,6,7,8,9] zZ (am 0 none ag) ae (ap 2 [0] [0,1,2,3,4,5,6,7,8,9] zZ (aq 5 zZ) ae (ap 3 [0] [0,1,2,3,4,5,6,7,8,9] zZ (am 0 none ag) ae (ap 4 [0] [0,1,2,3,4,5,6,7,8,9] zZ (aM 4 ag dq oW zZ) ae (ap 5 [0] [0,1,2,3,4,5,6,7,8,9] zZ (aq 0 zZ) ae (ap 6 [0] [0,1,2,3,4,5,6,7,8,9] zZ (ig (v := .slice aa4 ((aC aH 0).f0).length aak) 0 none 6 ae) ae (ap 7 [0] [0,1,2,3,4,5,6,7,8,9] zZ (aq 5 zZ) ae (ap 8 [0] [0,1,2,3,4,5,6,7,8,9] zZ (am 0 none ag) ae (ap 9 [0] [0,1,2,3,4,5,6,7,8,9] zZ (aM 4 ag dq RH zZ) ae (ap 10 [0] [0,1,2,3,4,5,6,7,8,9] zZ (aq 0 zZ) ae (ap 11 [0] [0,1,2,3,4,5,6,7,8,9] zZ (ig (v := .slice aa3 ((aC aH 1).f0).length aaj) 0 none 8 ae) ae (ap 13 [0] [0,1,2,3,4,5,6,7,8,9] zZ (aq 6 zZ) ae (ap 14 [0] [0,1,2,3,4,5,6,7,8,9] zZ (am 0 none ag) ae (ap 15 [0] [0,1,2,3,4,5,6,7,8,9] zZ (aq 7 zZ) ae (ap 16 [0] [0,1,2,3,4,5,6,7,8,9] zZ (am 0 none ag) ae (ap 17 [0] [0,1,2,3,4,5,6,7,8,9] zZ (ba ac) ae (ar 12 ac ?_))))))))))))))))))
              revert H; refine aS ?_; rintro TB A61 H
              refine ax (cI.ok n0 ((aC aH 0).f0) aa4 aak ((aC aH 1).f0) aa3 aaj _ A61) [(aw 7),(aw 9)] 3 aG ?_
              rintro _ _ _ ⟨afM,aag,rfl,rfl,rfl⟩
              refine aN [0] [0,1,2,3,4,5,6,7,8,9] ag (ar 18 ac ?_)
              revert H; refine aU ?_; intro JP H
              refine oY (l' := TB.take (wrap64 (gT + hU)).toNat) 0 (wrap64 (gT + hU)) 10 zZ (Int.le_refl 0) g60 JP zZ 2 dq (.inr zZ) zZ (ov (lL 0 (wrap64 (gT + hU)) 10 zZ zZ zZ zZ (Int.le_refl 0) g60 JP zZ zZ yr) zZ (aN [0] [0,1,2,3,4,5,6,7,8,9] ag (ar 19 ac ?_)))
              revert H; refine aS ?_; rintro TA A63 H
              refine ax (eM.ok n0 aO bo bn (TB.take (wrap64 (gT + hU)).toNat) (je afM aag (0 : Int).toNat 3) (aag - (0 : Int).toNat) _ A63) [(aw 3),(aw 11)] 5 aG ?_
              rintro _ _ _ ⟨rfl,rfl,rfl⟩
              refine aN [0] [0,1,2,3,4,5,6,7,8,9] ag (ap 20 [0] [0,1,2,3,4,5,6,7,8,9] zZ (aA zZ) ae ?_)
              revert H; refine aJ ?_ ?_ <;> intro Ot H
              ·
               subst Ot
               refine eq 195 ac (ap 21 [0] [0,1,2,3,4,5,6,7,8,9] zZ (aA zZ) ae (ap 22 [0] [0,1,2,3,4,5,6,7,8,9] zZ (aq 4 zZ) ae (ap 23 [0] [0,1,2,3,4,5,6,7,8,9] zZ (am 0 none ag) ae (ar 24 ac ?_))))
               revert H; refine aS ?_; rintro t65 A65 H
               refine ax (eM.ok n0 iS W0 S6 aO bo bn _ A65) [(aw 5),(aw 3)] 5 aG ?_
               rintro _ _ _ ⟨rfl,rfl,rfl⟩
               refine aN [0] [0,1,2,3,4,5,6,7,8,9] ag (ap 25 [0] [0,1,2,3,4,5,6,7,8,9] zZ (aQ ag) ae (ap 26 [0] [0,1,2,3,4,5,6,7,8,9] zZ (aA zZ) ae ?_))
               revert H; refine aJ ?_ ?_ <;> intro Va H
               ·
                subst Va
                refine eq 201 ac (ap 27 [0] [0,1,2,3,4,5,6,7,8,9] zZ (aq 5 zZ) ae (ap 28 [0] [0,1,2,3,4,5,6,7,8,9] zZ (am 0 none ag) ae (ap 30 [0] [0,1,2,3,4,5,6,7,8,9] zZ (aq 0 zZ) ae (ap 31 [0] [0,1,2,3,4,5,6,7,8,9] zZ (am 0 none ag) ae (ar 29 ac ?_)))))
                revert H; refine aS ?_; rintro Zf A67 H
                refine ax (ey.ok n0 aH bl bj _ A67) [(aw 4)] 5 aG ?_
                rintro _ _ _ ⟨afL,afA,rfl,rfl,rfl⟩
                refine aN [0] [0,1,2,3,4,5,6,7,8,9] ag (ar 32 ac ?_)
                revert H; refine aS ?_; rintro t68 Wb H
                refine ax (eN.ok n0 Zf afL afA av aL aK _ Wb) [(aw 12),(aw 0)] 7 aG ?_
                rintro _ _ _ ⟨rfl,rfl,rfl⟩
                refine aN [0] [0,1,2,3,4,5,6,7,8,9] ag (ap 33 [0] [0,1,2,3,4,5,6,7,8,9] zZ (aQ ag) ae (ap 34 [0] [0,1,2,3,4,5,6,7,8,9] zZ (gE zZ) ae (xd (aB [2] [] [] ae ?_))))
                cases H
                exact rt Tryz.func14 zZ (.tmp zZ .nil) zZ [] [] zZ zZ zZ zZ zZ ⟨zZ,zZ,zZ⟩
               ·
                have xc66 := bF Va; subst xc66
                refine eq 201 ac (bv 27 [0] [0,1,2,3,4,5,6,7,8,9] aG (bv 28 [0] [0,1,2,3,4,5,6,7,8,9] aG (bv 30 [0] [0,1,2,3,4,5,6,7,8,9] aG (bv 31 [0] [0,1,2,3,4,5,6,7,8,9] aG (bv 29 [0] [0,1,2,3,4,5,6,7,8,9] aG (bv 32 [0] [0,1,2,3,4,5,6,7,8,9] aG (ap 33 [0] [0,1,2,3,4,5,6,7,8,9] zZ (aI ag) ae (ap 34 [0] [0,1,2,3,4,5,6,7,8,9] zZ (gE zZ) ae (xd (aB [2] [] [] ae ?_))))))))))
                cases H
                exact rt Tryz.func14 zZ (.tmp zZ .nil) zZ [] [] zZ zZ zZ zZ zZ ⟨zZ,zZ,zZ⟩
              ·
               have xc64 := bF Ot; subst xc64
               refine eq 195 ac (bv 21 [0] [0,1,2,3,4,5,6,7,8,9] aG (bv 22 [0] [0,1,2,3,4,5,6,7,8,9] aG (bv 23 [0] [0,1,2,3,4,5,6,7,8,9] aG (bv 24 [0] [0,1,2,3,4,5,6,7,8,9] aG (ap 25 [0] [0,1,2,3,4,5,6,7,8,9] zZ (aI ag) ae (ap 26 [0] [0,1,2,3,4,5,6,7,8,9] zZ (aA zZ) ae (bv 27 [0] [0,1,2,3,4,5,6,7,8,9] aG (bv 28 [0] [0,1,2,3,4,5,6,7,8,9] aG (bv 30 [0] [0,1,2,3,4,5,6,7,8,9] aG (bv 31 [0] [0,1,2,3,4,5,6,7,8,9] aG (bv 29 [0] [0,1,2,3,4,5,6,7,8,9] aG (bv 32 [0] [0,1,2,3,4,5,6,7,8,9] aG (ap 33 [0] [0,1,2,3,4,5,6,7,8,9] zZ (aI ag) ae (ap 34 [0] [0,1,2,3,4,5,6,7,8,9] zZ (gE zZ) ae (xd (aB [2] [] [] ae ?_))))))))))))))))
               cases H
               exact rt Tryz.func14 zZ (.tmp zZ .nil) zZ [] [] zZ zZ zZ zZ zZ ⟨zZ,zZ,zZ⟩
             ·
              have xc50 := bF c50; subst xc50
              refine gt zZ zZ (gs (rg (au ac (re ?_))))
              cases H
              exact rt Tryz.func14 zZ (.tmp zZ .nil) zZ [] [] zZ zZ zZ zZ zZ ⟨zZ,zZ,zZ⟩
            ·
             have xc48 := bF Vi; subst xc48
             refine eq 146 ac (bv 17 [0] [0,1,2,3,4,5,6,7,8] aG (bv 18 [0] [0,1,2,3,4,5,6,7,8] aG (bv 19 [0] [0,1,2,3,4,5,6,7,8] aG (bv 20 [0] [0,1,2,3,4,5,6,7,8] aG (bv 21 [0] [0,1,2,3,4,5,6,7,8] aG (bv 22 [0] [0,1,2,3,4,5,6,7,8] aG (bv 23 [0] [0,1,2,3,4,5,6,7,8] aG (bv 24 [0] [0,1,2,3,4,5,6,7,8] aG (bv 25 [0] [0,1,2,3,4,5,6,7,8] aG (bv 26 [0] [0,1,2,3,4,5,6,7,8] aG (ap 27 [0] [0,1,2,3,4,5,6,7,8] zZ (aQ ag) ae (xd (aB [1,157] [0] [0,1,2,3,4] ae (gt zZ zZ (gs (rg (au ac (re ?_))))))))))))))))))
             cases H
             exact rt Tryz.func14 zZ (.tmp zZ .nil) zZ [] [] zZ zZ zZ zZ zZ ⟨zZ,zZ,zZ⟩
          ·
           refine gf zZ (dF H1) (gk (gs (gs ?_)))
           revert H; refine aJ ?_ ?_ <;> intro JX H
           ·
            refine fj [0] [0,1,2,3,4] [] 24 ae (ap 0 [0] [0,1,2,3,4] zZ (aq 5 zZ) ae (ap 1 [0] [0,1,2,3,4] zZ (am 0 none ag) ae (ap 2 [0] [0,1,2,3,4] zZ (bG zZ) ae (ap 3 [0] [0,1,2,3,4] zZ (dV ac) ae (ap 4 [0] [0,1,2,3,4] zZ (aA zZ) ae (ts 213 zZ (dT JX) (bv 5 [0] [0,1,2,3,4] aG (bv 6 [0] [0,1,2,3,4] aG (bv 7 [0] [0,1,2,3,4] aG (ap 8 [0] [0,1,2,3,4] zZ (aQ ag) ae (ap 9 [0] [0,1,2,3,4] zZ (aA zZ) ae (bv 10 [0] [0,1,2,3,4] aG (bv 11 [0] [0,1,2,3,4] aG (bv 12 [0] [0,1,2,3,4] aG (bv 13 [0] [0,1,2,3,4] aG (ap 14 [0] [0,1,2,3,4] zZ (aQ ag) ae (ap 15 [0] [0,1,2,3,4] zZ (aA zZ) ae (bv 16 [0] [0,1,2,3,4] aG (bv 17 [0] [0,1,2,3,4] aG (bv 19 [0] [0,1,2,3,4] aG (bv 20 [0] [0,1,2,3,4] aG (bv 18 [0] [0,1,2,3,4] aG (bv 21 [0] [0,1,2,3,4] aG (bv 22 [0] [0,1,2,3,4] aG (ap 23 [0] [0,1,2,3,4] zZ (aQ ag) ae (xd (aB [1,232] [0] [0,1,2,3,4] ae (gt zZ zZ (gs ?_)))))))))))))))))))))))))))))
            refine rg (au ac (re ?_))
            cases H
            exact rt Tryz.func14 zZ (.tmp zZ .nil) zZ [] [] zZ zZ zZ zZ zZ ⟨zZ,zZ,zZ⟩
           ·
            revert H; refine aJ ?_ ?_ <;> intro RO H
            ·
             revert H; refine aJ ?_ ?_ <;> intro U8 H
             ·
              refine fj [0] [0,1,2,3,4] [] 24 ae (ap 0 [0] [0,1,2,3,4] zZ (aq 5 zZ) ae (ap 1 [0] [0,1,2,3,4] zZ (am 0 none ag) ae (ap 2 [0] [0,1,2,3,4] zZ (bG zZ) ae (ap 3 [0] [0,1,2,3,4] zZ (dV ac) ae (ap 4 [0] [0,1,2,3,4] zZ (aA zZ) ae (ts 213 zZ (dF JX) (ap 5 [0] [0,1,2,3,4] zZ (aq 7 zZ) ae (ap 6 [0] [0,1,2,3,4] zZ (am 0 none ag) ae (ap 7 [0] [0,1,2,3,4] zZ (lK zZ zZ) ae (ap 8 [0] [0,1,2,3,4] zZ (aI ag) ae (ap 9 [0] [0,1,2,3,4] zZ (aA zZ) ae (ts 218 zZ (nF RO) (ap 10 [0] [0,1,2,3,4] zZ (aq 4 zZ) ae (ap 11 [0] [0,1,2,3,4] zZ (am 0 none ag) ae (ap 12 [0] [0,1,2,3,4] zZ (bG zZ) ae (ap 13 [0] [0,1,2,3,4] zZ (dV ac) ae (ap 14 [0] [0,1,2,3,4] zZ (aI ag) ae (ap 15 [0] [0,1,2,3,4] zZ (aA zZ) ae (ts 224 zZ (dT U8) (bv 16 [0] [0,1,2,3,4] aG (bv 17 [0] [0,1,2,3,4] aG (bv 19 [0] [0,1,2,3,4] aG (bv 20 [0] [0,1,2,3,4] aG (bv 18 [0] [0,1,2,3,4] aG (bv 21 [0] [0,1,2,3,4] aG (bv 22 [0] [0,1,2,3,4] aG (ap 23 [0] [0,1,2,3,4] zZ (aQ ag) ae (xd (aB [1,232] [0] [0,1,2,3,4] ae ?_)))))))))))))))))))))))))))))
              refine gt zZ zZ (gs (rg (au ac (re ?_))))
              cases H
              exact rt Tryz.func14 zZ (.tmp zZ .nil) zZ [] [] zZ zZ zZ zZ zZ ⟨zZ,zZ,zZ⟩
             ·
              refine fj [0] [0,1,2,3,4] [] 24 ae (ap 0 [0] [0,1,2,3,4] zZ (aq 5 zZ) ae (ap 1 [0] [0,1,2,3,4] zZ (am 0 none ag) ae (ap 2 [0] [0,1,2,3,4] zZ (bG zZ) ae (ap 3 [0] [0,1,2,3,4] zZ (dV ac) ae (ap 4 [0] [0,1,2,3,4] zZ (aA zZ) ae (ts 213 zZ (dF JX) (ap 5 [0] [0,1,2,3,4] zZ (aq 7 zZ) ae (ap 6 [0] [0,1,2,3,4] zZ (am 0 none ag) ae (ap 7 [0] [0,1,2,3,4] zZ (lK zZ zZ) ae (ap 8 [0] [0,1,2,3,4] zZ (aI ag) ae (ap 9 [0] [0,1,2,3,4] zZ (aA zZ) ae (ts 218 zZ (nF RO) (ap 10 [0] [0,1,2,3,4] zZ (aq 4 zZ) ae (ap 11 [0] [0,1,2,3,4] zZ (am 0 none ag) ae (ap 12 [0] [0,1,2,3,4] zZ (bG zZ) ae (ap 13 [0] [0,1,2,3,4] zZ (dV ac) ae (ap 14 [0] [0,1,2,3,4] zZ (aI ag) ae (ap 15 [0] [0,1,2,3,4] zZ (aA zZ) ae (ts 224 zZ (dF U8) (ap 16 [0] [0,1,2,3,4] zZ (aq 5 zZ) ae (ap 17 [0] [0,1,2,3,4] zZ (am 0 none ag) ae (ap 19 [0] [0,1,2,3,4] zZ (aq 0 zZ) ae (ap 20 [0] [0,1,2,3,4] zZ (am 0 none ag) ae (ar 18 ac ?_))))))))))))))))))))))))
              revert H; refine aS ?_; rintro Ze A72 H
              refine ax (ey.ok n0 aH bl bj _ A72) [(aw 4)] 1 aG ?_
              rintro _ _ _ ⟨afK,afz,rfl,rfl,rfl⟩
              refine aN [0] [0,1,2,3,4] ag (ar 21 ac ?_)
              revert H; refine aS ?_; rintro JI Wa H
              refine ax (eN.ok n0 Ze afK afz av aL aK _ Wa) [(aw 5),(aw 0)] 3 aG ?_
              rintro _ _ _ ⟨rfl,rfl,rfl⟩
              refine aN [0] [0,1,2,3,4] ag (ap 22 [0] [0,1,2,3,4] zZ (eE zZ) ae (ap 23 [0] [0,1,2,3,4] zZ (aI ag) ae (xd (aB [1,232] [0] [0,1,2,3,4] ae ?_))))
              revert H; refine aJ ?_ ?_ <;> intro U7 H
              ·
               subst U7
               refine gf zZ zZ (gk (gs (gs (rg (sv (aq 8 zZ) zZ (sv (am 0 none ag) zZ (sv (bZ ac) zZ (re ?_))))))))
               revert H; refine aJ ?_ ?_ <;> intro c75 H
               ·
                refine gt zZ (dT c75) (gs (rg (sv (aq 5 zZ) zZ (sv (am 0 none ag) zZ (sv (bG zZ) zZ (sv (bZ ac) zZ (al ac ?_)))))))
                revert H; refine aJ ?_ ?_ <;> intro U6 H
                ·
                 refine ts 240 zZ (dT U6) (sv (aq 6 zZ) zZ (sv (am 0 none ag) zZ (sv (aq 0 zZ) zZ (sv (am 0 none ag) zZ (sv (bG zZ) zZ (sv (co ac) zZ ?_))))))
                 revert H; refine aS ?_; rintro Po A77 H
                 refine so zZ (ax (gO.ok gT 0 (wrap64 ((av.length : Int) - 1)) _ A77) [] 1 aG ?_)
                 rintro _ _ _ ⟨rfl,rfl,rfl⟩
                 refine sv (aQ ag) zZ (au ac (re (aB [2] [] [] ae ?_)))
                 cases H
                 exact rt Tryz.func14 zZ (.tmp zZ .nil) zZ [] [] zZ zZ zZ zZ zZ ⟨zZ,zZ,zZ⟩
                ·
                 refine ts 240 zZ (dF U6) (sk zZ (sk zZ (sk zZ (sk zZ (sk zZ (sk zZ (sk zZ (sv (aI ag) zZ (au ac (re (aB [2] [] [] ae ?_)))))))))))
                 cases H
                 exact rt Tryz.func14 zZ (.tmp zZ .nil) zZ [] [] zZ zZ zZ zZ zZ ⟨zZ,zZ,zZ⟩
               ·
                refine gf zZ (dF c75) (gk (gs (rg (sv (aq 8 zZ) zZ (sv (am 0 none ag) zZ (sv (bZ ac) zZ (al ac ?_)))))))
                revert H; refine aJ ?_ ?_ <;> intro Oq H
                ·
                 refine ts 252 zZ (dT Oq) (sv (aq 6 zZ) zZ (sv (am 0 none ag) zZ (sv (aq 0 zZ) zZ (sv (am 0 none ag) zZ (sv (bG zZ) zZ (sv (bZ ac) zZ (sv (aQ ag) zZ (au ac (re (aB [2] [] [] ae ?_))))))))))
                 cases H
                 exact rt Tryz.func14 zZ (.tmp zZ .nil) zZ [] [] zZ zZ zZ zZ zZ ⟨zZ,zZ,zZ⟩
                ·
                 refine ts 252 zZ (dF Oq) (sk zZ (sk zZ (sk zZ (sk zZ (sk zZ (sk zZ (sv (aI ag) zZ (au ac (re (aB [2] [] [] ae ?_))))))))))
                 cases H
                 exact rt Tryz.func14 zZ (.tmp zZ .nil) zZ [] [] zZ zZ zZ zZ zZ ⟨zZ,zZ,zZ⟩
              ·
               have xc74 := bF U7; subst xc74
               refine gt zZ zZ (gs (rg (au ac (re ?_))))
               cases H
               exact rt Tryz.func14 zZ (.tmp zZ .nil) zZ [] [] zZ zZ zZ zZ zZ ⟨zZ,zZ,zZ⟩
            ·
             refine fj [0] [0,1,2,3,4] [] 24 ae (ap 0 [0] [0,1,2,3,4] zZ (aq 5 zZ) ae (ap 1 [0] [0,1,2,3,4] zZ (am 0 none ag) ae (ap 2 [0] [0,1,2,3,4] zZ (bG zZ) ae (ap 3 [0] [0,1,2,3,4] zZ (dV ac) ae (ap 4 [0] [0,1,2,3,4] zZ (aA zZ) ae (ts 213 zZ (dF JX) (ap 5 [0] [0,1,2,3,4] zZ (aq 7 zZ) ae (ap 6 [0] [0,1,2,3,4] zZ (am 0 none ag) ae (ap 7 [0] [0,1,2,3,4] zZ (lK zZ zZ) ae (ap 8 [0] [0,1,2,3,4] zZ (aI ag) ae (ap 9 [0] [0,1,2,3,4] zZ (aA zZ) ae (ts 218 zZ (nT RO) (bv 10 [0] [0,1,2,3,4] aG (bv 11 [0] [0,1,2,3,4] aG (bv 12 [0] [0,1,2,3,4] aG (bv 13 [0] [0,1,2,3,4] aG (ap 14 [0] [0,1,2,3,4] zZ (aQ ag) ae (ap 15 [0] [0,1,2,3,4] zZ (aA zZ) ae (bv 16 [0] [0,1,2,3,4] aG (bv 17 [0] [0,1,2,3,4] aG (bv 19 [0] [0,1,2,3,4] aG (bv 20 [0] [0,1,2,3,4] aG (bv 18 [0] [0,1,2,3,4] aG (bv 21 [0] [0,1,2,3,4] aG (bv 22 [0] [0,1,2,3,4] aG (ap 23 [0] [0,1,2,3,4] zZ (aQ ag) ae (xd (aB [1,232] [0] [0,1,2,3,4] ae (gt zZ zZ ?_)))))))))))))))))))))))))))))
             refine gs (rg (au ac (re ?_)))
             cases H
             exact rt Tryz.func14 zZ (.tmp zZ .nil) zZ [] [] zZ zZ zZ zZ zZ ⟨zZ,zZ,zZ⟩
        ·
         refine ts 117 zZ (nT H2) (sk zZ (sk zZ (sk zZ (sk zZ (sk zZ (sk zZ (sk zZ (sk zZ (sv (aQ ag) zZ (re (aB [1,126] [0] [0,1,2,3,4] ae (gt zZ zZ (gs (rg (au ac (re ?_))))))))))))))))
         cases H
         exact rt Tryz.func14 zZ (.tmp zZ .nil) zZ [] [] zZ zZ zZ zZ zZ ⟨zZ,zZ,zZ⟩
     ·
      have xc9 := bF c9; subst xc9
      refine gt zZ zZ (gs (rg (au ac (re ?_))))
      cases H
      exact rt Tryz.func14 zZ (.tmp zZ .nil) zZ [] [] zZ zZ zZ zZ zZ ⟨zZ,zZ,zZ⟩
   ·
    have xc6 := bF c6; subst xc6
    refine eq 26 ac (sk zZ (sk zZ (sk zZ (sv (aQ ag) zZ (al ac (sk zZ (sk zZ (sk zZ (sk zZ (sv (aQ ag) zZ (re (aB [1,36] [0] [0,1,2,3,4] ae (gt zZ zZ (gs (rg (au ac (re ?_)))))))))))))))))
    cases H
    exact rt Tryz.func14 zZ (.tmp zZ .nil) zZ [] [] zZ zZ zZ zZ zZ ⟨zZ,zZ,zZ⟩
  ·
   have xc4 := bF c4; subst xc4
   refine eq 20 ac (sk zZ (sk zZ (sk zZ (sk zZ (sv (aQ ag) zZ (al ac (sk zZ (sk zZ (sk zZ (sv (aQ ag) zZ (al ac (sk zZ (sk zZ (sk zZ (sk zZ (sv (aQ ag) zZ (re (aB [1,36] [0] [0,1,2,3,4] ae (gt zZ zZ (gs (rg (au ac (re ?_)))))))))))))))))))))))
   cases H
   exact rt Tryz.func14 zZ (.tmp zZ .nil) zZ [] [] zZ zZ zZ zZ zZ ⟨zZ,zZ,zZ⟩
 ·
  have xc2 := bF c2; subst xc2
  refine eq 11 ac (sk zZ (sk zZ (sk zZ (sk zZ (sk zZ (sk zZ (sk zZ (sv (aQ ag) zZ (al ac (sk zZ (sk zZ (sk zZ (sk zZ (sv (aQ ag) zZ (al ac (sk zZ (sk zZ (sk zZ (sv (aQ ag) zZ (al ac (sk zZ (sk zZ (sk zZ (sk zZ (sv (aQ ag) zZ (re (aB [1,36] [0] [0,1,2,3,4] ae (gt zZ zZ (gs ?_)))))))))))))))))))))))))))))
  refine rg (au ac (re ?_))
  cases H
  exact rt Tryz.func14 zZ (.tmp zZ .nil) zZ [] [] zZ zZ zZ zZ zZ ⟨zZ,zZ,zZ⟩
def ic.l0 : Nat → (List aT) → Int → (List aT) → Option ((List aT))
 | 0,_,_,_ => none
 | k + 1,aY,bL,l0 => if bL < (l0.length : Int) then (if 0 ≤ bL then (if ((aC l0 bL).f0).length ≤ 5864062014805 then (if aY.length < 5864062014805 then (ic.l0 k (aY ++ ([(⟨(aC l0 bL).f0⟩ : aT)] : List aT)) (wrap64 (bL + 1)) l0) else none) else none) else none) else (some aY)
def ic.f (k : Nat) (l0 : List aT) : Option ((List aT)) := ic.l0 k [] 0 l0
theorem ic.ok (k : Nat) (l0 : List aT) (ay : Option Addr) (az : Nat) (r0 : List aT) (H : ic.f k l0 = some r0) : Fn Tryz.prog 90 [.slice ay l0.length az] [] [.sl 0 aZ ay az l0 0 false] (fun v bx en => ∃ A0 c0,v = .slice A0 r0.length c0 ∧ bx = [] ∧ en = [.sl 2 aZ A0 c0 r0 1 true]) := by
 refine eD 24 Tryz.func90 zZ zZ zZ (fun base T w0 => ?_)
 rw [ic.f] at H
 refine gs (rg (au ac (re (gs (rg (so zZ (bH (s := 1) (by_ := 24) aZ ([] : List aT) [] [] 1 [] dp dq zZ fun Tm Tb => (au ac (re (gs (gs (rg (au ac (re (gb ?_)))))))))))))))
 refine lo (fun kk S => ∃ (aY : List aT) (i0 : Option Addr) (iV : Nat) (bL : Int),ic.l0 kk aY bL l0 = some r0 ∧ S = ⟨[(0,.slice ay l0.length az),(3,.slice i0 aY.length iV),(4,.int .i64 bL)],[],[.sl 2 aZ i0 iV aY 1 true,.sl 0 aZ ay az l0 0 false]⟩) (fun S hS => ?_) (fun n0 cZ S hS => ?_) ⟨[],Tm,Tb,0,H,zZ⟩ (fun h => wk [0,3,4] [] [(aj 1 2 1),(aw 0)] h)
 · clear H; obtain ⟨_,_,_,_,H,_⟩ := hS; rw [ic.l0] at H; cases H
 clear H
 obtain ⟨aY,i0,iV,bL,H,rfl⟩ := hS
 rw [ic.l0] at H
 refine gs (gs (rg (al ac (al ac (sv (bG zZ) zZ (sv (bS ac) zZ (re ?_)))))))
 revert H; refine aJ ?_ ?_ <;> intro c2 H
 ·
  refine gt zZ (dT c2) (gk (gs (gb (rg (al ac (so zZ (bH (s := 3) (by_ := 24) ai ([] : List ah) [] [] 2 [] dp dq zZ fun Ph Pe => (al ac (al ac ?_)))))))))
  revert H; refine aU ?_; intro g4 H
  refine sv (aM 1 ag g4 c2 zZ) zZ (sv (aq 0 zZ) zZ (qt (i := bL) 1 n5 zZ g4 c2 fun oB oA => (sv (ig (v := .slice oB ((aC l0 bL).f0).length oA) 0 none 3 ae) zZ ?_)))
  revert H; refine aU ?_; intro g6 H
  refine so zZ (di (k := ai) (s := 3) (by_ := 24) 2 4 ae (Mm g6 dq) (GB g6 dq) (.inl zZ) true (fun _ => .inl zZ) ac fun MV Md => (bR (en := [.sl 2 aZ i0 iV aY 1 true,.sl 0 aZ ay az l0 0 false,yu ay (bL.toNat * 1) [.slice oB ((aC l0 bL).f0).length oA] 0,.sl 0 ai oB oA ((aC l0 bL).f0) 0 false,.sl 2 ai MV Md ((aC l0 bL).f0) 2 true]) kK (sv (gu (v := .agg #[.slice MV ((aC l0 bL).f0).length Md]) zZ kK) zZ (so zZ (bH (s := 1) (by_ := 24) aZ ([(⟨(aC l0 bL).f0⟩ : aT)] : List aT) [[(MV,Md)]] [4] 3 [.tmp 20] dp dq zZ fun GN Gt => (bR (en := [.sl 2 aZ i0 iV aY 1 true,.sl 0 aZ ay az l0 0 false,yu ay (bL.toNat * 1) [.slice oB ((aC l0 bL).f0).length oA] 0,.sl 0 ai oB oA ((aC l0 bL).f0) 0 false,.sl 2 ai MV Md ((aC l0 bL).f0) 3 true,.sl 2 aZ GN Gt ([(⟨(aC l0 bL).f0⟩ : aT)] : List aT) 3 true]) kK ?_))))))
  revert H; refine aU ?_; intro g9 H
  exact so zZ (di (k := aZ) (s := 1) (by_ := 24) 0 5 ae (km g9 dq) (iz g9 dq) (.inr ⟨dq,dq,zZ,dq⟩) true (fun _ => .inr ⟨zZ,zZ,dq⟩) ac fun Wt VC => (bR (en := [.sl 0 aZ ay az l0 0 false,yu ay (bL.toNat * 1) [.slice oB ((aC l0 bL).f0).length oA] 0,.sl 0 ai oB oA ((aC l0 bL).f0) 0 false,.sl 2 ai MV Md ((aC l0 bL).f0) 1 true,.sl 2 aZ GN Gt ([(⟨(aC l0 bL).f0⟩ : aT)] : List aT) 1 true,.sl 2 aZ Wt VC (aY ++ ([(⟨(aC l0 bL).f0⟩ : aT)] : List aT)) 1 true]) kK (au ac (re (aB [0,3,4] [] [0,5] ae (ge (rg (al ac (sv (ba ac) zZ (au ac (re (wk [0,3,4] [] [(aj 1 2 1),(aw 0)] (cZ _ (by omega) _ ⟨aY ++ ([(⟨(aC l0 bL).f0⟩ : aT)] : List aT),Wt,VC,wrap64 (bL + 1),H,zZ⟩)))))))))))))
 ·
  refine gf zZ (dF c2) (gx zZ (gs (rg (al ac (au ac (re (aB [2] [] [0] ae ?_)))))))
  cases H
  exact rt Tryz.func90 zZ (.tmp zZ .nil) zZ [] [(aj 0 2 1)] zZ zZ zZ zZ zZ ⟨_,_,zZ,zZ,zZ⟩
def mR.f (k : Nat) (av : List ah) (aF : Int) (aP : List ah) (aW : List ah) (aO : List ah) (aH : List aT) (bD : Int) (bI : Int) (bK : Int) (bE : Int) : Option ((List ah) × Int × (List ah) × (List ah) × (List ah) × (List aT) × Int × Int × Int × Int) := if av.length ≤ 5864062014805 then (if aP.length ≤ 5864062014805 then (if aW.length ≤ 5864062014805 then (if aO.length ≤ 5864062014805 then ((ic.f k aH).bind fun vJ => (some (av,aF,aP,aW,aO,vJ,bD,bI,bK,bE))) else none) else none) else none) else none
theorem mR.ok (k : Nat) (av : List ah) (aL : Option Addr) (aK : Nat) (aF : Int) (aP : List ah) (bB : Option Addr) (bA : Nat) (aW : List ah) (bm : Option Addr) (bk : Nat) (aO : List ah) (bo : Option Addr) (bn : Nat) (aH : List aT) (bl : Option Addr) (bj : Nat) (bD : Int) (bI : Int) (bK : Int) (bE : Int) (r0 : List ah) (r1 : Int) (r2 : List ah) (r3 : List ah) (r4 : List ah) (r5 : List aT) (r6 : Int) (r7 : Int) (r8 : Int) (r9 : Int) (H : mR.f k av aF aP aW aO aH bD bI bK bE = some (r0,r1,r2,r3,r4,r5,r6,r7,r8,r9)) : Fn Tryz.prog 41 [.agg #[.slice aL av.length aK,.int .i64 aF,.slice bB aP.length bA,.slice bm aW.length bk,.slice bo aO.length bn,.slice bl aH.length bj,.int .i64 bD,.int .i64 bI,.int .i64 bK,.int .i64 bE]] [] [.sl 0 ai aL aK av 0 false,.sl 0 ai bB bA aP 0 false,.sl 0 ai bm bk aW 0 false,.sl 0 ai bo bn aO 0 false,.sl 0 aZ bl bj aH 0 false] (fun v bx en => ∃ A0 c0 A2 c2 A3 c3 A4 c4 A5 c5,v = .agg #[.slice A0 r0.length c0,.int .i64 r1,.slice A2 r2.length c2,.slice A3 r3.length c3,.slice A4 r4.length c4,.slice A5 r5.length c5,.int .i64 r6,.int .i64 r7,.int .i64 r8,.int .i64 r9] ∧ bx = [] ∧ en = [.sl 2 ai A0 c0 r0 1 true,.sl 2 ai A2 c2 r2 2 true,.sl 2 ai A3 c3 r3 3 true,.sl 2 ai A4 c4 r4 4 true,.sl 2 aZ A5 c5 r5 5 true]) := by
 refine eD 30 Tryz.func41 zZ zZ zZ (fun base T w0 => ?_)
 rw [mR.f] at H
 refine gs (rg (so zZ (gU (cs := [.slice aL av.length aK,.int .i64 aF,.slice bB aP.length bA,.slice bm aW.length bk,.slice bo aO.length bn,.slice bl aH.length bj,.int .i64 bD,.int .i64 bI,.int .i64 bK,.int .i64 bE]) ag fun b1 => (so zZ (dk (cs := [.slice none 0 0,.int .i64 0,.slice none 0 0,.slice none 0 0,.slice none 0 0,.slice none 0 0,.int .i64 0,.int .i64 0,.int .i64 0,.int .i64 0]) kK zZ fun b2 => (re (gs (rg (sv (am (v := .agg #[.slice aL av.length aK,.int .i64 aF,.slice bB aP.length bA,.slice bm aW.length bk,.slice bo aO.length bn,.slice bl aH.length bj,.int .i64 bD,.int .i64 bI,.int .i64 bK,.int .i64 bE]) 0 (some 10) ag) zZ (so zZ (dk (cs := [.slice none 0 0,.int .i64 0,.slice none 0 0,.slice none 0 0,.slice none 0 0,.slice none 0 0,.int .i64 0,.int .i64 0,.int .i64 0,.int .i64 0]) kK zZ fun b3 => (so zZ (aD (cs' := [.slice aL av.length aK,.int .i64 aF,.slice bB aP.length bA,.slice bm aW.length bk,.slice bo aO.length bn,.slice bl aH.length bj,.int .i64 bD,.int .i64 bI,.int .i64 bK,.int .i64 bE]) 2 bh (re (gs (rg (so zZ (bH (s := 3) (by_ := 24) ai ([] : List ah) [] [] 1 [] dp dq zZ fun Tm Tb => (sv (aq 0 zZ) zZ (sv (am 0 none ag) zZ ?_))))))))))))))))))))
 revert H; refine aU ?_; intro g2 H
 refine so zZ (di (k := ai) (s := 3) (by_ := 24) 5 0 ae (Mm g2 dq) (GB g2 dq) (.inl zZ) true (fun _ => .inl zZ) ac fun At Am => (bR (en := [.sl 0 ai aL aK av 0 false,.sl 0 ai bB bA aP 0 false,.sl 0 ai bm bk aW 0 false,.sl 0 ai bo bn aO 0 false,.sl 0 aZ bl bj aH 0 false,.sl 2 ai At Am av 1 true]) kK (sv (aq 0 zZ) zZ (so zZ (aD (cs' := [.slice At av.length Am,.int .i64 aF,.slice bB aP.length bA,.slice bm aW.length bk,.slice bo aO.length bn,.slice bl aH.length bj,.int .i64 bD,.int .i64 bI,.int .i64 bK,.int .i64 bE]) 2 bh (re (aB [1,2,3] [0,1,2] [0,1,2,3,4,5] ae (gs (rg (so zZ (bH (s := 3) (by_ := 24) ai ([] : List ah) [] [] 2 [] dp dq zZ fun ahJ ahy => (sv (aq 2 zZ) zZ (sv (am 0 none ag) zZ ?_)))))))))))))
 revert H; refine aU ?_; intro g5 H
 refine so zZ (di (k := ai) (s := 3) (by_ := 24) 6 1 ae (Mm g5 dq) (GB g5 dq) (.inl zZ) true (fun _ => .inl zZ) ac fun Ba AY => (bR (en := [.sl 0 ai aL aK av 0 false,.sl 0 ai bB bA aP 0 false,.sl 0 ai bm bk aW 0 false,.sl 0 ai bo bn aO 0 false,.sl 0 aZ bl bj aH 0 false,.sl 2 ai At Am av 1 true,.sl 2 ai Ba AY aP 2 true]) kK (sv (aq 2 zZ) zZ (so zZ (aD (cs' := [.slice At av.length Am,.int .i64 aF,.slice Ba aP.length AY,.slice bm aW.length bk,.slice bo aO.length bn,.slice bl aH.length bj,.int .i64 bD,.int .i64 bI,.int .i64 bK,.int .i64 bE]) 2 bh (re (gs (rg (so zZ (bH (s := 3) (by_ := 24) ai ([] : List ah) [] [] 3 [] dp dq zZ fun MZ Mh => (sv (aq 3 zZ) zZ (sv (am 0 none ag) zZ ?_))))))))))))
 revert H; refine aU ?_; intro g8 H
 refine so zZ (di (k := ai) (s := 3) (by_ := 24) 7 2 ae (Mm g8 dq) (GB g8 dq) (.inl zZ) true (fun _ => .inl zZ) ac fun yW yU => (bR (en := [.sl 0 ai aL aK av 0 false,.sl 0 ai bB bA aP 0 false,.sl 0 ai bm bk aW 0 false,.sl 0 ai bo bn aO 0 false,.sl 0 aZ bl bj aH 0 false,.sl 2 ai At Am av 1 true,.sl 2 ai Ba AY aP 2 true,.sl 2 ai yW yU aW 3 true]) kK (sv (aq 3 zZ) zZ (so zZ (aD (cs' := [.slice At av.length Am,.int .i64 aF,.slice Ba aP.length AY,.slice yW aW.length yU,.slice bo aO.length bn,.slice bl aH.length bj,.int .i64 bD,.int .i64 bI,.int .i64 bK,.int .i64 bE]) 2 bh (re (aB [1,2,3] [0,1,2] [0,1,2,3,4,5,6,7] ae (gs (rg (so zZ (bH (s := 3) (by_ := 24) ai ([] : List ah) [] [] 4 [] dp dq zZ fun ahc agD => (sv (aq 4 zZ) zZ (sv (am 0 none ag) zZ ?_)))))))))))))
 revert H; refine aU ?_; intro lR H
 refine so zZ (di (k := ai) (s := 3) (by_ := 24) 8 3 ae (Mm lR dq) (GB lR dq) (.inl zZ) true (fun _ => .inl zZ) ac fun Ih H4 => (bR (en := [.sl 0 ai aL aK av 0 false,.sl 0 ai bB bA aP 0 false,.sl 0 ai bm bk aW 0 false,.sl 0 ai bo bn aO 0 false,.sl 0 aZ bl bj aH 0 false,.sl 2 ai At Am av 1 true,.sl 2 ai Ba AY aP 2 true,.sl 2 ai yW yU aW 3 true,.sl 2 ai Ih H4 aO 4 true]) kK (sv (aq 4 zZ) zZ (so zZ (aD (cs' := [.slice At av.length Am,.int .i64 aF,.slice Ba aP.length AY,.slice yW aW.length yU,.slice Ih aO.length H4,.slice bl aH.length bj,.int .i64 bD,.int .i64 bI,.int .i64 bK,.int .i64 bE]) 2 bh (re (gs (rg (sv (aq 5 zZ) zZ (sv (am 0 none ag) zZ ?_))))))))))
 revert H; refine aS ?_; rintro vJ AI H
 refine so zZ (ax (ic.ok k aH bl bj _ AI) [(aw 4)] 5 aG ?_)
 rintro _ _ _ ⟨Q1,Qp,rfl,rfl,rfl⟩
 refine sv (aq 5 zZ) zZ (so zZ (aD (cs' := [.slice At av.length Am,.int .i64 aF,.slice Ba aP.length AY,.slice yW aW.length yU,.slice Ih aO.length H4,.slice Q1 vJ.length Qp,.int .i64 bD,.int .i64 bI,.int .i64 bK,.int .i64 bE]) 2 bh (re (aB [2,3] [1,2] [5,6,7,8,9] ae (gs (rg (sv (am (v := .agg #[.slice At av.length Am,.int .i64 aF,.slice Ba aP.length AY,.slice yW aW.length yU,.slice Ih aO.length H4,.slice Q1 vJ.length Qp,.int .i64 bD,.int .i64 bI,.int .i64 bK,.int .i64 bE]) 1 (some 10) ag) zZ (so zZ (aD (cs' := [.slice At av.length Am,.int .i64 aF,.slice Ba aP.length AY,.slice yW aW.length yU,.slice Ih aO.length H4,.slice Q1 vJ.length Qp,.int .i64 bD,.int .i64 bI,.int .i64 bK,.int .i64 bE]) 0 bh (re ?_))))))))))
 cases H
 exact rt Tryz.func41 zZ (.cell 0 (some 10) zZ zZ zZ .nil) zZ [] [(aj 0 2 1),(aj 1 2 2),(aj 2 2 3),(aj 3 2 4),(aj 4 2 5)] zZ zZ zZ zZ zZ ⟨_,_,_,_,_,_,_,_,_,_,zZ,zZ,zZ⟩
def fv.l0 : Nat → Int → Int → (List ah) → Option (Int)
 | 0,_,_,_ => none
 | k + 1,aY,bL,l0 => if bL < (l0.length : Int) then (if aY < 0 then (fv.l0 k bL (wrap64 (bL + 1)) l0) else (if 0 ≤ bL then (if 0 ≤ aY then (if aY < (l0.length : Int) then ((cY.f k ((aa l0 bL).f0) ((aa l0 bL).f1) ((aa l0 bL).f2) ((aa l0 aY).f0) ((aa l0 aY).f1) ((aa l0 aY).f2)).bind fun t6 => (if t6 < 0 then (fv.l0 k bL (wrap64 (bL + 1)) l0) else (fv.l0 k aY (wrap64 (bL + 1)) l0))) else none) else none) else none)) else (some aY)
def fv.f (k : Nat) (l0 : List ah) : Option (Int) := fv.l0 k (-1) 0 l0
theorem fv.ok (k : Nat) (l0 : List ah) (ay : Option Addr) (az : Nat) (r0 : Int) (H : fv.f k l0 = some r0) : Fn Tryz.prog 100 [.slice ay l0.length az] [] [.sl 0 ai ay az l0 0 false] (fun v bx en => v = .int .i64 r0 ∧ bx = [] ∧ en = []) := by
 refine eD 27 Tryz.func100 zZ zZ zZ (fun base T w0 => ?_)
 rw [fv.f] at H
 refine gs (rg (au ac (re (gs (rg (au ac (re (gs (gs (rg (au ac (re (gb ?_)))))))))))))
 refine lo (fun kk S => ∃ (aY : Int) (bL : Int),fv.l0 kk aY bL l0 = some r0 ∧ S = ⟨[(0,.slice ay l0.length az),(3,.int .i64 aY),(4,.int .i64 bL)],[],[.sl 0 ai ay az l0 0 false]⟩) (fun S hS => ?_) (fun n0 cZ S hS => ?_) ⟨(-1),0,H,zZ⟩ (fun h => wk [0,3,4] [] [(aw 0)] h)
 · clear H; obtain ⟨_,_,H,_⟩ := hS; rw [fv.l0] at H; cases H
 clear H
 obtain ⟨aY,bL,H,rfl⟩ := hS
 rw [fv.l0] at H
 refine gs (gs (rg (al ac (al ac (sv (bG zZ) zZ (sv (bS ac) zZ (re ?_)))))))
 revert H; refine aJ ?_ ?_ <;> intro c1 H
 ·
  refine gt zZ (dT c1) (gk (gs (gb (gs (fj [] [0] [] 14 ae (ap 0 [] [0] zZ (aA zZ) ae (ap 1 [] [0] zZ (bS ac) ae (ap 2 [] [0] zZ (aA zZ) ae ?_))))))))
  revert H; refine aJ ?_ ?_ <;> intro c2 H
  ·
   exact ts 13 zZ (dT c2) (bv 3 [] [0] aG (bv 4 [] [0] aG (bv 5 [] [0] aG (bv 6 [] [0] aG (bv 7 [] [0] aG (bv 8 [] [0] aG (bv 9 [] [0] aG (bv 10 [] [0] aG (bv 11 [] [0] aG (bv 12 [] [0] aG (ap 13 [] [0] zZ (aQ ag) ae (xd (aB [0,3,4,24] [] [0] ae (gt zZ zZ (rg (al ac (au ac (re (ge (rg (al ac (sv (ba ac) zZ (au ac (re (wk [0,3,4] [] [(aw 0)] (cZ _ (by omega) _ ⟨bL,wrap64 (bL + 1),H,zZ⟩))))))))))))))))))))))))))
  ·
   refine ts 13 zZ (dF c2) (ap 3 [] [0] zZ (aA zZ) ae (ap 4 [] [0] zZ (aA zZ) ae ?_))
   revert H; refine aU ?_; intro g3 H
   refine ap 5 [] [0] zZ (aM 0 ag g3 c1 zZ) ae (ap 6 [] [0] zZ (bg (v := .agg #[.int .i64 ((aa l0 bL).f0),.int .i64 ((aa l0 bL).f1),.int .i64 ((aa l0 bL).f2)]) bL 0 (some 3) 0 cK zZ zZ zZ g3 c1 zZ zZ zZ) ae (ap 7 [] [0] zZ (aA zZ) ae (ap 8 [] [0] zZ (aA zZ) ae ?_)))
   revert H; refine aU ?_; intro g4 H
   revert H; refine aU ?_; intro g5 H
   refine ap 9 [] [0] zZ (aM 0 ag g4 g5 zZ) ae (ap 10 [] [0] zZ (bg (v := .agg #[.int .i64 ((aa l0 aY).f0),.int .i64 ((aa l0 aY).f1),.int .i64 ((aa l0 aY).f2)]) aY 0 (some 3) 0 cK zZ zZ zZ g4 g5 zZ zZ zZ) ae (ar 11 ac ?_))
   revert H; refine aS ?_; rintro t6 A6 H
   refine ax (cY.ok n0 ((aa l0 bL).f0) ((aa l0 bL).f1) ((aa l0 bL).f2) ((aa l0 aY).f0) ((aa l0 aY).f1) ((aa l0 aY).f2) _ A6) [] 1 aG ?_
   rintro _ _ _ ⟨rfl,rfl,rfl⟩
   refine aN [] [0] ag (ap 12 [] [0] zZ (bS ac) ae (ap 13 [] [0] zZ (aI ag) ae (xd (aB [0,3,4,14,15,16,17,18,19,20,21,22,23,24] [] [0] ae ?_))))
   revert H; refine aJ ?_ ?_ <;> intro c7 H
   ·
    exact gt zZ (dT c7) (rg (al ac (au ac (re (ge (rg (al ac (sv (ba ac) zZ (au ac (re (wk [0,3,4] [] [(aw 0)] (cZ _ (by omega) _ ⟨bL,wrap64 (bL + 1),H,zZ⟩))))))))))))
   ·
    exact gf zZ (dF c7) (gk (ge (rg (al ac (sv (ba ac) zZ (au ac (re (wk [0,3,4] [] [(aw 0)] (cZ _ (by omega) _ ⟨aY,wrap64 (bL + 1),H,zZ⟩)))))))))
 ·
  refine gf zZ (dF c1) (gx zZ (gs (rg (al ac (au ac (re (aB [2] [] [] ae ?_)))))))
  cases H
  exact rt Tryz.func100 zZ (.tmp zZ .nil) zZ [] [] zZ zZ zZ zZ zZ ⟨zZ,zZ,zZ⟩
def oR.f (l0 : List ah) (a1 : Int) : Option ((List ah)) := if 0 ≤ a1 then (if a1 ≤ (l0.length : Int) then (if 0 ≤ (wrap64 (a1 + 1)) then (if (wrap64 (a1 + 1)) ≤ (l0.length : Int) then (if (l0.take a1.toNat).length ≤ 5864062014805 then (if (l0.take a1.toNat).length + (l0.drop (wrap64 (a1 + 1)).toNat).length ≤ 5864062014805 then (some ((l0.take a1.toNat) ++ (l0.drop (wrap64 (a1 + 1)).toNat))) else none) else none) else none) else none) else none) else none
theorem oR.ok (l0 : List ah) (ay : Option Addr) (az : Nat) (a1 : Int) (r0 : List ah) (H : oR.f l0 a1 = some r0) : Fn Tryz.prog 101 [.slice ay l0.length az,.int .i64 a1] [] [.sl 0 ai ay az l0 0 false] (fun v bx en => ∃ A0 c0,v = .slice A0 r0.length c0 ∧ bx = [] ∧ en = [.sl 2 ai A0 c0 r0 1 true]) := by
 refine eD 15 Tryz.func101 zZ zZ zZ (fun base T w0 => ?_)
 rw [oR.f] at H
 refine gs (rg (au ac (re (gs ?_))))
 revert H; refine aU ?_; intro g1 H
 revert H; refine aU ?_; intro g2 H
 revert H; refine aU ?_; intro g3 H
 revert H; refine aU ?_; intro g4 H
 refine fj [] [0] [10] 11 ae (ap 1 [] [0] zZ (aA zZ) ae (ap 2 [] [0] zZ (aA zZ) ae (oY (l' := l0.take a1.toNat) 0 a1 0 zZ (Int.le_refl 0) g1 g2 zZ 0 dq (.inr zZ) zZ (ap 3 [] [0] zZ (lL 0 a1 0 zZ zZ zZ zZ (Int.le_refl 0) g1 g2 zZ zZ yr) ae (ap 5 [] [0] zZ (aA zZ) ae (ap 6 [] [0] zZ (aA zZ) ae (ap 7 [] [0] zZ (ba ac) ae (oY (l' := l0.drop (wrap64 (a1 + 1)).toNat) (wrap64 (a1 + 1)) (l0.length : Int) 0 zZ g3 g4 (Int.le_refl _) zZ 0 dq (.inl dq) JW (ap 8 [] [0] zZ (lL (wrap64 (a1 + 1)) (l0.length : Int) 0 zZ zZ zZ zZ g3 g4 (Int.le_refl _) zZ zZ Ds) ae (ar 0 ac (bH (s := 3) (by_ := 24) ai ([] : List ah) [] [] 1 [] dp dq zZ fun ahS ahQ => (aN [] [0] ag (ar 4 ac ?_)))))))))))))
 revert H; refine aU ?_; intro g6 H
 refine di (k := ai) (s := 3) (by_ := 24) 3 1 ae (Mm g6 dq) (GB g6 dq) (.inl zZ) true (fun _ => .inl zZ) ac fun afS afG => (bR (en := [.sl 0 ai ay az l0 0 false,.sl 0 ai (je ay az (0 : Int).toNat 3) (az - (0 : Int).toNat) (l0.take a1.toNat) 0 false,.sl 0 ai (je ay az (wrap64 (a1 + 1)).toNat 3) (az - (wrap64 (a1 + 1)).toNat) (l0.drop (wrap64 (a1 + 1)).toNat) 0 false,.sl 2 ai afS afG (l0.take a1.toNat) 1 true]) kK (aN [] [0] ag (ar 9 ac ?_)))
 revert H; refine aU ?_; intro g8 H
 refine di (k := ai) (s := 3) (by_ := 24) 3 2 ae (JY g8 dq) (Du g8 dq) (.inl zZ) true (fun _ => .inl zZ) ac fun ad2 adG => (bR (en := [.sl 0 ai ay az l0 0 false,.sl 0 ai (je ay az (0 : Int).toNat 3) (az - (0 : Int).toNat) (l0.take a1.toNat) 0 false,.sl 0 ai (je ay az (wrap64 (a1 + 1)).toNat 3) (az - (wrap64 (a1 + 1)).toNat) (l0.drop (wrap64 (a1 + 1)).toNat) 0 false,.sl 2 ai ad2 adG ((l0.take a1.toNat) ++ (l0.drop (wrap64 (a1 + 1)).toNat)) 1 true]) kK (aN [] [0] ag (ar 10 ac (ov (gE zZ) zZ (xn zZ (xd (aB [4] [] [3] ae ?_)))))))
 cases H
 exact rt Tryz.func101 zZ (.tmp zZ .nil) zZ [] [(aj 0 2 1)] zZ zZ zZ zZ zZ ⟨_,_,zZ,zZ,zZ⟩
def rm.f (k : Nat) (av : List ah) (aF : Int) (aP : List ah) (aW : List ah) (aO : List ah) (aH : List aT) (bD : Int) (bI : Int) (bK : Int) (bE : Int) : Option ((List ah) × Int × (List ah) × (List ah) × (List ah) × (List aT) × Int × Int × Int × Int) := if (aP.length : Int) = 0 then (if aH.length < 5864062014805 then (some (av,aF,aW,[],[],aH ++ ([(⟨aO⟩ : aT)] : List aT),bD,bI,bK,bE)) else none) else ((fv.f k aP).bind fun t7 => (if 0 ≤ t7 then (if t7 < (aP.length : Int) then ((gp.f ((aa aP t7).f0) ((aa aP t7).f1) ((aa aP t7).f2)).bind fun oa => (if aO.length < 5864062014805 then ((oR.f aP t7).bind fun qp => (some (av,aF,qp,aW,aO ++ ([(⟨(aa aP t7).f0,(aa aP t7).f1,(aa aP t7).f2⟩ : ah)] : List ah),aH,bD,bI,bK,wrap64 (bE + oa)))) else none)) else none) else none))
theorem rm.ok (k : Nat) (av : List ah) (aL : Option Addr) (aK : Nat) (aF : Int) (aP : List ah) (bB : Option Addr) (bA : Nat) (aW : List ah) (bm : Option Addr) (bk : Nat) (aO : List ah) (bo : Option Addr) (bn : Nat) (aH : List aT) (bl : Option Addr) (bj : Nat) (bD : Int) (bI : Int) (bK : Int) (bE : Int) (r0 : List ah) (r1 : Int) (r2 : List ah) (r3 : List ah) (r4 : List ah) (r5 : List aT) (r6 : Int) (r7 : Int) (r8 : Int) (r9 : Int) (H : rm.f k av aF aP aW aO aH bD bI bK bE = some (r0,r1,r2,r3,r4,r5,r6,r7,r8,r9)) : Fn Tryz.prog 67 [.agg #[.slice aL av.length aK,.int .i64 aF,.slice bB aP.length bA,.slice bm aW.length bk,.slice bo aO.length bn,.slice bl aH.length bj,.int .i64 bD,.int .i64 bI,.int .i64 bK,.int .i64 bE]] [] [.sl 1 ai aL aK av 1 true,.sl 1 ai bB bA aP 2 true,.sl 1 ai bm bk aW 3 true,.sl 1 ai bo bn aO 4 true,.sl 1 aZ bl bj aH 5 true] (fun v bx en => ∃ A0 c0 A2 c2 A3 c3 A4 c4 A5 c5,v = .agg #[.slice A0 r0.length c0,.int .i64 r1,.slice A2 r2.length c2,.slice A3 r3.length c3,.slice A4 r4.length c4,.slice A5 r5.length c5,.int .i64 r6,.int .i64 r7,.int .i64 r8,.int .i64 r9] ∧ bx = [] ∧ en = [.sl 1 ai A0 c0 r0 1 true,.sl 1 ai A2 c2 r2 2 true,.sl 1 ai A3 c3 r3 3 true,.sl 1 ai A4 c4 r4 4 true,.sl 1 aZ A5 c5 r5 5 true]) := by
 refine eD 53 Tryz.func67 zZ zZ zZ (fun base T w0 => ?_)
 rw [rm.f] at H
 refine gs (rg (so zZ (gU (cs := [.slice aL av.length aK,.int .i64 aF,.slice bB aP.length bA,.slice bm aW.length bk,.slice bo aO.length bn,.slice bl aH.length bj,.int .i64 bD,.int .i64 bI,.int .i64 bK,.int .i64 bE]) ag fun b1 => (so zZ (dk (cs := [.slice none 0 0,.int .i64 0,.slice none 0 0,.slice none 0 0,.slice none 0 0,.slice none 0 0,.int .i64 0,.int .i64 0,.int .i64 0,.int .i64 0]) kK zZ fun b2 => (re (gs (gs (rg (sv (aq 2 zZ) zZ (sv (am 0 none ag) zZ (sv (bG zZ) zZ (sv (bZ ac) zZ (re ?_))))))))))))))
 revert H; refine aJ ?_ ?_ <;> intro c1 H
 ·
  refine gt zZ (dT c1) (gs (rg (sv (aq 5 zZ) zZ (sv (am 0 none ag) zZ (sv (aq 4 zZ) zZ (sv (am 0 none ag) zZ (sv (gu (v := .agg #[.slice bo aO.length bn]) zZ kK) zZ (so zZ (bH (s := 1) (by_ := 24) aZ ([(⟨aO⟩ : aT)] : List aT) [[(bo,bn)]] [3] 6 [.tmp 12] dp dq zZ fun Yq X6 => (bR (en := [.sl 1 ai aL aK av 1 true,.sl 1 ai bB bA aP 2 true,.sl 1 ai bm bk aW 3 true,.sl 1 ai bo bn aO 6 true,.sl 1 aZ bl bj aH 5 true,.sl 2 aZ Yq X6 ([(⟨aO⟩ : aT)] : List aT) 6 true]) kK ?_))))))))))
  revert H; refine aU ?_; intro g3 H
  refine so zZ (di (k := aZ) (s := 1) (by_ := 24) 4 5 ae (km g3 dq) (iz g3 dq) (.inr ⟨dq,dq,zZ,dq⟩) true (fun _ => .inr ⟨zZ,zZ,dq⟩) ac fun GO Gu => (bR (en := [.sl 1 ai aL aK av 1 true,.sl 1 ai bB bA aP 2 true,.sl 1 ai bm bk aW 3 true,.sl 1 ai bo bn aO 5 true,.sl 2 aZ Yq X6 ([(⟨aO⟩ : aT)] : List aT) 5 true,.sl 1 aZ GO Gu (aH ++ ([(⟨aO⟩ : aT)] : List aT)) 5 true]) kK (sv (aq 5 zZ) zZ (so zZ (aD (cs' := [.slice aL av.length aK,.int .i64 aF,.slice bB aP.length bA,.slice bm aW.length bk,.slice bo aO.length bn,.slice GO (aH ++ ([(⟨aO⟩ : aT)] : List aT)).length Gu,.int .i64 bD,.int .i64 bI,.int .i64 bK,.int .i64 bE]) 0 bh (re (aB [1,2] [0,1] [0,1,2,3,5] ae (gs (rg (so zZ (bH (s := 3) (by_ := 24) ai ([] : List ah) [] [] 6 [] dp dq zZ fun MY Mg => (sv (aq 4 zZ) zZ (so zZ (aD (cs' := [.slice aL av.length aK,.int .i64 aF,.slice bB aP.length bA,.slice bm aW.length bk,.slice MY 0 Mg,.slice GO (aH ++ ([(⟨aO⟩ : aT)] : List aT)).length Gu,.int .i64 bD,.int .i64 bI,.int .i64 bK,.int .i64 bE]) 0 bh (re (gs (rg (sv (aq 3 zZ) zZ (sv (am 0 none ag) zZ (sv (aq 2 zZ) zZ (so zZ (aD (cs' := [.slice aL av.length aK,.int .i64 aF,.slice bm aW.length bk,.slice bm aW.length bk,.slice MY 0 Mg,.slice GO (aH ++ ([(⟨aO⟩ : aT)] : List aT)).length Gu,.int .i64 bD,.int .i64 bI,.int .i64 bK,.int .i64 bE]) 0 bh (re (gs (rg (so zZ (bH (s := 3) (by_ := 24) ai ([] : List ah) [] [] 7 [] dp dq zZ fun Pg Pd => (sv (aq 3 zZ) zZ (so zZ ?_)))))))))))))))))))))))))))))
  refine aD (cs' := [.slice aL av.length aK,.int .i64 aF,.slice bm aW.length bk,.slice Pg 0 Pd,.slice MY 0 Mg,.slice GO (aH ++ ([(⟨aO⟩ : aT)] : List aT)).length Gu,.int .i64 bD,.int .i64 bI,.int .i64 bK,.int .i64 bE]) 0 bh (re (aB [1,2] [0,1] [0,2,4,5,6] ae (gs (rg (sv (am (v := .agg #[.slice aL av.length aK,.int .i64 aF,.slice bm aW.length bk,.slice Pg 0 Pd,.slice MY 0 Mg,.slice GO (aH ++ ([(⟨aO⟩ : aT)] : List aT)).length Gu,.int .i64 bD,.int .i64 bI,.int .i64 bK,.int .i64 bE]) 0 (some 10) ag) zZ (so zZ (aD (cs' := [.slice aL av.length aK,.int .i64 aF,.slice bm aW.length bk,.slice Pg 0 Pd,.slice MY 0 Mg,.slice GO (aH ++ ([(⟨aO⟩ : aT)] : List aT)).length Gu,.int .i64 bD,.int .i64 bI,.int .i64 bK,.int .i64 bE]) 1 bh (re ?_))))))))
  cases H
  exact rt Tryz.func67 zZ (.cell 1 (some 10) zZ zZ zZ .nil) zZ [] [(aj 0 1 1),(aj 1 1 2),(aj 4 1 3),(aj 3 1 4),(aj 2 1 5)] zZ zZ zZ zZ zZ ⟨_,_,_,_,_,_,_,_,_,_,zZ,zZ,zZ⟩
 ·
  refine gf zZ (dF c1) (gk (gs (rg (sv (aq 2 zZ) zZ (sv (am 0 none ag) zZ ?_)))))
  revert H; refine aS ?_; rintro t7 A7 H
  refine so zZ (ax (fv.ok k aP bB bA _ A7) [(aw 1)] 6 aG ?_)
  rintro _ _ _ ⟨rfl,rfl,rfl⟩
  refine au ac (re (aB [1,2,3] [0,1] [0,1,2,3,4] ae (gs ?_)))
  revert H; refine aU ?_; intro g8 H
  revert H; refine aU ?_; intro g9 H
  refine fj [0,1] [0,1,2,3,4] [10] 11 ae (ap 0 [0,1] [0,1,2,3,4] zZ (aq 9 zZ) ae (ap 1 [0,1] [0,1,2,3,4] zZ (am 0 none ag) ae (ap 2 [0,1] [0,1,2,3,4] zZ (aq 2 zZ) ae (ap 3 [0,1] [0,1,2,3,4] zZ (am 0 none ag) ae (ap 4 [0,1] [0,1,2,3,4] zZ (aA zZ) ae (ap 5 [0,1] [0,1,2,3,4] zZ (aM 1 ag g8 g9 zZ) ae (ap 6 [0,1] [0,1,2,3,4] zZ (bg (v := .agg #[.int .i64 ((aa aP t7).f0),.int .i64 ((aa aP t7).f1),.int .i64 ((aa aP t7).f2)]) t7 0 (some 3) 1 cK zZ zZ zZ g8 g9 zZ zZ zZ) ae (ar 7 ac ?_))))))))
  revert H; refine aS ?_; rintro oa mz H
  refine ax (gp.ok ((aa aP t7).f0) ((aa aP t7).f1) ((aa aP t7).f2) _ mz) [] 6 aG ?_
  rintro _ _ _ ⟨rfl,rfl,rfl⟩
  refine aN [0,1] [0,1,2,3,4] ag (ap 8 [0,1] [0,1,2,3,4] zZ (ba ac) ae (ap 9 [0,1] [0,1,2,3,4] zZ (aq 9 zZ) ae (ar 10 ac (aD (cs' := [.slice aL av.length aK,.int .i64 aF,.slice bB aP.length bA,.slice bm aW.length bk,.slice bo aO.length bn,.slice bl aH.length bj,.int .i64 bD,.int .i64 bI,.int .i64 bK,.int .i64 (wrap64 (bE + oa))]) 0 bh (xn zZ (xd (aB [1,2,3] [0,1] [0,1,2,3,4] ae (gs ?_))))))))
  revert H; refine aU ?_; intro lR H
  refine fj [0,1] [0,1,2,4] [9,10] 11 ae (ap 0 [0,1] [0,1,2,4] zZ (aq 4 zZ) ae (ap 1 [0,1] [0,1,2,4] zZ (am 0 none ag) ae (ap 2 [0,1] [0,1,2,4] zZ (aq 2 zZ) ae (ap 3 [0,1] [0,1,2,4] zZ (am 0 none ag) ae (ap 4 [0,1] [0,1,2,4] zZ (aA zZ) ae (ap 5 [0,1] [0,1,2,4] zZ (aM 1 ag g8 g9 zZ) ae (ap 6 [0,1] [0,1,2,4] zZ (bg (v := .agg #[.int .i64 ((aa aP t7).f0),.int .i64 ((aa aP t7).f1),.int .i64 ((aa aP t7).f2)]) t7 0 (some 3) 1 cK zZ zZ zZ g8 g9 zZ zZ zZ) ae (ar 7 ac (bH (s := 3) (by_ := 24) ai ([(⟨(aa aP t7).f0,(aa aP t7).f1,(aa aP t7).f2⟩ : ah)] : List ah) [[]] [] 6 [.tmp 43] dp dq zZ fun abu aaz => (aN [0,1] [0,1,2,4] ag (ar 8 ac (di (k := ai) (s := 3) (by_ := 24) 3 5 ae (km lR dq) (iz lR dq) (.inl zZ) true (fun _ => .inl zZ) ac fun Ig H0 => (bR (en := [.sl 1 ai aL aK av 1 true,.sl 1 ai bB bA aP 2 true,.sl 1 ai bm bk aW 3 true,.sl 1 aZ bl bj aH 5 true,.sl 2 ai abu aaz ([(⟨(aa aP t7).f0,(aa aP t7).f1,(aa aP t7).f2⟩ : ah)] : List ah) 6 true,.sl 1 ai Ig H0 (aO ++ ([(⟨(aa aP t7).f0,(aa aP t7).f1,(aa aP t7).f2⟩ : ah)] : List ah)) 4 true]) kK (aN [0,1] [0,1,2,3] ag (ar 9 ac (ov (aq 4 zZ) zZ (xn zZ (ar 10 ac (aD (cs' := [.slice aL av.length aK,.int .i64 aF,.slice bB aP.length bA,.slice bm aW.length bk,.slice Ig (aO ++ ([(⟨(aa aP t7).f0,(aa aP t7).f1,(aa aP t7).f2⟩ : ah)] : List ah)).length H0,.slice bl aH.length bj,.int .i64 bD,.int .i64 bI,.int .i64 bK,.int .i64 (wrap64 (bE + oa))]) 0 bh (xn zZ (xd (aB [1,2,3] [0,1] [0,1,2,3,5] ae (gs (rg (sv (aq 2 zZ) zZ (sv (am 0 none ag) zZ (al ac ?_)))))))))))))))))))))))))))
  revert H; refine aS ?_; rintro qp sA H
  refine so zZ (ax (oR.ok aP bB bA t7 _ sA) [(aw 1)] 6 aG ?_)
  rintro _ _ _ ⟨Q0,Qo,rfl,rfl,rfl⟩
  refine sv (aq 2 zZ) zZ (so zZ (aD (cs' := [.slice aL av.length aK,.int .i64 aF,.slice Q0 qp.length Qo,.slice bm aW.length bk,.slice Ig (aO ++ ([(⟨(aa aP t7).f0,(aa aP t7).f1,(aa aP t7).f2⟩ : ah)] : List ah)).length H0,.slice bl aH.length bj,.int .i64 bD,.int .i64 bI,.int .i64 bK,.int .i64 (wrap64 (bE + oa))]) 0 bh (re (aB [1,2] [0,1] [0,2,3,4,5] ae (gs (rg (sv (am (v := .agg #[.slice aL av.length aK,.int .i64 aF,.slice Q0 qp.length Qo,.slice bm aW.length bk,.slice Ig (aO ++ ([(⟨(aa aP t7).f0,(aa aP t7).f1,(aa aP t7).f2⟩ : ah)] : List ah)).length H0,.slice bl aH.length bj,.int .i64 bD,.int .i64 bI,.int .i64 bK,.int .i64 (wrap64 (bE + oa))]) 0 (some 10) ag) zZ (so zZ (aD (cs' := [.slice aL av.length aK,.int .i64 aF,.slice Q0 qp.length Qo,.slice bm aW.length bk,.slice Ig (aO ++ ([(⟨(aa aP t7).f0,(aa aP t7).f1,(aa aP t7).f2⟩ : ah)] : List ah)).length H0,.slice bl aH.length bj,.int .i64 bD,.int .i64 bI,.int .i64 bK,.int .i64 (wrap64 (bE + oa))]) 1 bh (re ?_))))))))))
  cases H
  exact rt Tryz.func67 zZ (.cell 1 (some 10) zZ zZ zZ .nil) zZ [] [(aj 0 1 1),(aj 4 1 2),(aj 1 1 3),(aj 3 1 4),(aj 2 1 5)] zZ zZ zZ zZ zZ ⟨_,_,_,_,_,_,_,_,_,_,zZ,zZ,zZ⟩
def gD.j0 : Nat → (List ah) → Int → (List ah) → (List ah) → (List ah) → (List aT) → Int → Int → Int → Int → (List ah) → Int → (List ah) → (List ah) → (List ah) → (List aT) → Int → Int → Int → Int → Option ((List ah) × Int × (List ah) × (List ah) × (List ah) × (List aT) × Int × Int × Int × Int)
 | 0,_,_,_,_,_,_,_,_,_,_,_,_,_,_,_,_,_,_,_,_ => none
 | k + 1,tq,ug,tp,to,tn,rL,uf,ue,Ch,ud,uc,wZ,ub,ua,tZ,tY,wY,wX,wW,wV => if (rL.length : Int) = 0 then (some (tq,ug,tp,to,tn,rL,uf,ue,4,ud)) else (some (tq,ug,tp,to,tn,rL,uf,ue,Ch,ud))
def gD.f (k : Nat) (av : List ah) (aF : Int) (aP : List ah) (aW : List ah) (aO : List ah) (aH : List aT) (bD : Int) (bI : Int) (bK : Int) (bE : Int) : Option ((List ah) × Int × (List ah) × (List ah) × (List ah) × (List aT) × Int × Int × Int × Int) := if (aH.length : Int) = 1 then (gD.j0 k av aF aP aW aO aH 0 0 3 bE [] 0 [] [] [] [] 0 0 0 0) else (gD.j0 k av aF aP aW aO aH 0 0 2 bE [] 0 [] [] [] [] 0 0 0 0)
theorem gD.ok (k : Nat) (av : List ah) (aL : Option Addr) (aK : Nat) (aF : Int) (aP : List ah) (bB : Option Addr) (bA : Nat) (aW : List ah) (bm : Option Addr) (bk : Nat) (aO : List ah) (bo : Option Addr) (bn : Nat) (aH : List aT) (bl : Option Addr) (bj : Nat) (bD : Int) (bI : Int) (bK : Int) (bE : Int) (r0 : List ah) (r1 : Int) (r2 : List ah) (r3 : List ah) (r4 : List ah) (r5 : List aT) (r6 : Int) (r7 : Int) (r8 : Int) (r9 : Int) (H : gD.f k av aF aP aW aO aH bD bI bK bE = some (r0,r1,r2,r3,r4,r5,r6,r7,r8,r9)) : Fn Tryz.prog 68 [.agg #[.slice aL av.length aK,.int .i64 aF,.slice bB aP.length bA,.slice bm aW.length bk,.slice bo aO.length bn,.slice bl aH.length bj,.int .i64 bD,.int .i64 bI,.int .i64 bK,.int .i64 bE]] [] [.sl 1 ai aL aK av 1 true,.sl 1 ai bB bA aP 2 true,.sl 1 ai bm bk aW 3 true,.sl 1 ai bo bn aO 4 true,.sl 1 aZ bl bj aH 5 true] (fun v bx en => ∃ A0 c0 A2 c2 A3 c3 A4 c4 A5 c5,v = .agg #[.slice A0 r0.length c0,.int .i64 r1,.slice A2 r2.length c2,.slice A3 r3.length c3,.slice A4 r4.length c4,.slice A5 r5.length c5,.int .i64 r6,.int .i64 r7,.int .i64 r8,.int .i64 r9] ∧ bx = [] ∧ en = [.sl 1 ai A0 c0 r0 1 true,.sl 1 ai A2 c2 r2 2 true,.sl 1 ai A3 c3 r3 3 true,.sl 1 ai A4 c4 r4 4 true,.sl 1 aZ A5 c5 r5 5 true]) := by
 refine eD 17 Tryz.func68 zZ zZ zZ (fun base T w0 => ?_)
 rw [gD.f] at H
 refine gs (rg (so zZ (gU (cs := [.slice aL av.length aK,.int .i64 aF,.slice bB aP.length bA,.slice bm aW.length bk,.slice bo aO.length bn,.slice bl aH.length bj,.int .i64 bD,.int .i64 bI,.int .i64 bK,.int .i64 bE]) ag fun b1 => (so zZ (dk (cs := [.slice none 0 0,.int .i64 0,.slice none 0 0,.slice none 0 0,.slice none 0 0,.slice none 0 0,.int .i64 0,.int .i64 0,.int .i64 0,.int .i64 0]) kK zZ fun b2 => (re (gs (rg (sv (aq 6 zZ) zZ (so zZ (aD (cs' := [.slice aL av.length aK,.int .i64 aF,.slice bB aP.length bA,.slice bm aW.length bk,.slice bo aO.length bn,.slice bl aH.length bj,.int .i64 0,.int .i64 bI,.int .i64 bK,.int .i64 bE]) 0 bh (re (gs (rg (sv (aq 7 zZ) zZ (so zZ (aD (cs' := [.slice aL av.length aK,.int .i64 aF,.slice bB aP.length bA,.slice bm aW.length bk,.slice bo aO.length bn,.slice bl aH.length bj,.int .i64 0,.int .i64 0,.int .i64 bK,.int .i64 bE]) 0 bh (re (gs (rg (sv (aq 8 zZ) zZ (so zZ (aD (cs' := [.slice aL av.length aK,.int .i64 aF,.slice bB aP.length bA,.slice bm aW.length bk,.slice bo aO.length bn,.slice bl aH.length bj,.int .i64 0,.int .i64 0,.int .i64 2,.int .i64 bE]) 0 bh (re ?_))))))))))))))))))))))))
 refine jo (fun S => ∃ (m : Nat) (tq : List ah) (wU : Option Addr) (wH : Nat) (ug : Int) (tp : List ah) (wT : Option Addr) (wG : Nat) (to : List ah) (wS : Option Addr) (wF : Nat) (tn : List ah) (wR : Option Addr) (wE : Nat) (rL : List aT) (wQ : Option Addr) (wD : Nat) (uf : Int) (ue : Int) (Ch : Int) (ud : Int) (uc : List ah) (yE : Option Addr) (yq : Nat) (wZ : Int) (ub : List ah) (yD : Option Addr) (yp : Nat) (ua : List ah) (yC : Option Addr) (yo : Nat) (tZ : List ah) (yB : Option Addr) (yn : Nat) (tY : List aT) (yA : Option Addr) (ym : Nat) (wY : Int) (wX : Int) (wW : Int) (wV : Int),gD.j0 m tq ug tp to tn rL uf ue Ch ud uc wZ ub ua tZ tY wY wX wW wV = some (r0,r1,r2,r3,r4,r5,r6,r7,r8,r9) ∧ S = ⟨[(1,.pointer (some ⟨b1,0,none⟩)),(2,.pointer (some ⟨b2,0,none⟩))],[⟨b1,27,[.slice wU tq.length wH,.int .i64 ug,.slice wT tp.length wG,.slice wS to.length wF,.slice wR tn.length wE,.slice wQ rL.length wD,.int .i64 uf,.int .i64 ue,.int .i64 Ch,.int .i64 ud]⟩,⟨b2,27,[.slice yE uc.length yq,.int .i64 wZ,.slice yD ub.length yp,.slice yC ua.length yo,.slice yB tZ.length yn,.slice yA tY.length ym,.int .i64 wY,.int .i64 wX,.int .i64 wW,.int .i64 wV]⟩],[.sl 1 ai wU wH tq 1 true,.sl 1 ai wT wG tp 2 true,.sl 1 ai wS wF to 3 true,.sl 1 ai wR wE tn 4 true,.sl 1 aZ wQ wD rL 5 true,.sl 2 ai yE yq uc 6 true,.sl 2 ai yD yp ub 7 true,.sl 2 ai yC yo ua 8 true,.sl 2 ai yB yn tZ 9 true,.sl 2 aZ yA ym tY 10 true]⟩) (fun S hS => ?_) (fun gw => ?_)
 ·
  clear H
  obtain ⟨m1,tq,wU,wH,ug,tp,wT,wG,to,wS,wF,tn,wR,wE,rL,wQ,wD,uf,ue,Ch,ud,uc,yE,yq,wZ,ub,yD,yp,ua,yC,yo,tZ,yB,yn,tY,yA,ym,wY,wX,wW,wV,H,rfl⟩ := hS
  rcases m1 with _ | m1
  · rw [gD.j0] at H; cases H
  rw [gD.j0] at H
  refine gs (gs (rg (sv (aq 5 zZ) zZ (sv (am 0 none ag) zZ (sv (bG zZ) zZ (sv (bZ ac) zZ (re ?_)))))))
  revert H; refine aJ ?_ ?_ <;> intro c2 H
  ·
   refine gt zZ (dT c2) (rg (sv (aq 8 zZ) zZ (so zZ (aD (cs' := [.slice wU tq.length wH,.int .i64 ug,.slice wT tp.length wG,.slice wS to.length wF,.slice wR tn.length wE,.slice wQ rL.length wD,.int .i64 uf,.int .i64 ue,.int .i64 4,.int .i64 ud]) 0 bh (re (gs (rg (sv (am (v := .agg #[.slice wU tq.length wH,.int .i64 ug,.slice wT tp.length wG,.slice wS to.length wF,.slice wR tn.length wE,.slice wQ rL.length wD,.int .i64 uf,.int .i64 ue,.int .i64 4,.int .i64 ud]) 0 (some 10) ag) zZ (so zZ (aD (cs' := [.slice wU tq.length wH,.int .i64 ug,.slice wT tp.length wG,.slice wS to.length wF,.slice wR tn.length wE,.slice wQ rL.length wD,.int .i64 uf,.int .i64 ue,.int .i64 4,.int .i64 ud]) 1 bh (re (aB [2] [1] [0,1,2,3,4] ae ?_))))))))))))
   cases H
   exact rt Tryz.func68 zZ (.cell 0 (some 10) zZ zZ zZ .nil) zZ [] [(aj 0 1 1),(aj 1 1 2),(aj 2 1 3),(aj 3 1 4),(aj 4 1 5)] zZ zZ zZ zZ zZ ⟨_,_,_,_,_,_,_,_,_,_,zZ,zZ,zZ⟩
  ·
   refine gf zZ (dF c2) (gk (gs (rg (sv (am (v := .agg #[.slice wU tq.length wH,.int .i64 ug,.slice wT tp.length wG,.slice wS to.length wF,.slice wR tn.length wE,.slice wQ rL.length wD,.int .i64 uf,.int .i64 ue,.int .i64 Ch,.int .i64 ud]) 0 (some 10) ag) zZ (so zZ (aD (cs' := [.slice wU tq.length wH,.int .i64 ug,.slice wT tp.length wG,.slice wS to.length wF,.slice wR tn.length wE,.slice wQ rL.length wD,.int .i64 uf,.int .i64 ue,.int .i64 Ch,.int .i64 ud]) 1 bh (re (aB [2] [1] [0,1,2,3,4] ae ?_))))))))
   cases H
   exact rt Tryz.func68 zZ (.cell 0 (some 10) zZ zZ zZ .nil) zZ [] [(aj 0 1 1),(aj 1 1 2),(aj 2 1 3),(aj 3 1 4),(aj 4 1 5)] zZ zZ zZ zZ zZ ⟨_,_,_,_,_,_,_,_,_,_,zZ,zZ,zZ⟩
 ·
  refine gs (rg (sv (aq 5 zZ) zZ (sv (am 0 none ag) zZ (sv (bG zZ) zZ (sv (bZ ac) zZ (re (aB [1,2,9] [0,1] [0,1,2,3,4] ae ?_)))))))
  revert H; refine aJ ?_ ?_ <;> intro c3 H
  ·
   exact gt zZ (dT c3) (rg (sv (aq 8 zZ) zZ (so zZ (aD (cs' := [.slice aL av.length aK,.int .i64 aF,.slice bB aP.length bA,.slice bm aW.length bk,.slice bo aO.length bn,.slice bl aH.length bj,.int .i64 0,.int .i64 0,.int .i64 3,.int .i64 bE]) 0 bh (re (aR ai 6 dq (aR ai 7 dq (aR ai 8 dq (aR ai 9 dq (aR aZ 10 dq (wk [1,2] [0,1] [(aj 0 1 1),(aj 1 1 2),(aj 2 1 3),(aj 3 1 4),(aj 4 1 5),(aj 5 2 6),(aj 6 2 7),(aj 7 2 8),(aj 8 2 9),(aj 9 2 10)] (gw _ ⟨_,av,aL,aK,aF,aP,bB,bA,aW,bm,bk,aO,bo,bn,aH,bl,bj,0,0,3,bE,[],none,0,0,[],none,0,[],none,0,[],none,0,[],none,0,0,0,0,0,H,zZ⟩))))))))))))
  ·
   exact gf zZ (dF c3) (gk (aR ai 6 dq (aR ai 7 dq (aR ai 8 dq (aR ai 9 dq (aR aZ 10 dq (wk [1,2] [0,1] [(aj 0 1 1),(aj 1 1 2),(aj 2 1 3),(aj 3 1 4),(aj 4 1 5),(aj 5 2 6),(aj 6 2 7),(aj 7 2 8),(aj 8 2 9),(aj 9 2 10)] (gw _ ⟨_,av,aL,aK,aF,aP,bB,bA,aW,bm,bk,aO,bo,bn,aH,bl,bj,0,0,2,bE,[],none,0,0,[],none,0,[],none,0,[],none,0,[],none,0,0,0,0,0,H,zZ⟩))))))))
end Go.Proofs.YtfoblaonklkaoaaGreat.K
