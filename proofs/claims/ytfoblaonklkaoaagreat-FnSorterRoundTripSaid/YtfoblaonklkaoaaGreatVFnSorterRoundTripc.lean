/- Walks: what the functions compute. Printed by gen.py; no condition. -/
import Derived.Test.YtfoblaonklkaoaaGreatVFnSorterRoundTripb
namespace Go.Proofs.YtfoblaonklkaoaaGreat.K
open Go Go.RowKit
set_option linter.unusedVariables false
set_option linter.unusedSimpArgs false
set_option maxHeartbeats 4000000
set_option maxRecDepth 100000
mutual
def eL.j0 : Nat → Int → (List Int) → Option (Int × Int)
 | 0,_,_ => none
 | k + 1,aY,l0 => some (0,aY)
def eL.l0 : Nat → Int → Int → (List Int) → Option (Int × Int)
 | 0,_,_,_ => none
 | k + 1,Dp,fC,l0 => if fC < (l0.length : Int) then (if fC < 4000 then (if 0 ≤ fC then (eL.l0 k (andI (wrap64 ((wrap64 ((wrap64 (Dp * 131)) + (IntKind.i64.wrap (bu 0 l0 fC)))) + 7)) 1073741823) (wrap64 (fC + 1)) l0) else none) else (eL.j0 k Dp l0)) else (eL.j0 k Dp l0)
end
def eL.f (k : Nat) (l0 : List Int) : Option (Int × Int) := eL.l0 k (wrap64 (10101 + (l0.length : Int))) 0 l0
theorem eL.ok (k : Nat) (l0 : List Int) (ay : Option Addr) (az : Nat) (r0 : Int) (r1 : Int) (H : eL.f k l0 = some (r0,r1)) : Fn Tryz.prog 21 [.slice ay l0.length az] [] [.sl 0 (.int .u8) ay az l0 0 false] (fun v bx en => ∃ rb0,v = .pointer (some ⟨rb0,0,none⟩) ∧ bx = [⟨rb0,92,[.slice ay l0.length az,.int .i64 r0,.int .i64 r1]⟩] ∧ en = []) := by
 refine eD 32 Tryz.func21 zZ zZ zZ (fun base T w0 => ?_)
 rw [eL.f] at H
 refine gs (rg (au ac (re (gs (rg (al ac (sv (bG zZ) zZ (sv (ba ac) zZ (au ac (re ?_))))))))))
 refine jo (fun S => ∃ (m : Nat) (aY : Int),eL.j0 m aY l0 = some (r0,r1) ∧ S = ⟨[(0,.slice ay l0.length az),(3,.int .i64 aY)],[],[.sl 0 (.int .u8) ay az l0 0 false]⟩) (fun S hS => ?_) (fun gw => ?_)
 ·
  clear H
  obtain ⟨m1,aY,H,rfl⟩ := hS
  rcases m1 with _ | m1
  · rw [eL.j0] at H; cases H
  rw [eL.j0] at H
  refine gs (rg (al ac (al ac (sv (gu (v := .agg #[.slice ay l0.length az,.int .i64 0,.int .i64 aY]) zZ kK) zZ (so zZ (gU (cs := [.slice ay l0.length az,.int .i64 0,.int .i64 aY]) ag fun b31 => (au ac (re (aB [2] [0] [0] ae ?_)))))))))
  cases H
  exact rt Tryz.func21 zZ (.tmp zZ .nil) zZ [0] [] zZ zZ zZ zZ zZ ⟨_,zZ,zZ,zZ⟩
 ·
  refine gs (rg (au ac (re (gb ?_))))
  refine lo (fun kk S => ∃ (Dp : Int) (fC : Int),eL.l0 kk Dp fC l0 = some (r0,r1) ∧ S = ⟨[(0,.slice ay l0.length az),(3,.int .i64 Dp),(4,.int .i64 fC)],[],[.sl 0 (.int .u8) ay az l0 0 false]⟩) (fun S hS => ?_) (fun n0 cZ S hS => ?_) ⟨wrap64 (10101 + (l0.length : Int)),0,H,zZ⟩ (fun h => wk [0,3,4] [] [(aw 0)] h)
  · clear H; obtain ⟨_,_,H,_⟩ := hS; rw [eL.l0] at H; cases H
  clear H
  obtain ⟨Dp,fC,H,rfl⟩ := hS
  rw [eL.l0] at H
  refine gs (gs (rg (al ac (al ac (sv (bG zZ) zZ (sv (bS ac) zZ (al ac ?_)))))))
  revert H; refine aJ ?_ ?_ <;> intro c2 H
  ·
   refine ts 12 zZ (dT c2) (al ac (sv (bS ac) zZ (sv (aQ ag) zZ (re ?_))))
   revert H; refine aJ ?_ ?_ <;> intro c3 H
   ·
    refine gt zZ (dT c3) (gk (gs (gb (rg (al ac (sv (uI zZ zZ) zZ (al ac (al ac ?_))))))))
    revert H; refine aU ?_; intro g4 H
    exact sv (aM 0 ag g4 c2 zZ) zZ (sv (bg (v := .int .u8 (bu 0 l0 fC)) fC 0 none 0 0 zZ zZ zZ g4 c2 zZ zZ zZ) zZ (sv (mJ (k' := .i64) zZ) zZ (sv (ba ac) zZ (sv (ba ac) zZ (sv (NG zZ zZ) zZ (au ac (re (aB [0,3,4,13,14] [] [0] ae (ge (rg (al ac (sv (ba ac) zZ (au ac (re (wk [0,3,4] [] [(aw 0)] (cZ _ (by omega) _ ⟨andI (wrap64 ((wrap64 ((wrap64 (Dp * 131)) + (IntKind.i64.wrap (bu 0 l0 fC)))) + 7)) 1073741823,wrap64 (fC + 1),H,zZ⟩))))))))))))))))
   ·
    exact gf zZ (dF c3) (gx zZ (wk [0,3] [] [(aw 0)] (gw _ ⟨_,Dp,H,zZ⟩)))
  ·
   exact ts 12 zZ (dF c2) (sk zZ (sk zZ (sv (aI ag) zZ (re (aB [0,3,4,15] [] [0] ae (gf zZ zZ (gx zZ (wk [0,3] [] [(aw 0)] (gw _ ⟨_,Dp,H,zZ⟩)))))))))
def mI.f (av : List Int) (aF : Int) (cw : Int) (a1 : Int) : Option (Bool × Int × Int) := (cP.f av aF cw a1).bind fun aE => (some (decide (aE.1 = 0),aE.2.1,aE.2.2))
theorem mI.ok (dh : Nat) (av : List Int) (aL : Option Addr) (aK : Nat) (aF : Int) (cw : Int) (a1 : Int) (r0 : Bool) (r1 : Int) (r2 : Int) (H : mI.f av aF cw a1 = some (r0,r1,r2)) : Fn Tryz.prog 35 [.pointer (some ⟨dh,0,none⟩),.int .i64 a1] [⟨dh,92,[.slice aL av.length aK,.int .i64 aF,.int .i64 cw]⟩] [.sl 0 (.int .u8) aL aK av 0 false] (fun v bx en => v = .bool r0 ∧ bx = [⟨dh,92,[.slice aL av.length aK,.int .i64 r1,.int .i64 r2]⟩] ∧ en = []) := by
 refine eD 9 Tryz.func35 zZ zZ zZ (fun base T w0 => ?_)
 rw [mI.f] at H
 refine gs (rg (au ac (re (gs (rg (al ac (al ac ?_)))))))
 revert H; refine aS ?_; rintro ⟨bC,bX,bf⟩ A1 H
 refine so zZ (bb (cP.ok dh av aL aK aF cw a1 _ _ _ A1) [(aw 0)] [0] [] 1 ep ?_)
 rintro _ _ _ ⟨rfl,rfl,rfl⟩
 refine bR (en := [.sl 0 (.int .u8) aL aK av 0 false]) kK (sv (bZ ac) zZ (au ac (re (aB [4] [0] [0] ae ?_))))
 cases H
 exact rt Tryz.func35 zZ (.tmp zZ .nil) zZ [0] [] zZ zZ zZ zZ zZ ⟨zZ,zZ,zZ⟩
def eK.j0 : Nat → (List ah) → Int → (List ah) → (List ah) → (List ah) → (List aT) → Int → Int → Int → Int → (List ah) → Int → (List ah) → (List ah) → (List ah) → (List aT) → Int → Int → Int → Int → (List ah) → Int → (List ah) → (List ah) → (List ah) → (List aT) → Int → Int → Int → Int → (List ah) → Int → (List ah) → (List ah) → (List ah) → (List aT) → Int → Int → Int → Int → Option ((List ah) × Int × (List ah) × (List ah) × (List ah) × (List aT) × Int × Int × Int × Int × (List ah) × Int × (List ah) × (List ah) × (List ah) × (List aT) × Int × Int × Int × Int)
 | 0,_,_,_,_,_,_,_,_,_,_,_,_,_,_,_,_,_,_,_,_,_,_,_,_,_,_,_,_,_,_,_,_,_,_,_,_,_,_,_,_ => none
 | k + 1,uc,wZ,ub,ua,tZ,tY,wY,wX,wW,wV,pQ,tk,pP,pO,pN,pM,tj,ti,th,tg,zI,Cb,zH,zG,zF,zE,Ca,B0,BZ,BY,zD,BX,zC,zB,zA,zx,BW,BV,BU,BR => some (zI,Cb,zH,zG,zF,zE,Ca,B0,BZ,BY,zD,BX,zC,zB,zA,zx,BW,BV,BU,BR)
def eK.f (k : Nat) (l0 : List Int) : Option ((List ah) × Int × (List ah) × (List ah) × (List ah) × (List aT) × Int × Int × Int × Int × (List ah) × Int × (List ah) × (List ah) × (List ah) × (List aT) × Int × Int × Int × Int) := (eL.f k l0).bind fun aE => ((et.f k l0 aE.1 aE.2).bind fun gr => ((mR.f k gr.1 gr.2.1 gr.2.2.1 gr.2.2.2.1 gr.2.2.2.2.1 gr.2.2.2.2.2.1 gr.2.2.2.2.2.2.1 gr.2.2.2.2.2.2.2.1 gr.2.2.2.2.2.2.2.2.1 gr.2.2.2.2.2.2.2.2.2.1).bind fun dm => ((mI.f l0 gr.2.2.2.2.2.2.2.2.2.2.1 gr.2.2.2.2.2.2.2.2.2.2.2 2).bind fun hY => (if hY.1 = true then ((bz.f k dm.1 dm.2.1 dm.2.2.1 dm.2.2.2.1 dm.2.2.2.2.1 dm.2.2.2.2.2.1 dm.2.2.2.2.2.2.1 dm.2.2.2.2.2.2.2.1 dm.2.2.2.2.2.2.2.2.1 dm.2.2.2.2.2.2.2.2.2 12).bind fun iA => (eK.j0 k [] 0 [] [] [] [] 0 0 0 0 [] 0 [] [] [] [] 0 0 0 0 gr.1 gr.2.1 gr.2.2.1 gr.2.2.2.1 gr.2.2.2.2.1 gr.2.2.2.2.2.1 gr.2.2.2.2.2.2.1 gr.2.2.2.2.2.2.2.1 gr.2.2.2.2.2.2.2.2.1 gr.2.2.2.2.2.2.2.2.2.1 iA.1 iA.2.1 iA.2.2.1 iA.2.2.2.1 iA.2.2.2.2.1 iA.2.2.2.2.2.1 iA.2.2.2.2.2.2.1 iA.2.2.2.2.2.2.2.1 iA.2.2.2.2.2.2.2.2.1 iA.2.2.2.2.2.2.2.2.2.1)) else (eK.j0 k [] 0 [] [] [] [] 0 0 0 0 [] 0 [] [] [] [] 0 0 0 0 gr.1 gr.2.1 gr.2.2.1 gr.2.2.2.1 gr.2.2.2.2.1 gr.2.2.2.2.2.1 gr.2.2.2.2.2.2.1 gr.2.2.2.2.2.2.2.1 gr.2.2.2.2.2.2.2.2.1 gr.2.2.2.2.2.2.2.2.2.1 dm.1 dm.2.1 dm.2.2.1 dm.2.2.2.1 dm.2.2.2.2.1 dm.2.2.2.2.2.1 dm.2.2.2.2.2.2.1 dm.2.2.2.2.2.2.2.1 dm.2.2.2.2.2.2.2.2.1 dm.2.2.2.2.2.2.2.2.2)))))
theorem eK.ok (k : Nat) (l0 : List Int) (ay : Option Addr) (az : Nat) (r0 : List ah) (r1 : Int) (r2 : List ah) (r3 : List ah) (r4 : List ah) (r5 : List aT) (r6 : Int) (r7 : Int) (r8 : Int) (r9 : Int) (my : List ah) (vp : Int) (XC : List ah) (XB : List ah) (XA : List ah) (Xz : List aT) (ZF : Int) (ZE : Int) (ZD : Int) (ZC : Int) (H : eK.f k l0 = some (r0,r1,r2,r3,r4,r5,r6,r7,r8,r9,my,vp,XC,XB,XA,Xz,ZF,ZE,ZD,ZC)) : Fn Tryz.prog 10 [.slice ay l0.length az] [] [.sl 0 (.int .u8) ay az l0 0 false] (fun v bx en => ∃ A0 c0 A2 c2 A3 c3 A4 c4 A5 c5 mz lS sE Aa AI wJ sA sC xP VG,v = .tuple #[.agg #[.slice A0 r0.length c0,.int .i64 r1,.slice A2 r2.length c2,.slice A3 r3.length c3,.slice A4 r4.length c4,.slice A5 r5.length c5,.int .i64 r6,.int .i64 r7,.int .i64 r8,.int .i64 r9],.agg #[.slice mz my.length lS,.int .i64 vp,.slice sE XC.length Aa,.slice AI XB.length wJ,.slice sA XA.length sC,.slice xP Xz.length VG,.int .i64 ZF,.int .i64 ZE,.int .i64 ZD,.int .i64 ZC]] ∧ bx = [] ∧ en = [.sl 1 ai A0 c0 r0 1 true,.sl 1 ai A2 c2 r2 2 true,.sl 1 ai A3 c3 r3 3 true,.sl 1 ai A4 c4 r4 4 true,.sl 1 aZ A5 c5 r5 5 true,.sl 1 ai mz lS my 6 true,.sl 1 ai sE Aa XC 7 true,.sl 1 ai AI wJ XB 8 true,.sl 1 ai sA sC XA 9 true,.sl 1 aZ xP VG Xz 10 true]) := by
 refine eD 23 Tryz.func10 zZ zZ zZ (fun base T w0 => ?_)
 rw [eK.f] at H
 refine gs (rg (so zZ (dk (cs := [.slice none 0 0,.int .i64 0,.slice none 0 0,.slice none 0 0,.slice none 0 0,.slice none 0 0,.int .i64 0,.int .i64 0,.int .i64 0,.int .i64 0]) kK zZ fun b2 => (so zZ (dk (cs := [.slice none 0 0,.int .i64 0,.slice none 0 0,.slice none 0 0,.slice none 0 0,.slice none 0 0,.int .i64 0,.int .i64 0,.int .i64 0,.int .i64 0]) kK zZ fun b3 => (re (gs (rg (al ac ?_)))))))))
 revert H; refine aS ?_; rintro ⟨bC,bX⟩ A1 H
 refine so zZ (bb (eL.ok k l0 ay az _ _ A1) [(aw 0)] [] [0,1] 1 ep ?_)
 rintro _ _ _ ⟨vV,rfl,rfl,rfl⟩
 refine bR (en := [.sl 0 (.int .u8) ay az l0 0 false]) kK (au ac (re (gs (rg (al ac ?_)))))
 revert H; refine aS ?_; rintro ⟨oQ,uw,pq,uv,uu,ut,Ak,Aj,Ai,Ah,Lh,O2⟩ A2 H
 refine so zZ (bb (et.ok k vV l0 ay az bC bX _ _ _ _ _ _ _ _ _ _ _ _ A2) [(aw 0)] [2] [0,1] 1 ep ?_)
 rintro _ _ _ ⟨rk,qQ,rj,qP,ri,qO,rh,qN,rf,qM,rfl,rfl,rfl⟩
 refine bR (en := [.sl 0 (.int .u8) ay az l0 0 false,.sl 1 ai rk qQ oQ 2 true,.sl 1 ai rj qP pq 3 true,.sl 1 ai ri qO uv 4 true,.sl 1 ai rh qN uu 5 true,.sl 1 aZ rf qM ut 6 true]) kK (so zZ (dk (cs := [.slice none 0 0,.int .i64 0,.slice none 0 0,.slice none 0 0,.slice none 0 0,.slice none 0 0,.int .i64 0,.int .i64 0,.int .i64 0,.int .i64 0]) kK zZ fun b5 => (so zZ (aD (cs' := [.slice rk oQ.length qQ,.int .i64 uw,.slice rj pq.length qP,.slice ri uv.length qO,.slice rh uu.length qN,.slice rf ut.length qM,.int .i64 Ak,.int .i64 Aj,.int .i64 Ai,.int .i64 Ah]) 3 bh (re (gs (rg (sv (am (v := .agg #[.slice rk oQ.length qQ,.int .i64 uw,.slice rj pq.length qP,.slice ri uv.length qO,.slice rh uu.length qN,.slice rf ut.length qM,.int .i64 Ak,.int .i64 Aj,.int .i64 Ai,.int .i64 Ah]) 3 (some 10) ag) zZ ?_))))))))
 revert H; refine aS ?_; rintro ⟨mo,mn,lU,us,ur,uq,vx,vw,vv,vu⟩ A3 H
 refine so zZ (ax (mR.ok k oQ rk qQ uw pq rj qP uv ri qO uu rh qN ut rf qM Ak Aj Ai Ah _ _ _ _ _ _ _ _ _ _ A3) [(aw 1),(aw 2),(aw 3),(aw 4),(aw 5)] 7 aG ?_)
 rintro _ _ _ ⟨rd,qL,rc,qK,qZ,qJ,qY,qI,qX,qH,rfl,rfl,rfl⟩
 refine so zZ (dk (cs := [.slice none 0 0,.int .i64 0,.slice none 0 0,.slice none 0 0,.slice none 0 0,.slice none 0 0,.int .i64 0,.int .i64 0,.int .i64 0,.int .i64 0]) kK zZ fun b6 => (so zZ (aD (cs' := [.slice rd mo.length qL,.int .i64 mn,.slice rc lU.length qK,.slice qZ us.length qJ,.slice qY ur.length qI,.slice qX uq.length qH,.int .i64 vx,.int .i64 vw,.int .i64 vv,.int .i64 vu]) 4 bh (re (aB [2,3,4,5,6] [0,1,2,3,4] [0,1,2,3,4,5,6,7,8,9,10] ae ?_)))))
 refine jo (fun S => ∃ (m : Nat) (uc : List ah) (yE : Option Addr) (yq : Nat) (wZ : Int) (ub : List ah) (yD : Option Addr) (yp : Nat) (ua : List ah) (yC : Option Addr) (yo : Nat) (tZ : List ah) (yB : Option Addr) (yn : Nat) (tY : List aT) (yA : Option Addr) (ym : Nat) (wY : Int) (wX : Int) (wW : Int) (wV : Int) (pQ : List ah) (vn : Option Addr) (u6 : Nat) (tk : Int) (pP : List ah) (vm : Option Addr) (u5 : Nat) (pO : List ah) (vl : Option Addr) (u4 : Nat) (pN : List ah) (vk : Option Addr) (u0 : Nat) (pM : List aT) (vj : Option Addr) (uZ : Nat) (tj : Int) (ti : Int) (th : Int) (tg : Int) (zI : List ah) (Fx : Option Addr) (EI : Nat) (Cb : Int) (zH : List ah) (Fw : Option Addr) (EH : Nat) (zG : List ah) (Fv : Option Addr) (EG : Nat) (zF : List ah) (Fu : Option Addr) (EF : Nat) (zE : List aT) (Ft : Option Addr) (EE : Nat) (Ca : Int) (B0 : Int) (BZ : Int) (BY : Int) (zD : List ah) (Fs : Option Addr) (ED : Nat) (BX : Int) (zC : List ah) (Fr : Option Addr) (EC : Nat) (zB : List ah) (Fq : Option Addr) (EB : Nat) (zA : List ah) (Fp : Option Addr) (EA : Nat) (zx : List aT) (Fo : Option Addr) (Ez : Nat) (BW : Int) (BV : Int) (BU : Int) (BR : Int),eK.j0 m uc wZ ub ua tZ tY wY wX wW wV pQ tk pP pO pN pM tj ti th tg zI Cb zH zG zF zE Ca B0 BZ BY zD BX zC zB zA zx BW BV BU BR = some (r0,r1,r2,r3,r4,r5,r6,r7,r8,r9,my,vp,XC,XB,XA,Xz,ZF,ZE,ZD,ZC) ∧ S = ⟨[(2,.pointer (some ⟨b2,0,none⟩)),(3,.pointer (some ⟨b3,0,none⟩)),(5,.pointer (some ⟨b5,0,none⟩)),(6,.pointer (some ⟨b6,0,none⟩))],[⟨b2,27,[.slice yE uc.length yq,.int .i64 wZ,.slice yD ub.length yp,.slice yC ua.length yo,.slice yB tZ.length yn,.slice yA tY.length ym,.int .i64 wY,.int .i64 wX,.int .i64 wW,.int .i64 wV]⟩,⟨b3,27,[.slice vn pQ.length u6,.int .i64 tk,.slice vm pP.length u5,.slice vl pO.length u4,.slice vk pN.length u0,.slice vj pM.length uZ,.int .i64 tj,.int .i64 ti,.int .i64 th,.int .i64 tg]⟩,⟨b5,27,[.slice Fx zI.length EI,.int .i64 Cb,.slice Fw zH.length EH,.slice Fv zG.length EG,.slice Fu zF.length EF,.slice Ft zE.length EE,.int .i64 Ca,.int .i64 B0,.int .i64 BZ,.int .i64 BY]⟩,⟨b6,27,[.slice Fs zD.length ED,.int .i64 BX,.slice Fr zC.length EC,.slice Fq zB.length EB,.slice Fp zA.length EA,.slice Fo zx.length Ez,.int .i64 BW,.int .i64 BV,.int .i64 BU,.int .i64 BR]⟩],[.sl 2 ai yE yq uc 1 true,.sl 2 ai yD yp ub 2 true,.sl 2 ai yC yo ua 3 true,.sl 2 ai yB yn tZ 4 true,.sl 2 aZ yA ym tY 5 true,.sl 2 ai vn u6 pQ 6 true,.sl 2 ai vm u5 pP 7 true,.sl 2 ai vl u4 pO 8 true,.sl 2 ai vk u0 pN 9 true,.sl 2 aZ vj uZ pM 10 true,.sl 1 ai Fx EI zI 11 true,.sl 1 ai Fw EH zH 12 true,.sl 1 ai Fv EG zG 13 true,.sl 1 ai Fu EF zF 14 true,.sl 1 aZ Ft EE zE 15 true,.sl 1 ai Fs ED zD 16 true,.sl 1 ai Fr EC zC 17 true,.sl 1 ai Fq EB zB 18 true,.sl 1 ai Fp EA zA 19 true,.sl 1 aZ Fo Ez zx 20 true]⟩) (fun S hS => ?_) (fun gw => ?_)
 ·
  clear H
  obtain ⟨m4,uc,yE,yq,wZ,ub,yD,yp,ua,yC,yo,tZ,yB,yn,tY,yA,ym,wY,wX,wW,wV,pQ,vn,u6,tk,pP,vm,u5,pO,vl,u4,pN,vk,u0,pM,vj,uZ,tj,ti,th,tg,zI,Fx,EI,Cb,zH,Fw,EH,zG,Fv,EG,zF,Fu,EF,zE,Ft,EE,Ca,B0,BZ,BY,zD,Fs,ED,BX,zC,Fr,EC,zB,Fq,EB,zA,Fp,EA,zx,Fo,Ez,BW,BV,BU,BR,H,rfl⟩ := hS
  rcases m4 with _ | m4
  · rw [eK.j0] at H; cases H
  rw [eK.j0] at H
  refine gs (fj [1,2,3] [0,1,2,3,4,5,6,7,8,9,10,11,12,13,14,15,16,17,18,19] [3] 4 ae (ap 0 [1,2,3] [0,1,2,3,4,5,6,7,8,9,10,11,12,13,14,15,16,17,18,19] zZ (am (v := .agg #[.slice Fx zI.length EI,.int .i64 Cb,.slice Fw zH.length EH,.slice Fv zG.length EG,.slice Fu zF.length EF,.slice Ft zE.length EE,.int .i64 Ca,.int .i64 B0,.int .i64 BZ,.int .i64 BY]) 1 (some 10) ag) ae (ap 1 [1,2,3] [0,1,2,3,4,5,6,7,8,9,10,11,12,13,14,15,16,17,18,19] zZ (am (v := .agg #[.slice Fs zD.length ED,.int .i64 BX,.slice Fr zC.length EC,.slice Fq zB.length EB,.slice Fp zA.length EA,.slice Fo zx.length Ez,.int .i64 BW,.int .i64 BV,.int .i64 BU,.int .i64 BR]) 2 (some 10) ag) ae (ar 2 ac (aD (cs' := [.slice Fx zI.length EI,.int .i64 Cb,.slice Fw zH.length EH,.slice Fv zG.length EG,.slice Fu zF.length EF,.slice Ft zE.length EE,.int .i64 Ca,.int .i64 B0,.int .i64 BZ,.int .i64 BY]) 0 bh (aN [1,2,3] [0,1,2,3,4,5,6,7,8,9,10,11,12,13,14,15,16,17,18,19] ag (ar 3 ac (aD (cs' := [.slice Fs zD.length ED,.int .i64 BX,.slice Fr zC.length EC,.slice Fq zB.length EB,.slice Fp zA.length EA,.slice Fo zx.length Ez,.int .i64 BW,.int .i64 BV,.int .i64 BU,.int .i64 BR]) 1 bh (xn zZ (xd ?_))))))))))
  cases H
  exact rt Tryz.func10 zZ (.cell 0 (some 10) zZ zZ zZ (.cell 1 (some 10) zZ zZ zZ .nil)) zZ [] [(aj 10 1 1),(aj 11 1 2),(aj 12 1 3),(aj 13 1 4),(aj 14 1 5),(aj 15 1 6),(aj 16 1 7),(aj 17 1 8),(aj 18 1 9),(aj 19 1 10)] zZ zZ zZ zZ zZ ⟨_,_,_,_,_,_,_,_,_,_,_,_,_,_,_,_,_,_,_,_,zZ,zZ,zZ⟩
 ·
  refine gs (rg (al ac ?_))
  revert H; refine aS ?_; rintro ⟨Ag,yd,yc⟩ A5 H
  refine so zZ (bb (mI.ok vV l0 ay az Lh O2 2 _ _ _ A5) [(aw 0)] [2] [0,1,3,4] 13 ep ?_)
  rintro _ _ _ ⟨rfl,rfl,rfl⟩
  refine bR (en := [.sl 0 (.int .u8) ay az l0 0 false,.sl 1 ai rk qQ oQ 2 true,.sl 1 ai rj qP pq 3 true,.sl 1 ai ri qO uv 4 true,.sl 1 ai rh qN uu 5 true,.sl 1 aZ rf qM ut 6 true,.sl 2 ai rd qL mo 8 true,.sl 2 ai rc qK lU 9 true,.sl 2 ai qZ qJ us 10 true,.sl 2 ai qY qI ur 11 true,.sl 2 aZ qX qH uq 12 true]) kK (re ?_)
  revert H; refine aJ ?_ ?_ <;> intro c6 H
  ·
   subst c6
   refine gt zZ zZ (rg (sv (am (v := .agg #[.slice rd mo.length qL,.int .i64 mn,.slice rc lU.length qK,.slice qZ us.length qJ,.slice qY ur.length qI,.slice qX uq.length qH,.int .i64 vx,.int .i64 vw,.int .i64 vv,.int .i64 vu]) 3 (some 10) ag) zZ ?_))
   revert H; refine aS ?_; rintro ⟨hM,iG,iR,ki,kB,kA,kz,kx,kw,kv,Xd,ab0⟩ A7 H
   refine so zZ (ax (bz.ok k mo rd qL mn lU rc qK us qZ qJ ur qY qI uq qX qH vx vw vv vu 12 _ _ _ _ _ _ _ _ _ _ _ _ A7) [(aw 6),(aw 7),(aw 8),(aw 9),(aw 10)] 13 aG ?_)
   rintro _ _ _ ⟨il,ik,i6,iZ,i5,iY,i4,iX,i3,iW,aa0,aaf,rfl,rfl,rfl⟩
   exact al ac (sv (bp ac) zZ (sv (bp ac) zZ (sv (bp ac) zZ (so zZ (aD (cs' := [.slice il hM.length ik,.int .i64 iG,.slice i6 iR.length iZ,.slice i5 ki.length iY,.slice i4 kB.length iX,.slice i3 kA.length iW,.int .i64 kz,.int .i64 kx,.int .i64 kw,.int .i64 kv]) 3 bh (re (aB [2,3,5,6] [0,1,2,3] [1,2,3,4,5,11,12,13,14,15] ae (aR ai 19 dq (aR ai 20 dq (aR ai 21 dq (aR ai 22 dq (aR aZ 23 dq (aR ai 24 dq (aR ai 25 dq (aR ai 26 dq (aR ai 27 dq (aR aZ 28 dq (wk [2,3,5,6] [0,1,2,3] [(aj 10 2 1),(aj 11 2 2),(aj 12 2 3),(aj 13 2 4),(aj 14 2 5),(aj 15 2 6),(aj 16 2 7),(aj 17 2 8),(aj 18 2 9),(aj 19 2 10),(aj 0 1 11),(aj 1 1 12),(aj 2 1 13),(aj 3 1 14),(aj 4 1 15),(aj 5 1 16),(aj 6 1 17),(aj 7 1 18),(aj 8 1 19),(aj 9 1 20)] (gw _ ⟨_,[],none,0,0,[],none,0,[],none,0,[],none,0,[],none,0,0,0,0,0,[],none,0,0,[],none,0,[],none,0,[],none,0,[],none,0,0,0,0,0,oQ,rk,qQ,uw,pq,rj,qP,uv,ri,qO,uu,rh,qN,ut,rf,qM,Ak,Aj,Ai,Ah,hM,il,ik,iG,iR,i6,iZ,ki,i5,iY,kB,i4,iX,kA,i3,iW,kz,kx,kw,kv,H,zZ⟩)))))))))))))))))))
  ·
   have xc6 := bF c6; subst xc6
   exact gf zZ zZ (gk (aR ai 13 dq (aR ai 14 dq (aR ai 15 dq (aR ai 16 dq (aR aZ 17 dq (aR ai 18 dq (aR ai 19 dq (aR ai 20 dq (aR ai 21 dq (aR aZ 22 dq (wk [2,3,5,6] [0,1,2,3] [(aj 11 2 1),(aj 12 2 2),(aj 13 2 3),(aj 14 2 4),(aj 15 2 5),(aj 16 2 6),(aj 17 2 7),(aj 18 2 8),(aj 19 2 9),(aj 20 2 10),(aj 1 1 11),(aj 2 1 12),(aj 3 1 13),(aj 4 1 14),(aj 5 1 15),(aj 6 1 16),(aj 7 1 17),(aj 8 1 18),(aj 9 1 19),(aj 10 1 20)] (gw _ ⟨_,[],none,0,0,[],none,0,[],none,0,[],none,0,[],none,0,0,0,0,0,[],none,0,0,[],none,0,[],none,0,[],none,0,[],none,0,0,0,0,0,oQ,rk,qQ,uw,pq,rj,qP,uv,ri,qO,uu,rh,qN,ut,rf,qM,Ak,Aj,Ai,Ah,mo,rd,qL,mn,lU,rc,qK,us,qZ,qJ,ur,qY,qI,uq,qX,qH,vx,vw,vv,vu,H,zZ⟩)))))))))))))
def mH.f (av : List Int) (aF : Int) (cw : Int) (l1 : List ByteArray) : Option (ByteArray × Int × Int) := (cP.f av aF cw (l1.length : Int)).bind fun aE => (if 0 ≤ aE.1 then (if aE.1 < (l1.length : Int) then (some (bu ByteArray.empty l1 aE.1,aE.2.1,aE.2.2)) else none) else none)
theorem mH.ok (dh : Nat) (av : List Int) (aL : Option Addr) (aK : Nat) (aF : Int) (cw : Int) (l1 : List ByteArray) (i9 : Option Addr) (i7 : Nat) (r0 : ByteArray) (r1 : Int) (r2 : Int) (H : mH.f av aF cw l1 = some (r0,r1,r2)) : Fn Tryz.prog 36 [.pointer (some ⟨dh,0,none⟩),.slice i9 l1.length i7] [⟨dh,92,[.slice aL av.length aK,.int .i64 aF,.int .i64 cw]⟩] [.sl 0 (.int .u8) aL aK av 0 false,.sl 0 .str i9 i7 l1 0 false] (fun v bx en => v = .string r0 ∧ bx = [⟨dh,92,[.slice aL av.length aK,.int .i64 r1,.int .i64 r2]⟩] ∧ en = []) := by
 refine eD 12 Tryz.func36 zZ zZ zZ (fun base T w0 => ?_)
 rw [mH.f] at H
 refine gs (rg (au ac (re (gs (rg (al ac (al ac (al ac (sv (bG zZ) zZ ?_)))))))))
 revert H; refine aS ?_; rintro ⟨bC,bX,bf⟩ A1 H
 refine so zZ (bb (cP.ok dh av aL aK aF cw (l1.length : Int) _ _ _ A1) [(aw 0)] [0] [] 1 ep ?_)
 rintro _ _ _ ⟨rfl,rfl,rfl⟩
 refine bR (en := [.sl 0 (.int .u8) aL aK av 0 false,.sl 0 .str i9 i7 l1 0 false]) kK ?_
 revert H; refine aU ?_; intro g2 H
 revert H; refine aU ?_; intro g3 H
 refine sv (aM 1 ag g2 g3 zZ) zZ (sv (bg (v := .string (bu ByteArray.empty l1 bC)) bC 0 none 1 ByteArray.empty zZ zZ zZ g2 g3 zZ zZ zZ) zZ (au ac (re (aB [4] [0] [0] ae ?_))))
 cases H
 exact rt Tryz.func36 zZ (.tmp zZ .nil) zZ [0] [] zZ zZ zZ zZ zZ ⟨zZ,zZ,zZ⟩
def ko.f (k : Nat) (l0 : List Int) : Option (ByteArray × Int) := (eL.f k l0).bind fun aE => ((mH.f l0 aE.1 aE.2 ([(⟨#[]⟩ : ByteArray),(⟨#[47]⟩ : ByteArray),(⟨#[97,47,98,47,99]⟩ : ByteArray),(⟨#[97]⟩ : ByteArray),(⟨#[47,47,120]⟩ : ByteArray)] : List ByteArray)).bind fun dm => ((cP.f l0 dm.2.1 dm.2.2 5).bind fun nD => (some (dm.1,wrap64 (nD.1 - 1)))))
theorem ko.ok (k : Nat) (l0 : List Int) (ay : Option Addr) (az : Nat) (r0 : ByteArray) (r1 : Int) (H : ko.f k l0 = some (r0,r1)) : Fn Tryz.prog 11 [.slice ay l0.length az] [] [.sl 0 (.int .u8) ay az l0 0 false] (fun v bx en => v = .tuple #[.string r0,.int .i64 r1] ∧ bx = [] ∧ en = []) := by
 refine eD 13 Tryz.func11 zZ zZ zZ (fun base T w0 => ?_)
 rw [ko.f] at H
 refine gs (rg (au ac (au ac (re (gs (rg (al ac ?_)))))))
 revert H; refine aS ?_; rintro ⟨bC,bX⟩ A1 H
 refine so zZ (bb (eL.ok k l0 ay az _ _ A1) [(aw 0)] [] [] 1 ep ?_)
 rintro _ _ _ ⟨vV,rfl,rfl,rfl⟩
 refine bR (en := [.sl 0 (.int .u8) ay az l0 0 false]) kK (au ac (re (gs (rg (al ac (so zZ (bH (s := 1) (by_ := 16) .str ([(⟨#[]⟩ : ByteArray),(⟨#[47]⟩ : ByteArray),(⟨#[97,47,98,47,99]⟩ : ByteArray),(⟨#[97]⟩ : ByteArray),(⟨#[47,47,120]⟩ : ByteArray)] : List ByteArray) [[],[],[],[],[]] [] 1 [.const (.string (⟨#[]⟩ : ByteArray)),.const (.string (⟨#[47]⟩ : ByteArray)),.const (.string (⟨#[97,47,98,47,99]⟩ : ByteArray)),.const (.string (⟨#[97]⟩ : ByteArray)),.const (.string (⟨#[47,47,120]⟩ : ByteArray))] dp dq zZ fun Tl Ta => ?_)))))))
 revert H; refine aS ?_; rintro ⟨mo,mn,lU⟩ A3 H
 refine so zZ (bb (mH.ok vV l0 ay az bC bX ([(⟨#[]⟩ : ByteArray),(⟨#[47]⟩ : ByteArray),(⟨#[97,47,98,47,99]⟩ : ByteArray),(⟨#[97]⟩ : ByteArray),(⟨#[47,47,120]⟩ : ByteArray)] : List ByteArray) Tl Ta _ _ _ A3) [(aw 0),(aw 1)] [0] [] 2 ep ?_)
 rintro _ _ _ ⟨rfl,rfl,rfl⟩
 refine bR (en := [.sl 0 (.int .u8) ay az l0 0 false,.sl 2 .str Tl Ta ([(⟨#[]⟩ : ByteArray),(⟨#[47]⟩ : ByteArray),(⟨#[97,47,98,47,99]⟩ : ByteArray),(⟨#[97]⟩ : ByteArray),(⟨#[47,47,120]⟩ : ByteArray)] : List ByteArray) 1 true]) kK (al ac ?_)
 revert H; refine aS ?_; rintro ⟨k8,Ci,HB⟩ A4 H
 refine so zZ (bb (cP.ok vV l0 ay az mn lU 5 _ _ _ A4) [(aw 0)] [0] [] 2 ep ?_)
 rintro _ _ _ ⟨rfl,rfl,rfl⟩
 refine bR (en := [.sl 0 (.int .u8) ay az l0 0 false,.sl 2 .str Tl Ta ([(⟨#[]⟩ : ByteArray),(⟨#[47]⟩ : ByteArray),(⟨#[97,47,98,47,99]⟩ : ByteArray),(⟨#[97]⟩ : ByteArray),(⟨#[47,47,120]⟩ : ByteArray)] : List ByteArray) 1 true]) kK (sv (co ac) zZ (au ac (au ac (re (aB [2,3] [] [] ae ?_)))))
 cases H
 exact rt Tryz.func11 zZ (.tmp zZ (.tmp zZ .nil)) zZ [] [] zZ zZ zZ zZ zZ ⟨zZ,zZ,zZ⟩
def hO.l0 : Nat → ByteArray → Int → (List ByteArray) → Int → Int → Int → Option ((List ByteArray))
 | 0,_,_,_,_,_,_ => none
 | k + 1,fh,kM,bW,dt,iC,ia => if ia < iC then (if 0 ≤ ia then (if ia < (fh.size : Int) then (if (bt fh ia) = kM then (if 0 ≤ dt then (if dt ≤ ia then (if ia ≤ (fh.size : Int) then (if bW.length < 8796093022208 then (hO.l0 k fh kM (bW ++ ([fh.extract dt.toNat ia.toNat] : List ByteArray)) (wrap64 (ia + 1)) iC (wrap64 (ia + 1))) else none) else none) else none) else none) else (hO.l0 k fh kM bW dt iC (wrap64 (ia + 1)))) else none) else none) else (if 0 ≤ dt then (if dt ≤ (fh.size : Int) then (if bW.length < 8796093022208 then (some (bW ++ ([fh.extract dt.toNat fh.size] : List ByteArray))) else none) else none) else none)
def hO.f (k : Nat) (a0 : ByteArray) (a1 : Int) : Option ((List ByteArray)) := hO.l0 k a0 a1 [] 0 (a0.size : Int) 0
theorem hO.ok (k : Nat) (a0 : ByteArray) (a1 : Int) (r0 : List ByteArray) (H : hO.f k a0 a1 = some r0) : Fn Tryz.prog 22 [.string a0,.int .u8 a1] [] [] (fun v bx en => ∃ A0 c0,v = .slice A0 r0.length c0 ∧ bx = [] ∧ en = [.sl 2 .str A0 c0 r0 1 true]) := by
 refine eD 35 Tryz.func22 zZ zZ zZ (fun base T w0 => ?_)
 rw [hO.f] at H
 refine gs (rg (au ac (re (gs (rg (so zZ (bH (s := 1) (by_ := 16) .str ([] : List ByteArray) [] [] 1 [] dp dq zZ fun GL Gr => (au ac (au ac (re (gs (gs (rg (al ac (sv (sf zZ) zZ (al ac (re (gb ?_))))))))))))))))))
 refine lo (fun kk S => ∃ (fh : ByteArray) (kM : Int) (bW : List ByteArray) (kU : Option Addr) (kT : Nat) (dt : Int) (iC : Int) (ia : Int),hO.l0 kk fh kM bW dt iC ia = some r0 ∧ S = ⟨[(0,.string fh),(1,.int .u8 kM),(5,.slice kU bW.length kT),(6,.int .i64 dt),(10,.int .i64 iC),(11,.int .i64 ia)],[],[.sl 2 .str kU kT bW 1 true]⟩) (fun S hS => ?_) (fun n0 cZ S hS => ?_) ⟨a0,a1,[],GL,Gr,0,(a0.size : Int),0,H,zZ⟩ (fun h => wk [0,1,5,6,10,11] [] [(aj 0 2 1)] h)
 · clear H; obtain ⟨_,_,_,_,_,_,_,_,H,_⟩ := hS; rw [hO.l0] at H; cases H
 clear H
 obtain ⟨fh,kM,bW,kU,kT,dt,iC,ia,H,rfl⟩ := hS
 rw [hO.l0] at H
 refine gs (rg (sv (bS ac) zZ (re (gs ?_))))
 revert H; refine aJ ?_ ?_ <;> intro c2 H
 ·
  refine gt zZ (dT c2) (gk (gs (gb (gs (rg (al ac (au ac (re (gs (rg (al ac (al ac ?_))))))))))))
  revert H; refine aU ?_; intro g3 H
  revert H; refine aU ?_; intro g4 H
  refine sv (xB zZ zZ g3 g4) zZ (al ac (sv (bZ ac) zZ (re (aB [0,1,5,6,7,10,11,18] [] [0] ae ?_))))
  revert H; refine aJ ?_ ?_ <;> intro c5 H
  ·
   refine gt zZ (dT c5) (gs (rg (al ac (al ac (al ac (al ac ?_))))))
   revert H; refine aU ?_; intro g6 H
   revert H; refine aU ?_; intro g7 H
   revert H; refine aU ?_; intro g8 H
   refine sv (VJ zZ zZ zZ g6 g7 g8) zZ (so zZ (bH (s := 1) (by_ := 16) .str ([fh.extract dt.toNat ia.toNat] : List ByteArray) [[]] [] 2 [.tmp 23] dp dq zZ fun adX adB => ?_))
   revert H; refine aU ?_; intro iU H
   exact so zZ (di (k := .str) (s := 1) (by_ := 16) 0 1 ae (km iU dq) (iz iU dq) (.inl zZ) true (fun _ => .inl zZ) ac fun Ws Vz => (bR (en := [.sl 2 .str adX adB ([fh.extract dt.toNat ia.toNat] : List ByteArray) 2 true,.sl 2 .str Ws Vz (bW ++ ([fh.extract dt.toNat ia.toNat] : List ByteArray)) 1 true]) kK (au ac (re (aB [0,1,5,7,10,11] [] [1] ae (rg (al ac (sv (ba ac) zZ (au ac (re (ge (rg (sv (ba ac) zZ (al ac (re (wk [0,1,5,6,10,11] [] [(aj 0 2 1)] (cZ _ (by omega) _ ⟨fh,kM,bW ++ ([fh.extract dt.toNat ia.toNat] : List ByteArray),Ws,Vz,wrap64 (ia + 1),iC,wrap64 (ia + 1),H,zZ⟩)))))))))))))))))
  ·
   exact gf zZ (dF c5) (gk (ge (rg (sv (ba ac) zZ (al ac (re (wk [0,1,5,6,10,11] [] [(aj 0 2 1)] (cZ _ (by omega) _ ⟨fh,kM,bW,kU,kT,dt,iC,wrap64 (ia + 1),H,zZ⟩))))))))
 ·
  refine gf zZ (dF c2) (gx zZ (gs (rg (al ac (al ac (al ac ?_))))))
  revert H; refine aU ?_; intro ju H
  revert H; refine aU ?_; intro jQ H
  refine sv (EY zZ zZ ju jQ) zZ (so zZ (bH (s := 1) (by_ := 16) .str ([fh.extract dt.toNat fh.size] : List ByteArray) [[]] [] 2 [.tmp 32] dp dq zZ fun abG aaF => ?_))
  revert H; refine aU ?_; intro D8 H
  refine so zZ (di (k := .str) (s := 1) (by_ := 16) 0 1 ae (km D8 dq) (iz D8 dq) (.inl zZ) true (fun _ => .inl zZ) ac fun abD aaD => (bR (en := [.sl 2 .str abG aaF ([fh.extract dt.toNat fh.size] : List ByteArray) 2 true,.sl 2 .str abD aaD (bW ++ ([fh.extract dt.toNat fh.size] : List ByteArray)) 1 true]) kK (au ac (re (aB [4] [] [1] ae ?_)))))
  cases H
  exact rt Tryz.func22 zZ (.tmp zZ .nil) zZ [] [(aj 0 2 1)] zZ zZ zZ zZ zZ ⟨_,_,zZ,zZ,zZ⟩
def fD.f (a0 : Int) (a1 : Int) (a2 : Int) : Option (Bool) := if a0 ≥ a1 then (some (decide (a0 ≤ a2))) else (some false)
theorem fD.ok (a0 : Int) (a1 : Int) (a2 : Int) (r0 : Bool) (H : fD.f a0 a1 a2 = some r0) : Fn Tryz.prog 43 [.int .i64 a0,.int .i64 a1,.int .i64 a2] [] [] (fun v bx en => v = .bool r0 ∧ bx = [] ∧ en = []) := by
 refine eD 15 Tryz.func43 zZ zZ zZ (fun base T w0 => ?_)
 rw [fD.f] at H
 refine gs (rg (au ac (re (gs (rg (al ac (al ac (sv (Ac zZ zZ) zZ (al ac ?_)))))))))
 revert H; refine aJ ?_ ?_ <;> intro c1 H
 ·
  refine ts 10 zZ (dT c1) (al ac (al ac (sv (jv ac) zZ (sv (aQ ag) zZ (au ac (re (aB [6] [] [] ae ?_)))))))
  cases H
  exact rt Tryz.func43 zZ (.tmp zZ .nil) zZ [] [] zZ zZ zZ zZ zZ ⟨zZ,zZ,zZ⟩
 ·
  refine ts 10 zZ (dF c1) (sk zZ (sk zZ (sk zZ (sv (aI ag) zZ (au ac (re (aB [6] [] [] ae ?_)))))))
  cases H
  exact rt Tryz.func43 zZ (.tmp zZ .nil) zZ [] [] zZ zZ zZ zZ zZ ⟨zZ,zZ,zZ⟩
def lG.f (k : Nat) (a0 : ByteArray) (a1 : Int) : Option (ByteArray × Bool) := (hO.f k a0 47).bind fun t1 => ((fD.f a1 0 (wrap64 ((t1.length : Int) - 1))).bind fun t2 => (if t2 = true then (if 0 ≤ a1 then (if a1 < (t1.length : Int) then (some (bu ByteArray.empty t1 a1,true)) else none) else none) else (some ((⟨#[]⟩ : ByteArray),false))))
theorem lG.ok (k : Nat) (a0 : ByteArray) (a1 : Int) (r0 : ByteArray) (r1 : Bool) (H : lG.f k a0 a1 = some (r0,r1)) : Fn Tryz.prog 12 [.string a0,.int .i64 a1] [] [] (fun v bx en => v = .tuple #[.string r0,.bool r1] ∧ bx = [] ∧ en = []) := by
 refine eD 19 Tryz.func12 zZ zZ zZ (fun base T w0 => ?_)
 rw [lG.f] at H
 refine gs (rg (au ac (au ac (re (gs (rg (al ac ?_)))))))
 revert H; refine aS ?_; rintro t1 A1 H
 refine so zZ (ax (hO.ok k a0 47 _ A1) [] 1 aG ?_)
 rintro _ _ _ ⟨iF,iE,rfl,rfl,rfl⟩
 refine au ac (re (gs (gs (rg (al ac (al ac (sv (bG zZ) zZ (sv (co ac) zZ ?_))))))))
 revert H; refine aS ?_; rintro t2 A2 H
 refine so zZ (ax (fD.ok a1 0 (wrap64 ((t1.length : Int) - 1)) _ A2) [] 3 aG ?_)
 rintro _ _ _ ⟨rfl,rfl,rfl⟩
 refine sv (eE zZ) zZ (re (aB [1,6,14] [] [0] ae ?_))
 revert H; refine aJ ?_ ?_ <;> intro c3 H
 ·
  subst c3
  refine gf zZ zZ (gk (gs (rg (al ac (al ac ?_)))))
  revert H; refine aU ?_; intro g4 H
  revert H; refine aU ?_; intro g5 H
  refine sv (aM 0 ag g4 g5 zZ) zZ (sv (bg (v := .string (bu ByteArray.empty t1 a1)) a1 0 none 0 ByteArray.empty zZ zZ zZ g4 g5 zZ zZ zZ) zZ (au ac (au ac (re (aB [4,5] [] [] ae ?_)))))
  cases H
  exact rt Tryz.func12 zZ (.tmp zZ (.tmp zZ .nil)) zZ [] [] zZ zZ zZ zZ zZ ⟨zZ,zZ,zZ⟩
 ·
  have xc3 := bF c3; subst xc3
  refine gt zZ zZ (gs (rg (au ac (au ac (re ?_)))))
  cases H
  exact rt Tryz.func12 zZ (.tmp zZ (.tmp zZ .nil)) zZ [] [] zZ zZ zZ zZ zZ ⟨zZ,zZ,zZ⟩
def gc.l0 : Nat → ByteArray → Int → (List ByteArray) → Int → Int → Option ((List ByteArray))
 | 0,_,_,_,_,_ => none
 | k + 1,fh,kM,bW,dt,bV => if bV < (fh.size : Int) then (if 0 ≤ bV then (if (bt fh bV) = kM then (if 0 ≤ dt then (if dt ≤ bV then (if bV ≤ (fh.size : Int) then (if bW.length < 8796093022208 then (gc.l0 k fh kM (bW ++ ([fh.extract dt.toNat bV.toNat] : List ByteArray)) (wrap64 (bV + 1)) (wrap64 (bV + 1))) else none) else none) else none) else none) else (gc.l0 k fh kM bW dt (wrap64 (bV + 1)))) else none) else (if 0 ≤ dt then (if dt ≤ (fh.size : Int) then (if bW.length < 8796093022208 then (some (bW ++ ([fh.extract dt.toNat fh.size] : List ByteArray))) else none) else none) else none)
def gc.f (k : Nat) (a0 : ByteArray) (a1 : Int) : Option ((List ByteArray)) := gc.l0 k a0 a1 [] 0 0
theorem gc.ok (k : Nat) (a0 : ByteArray) (a1 : Int) (r0 : List ByteArray) (H : gc.f k a0 a1 = some r0) : Fn Tryz.prog 38 [.string a0,.int .u8 a1] [] [] (fun v bx en => ∃ A0 c0,v = .slice A0 r0.length c0 ∧ bx = [] ∧ en = [.sl 2 .str A0 c0 r0 1 true]) := by
 refine eD 35 Tryz.func38 zZ zZ zZ (fun base T w0 => ?_)
 rw [gc.f] at H
 refine gs (rg (au ac (re (gs (rg (so zZ (bH (s := 1) (by_ := 16) .str ([] : List ByteArray) [] [] 1 [] dp dq zZ fun GL Gr => (au ac (re (gs (rg (au ac (re (gs (gs (rg (au ac (re (gb ?_)))))))))))))))))))
 refine lo (fun kk S => ∃ (fh : ByteArray) (kM : Int) (bW : List ByteArray) (kU : Option Addr) (kT : Nat) (dt : Int) (bV : Int),gc.l0 kk fh kM bW dt bV = some r0 ∧ S = ⟨[(0,.string fh),(1,.int .u8 kM),(5,.slice kU bW.length kT),(6,.int .i64 dt),(7,.int .i64 bV)],[],[.sl 2 .str kU kT bW 1 true]⟩) (fun S hS => ?_) (fun n0 cZ S hS => ?_) ⟨a0,a1,[],GL,Gr,0,0,H,zZ⟩ (fun h => wk [0,1,5,6,7] [] [(aj 0 2 1)] h)
 · clear H; obtain ⟨_,_,_,_,_,_,_,H,_⟩ := hS; rw [gc.l0] at H; cases H
 clear H
 obtain ⟨fh,kM,bW,kU,kT,dt,bV,H,rfl⟩ := hS
 rw [gc.l0] at H
 refine gs (gs (rg (al ac (al ac (sv (sf zZ) zZ (sv (bS ac) zZ (re ?_)))))))
 revert H; refine aJ ?_ ?_ <;> intro c2 H
 ·
  refine gt zZ (dT c2) (gk (gs (gb (gs (rg (al ac (al ac ?_)))))))
  revert H; refine aU ?_; intro g3 H
  refine sv (xB zZ zZ g3 c2) zZ (al ac (sv (bZ ac) zZ (re (aB [0,1,5,6,7,19] [] [0] ae ?_))))
  revert H; refine aJ ?_ ?_ <;> intro c4 H
  ·
   refine gt zZ (dT c4) (gs (rg (al ac (al ac (al ac (al ac ?_))))))
   revert H; refine aU ?_; intro g5 H
   revert H; refine aU ?_; intro g6 H
   revert H; refine aU ?_; intro g7 H
   refine sv (VJ zZ zZ zZ g5 g6 g7) zZ (so zZ (bH (s := 1) (by_ := 16) .str ([fh.extract dt.toNat bV.toNat] : List ByteArray) [[]] [] 2 [.tmp 24] dp dq zZ fun adW adA => ?_))
   revert H; refine aU ?_; intro g9 H
   exact so zZ (di (k := .str) (s := 1) (by_ := 16) 0 1 ae (km g9 dq) (iz g9 dq) (.inl zZ) true (fun _ => .inl zZ) ac fun Wr Vy => (bR (en := [.sl 2 .str adW adA ([fh.extract dt.toNat bV.toNat] : List ByteArray) 2 true,.sl 2 .str Wr Vy (bW ++ ([fh.extract dt.toNat bV.toNat] : List ByteArray)) 1 true]) kK (au ac (re (aB [0,1,5,7] [] [1] ae (rg (al ac (sv (ba ac) zZ (au ac (re (ge (rg (al ac (sv (ba ac) zZ (au ac (re (wk [0,1,5,6,7] [] [(aj 0 2 1)] (cZ _ (by omega) _ ⟨fh,kM,bW ++ ([fh.extract dt.toNat bV.toNat] : List ByteArray),Wr,Vy,wrap64 (bV + 1),wrap64 (bV + 1),H,zZ⟩))))))))))))))))))
  ·
   exact gf zZ (dF c4) (gk (ge (rg (al ac (sv (ba ac) zZ (au ac (re (wk [0,1,5,6,7] [] [(aj 0 2 1)] (cZ _ (by omega) _ ⟨fh,kM,bW,kU,kT,dt,wrap64 (bV + 1),H,zZ⟩)))))))))
 ·
  refine gf zZ (dF c2) (gx zZ (gs (rg (al ac (al ac (al ac ?_))))))
  revert H; refine aU ?_; intro lR H
  revert H; refine aU ?_; intro ju H
  refine sv (EY zZ zZ lR ju) zZ (so zZ (bH (s := 1) (by_ := 16) .str ([fh.extract dt.toNat fh.size] : List ByteArray) [[]] [] 2 [.tmp 32] dp dq zZ fun abH aaG => ?_))
  revert H; refine aU ?_; intro JU H
  refine so zZ (di (k := .str) (s := 1) (by_ := 16) 0 1 ae (km JU dq) (iz JU dq) (.inl zZ) true (fun _ => .inl zZ) ac fun abE aaE => (bR (en := [.sl 2 .str abH aaG ([fh.extract dt.toNat fh.size] : List ByteArray) 2 true,.sl 2 .str abE aaE (bW ++ ([fh.extract dt.toNat fh.size] : List ByteArray)) 1 true]) kK (au ac (re (aB [4] [] [1] ae ?_)))))
  cases H
  exact rt Tryz.func38 zZ (.tmp zZ .nil) zZ [] [(aj 0 2 1)] zZ zZ zZ zZ zZ ⟨_,_,zZ,zZ,zZ⟩
def lz.f (k : Nat) (a0 : ByteArray) (a1 : Int) : Option (ByteArray × Bool) := (gc.f k a0 47).bind fun t1 => ((gO.f a1 0 (wrap64 ((t1.length : Int) - 1))).bind fun t2 => (if t2 = true then (if 0 ≤ a1 then (if a1 < (t1.length : Int) then (some (bu ByteArray.empty t1 a1,true)) else none) else none) else (some ((⟨#[]⟩ : ByteArray),false))))
theorem lz.ok (k : Nat) (a0 : ByteArray) (a1 : Int) (r0 : ByteArray) (r1 : Bool) (H : lz.f k a0 a1 = some (r0,r1)) : Fn Tryz.prog 13 [.string a0,.int .i64 a1] [] [] (fun v bx en => v = .tuple #[.string r0,.bool r1] ∧ bx = [] ∧ en = []) := by
 refine eD 19 Tryz.func13 zZ zZ zZ (fun base T w0 => ?_)
 rw [lz.f] at H
 refine gs (rg (au ac (au ac (re (gs (rg (al ac ?_)))))))
 revert H; refine aS ?_; rintro t1 A1 H
 refine so zZ (ax (gc.ok k a0 47 _ A1) [] 1 aG ?_)
 rintro _ _ _ ⟨iF,iE,rfl,rfl,rfl⟩
 refine au ac (re (gs (gs (rg (al ac (al ac (sv (bG zZ) zZ (sv (co ac) zZ ?_))))))))
 revert H; refine aS ?_; rintro t2 A2 H
 refine so zZ (ax (gO.ok a1 0 (wrap64 ((t1.length : Int) - 1)) _ A2) [] 3 aG ?_)
 rintro _ _ _ ⟨rfl,rfl,rfl⟩
 refine sv (eE zZ) zZ (re (aB [1,6,14] [] [0] ae ?_))
 revert H; refine aJ ?_ ?_ <;> intro c3 H
 ·
  subst c3
  refine gf zZ zZ (gk (gs (rg (al ac (al ac ?_)))))
  revert H; refine aU ?_; intro g4 H
  revert H; refine aU ?_; intro g5 H
  refine sv (aM 0 ag g4 g5 zZ) zZ (sv (bg (v := .string (bu ByteArray.empty t1 a1)) a1 0 none 0 ByteArray.empty zZ zZ zZ g4 g5 zZ zZ zZ) zZ (au ac (au ac (re (aB [4,5] [] [] ae ?_)))))
  cases H
  exact rt Tryz.func13 zZ (.tmp zZ (.tmp zZ .nil)) zZ [] [] zZ zZ zZ zZ zZ ⟨zZ,zZ,zZ⟩
 ·
  have xc3 := bF c3; subst xc3
  refine gt zZ zZ (gs (rg (au ac (au ac (re ?_)))))
  cases H
  exact rt Tryz.func13 zZ (.tmp zZ (.tmp zZ .nil)) zZ [] [] zZ zZ zZ zZ zZ ⟨zZ,zZ,zZ⟩
def fX.l0 : Nat → Int → (List aT) → (List aT) → Option (Bool)
 | 0,_,_,_ => none
 | k + 1,bW,l0,l1 => if bW < (l0.length : Int) then (if 0 ≤ bW then (if bW < (l1.length : Int) then ((eM.f k ((aC l0 bW).f0) ((aC l1 bW).f0)).bind fun t7 => (if t7 = true then (fX.l0 k (wrap64 (bW + 1)) l0 l1) else (some false))) else none) else none) else (some true)
def fX.f (k : Nat) (l0 : List aT) (l1 : List aT) : Option (Bool) := if (l0.length : Int) = (l1.length : Int) then (fX.l0 k 0 l0 l1) else (some false)
theorem fX.ok (k : Nat) (l0 : List aT) (ay : Option Addr) (az : Nat) (l1 : List aT) (i9 : Option Addr) (i7 : Nat) (r0 : Bool) (H : fX.f k l0 l1 = some r0) : Fn Tryz.prog 54 [.slice ay l0.length az,.slice i9 l1.length i7] [] [.sl 0 aZ ay az l0 0 false,.sl 0 aZ i9 i7 l1 0 false] (fun v bx en => v = .bool r0 ∧ bx = [] ∧ en = []) := by
 refine eD 29 Tryz.func54 zZ zZ zZ (fun base T w0 => ?_)
 rw [fX.f] at H
 refine gs (rg (au ac (re (gs (gs (rg (al ac (sv (bG zZ) zZ (al ac (sv (bG zZ) zZ (sv (lK zZ zZ) zZ (re ?_))))))))))))
 revert H; refine aJ ?_ ?_ <;> intro c1 H
 ·
  refine gf zZ (nF c1) (gk (gs (gs (rg (au ac (re (aB [0,1,5] [] [0,1] ae (gb ?_))))))))
  refine lo (fun kk S => ∃ (bW : Int),fX.l0 kk bW l0 l1 = some r0 ∧ S = ⟨[(0,.slice ay l0.length az),(1,.slice i9 l1.length i7),(5,.int .i64 bW)],[],[.sl 0 aZ ay az l0 0 false,.sl 0 aZ i9 i7 l1 0 false]⟩) (fun S hS => ?_) (fun n0 cZ S hS => ?_) ⟨0,H,zZ⟩ (fun h => wk [0,1,5] [] [(aw 0),(aw 1)] h)
  · clear H; obtain ⟨_,H,_⟩ := hS; rw [fX.l0] at H; cases H
  clear H
  obtain ⟨bW,H,rfl⟩ := hS
  rw [fX.l0] at H
  refine gs (gs (rg (al ac (al ac (sv (bG zZ) zZ (sv (bS ac) zZ (re ?_)))))))
  revert H; refine aJ ?_ ?_ <;> intro c2 H
  ·
   refine gt zZ (dT c2) (gk (gs (gb (gs ?_))))
   revert H; refine aU ?_; intro g3 H
   refine qt (i := bW) 0 n5 zZ g3 c2 fun xI xw => ?_
   revert H; refine aU ?_; intro g5 H
   refine qt (i := bW) 1 n5 zZ g3 g5 fun A_6 c_6 => (fj [] [0,1,2,3,4,5] [] 12 ae (ap 0 [] [0,1,2,3,4,5] zZ (aA zZ) ae (ap 1 [] [0,1,2,3,4,5] zZ (aA zZ) ae (ap 2 [] [0,1,2,3,4,5] zZ (aM 0 ag g3 c2 zZ) ae (ap 3 [] [0,1,2,3,4,5] zZ (aq 0 zZ) ae (ap 4 [] [0,1,2,3,4,5] zZ (ig (v := .slice xI ((aC l0 bW).f0).length xw) 0 none 2 ae) ae (ap 5 [] [0,1,2,3,4,5] zZ (aA zZ) ae (ap 6 [] [0,1,2,3,4,5] zZ (aA zZ) ae (ap 7 [] [0,1,2,3,4,5] zZ (aM 1 ag g3 g5 zZ) ae (ap 8 [] [0,1,2,3,4,5] zZ (aq 0 zZ) ae (ap 9 [] [0,1,2,3,4,5] zZ (ig (v := .slice A_6 ((aC l1 bW).f0).length c_6) 0 none 4 ae) ae (ar 10 ac ?_))))))))))))
   revert H; refine aS ?_; rintro t7 A7 H
   refine ax (eM.ok n0 ((aC l0 bW).f0) xI xw ((aC l1 bW).f0) A_6 c_6 _ A7) [(aw 3),(aw 5)] 1 aG ?_
   rintro _ _ _ ⟨rfl,rfl,rfl⟩
   refine aN [] [0,1,2,3,4,5] ag (ap 11 [] [0,1,2,3,4,5] zZ (eE zZ) ae (xd (aB [0,1,5,28] [] [0,1] ae ?_)))
   revert H; refine aJ ?_ ?_ <;> intro c8 H
   ·
    subst c8
    exact gf zZ zZ (gk (ge (rg (al ac (sv (ba ac) zZ (au ac (re (wk [0,1,5] [] [(aw 0),(aw 1)] (cZ _ (by omega) _ ⟨wrap64 (bW + 1),H,zZ⟩)))))))))
   ·
    have xc8 := bF c8; subst xc8
    refine gt zZ zZ (gs (rg (au ac (re ?_))))
    cases H
    exact rt Tryz.func54 zZ (.tmp zZ .nil) zZ [] [] zZ zZ zZ zZ zZ ⟨zZ,zZ,zZ⟩
  ·
   refine gf zZ (dF c2) (gx zZ (gs (rg (au ac (re (aB [4] [] [] ae ?_))))))
   cases H
   exact rt Tryz.func54 zZ (.tmp zZ .nil) zZ [] [] zZ zZ zZ zZ zZ ⟨zZ,zZ,zZ⟩
 ·
  refine gt zZ (nT c1) (gs (rg (au ac (re (aB [4] [] [] ae ?_)))))
  cases H
  exact rt Tryz.func54 zZ (.tmp zZ .nil) zZ [] [] zZ zZ zZ zZ zZ ⟨zZ,zZ,zZ⟩
def eH.f (k : Nat) (av : List ah) (aF : Int) (aP : List ah) (aW : List ah) (aO : List ah) (aH : List aT) (bD : Int) (bI : Int) (bK : Int) (bE : Int) (ru : List ah) (mu : Int) (rr : List ah) (rq : List ah) (ro : List ah) (ou : List aT) (As : Int) (Ar : Int) (Aq : Int) (Ap : Int) : Option (Bool) := (eM.f k av ru).bind fun t1 => (if t1 = true then (if aF = mu then ((eM.f k aP rr).bind fun t4 => (if t4 = true then ((eM.f k aW rq).bind fun t6 => (if t6 = true then ((eM.f k aO ro).bind fun t8 => (if t8 = true then ((fX.f k aH ou).bind fun oa => (if oa = true then (if bD = As then (if bI = Ar then (if bK = Aq then (some (decide (bE = Ap))) else (some false)) else (some false)) else (some false)) else (some false))) else (some false))) else (some false))) else (some false))) else (some false)) else (some false))
theorem eH.ok (k : Nat) (av : List ah) (aL : Option Addr) (aK : Nat) (aF : Int) (aP : List ah) (bB : Option Addr) (bA : Nat) (aW : List ah) (bm : Option Addr) (bk : Nat) (aO : List ah) (bo : Option Addr) (bn : Nat) (aH : List aT) (bl : Option Addr) (bj : Nat) (bD : Int) (bI : Int) (bK : Int) (bE : Int) (ru : List ah) (xH : Option Addr) (xu : Nat) (mu : Int) (rr : List ah) (xG : Option Addr) (xt : Nat) (rq : List ah) (xF : Option Addr) (xr : Nat) (ro : List ah) (xE : Option Addr) (xq : Nat) (ou : List aT) (yV : Option Addr) (yT : Nat) (As : Int) (Ar : Int) (Aq : Int) (Ap : Int) (r0 : Bool) (H : eH.f k av aF aP aW aO aH bD bI bK bE ru mu rr rq ro ou As Ar Aq Ap = some r0) : Fn Tryz.prog 15 [.agg #[.slice aL av.length aK,.int .i64 aF,.slice bB aP.length bA,.slice bm aW.length bk,.slice bo aO.length bn,.slice bl aH.length bj,.int .i64 bD,.int .i64 bI,.int .i64 bK,.int .i64 bE],.agg #[.slice xH ru.length xu,.int .i64 mu,.slice xG rr.length xt,.slice xF rq.length xr,.slice xE ro.length xq,.slice yV ou.length yT,.int .i64 As,.int .i64 Ar,.int .i64 Aq,.int .i64 Ap]] [] [.sl 0 ai aL aK av 0 false,.sl 0 ai bB bA aP 0 false,.sl 0 ai bm bk aW 0 false,.sl 0 ai bo bn aO 0 false,.sl 0 aZ bl bj aH 0 false,.sl 0 ai xH xu ru 0 false,.sl 0 ai xG xt rr 0 false,.sl 0 ai xF xr rq 0 false,.sl 0 ai xE xq ro 0 false,.sl 0 aZ yV yT ou 0 false] (fun v bx en => v = .bool r0 ∧ bx = [] ∧ en = []) := by
 refine eD 73 Tryz.func15 zZ zZ zZ (fun base T w0 => ?_)
 rw [eH.f] at H
 refine gs (rg (so zZ (gU (cs := [.slice aL av.length aK,.int .i64 aF,.slice bB aP.length bA,.slice bm aW.length bk,.slice bo aO.length bn,.slice bl aH.length bj,.int .i64 bD,.int .i64 bI,.int .i64 bK,.int .i64 bE]) ag fun b2 => (so zZ (gU (cs := [.slice xH ru.length xu,.int .i64 mu,.slice xG rr.length xt,.slice xF rq.length xr,.slice xE ro.length xq,.slice yV ou.length yT,.int .i64 As,.int .i64 Ar,.int .i64 Aq,.int .i64 Ap]) ag fun b3 => (au ac (re (gs (rg (sv (aq 0 zZ) zZ (sv (am 0 none ag) zZ (sv (aq 0 zZ) zZ (sv (am 1 none ag) zZ ?_)))))))))))))
 revert H; refine aS ?_; rintro t1 A1 H
 refine so zZ (ax (eM.ok k av aL aK ru xH xu _ A1) [(aw 0),(aw 5)] 1 aG ?_)
 rintro _ _ _ ⟨rfl,rfl,rfl⟩
 refine al ac ?_
 revert H; refine aJ ?_ ?_ <;> intro c2 H
 ·
  subst c2
  refine eq 10 ac (sv (aq 1 zZ) zZ (sv (am 0 none ag) zZ (sv (aq 1 zZ) zZ (sv (am 1 none ag) zZ (sv (bZ ac) zZ (sv (aQ ag) zZ (al ac ?_)))))))
  revert H; refine aJ ?_ ?_ <;> intro c3 H
  ·
   refine ts 17 zZ (dT c3) (sv (aq 2 zZ) zZ (sv (am 0 none ag) zZ (sv (aq 2 zZ) zZ (sv (am 1 none ag) zZ ?_))))
   revert H; refine aS ?_; rintro t4 A4 H
   refine so zZ (ax (eM.ok k aP bB bA rr xG xt _ A4) [(aw 1),(aw 6)] 1 aG ?_)
   rintro _ _ _ ⟨rfl,rfl,rfl⟩
   refine sv (aQ ag) zZ (al ac ?_)
   revert H; refine aJ ?_ ?_ <;> intro c5 H
   ·
    subst c5
    refine eq 24 ac (sv (aq 3 zZ) zZ (sv (am 0 none ag) zZ (sv (aq 3 zZ) zZ (sv (am 1 none ag) zZ ?_))))
    revert H; refine aS ?_; rintro t6 A6 H
    refine so zZ (ax (eM.ok k aW bm bk rq xF xr _ A6) [(aw 2),(aw 7)] 1 aG ?_)
    rintro _ _ _ ⟨rfl,rfl,rfl⟩
    refine sv (aQ ag) zZ (al ac ?_)
    revert H; refine aJ ?_ ?_ <;> intro c7 H
    ·
     subst c7
     refine eq 31 ac (sv (aq 4 zZ) zZ (sv (am 0 none ag) zZ (sv (aq 4 zZ) zZ (sv (am 1 none ag) zZ ?_))))
     revert H; refine aS ?_; rintro t8 A8 H
     refine so zZ (ax (eM.ok k aO bo bn ro xE xq _ A8) [(aw 3),(aw 8)] 1 aG ?_)
     rintro _ _ _ ⟨rfl,rfl,rfl⟩
     refine sv (aQ ag) zZ (al ac ?_)
     revert H; refine aJ ?_ ?_ <;> intro c9 H
     ·
      subst c9
      refine eq 38 ac (sv (aq 5 zZ) zZ (sv (am 0 none ag) zZ (sv (aq 5 zZ) zZ (sv (am 1 none ag) zZ ?_))))
      revert H; refine aS ?_; rintro oa mz H
      refine so zZ (ax (fX.ok k aH bl bj ou yV yT _ mz) [(aw 4),(aw 9)] 1 aG ?_)
      rintro _ _ _ ⟨rfl,rfl,rfl⟩
      refine sv (aQ ag) zZ (al ac ?_)
      revert H; refine aJ ?_ ?_ <;> intro qR H
      ·
       subst qR
       refine eq 45 ac (sv (aq 6 zZ) zZ (sv (am 0 none ag) zZ (sv (aq 6 zZ) zZ (sv (am 1 none ag) zZ (sv (bZ ac) zZ (sv (aQ ag) zZ (al ac ?_)))))))
       revert H; refine aJ ?_ ?_ <;> intro Aa H
       ·
        refine ts 52 zZ (dT Aa) (sv (aq 7 zZ) zZ (sv (am 0 none ag) zZ (sv (aq 7 zZ) zZ (sv (am 1 none ag) zZ (sv (bZ ac) zZ (sv (aQ ag) zZ (al ac ?_)))))))
        revert H; refine aJ ?_ ?_ <;> intro wJ H
        ·
         refine ts 59 zZ (dT wJ) (sv (aq 8 zZ) zZ (sv (am 0 none ag) zZ (sv (aq 8 zZ) zZ (sv (am 1 none ag) zZ (sv (bZ ac) zZ (sv (aQ ag) zZ (al ac ?_)))))))
         revert H; refine aJ ?_ ?_ <;> intro sC H
         ·
          refine ts 66 zZ (dT sC) (sv (aq 9 zZ) zZ (sv (am 0 none ag) zZ (sv (aq 9 zZ) zZ (sv (am 1 none ag) zZ (sv (bZ ac) zZ (sv (aQ ag) zZ (au ac (re (aB [4] [] [] ae ?_)))))))))
          cases H
          exact rt Tryz.func15 zZ (.tmp zZ .nil) zZ [] [] zZ zZ zZ zZ zZ ⟨zZ,zZ,zZ⟩
         ·
          refine ts 66 zZ (dF sC) (sk zZ (sk zZ (sk zZ (sk zZ (sk zZ (sv (aI ag) zZ (au ac (re (aB [4] [] [] ae ?_)))))))))
          cases H
          exact rt Tryz.func15 zZ (.tmp zZ .nil) zZ [] [] zZ zZ zZ zZ zZ ⟨zZ,zZ,zZ⟩
        ·
         refine ts 59 zZ (dF wJ) (sk zZ (sk zZ (sk zZ (sk zZ (sk zZ (sv (aI ag) zZ (al ac (sk zZ (sk zZ (sk zZ (sk zZ (sk zZ (sv (aI ag) zZ (au ac (re (aB [4] [] [] ae ?_))))))))))))))))
         cases H
         exact rt Tryz.func15 zZ (.tmp zZ .nil) zZ [] [] zZ zZ zZ zZ zZ ⟨zZ,zZ,zZ⟩
       ·
        refine ts 52 zZ (dF Aa) (sk zZ (sk zZ (sk zZ (sk zZ (sk zZ (sv (aI ag) zZ (al ac (sk zZ (sk zZ (sk zZ (sk zZ (sk zZ (sv (aI ag) zZ (al ac (sk zZ (sk zZ (sk zZ (sk zZ (sk zZ (sv (aI ag) zZ (au ac (re (aB [4] [] [] ae ?_)))))))))))))))))))))))
        cases H
        exact rt Tryz.func15 zZ (.tmp zZ .nil) zZ [] [] zZ zZ zZ zZ zZ ⟨zZ,zZ,zZ⟩
      ·
       have xc11 := bF qR; subst xc11
       refine eq 45 ac (sk zZ (sk zZ (sk zZ (sk zZ (sk zZ (sv (aI ag) zZ (al ac (sk zZ (sk zZ (sk zZ (sk zZ (sk zZ (sv (aI ag) zZ (al ac (sk zZ (sk zZ (sk zZ (sk zZ (sk zZ (sv (aI ag) zZ (al ac (sk zZ (sk zZ (sk zZ (sk zZ (sk zZ (sv (aI ag) zZ (au ac (re ?_)))))))))))))))))))))))))))))
       refine aB [4] [] [] ae ?_
       cases H
       exact rt Tryz.func15 zZ (.tmp zZ .nil) zZ [] [] zZ zZ zZ zZ zZ ⟨zZ,zZ,zZ⟩
     ·
      have xc9 := bF c9; subst xc9
      refine eq 38 ac (sk zZ (sk zZ (sk zZ (sk zZ (sk zZ (sv (aI ag) zZ (al ac (sk zZ (sk zZ (sk zZ (sk zZ (sk zZ (sv (aI ag) zZ (al ac (sk zZ (sk zZ (sk zZ (sk zZ (sk zZ (sv (aI ag) zZ (al ac (sk zZ (sk zZ (sk zZ (sk zZ (sk zZ (sv (aI ag) zZ (al ac (sk zZ ?_)))))))))))))))))))))))))))))
      refine sk zZ (sk zZ (sk zZ (sk zZ (sv (aI ag) zZ (au ac (re (aB [4] [] [] ae ?_)))))))
      cases H
      exact rt Tryz.func15 zZ (.tmp zZ .nil) zZ [] [] zZ zZ zZ zZ zZ ⟨zZ,zZ,zZ⟩
    ·
     have xc7 := bF c7; subst xc7
     refine eq 31 ac (sk zZ (sk zZ (sk zZ (sk zZ (sk zZ (sv (aI ag) zZ (al ac (sk zZ (sk zZ (sk zZ (sk zZ (sk zZ (sv (aI ag) zZ (al ac (sk zZ (sk zZ (sk zZ (sk zZ (sk zZ (sv (aI ag) zZ (al ac (sk zZ (sk zZ (sk zZ (sk zZ (sk zZ (sv (aI ag) zZ (al ac (sk zZ ?_)))))))))))))))))))))))))))))
     refine sk zZ (sk zZ (sk zZ (sk zZ (sv (aI ag) zZ (al ac (sk zZ (sk zZ (sk zZ (sk zZ (sk zZ (sv (aI ag) zZ (au ac (re (aB [4] [] [] ae ?_))))))))))))))
     cases H
     exact rt Tryz.func15 zZ (.tmp zZ .nil) zZ [] [] zZ zZ zZ zZ zZ ⟨zZ,zZ,zZ⟩
   ·
    have xc5 := bF c5; subst xc5
    refine eq 24 ac (sk zZ (sk zZ (sk zZ (sk zZ (sk zZ (sv (aI ag) zZ (al ac (sk zZ (sk zZ (sk zZ (sk zZ (sk zZ (sv (aI ag) zZ (al ac (sk zZ (sk zZ (sk zZ (sk zZ (sk zZ (sv (aI ag) zZ (al ac (sk zZ (sk zZ (sk zZ (sk zZ (sk zZ (sv (aI ag) zZ (al ac (sk zZ ?_)))))))))))))))))))))))))))))
    refine sk zZ (sk zZ (sk zZ (sk zZ (sv (aI ag) zZ (al ac (sk zZ (sk zZ (sk zZ (sk zZ (sk zZ (sv (aI ag) zZ (al ac (sk zZ (sk zZ (sk zZ (sk zZ (sk zZ (sv (aI ag) zZ (au ac (re (aB [4] [] [] ae ?_)))))))))))))))))))))
    cases H
    exact rt Tryz.func15 zZ (.tmp zZ .nil) zZ [] [] zZ zZ zZ zZ zZ ⟨zZ,zZ,zZ⟩
  ·
   refine ts 17 zZ (dF c3) (sk zZ (sk zZ (sk zZ (sk zZ (sk zZ (sv (aI ag) zZ (al ac (sk zZ (sk zZ (sk zZ (sk zZ (sk zZ (sv (aI ag) zZ (al ac (sk zZ (sk zZ (sk zZ (sk zZ (sk zZ (sv (aI ag) zZ (al ac (sk zZ (sk zZ (sk zZ (sk zZ (sk zZ (sv (aI ag) zZ (al ac (sk zZ ?_)))))))))))))))))))))))))))))
   refine sk zZ (sk zZ (sk zZ (sk zZ (sv (aI ag) zZ (al ac (sk zZ (sk zZ (sk zZ (sk zZ (sk zZ (sv (aI ag) zZ (al ac (sk zZ (sk zZ (sk zZ (sk zZ (sk zZ (sv (aI ag) zZ (al ac (sk zZ (sk zZ (sk zZ (sk zZ (sk zZ (sv (aI ag) zZ (au ac (re (aB [4] [] [] ae ?_))))))))))))))))))))))))))))
   cases H
   exact rt Tryz.func15 zZ (.tmp zZ .nil) zZ [] [] zZ zZ zZ zZ zZ ⟨zZ,zZ,zZ⟩
 ·
  have xc2 := bF c2; subst xc2
  refine eq 10 ac (sk zZ (sk zZ (sk zZ (sk zZ (sk zZ (sv (aI ag) zZ (al ac (sk zZ (sk zZ (sk zZ (sk zZ (sk zZ (sv (aI ag) zZ (al ac (sk zZ (sk zZ (sk zZ (sk zZ (sk zZ (sv (aI ag) zZ (al ac (sk zZ (sk zZ (sk zZ (sk zZ (sk zZ (sv (aI ag) zZ (al ac (sk zZ ?_)))))))))))))))))))))))))))))
  refine sk zZ (sk zZ (sk zZ (sk zZ (sv (aI ag) zZ (al ac (sk zZ (sk zZ (sk zZ (sk zZ (sk zZ (sv (aI ag) zZ (al ac (sk zZ (sk zZ (sk zZ (sk zZ (sk zZ (sv (aI ag) zZ (al ac (sk zZ (sk zZ (sk zZ (sk zZ (sk zZ (sv (aI ag) zZ (al ac (sk zZ (sk zZ (sk zZ ?_)))))))))))))))))))))))))))))
  refine sk zZ (sk zZ (sv (aI ag) zZ (au ac (re (aB [4] [] [] ae ?_)))))
  cases H
  exact rt Tryz.func15 zZ (.tmp zZ .nil) zZ [] [] zZ zZ zZ zZ zZ ⟨zZ,zZ,zZ⟩
def eP.l0 : Nat → Int → Int → (List ah) → (List ah) → Option (Bool)
 | 0,_,_,_,_ => none
 | k + 1,FT,fc,l0,l1 => if fc < FT then (if 0 ≤ fc then (if fc < (l0.length : Int) then (if fc < (l1.length : Int) then (if (((aa l0 fc).f0) == ((aa l1 fc).f0) && (((aa l0 fc).f1) == ((aa l1 fc).f1) && (((aa l0 fc).f2) == ((aa l1 fc).f2)))) = true then (eP.l0 k FT (wrap64 (fc + 1)) l0 l1) else (some false)) else none) else none) else none) else (some true)
def eP.f (k : Nat) (l0 : List ah) (l1 : List ah) : Option (Bool) := if (l0.length : Int) = (l1.length : Int) then (eP.l0 k (l0.length : Int) 0 l0 l1) else (some false)
theorem eP.ok (k : Nat) (l0 : List ah) (ay : Option Addr) (az : Nat) (l1 : List ah) (i9 : Option Addr) (i7 : Nat) (r0 : Bool) (H : eP.f k l0 l1 = some r0) : Fn Tryz.prog 55 [.slice ay l0.length az,.slice i9 l1.length i7] [] [.sl 0 ai ay az l0 0 false,.sl 0 ai i9 i7 l1 0 false] (fun v bx en => v = .bool r0 ∧ bx = [] ∧ en = []) := by
 refine eD 26 Tryz.func55 zZ zZ zZ (fun base T w0 => ?_)
 rw [eP.f] at H
 refine gs (rg (au ac (re (gs (gs (rg (al ac (sv (bG zZ) zZ (al ac (sv (bG zZ) zZ (sv (lK zZ zZ) zZ (re ?_))))))))))))
 revert H; refine aJ ?_ ?_ <;> intro c1 H
 ·
  refine gf zZ (nF c1) (gk (gs (gs (rg (al ac (sv (bG zZ) zZ (al ac (re (aB [0,1,12,13] [] [0,1] ae (gb ?_))))))))))
  refine lo (fun kk S => ∃ (FT : Int) (fc : Int),eP.l0 kk FT fc l0 l1 = some r0 ∧ S = ⟨[(0,.slice ay l0.length az),(1,.slice i9 l1.length i7),(12,.int .i64 FT),(13,.int .i64 fc)],[],[.sl 0 ai ay az l0 0 false,.sl 0 ai i9 i7 l1 0 false]⟩) (fun S hS => ?_) (fun n0 cZ S hS => ?_) ⟨(l0.length : Int),0,H,zZ⟩ (fun h => wk [0,1,12,13] [] [(aw 0),(aw 1)] h)
  · clear H; obtain ⟨_,_,H,_⟩ := hS; rw [eP.l0] at H; cases H
  clear H
  obtain ⟨FT,fc,H,rfl⟩ := hS
  rw [eP.l0] at H
  refine gs (rg (sv (bS ac) zZ (re (gs ?_))))
  revert H; refine aJ ?_ ?_ <;> intro c2 H
  ·
   refine gt zZ (dT c2) (gk (gs (gb (gs (rg (al ac (au ac (re (gs ?_)))))))))
   revert H; refine aU ?_; intro g3 H
   revert H; refine aU ?_; intro g4 H
   revert H; refine aU ?_; intro g5 H
   refine fj [] [0,1] [] 9 ae (ap 0 [] [0,1] zZ (aA zZ) ae (ap 1 [] [0,1] zZ (aA zZ) ae (ap 2 [] [0,1] zZ (aM 0 ag g3 g4 zZ) ae (ap 3 [] [0,1] zZ (bg (v := .agg #[.int .i64 ((aa l0 fc).f0),.int .i64 ((aa l0 fc).f1),.int .i64 ((aa l0 fc).f2)]) fc 0 (some 3) 0 cK zZ zZ zZ g3 g4 zZ zZ zZ) ae (ap 4 [] [0,1] zZ (aA zZ) ae (ap 5 [] [0,1] zZ (aA zZ) ae (ap 6 [] [0,1] zZ (aM 1 ag g3 g5 zZ) ae (ap 7 [] [0,1] zZ (bg (v := .agg #[.int .i64 ((aa l1 fc).f0),.int .i64 ((aa l1 fc).f1),.int .i64 ((aa l1 fc).f2)]) fc 0 (some 3) 1 cK zZ zZ zZ g3 g5 zZ zZ zZ) ae (ap 8 [] [0,1] zZ (Mo zZ zZ (fun d w => S2 d w ((aa l0 fc).f0) ((aa l1 fc).f0) ((aa l0 fc).f1) ((aa l1 fc).f1) ((aa l0 fc).f2) ((aa l1 fc).f2))) ae (xd (aB [0,1,12,13,24] [] [0,1] ae ?_)))))))))))
   revert H; refine aJ ?_ ?_ <;> intro c6 H
   ·
    exact gf zZ (bN c6) (gk (ge (rg (sv (ba ac) zZ (al ac (re (wk [0,1,12,13] [] [(aw 0),(aw 1)] (cZ _ (by omega) _ ⟨FT,wrap64 (fc + 1),H,zZ⟩))))))))
   ·
    refine gt zZ (bM c6) (gs (rg (au ac (re ?_))))
    cases H
    exact rt Tryz.func55 zZ (.tmp zZ .nil) zZ [] [] zZ zZ zZ zZ zZ ⟨zZ,zZ,zZ⟩
  ·
   refine gf zZ (dF c2) (gx zZ (gs (rg (au ac (re ?_)))))
   cases H
   exact rt Tryz.func55 zZ (.tmp zZ .nil) zZ [] [] zZ zZ zZ zZ zZ ⟨zZ,zZ,zZ⟩
 ·
  refine gt zZ (nT c1) (gs (rg (au ac (re (aB [4] [] [] ae ?_)))))
  cases H
  exact rt Tryz.func55 zZ (.tmp zZ .nil) zZ [] [] zZ zZ zZ zZ zZ ⟨zZ,zZ,zZ⟩
def dP.l0 : Nat → Int → Int → Int → Int → Int → Int → Int → Int → Int → Int → Int → Int → (List ah) → (List ah) → (List ah) → (List ah) → (List aT) → (List ah) → (List ah) → (List ah) → (List ah) → (List aT) → Option (Bool)
 | 0,_,_,_,_,_,_,_,_,_,_,_,_,_,_,_,_,_,_,_,_,_,_ => none
 | k + 1,it,pc,td,tc,tb,ta,s7,gC,gd,gn,jn,kP,av,aP,aW,aO,aH,ru,rr,rq,ro,ou => if pc < it then (if 0 ≤ pc then (if pc < (aH.length : Int) then (if pc < (ou.length : Int) then ((eP.f k ((aC aH pc).f0) ((aC ou pc).f0)).bind fun t8 => (if t8 = true then (dP.l0 k it (wrap64 (pc + 1)) td tc tb ta s7 gC gd gn jn kP av aP aW aO aH ru rr rq ro ou) else (some false))) else none) else none) else none) else ((eP.f k av ru).bind fun oa => (if oa = true then (if td = gC then ((eP.f k aP rr).bind fun vJ => (if vJ = true then ((eP.f k aW rq).bind fun w6 => (if w6 = true then ((eP.f k aO ro).bind fun Db => (if Db = true then (if tc = gd then (if tb = gn then (if ta = jn then (some (decide (s7 = kP))) else (some false)) else (some false)) else (some false)) else (some false))) else (some false))) else (some false))) else (some false)) else (some false)))
def dP.f (k : Nat) (av : List ah) (aF : Int) (aP : List ah) (aW : List ah) (aO : List ah) (aH : List aT) (bD : Int) (bI : Int) (bK : Int) (bE : Int) (ru : List ah) (mu : Int) (rr : List ah) (rq : List ah) (ro : List ah) (ou : List aT) (As : Int) (Ar : Int) (Aq : Int) (Ap : Int) : Option (Bool) := if (aH.length : Int) = (ou.length : Int) then (dP.l0 k (aH.length : Int) 0 aF bD bI bK bE mu As Ar Aq Ap av aP aW aO aH ru rr rq ro ou) else (some false)
theorem dP.ok (k : Nat) (av : List ah) (aL : Option Addr) (aK : Nat) (aF : Int) (aP : List ah) (bB : Option Addr) (bA : Nat) (aW : List ah) (bm : Option Addr) (bk : Nat) (aO : List ah) (bo : Option Addr) (bn : Nat) (aH : List aT) (bl : Option Addr) (bj : Nat) (bD : Int) (bI : Int) (bK : Int) (bE : Int) (ru : List ah) (xH : Option Addr) (xu : Nat) (mu : Int) (rr : List ah) (xG : Option Addr) (xt : Nat) (rq : List ah) (xF : Option Addr) (xr : Nat) (ro : List ah) (xE : Option Addr) (xq : Nat) (ou : List aT) (yV : Option Addr) (yT : Nat) (As : Int) (Ar : Int) (Aq : Int) (Ap : Int) (r0 : Bool) (H : dP.f k av aF aP aW aO aH bD bI bK bE ru mu rr rq ro ou As Ar Aq Ap = some r0) : Fn Tryz.prog 16 [.agg #[.slice aL av.length aK,.int .i64 aF,.slice bB aP.length bA,.slice bm aW.length bk,.slice bo aO.length bn,.slice bl aH.length bj,.int .i64 bD,.int .i64 bI,.int .i64 bK,.int .i64 bE],.agg #[.slice xH ru.length xu,.int .i64 mu,.slice xG rr.length xt,.slice xF rq.length xr,.slice xE ro.length xq,.slice yV ou.length yT,.int .i64 As,.int .i64 Ar,.int .i64 Aq,.int .i64 Ap]] [] [.sl 0 ai aL aK av 0 false,.sl 0 ai bB bA aP 0 false,.sl 0 ai bm bk aW 0 false,.sl 0 ai bo bn aO 0 false,.sl 0 aZ bl bj aH 0 false,.sl 0 ai xH xu ru 0 false,.sl 0 ai xG xt rr 0 false,.sl 0 ai xF xr rq 0 false,.sl 0 ai xE xq ro 0 false,.sl 0 aZ yV yT ou 0 false] (fun v bx en => v = .bool r0 ∧ bx = [] ∧ en = []) := by
 refine eD 95 Tryz.func16 zZ zZ zZ (fun base T w0 => ?_)
 rw [dP.f] at H
 refine gs (rg (so zZ (gU (cs := [.slice aL av.length aK,.int .i64 aF,.slice bB aP.length bA,.slice bm aW.length bk,.slice bo aO.length bn,.slice bl aH.length bj,.int .i64 bD,.int .i64 bI,.int .i64 bK,.int .i64 bE]) ag fun b2 => (so zZ (gU (cs := [.slice xH ru.length xu,.int .i64 mu,.slice xG rr.length xt,.slice xF rq.length xr,.slice xE ro.length xq,.slice yV ou.length yT,.int .i64 As,.int .i64 Ar,.int .i64 Aq,.int .i64 Ap]) ag fun b3 => (au ac (re (gs (gs (rg (sv (aq 5 zZ) zZ (sv (am 0 none ag) zZ (sv (bG zZ) zZ (sv (aq 5 zZ) zZ (sv (am 1 none ag) zZ (sv (bG zZ) zZ (sv (lK zZ zZ) zZ (re (aB [2,3,12] [0,1] [0,1,2,3,4,5,6,7,8,9] ae ?_)))))))))))))))))))
 revert H; refine aJ ?_ ?_ <;> intro c1 H
 ·
  refine gf zZ (nF c1) (gk (gs (gs (rg (sv (aq 5 zZ) zZ (sv (am 0 none ag) zZ (sv (bG zZ) zZ (al ac (re (gb ?_))))))))))
  refine lo (fun kk S => ∃ (it : Int) (pc : Int) (td : Int) (tc : Int) (tb : Int) (ta : Int) (s7 : Int) (gC : Int) (gd : Int) (gn : Int) (jn : Int) (kP : Int),dP.l0 kk it pc td tc tb ta s7 gC gd gn jn kP av aP aW aO aH ru rr rq ro ou = some r0 ∧ S = ⟨[(2,.pointer (some ⟨b2,0,none⟩)),(3,.pointer (some ⟨b3,0,none⟩)),(15,.int .i64 it),(16,.int .i64 pc)],[⟨b2,27,[.slice aL av.length aK,.int .i64 td,.slice bB aP.length bA,.slice bm aW.length bk,.slice bo aO.length bn,.slice bl aH.length bj,.int .i64 tc,.int .i64 tb,.int .i64 ta,.int .i64 s7]⟩,⟨b3,27,[.slice xH ru.length xu,.int .i64 gC,.slice xG rr.length xt,.slice xF rq.length xr,.slice xE ro.length xq,.slice yV ou.length yT,.int .i64 gd,.int .i64 gn,.int .i64 jn,.int .i64 kP]⟩],[.sl 0 ai aL aK av 0 false,.sl 0 ai bB bA aP 0 false,.sl 0 ai bm bk aW 0 false,.sl 0 ai bo bn aO 0 false,.sl 0 aZ bl bj aH 0 false,.sl 0 ai xH xu ru 0 false,.sl 0 ai xG xt rr 0 false,.sl 0 ai xF xr rq 0 false,.sl 0 ai xE xq ro 0 false,.sl 0 aZ yV yT ou 0 false]⟩) (fun S hS => ?_) (fun n0 cZ S hS => ?_) ⟨(aH.length : Int),0,aF,bD,bI,bK,bE,mu,As,Ar,Aq,Ap,H,zZ⟩ (fun h => wk [2,3,15,16] [0,1] [(aw 0),(aw 1),(aw 2),(aw 3),(aw 4),(aw 5),(aw 6),(aw 7),(aw 8),(aw 9)] h)
  · clear H; obtain ⟨_,_,_,_,_,_,_,_,_,_,_,_,H,_⟩ := hS; rw [dP.l0] at H; cases H
  clear H
  obtain ⟨it,pc,td,tc,tb,ta,s7,gC,gd,gn,jn,kP,H,rfl⟩ := hS
  rw [dP.l0] at H
  refine gs (rg (sv (bS ac) zZ (re (gs ?_))))
  revert H; refine aJ ?_ ?_ <;> intro c2 H
  ·
   refine gt zZ (dT c2) (gk (gs (gb (gs (rg (al ac (au ac (re (gs ?_)))))))))
   revert H; refine aU ?_; intro g3 H
   revert H; refine aU ?_; intro g4 H
   refine qt (i := pc) 4 n5 zZ g3 g4 fun oB oA => ?_
   revert H; refine aU ?_; intro g6 H
   refine qt (i := pc) 9 n5 zZ g3 g6 fun Ye XX => (fj [0,1] [0,1,2,3,4,5,6,7,8,9,10,11,12,13] [] 14 ae (ap 0 [0,1] [0,1,2,3,4,5,6,7,8,9,10,11,12,13] zZ (aq 5 zZ) ae (ap 1 [0,1] [0,1,2,3,4,5,6,7,8,9,10,11,12,13] zZ (am 0 none ag) ae (ap 2 [0,1] [0,1,2,3,4,5,6,7,8,9,10,11,12,13] zZ (aA zZ) ae (ap 3 [0,1] [0,1,2,3,4,5,6,7,8,9,10,11,12,13] zZ (aM 4 ag g3 g4 zZ) ae (ap 4 [0,1] [0,1,2,3,4,5,6,7,8,9,10,11,12,13] zZ (aq 0 zZ) ae (ap 5 [0,1] [0,1,2,3,4,5,6,7,8,9,10,11,12,13] zZ (ig (v := .slice oB ((aC aH pc).f0).length oA) 0 none 10 ae) ae (ap 6 [0,1] [0,1,2,3,4,5,6,7,8,9,10,11,12,13] zZ (aq 5 zZ) ae (ap 7 [0,1] [0,1,2,3,4,5,6,7,8,9,10,11,12,13] zZ (am 1 none ag) ae (ap 8 [0,1] [0,1,2,3,4,5,6,7,8,9,10,11,12,13] zZ (aA zZ) ae (ap 9 [0,1] [0,1,2,3,4,5,6,7,8,9,10,11,12,13] zZ (aM 9 ag g3 g6 zZ) ae (ap 10 [0,1] [0,1,2,3,4,5,6,7,8,9,10,11,12,13] zZ (aq 0 zZ) ae (ap 11 [0,1] [0,1,2,3,4,5,6,7,8,9,10,11,12,13] zZ (ig (v := .slice Ye ((aC ou pc).f0).length XX) 0 none 12 ae) ae (ar 12 ac ?_))))))))))))))
   revert H; refine aS ?_; rintro t8 A8 H
   refine ax (eP.ok n0 ((aC aH pc).f0) oB oA ((aC ou pc).f0) Ye XX _ A8) [(aw 11),(aw 13)] 1 aG ?_
   rintro _ _ _ ⟨rfl,rfl,rfl⟩
   refine aN [0,1] [0,1,2,3,4,5,6,7,8,9,10,11,12,13] ag (ap 13 [0,1] [0,1,2,3,4,5,6,7,8,9,10,11,12,13] zZ (eE zZ) ae (xd (aB [2,3,15,16,32] [0,1] [0,1,2,3,4,5,6,7,8,9] ae ?_)))
   revert H; refine aJ ?_ ?_ <;> intro c9 H
   ·
    subst c9
    exact gf zZ zZ (gk (ge (rg (sv (ba ac) zZ (al ac (re (wk [2,3,15,16] [0,1] [(aw 0),(aw 1),(aw 2),(aw 3),(aw 4),(aw 5),(aw 6),(aw 7),(aw 8),(aw 9)] (cZ _ (by omega) _ ⟨it,wrap64 (pc + 1),td,tc,tb,ta,s7,gC,gd,gn,jn,kP,H,zZ⟩))))))))
   ·
    have xc9 := bF c9; subst xc9
    refine gt zZ zZ (gs (rg (au ac (re ?_))))
    cases H
    exact rt Tryz.func16 zZ (.tmp zZ .nil) zZ [] [] zZ zZ zZ zZ zZ ⟨zZ,zZ,zZ⟩
  ·
   refine gf zZ (dF c2) (gx zZ (gs (rg (sv (aq 0 zZ) zZ (sv (am 0 none ag) zZ (sv (aq 0 zZ) zZ (sv (am 1 none ag) zZ ?_)))))))
   revert H; refine aS ?_; rintro oa mz H
   refine so zZ (ax (eP.ok n0 av aL aK ru xH xu _ mz) [(aw 0),(aw 5)] 1 aG ?_)
   rintro _ _ _ ⟨rfl,rfl,rfl⟩
   refine al ac ?_
   revert H; refine aJ ?_ ?_ <;> intro qR H
   ·
    subst qR
    refine eq 39 ac (sv (aq 1 zZ) zZ (sv (am 0 none ag) zZ (sv (aq 1 zZ) zZ (sv (am 1 none ag) zZ (sv (bZ ac) zZ (sv (aQ ag) zZ (al ac ?_)))))))
    revert H; refine aJ ?_ ?_ <;> intro Aa H
    ·
     refine ts 46 zZ (dT Aa) (sv (aq 2 zZ) zZ (sv (am 0 none ag) zZ (sv (aq 2 zZ) zZ (sv (am 1 none ag) zZ ?_))))
     revert H; refine aS ?_; rintro vJ AI H
     refine so zZ (ax (eP.ok n0 aP bB bA rr xG xt _ AI) [(aw 1),(aw 6)] 1 aG ?_)
     rintro _ _ _ ⟨rfl,rfl,rfl⟩
     refine sv (aQ ag) zZ (al ac ?_)
     revert H; refine aJ ?_ ?_ <;> intro sC H
     ·
      subst sC
      refine eq 53 ac (sv (aq 3 zZ) zZ (sv (am 0 none ag) zZ (sv (aq 3 zZ) zZ (sv (am 1 none ag) zZ ?_))))
      revert H; refine aS ?_; rintro w6 xP H
      refine so zZ (ax (eP.ok n0 aW bm bk rq xF xr _ xP) [(aw 2),(aw 7)] 1 aG ?_)
      rintro _ _ _ ⟨rfl,rfl,rfl⟩
      refine sv (aQ ag) zZ (al ac ?_)
      revert H; refine aJ ?_ ?_ <;> intro zY H
      ·
       subst zY
       refine eq 60 ac (sv (aq 4 zZ) zZ (sv (am 0 none ag) zZ (sv (aq 4 zZ) zZ (sv (am 1 none ag) zZ ?_))))
       revert H; refine aS ?_; rintro Db AH H
       refine so zZ (ax (eP.ok n0 aO bo bn ro xE xq _ AH) [(aw 3),(aw 8)] 1 aG ?_)
       rintro _ _ _ ⟨rfl,rfl,rfl⟩
       refine sv (aQ ag) zZ (al ac ?_)
       revert H; refine aJ ?_ ?_ <;> intro ES H
       ·
        subst ES
        refine eq 67 ac (sv (aq 6 zZ) zZ (sv (am 0 none ag) zZ (sv (aq 6 zZ) zZ (sv (am 1 none ag) zZ (sv (bZ ac) zZ (sv (aQ ag) zZ (al ac ?_)))))))
        revert H; refine aJ ?_ ?_ <;> intro Me H
        ·
         refine ts 74 zZ (dT Me) (sv (aq 7 zZ) zZ (sv (am 0 none ag) zZ (sv (aq 7 zZ) zZ (sv (am 1 none ag) zZ (sv (bZ ac) zZ (sv (aQ ag) zZ (al ac ?_)))))))
         revert H; refine aJ ?_ ?_ <;> intro VE H
         ·
          refine ts 81 zZ (dT VE) (sv (aq 8 zZ) zZ (sv (am 0 none ag) zZ (sv (aq 8 zZ) zZ (sv (am 1 none ag) zZ (sv (bZ ac) zZ (sv (aQ ag) zZ (al ac ?_)))))))
          revert H; refine aJ ?_ ?_ <;> intro GY H
          ·
           refine ts 88 zZ (dT GY) (sv (aq 9 zZ) zZ (sv (am 0 none ag) zZ (sv (aq 9 zZ) zZ (sv (am 1 none ag) zZ (sv (bZ ac) zZ (sv (aQ ag) zZ (au ac (re (aB [4] [] [] ae ?_)))))))))
           cases H
           exact rt Tryz.func16 zZ (.tmp zZ .nil) zZ [] [] zZ zZ zZ zZ zZ ⟨zZ,zZ,zZ⟩
          ·
           refine ts 88 zZ (dF GY) (sk zZ (sk zZ (sk zZ (sk zZ (sk zZ (sv (aI ag) zZ (au ac (re (aB [4] [] [] ae ?_)))))))))
           cases H
           exact rt Tryz.func16 zZ (.tmp zZ .nil) zZ [] [] zZ zZ zZ zZ zZ ⟨zZ,zZ,zZ⟩
         ·
          refine ts 81 zZ (dF VE) (sk zZ (sk zZ (sk zZ (sk zZ (sk zZ (sv (aI ag) zZ (al ac (sk zZ (sk zZ (sk zZ (sk zZ (sk zZ (sv (aI ag) zZ (au ac (re (aB [4] [] [] ae ?_))))))))))))))))
          cases H
          exact rt Tryz.func16 zZ (.tmp zZ .nil) zZ [] [] zZ zZ zZ zZ zZ ⟨zZ,zZ,zZ⟩
        ·
         refine ts 74 zZ (dF Me) (sk zZ (sk zZ (sk zZ (sk zZ (sk zZ (sv (aI ag) zZ (al ac (sk zZ (sk zZ (sk zZ (sk zZ (sk zZ (sv (aI ag) zZ (al ac (sk zZ (sk zZ (sk zZ (sk zZ (sk zZ (sv (aI ag) zZ (au ac (re (aB [4] [] [] ae ?_)))))))))))))))))))))))
         cases H
         exact rt Tryz.func16 zZ (.tmp zZ .nil) zZ [] [] zZ zZ zZ zZ zZ ⟨zZ,zZ,zZ⟩
       ·
        have xc18 := bF ES; subst xc18
        refine eq 67 ac (sk zZ (sk zZ (sk zZ (sk zZ (sk zZ (sv (aI ag) zZ (al ac (sk zZ (sk zZ (sk zZ (sk zZ (sk zZ (sv (aI ag) zZ (al ac (sk zZ (sk zZ (sk zZ (sk zZ (sk zZ (sv (aI ag) zZ (al ac (sk zZ (sk zZ (sk zZ (sk zZ (sk zZ (sv (aI ag) zZ (au ac (re ?_)))))))))))))))))))))))))))))
        refine aB [4] [] [] ae ?_
        cases H
        exact rt Tryz.func16 zZ (.tmp zZ .nil) zZ [] [] zZ zZ zZ zZ zZ ⟨zZ,zZ,zZ⟩
      ·
       have xc16 := bF zY; subst xc16
       refine eq 60 ac (sk zZ (sk zZ (sk zZ (sk zZ (sk zZ (sv (aI ag) zZ (al ac (sk zZ (sk zZ (sk zZ (sk zZ (sk zZ (sv (aI ag) zZ (al ac (sk zZ (sk zZ (sk zZ (sk zZ (sk zZ (sv (aI ag) zZ (al ac (sk zZ (sk zZ (sk zZ (sk zZ (sk zZ (sv (aI ag) zZ (al ac (sk zZ ?_)))))))))))))))))))))))))))))
       refine sk zZ (sk zZ (sk zZ (sk zZ (sv (aI ag) zZ (au ac (re (aB [4] [] [] ae ?_)))))))
       cases H
       exact rt Tryz.func16 zZ (.tmp zZ .nil) zZ [] [] zZ zZ zZ zZ zZ ⟨zZ,zZ,zZ⟩
     ·
      have xc14 := bF sC; subst xc14
      refine eq 53 ac (sk zZ (sk zZ (sk zZ (sk zZ (sk zZ (sv (aI ag) zZ (al ac (sk zZ (sk zZ (sk zZ (sk zZ (sk zZ (sv (aI ag) zZ (al ac (sk zZ (sk zZ (sk zZ (sk zZ (sk zZ (sv (aI ag) zZ (al ac (sk zZ (sk zZ (sk zZ (sk zZ (sk zZ (sv (aI ag) zZ (al ac (sk zZ ?_)))))))))))))))))))))))))))))
      refine sk zZ (sk zZ (sk zZ (sk zZ (sv (aI ag) zZ (al ac (sk zZ (sk zZ (sk zZ (sk zZ (sk zZ (sv (aI ag) zZ (au ac (re (aB [4] [] [] ae ?_))))))))))))))
      cases H
      exact rt Tryz.func16 zZ (.tmp zZ .nil) zZ [] [] zZ zZ zZ zZ zZ ⟨zZ,zZ,zZ⟩
    ·
     refine ts 46 zZ (dF Aa) (sk zZ (sk zZ (sk zZ (sk zZ (sk zZ (sv (aI ag) zZ (al ac (sk zZ (sk zZ (sk zZ (sk zZ (sk zZ (sv (aI ag) zZ (al ac (sk zZ (sk zZ (sk zZ (sk zZ (sk zZ (sv (aI ag) zZ (al ac (sk zZ (sk zZ (sk zZ (sk zZ (sk zZ (sv (aI ag) zZ (al ac (sk zZ ?_)))))))))))))))))))))))))))))
     refine sk zZ (sk zZ (sk zZ (sk zZ (sv (aI ag) zZ (al ac (sk zZ (sk zZ (sk zZ (sk zZ (sk zZ (sv (aI ag) zZ (al ac (sk zZ (sk zZ (sk zZ (sk zZ (sk zZ (sv (aI ag) zZ (au ac (re (aB [4] [] [] ae ?_)))))))))))))))))))))
     cases H
     exact rt Tryz.func16 zZ (.tmp zZ .nil) zZ [] [] zZ zZ zZ zZ zZ ⟨zZ,zZ,zZ⟩
   ·
    have xc11 := bF qR; subst xc11
    refine eq 39 ac (sk zZ (sk zZ (sk zZ (sk zZ (sk zZ (sv (aI ag) zZ (al ac (sk zZ (sk zZ (sk zZ (sk zZ (sk zZ (sv (aI ag) zZ (al ac (sk zZ (sk zZ (sk zZ (sk zZ (sk zZ (sv (aI ag) zZ (al ac (sk zZ (sk zZ (sk zZ (sk zZ (sk zZ (sv (aI ag) zZ (al ac (sk zZ ?_)))))))))))))))))))))))))))))
    refine sk zZ (sk zZ (sk zZ (sk zZ (sv (aI ag) zZ (al ac (sk zZ (sk zZ (sk zZ (sk zZ (sk zZ (sv (aI ag) zZ (al ac (sk zZ (sk zZ (sk zZ (sk zZ (sk zZ (sv (aI ag) zZ (al ac (sk zZ (sk zZ (sk zZ (sk zZ (sk zZ (sv (aI ag) zZ (au ac (re (aB [4] [] [] ae ?_))))))))))))))))))))))))))))
    cases H
    exact rt Tryz.func16 zZ (.tmp zZ .nil) zZ [] [] zZ zZ zZ zZ zZ ⟨zZ,zZ,zZ⟩
 ·
  refine gt zZ (nT c1) (gs (rg (au ac (re ?_))))
  cases H
  exact rt Tryz.func16 zZ (.tmp zZ .nil) zZ [] [] zZ zZ zZ zZ zZ ⟨zZ,zZ,zZ⟩
def gV.f (fb : Int) (aF : Int) (cw : Int) : Option (Bool) := (fD.f fb 0 9).bind fun t1 => (if t1 = true then ((fD.f aF 0 99).bind fun t3 => (if t3 = true then ((fD.f cw 0 3).bind fun t5 => (some t5)) else (some false))) else (some false))
theorem gV.ok (fb : Int) (aF : Int) (cw : Int) (r0 : Bool) (H : gV.f fb aF cw = some r0) : Fn Tryz.prog 98 [.agg #[.int .i64 fb,.int .i64 aF,.int .i64 cw]] [] [] (fun v bx en => v = .bool r0 ∧ bx = [] ∧ en = []) := by
 refine eD 16 Tryz.func98 zZ zZ zZ (fun base T w0 => ?_)
 rw [gV.f] at H
 refine gs (rg (so zZ (gU (cs := [.int .i64 fb,.int .i64 aF,.int .i64 cw]) ag fun b1 => (au ac (re (gs (rg (sv (aq 0 zZ) zZ (sv (am 0 none ag) zZ ?_)))))))))
 revert H; refine aS ?_; rintro t1 A1 H
 refine so zZ (ax (fD.ok fb 0 9 _ A1) [] 1 aG ?_)
 rintro _ _ _ ⟨rfl,rfl,rfl⟩
 refine al ac ?_
 revert H; refine aJ ?_ ?_ <;> intro c2 H
 ·
  subst c2
  refine eq 6 ac (sv (aq 1 zZ) zZ (sv (am 0 none ag) zZ ?_))
  revert H; refine aS ?_; rintro t3 A3 H
  refine so zZ (ax (fD.ok aF 0 99 _ A3) [] 1 aG ?_)
  rintro _ _ _ ⟨rfl,rfl,rfl⟩
  refine sv (aQ ag) zZ (al ac ?_)
  revert H; refine aJ ?_ ?_ <;> intro c4 H
  ·
   subst c4
   refine eq 11 ac (sv (aq 2 zZ) zZ (sv (am 0 none ag) zZ ?_))
   revert H; refine aS ?_; rintro t5 A5 H
   refine so zZ (ax (fD.ok cw 0 3 _ A5) [] 1 aG ?_)
   rintro _ _ _ ⟨rfl,rfl,rfl⟩
   refine sv (aQ ag) zZ (au ac (re (aB [2] [] [] ae ?_)))
   cases H
   exact rt Tryz.func98 zZ (.tmp zZ .nil) zZ [] [] zZ zZ zZ zZ zZ ⟨zZ,zZ,zZ⟩
  ·
   have xc4 := bF c4; subst xc4
   refine eq 11 ac (sk zZ (sk zZ (sk zZ (sv (aI ag) zZ (au ac (re (aB [2] [] [] ae ?_)))))))
   cases H
   exact rt Tryz.func98 zZ (.tmp zZ .nil) zZ [] [] zZ zZ zZ zZ zZ ⟨zZ,zZ,zZ⟩
 ·
  have xc2 := bF c2; subst xc2
  refine eq 6 ac (sk zZ (sk zZ (sk zZ (sv (aI ag) zZ (al ac (sk zZ (sk zZ (sk zZ (sv (aI ag) zZ (au ac (re (aB [2] [] [] ae ?_))))))))))))
  cases H
  exact rt Tryz.func98 zZ (.tmp zZ .nil) zZ [] [] zZ zZ zZ zZ zZ ⟨zZ,zZ,zZ⟩
def fE.f (fb : Int) (aF : Int) (cw : Int) : Option (Int) := (gV.f fb aF cw).bind fun t1 => (if t1 = true then (some (wrap64 (1 + cw))) else (some 0))
theorem fE.ok (fb : Int) (aF : Int) (cw : Int) (r0 : Int) (H : fE.f fb aF cw = some r0) : Fn Tryz.prog 59 [.agg #[.int .i64 fb,.int .i64 aF,.int .i64 cw]] [] [] (fun v bx en => v = .int .i64 r0 ∧ bx = [] ∧ en = []) := by
 refine eD 9 Tryz.func59 zZ zZ zZ (fun base T w0 => ?_)
 rw [fE.f] at H
 refine gs (rg (so zZ (gU (cs := [.int .i64 fb,.int .i64 aF,.int .i64 cw]) ag fun b1 => (au ac (re (gs (gs (rg (sv (am (v := .agg #[.int .i64 fb,.int .i64 aF,.int .i64 cw]) 0 (some 3) ag) zZ ?_)))))))))
 revert H; refine aS ?_; rintro t1 A1 H
 refine so zZ (ax (gV.ok fb aF cw _ A1) [] 1 aG ?_)
 rintro _ _ _ ⟨rfl,rfl,rfl⟩
 refine sv (eE zZ) zZ (re ?_)
 revert H; refine aJ ?_ ?_ <;> intro c2 H
 ·
  subst c2
  refine gf zZ zZ (gk (gs (rg (sv (aq 2 zZ) zZ (sv (am 0 none ag) zZ (sv (ba ac) zZ (au ac (re (aB [2] [] [] ae ?_)))))))))
  cases H
  exact rt Tryz.func59 zZ (.tmp zZ .nil) zZ [] [] zZ zZ zZ zZ zZ ⟨zZ,zZ,zZ⟩
 ·
  have xc2 := bF c2; subst xc2
  refine gt zZ zZ (gs (rg (au ac (re ?_))))
  cases H
  exact rt Tryz.func59 zZ (.tmp zZ .nil) zZ [] [] zZ zZ zZ zZ zZ ⟨zZ,zZ,zZ⟩
def fY.l0 : Nat → Int → Int → Int → (List ah) → Option (Int)
 | 0,_,_,_,_ => none
 | k + 1,aY,bV,cQ,l0 => if cQ < bV then (if 0 ≤ cQ then (if cQ < (l0.length : Int) then ((fE.f ((aa l0 cQ).f0) ((aa l0 cQ).f1) ((aa l0 cQ).f2)).bind fun t4 => (fY.l0 k (wrap64 (aY + t4)) bV (wrap64 (cQ + 1)) l0)) else none) else none) else (some aY)
def fY.f (k : Nat) (l0 : List ah) : Option (Int) := fY.l0 k 0 (l0.length : Int) 0 l0
theorem fY.ok (k : Nat) (l0 : List ah) (ay : Option Addr) (az : Nat) (r0 : Int) (H : fY.f k l0 = some r0) : Fn Tryz.prog 96 [.slice ay l0.length az] [] [.sl 0 ai ay az l0 0 false] (fun v bx en => v = .int .i64 r0 ∧ bx = [] ∧ en = []) := by
 refine eD 18 Tryz.func96 zZ zZ zZ (fun base T w0 => ?_)
 rw [fY.f] at H
 refine gs (rg (au ac (re (gs (rg (au ac (re (gs (gs (rg (al ac (sv (bG zZ) zZ (al ac (re (gb ?_)))))))))))))))
 refine lo (fun kk S => ∃ (aY : Int) (bV : Int) (cQ : Int),fY.l0 kk aY bV cQ l0 = some r0 ∧ S = ⟨[(3,.int .i64 aY),(6,.slice ay l0.length az),(7,.int .i64 bV),(8,.int .i64 cQ)],[],[.sl 0 ai ay az l0 0 false]⟩) (fun S hS => ?_) (fun n0 cZ S hS => ?_) ⟨0,(l0.length : Int),0,H,zZ⟩ (fun h => wk [3,6,7,8] [] [(aw 0)] h)
 · clear H; obtain ⟨_,_,_,H,_⟩ := hS; rw [fY.l0] at H; cases H
 clear H
 obtain ⟨aY,bV,cQ,H,rfl⟩ := hS
 rw [fY.l0] at H
 refine gs (rg (sv (bS ac) zZ (re (gs ?_))))
 revert H; refine aJ ?_ ?_ <;> intro c1 H
 ·
  refine gt zZ (dT c1) (gk (gs (gb (gs (rg ?_)))))
  revert H; refine aU ?_; intro g2 H
  revert H; refine aU ?_; intro g3 H
  refine sv (aM 0 ag g2 g3 zZ) zZ (sv (bg (v := .agg #[.int .i64 ((aa l0 cQ).f0),.int .i64 ((aa l0 cQ).f1),.int .i64 ((aa l0 cQ).f2)]) cQ 0 (some 3) 0 cK zZ zZ zZ g2 g3 zZ zZ zZ) zZ (so zZ (dk (cs := [.int .i64 0,.int .i64 0,.int .i64 0]) kK zZ fun b5 => (so zZ (aD (cs' := [.int .i64 ((aa l0 cQ).f0),.int .i64 ((aa l0 cQ).f1),.int .i64 ((aa l0 cQ).f2)]) 0 bh (re (rg (al ac (sv (am (v := .agg #[.int .i64 ((aa l0 cQ).f0),.int .i64 ((aa l0 cQ).f1),.int .i64 ((aa l0 cQ).f2)]) 0 (some 3) ag) zZ ?_)))))))))
  revert H; refine aS ?_; rintro t4 A4 H
  refine so zZ (ax (fE.ok ((aa l0 cQ).f0) ((aa l0 cQ).f1) ((aa l0 cQ).f2) _ A4) [] 1 aG ?_)
  rintro _ _ _ ⟨rfl,rfl,rfl⟩
  exact sv (ba ac) zZ (au ac (re (aB [3,6,7,8] [] [0] ae (ge (rg (sv (ba ac) zZ (al ac (re (wk [3,6,7,8] [] [(aw 0)] (cZ _ (by omega) _ ⟨wrap64 (aY + t4),bV,wrap64 (cQ + 1),H,zZ⟩))))))))))
 ·
  refine gf zZ (dF c1) (gx zZ (gs (rg (al ac (au ac (re (aB [2] [] [] ae ?_)))))))
  cases H
  exact rt Tryz.func96 zZ (.tmp zZ .nil) zZ [] [] zZ zZ zZ zZ zZ ⟨zZ,zZ,zZ⟩
def lE.f (av : List ah) (aF : Int) (aP : List ah) (aW : List ah) (aO : List ah) (aH : List aT) (bD : Int) (bI : Int) (bK : Int) (bE : Int) (a1 : Int) (a2 : Int) : Option (Int) := if a1 ≥ (aH.length : Int) then (some 0) else (if a2 < 0 then (some 0) else (if 0 ≤ a1 then (if a1 < (aH.length : Int) then (if a2 ≥ (((aC aH a1).f0).length : Int) then (some 0) else (if 0 ≤ a2 then (if a2 < (((aC aH a1).f0).length : Int) then ((fE.f ((aa ((aC aH a1).f0) a2).f0) ((aa ((aC aH a1).f0) a2).f1) ((aa ((aC aH a1).f0) a2).f2)).bind fun oa => (some oa)) else none) else none)) else none) else none))
theorem lE.ok (av : List ah) (aL : Option Addr) (aK : Nat) (aF : Int) (aP : List ah) (bB : Option Addr) (bA : Nat) (aW : List ah) (bm : Option Addr) (bk : Nat) (aO : List ah) (bo : Option Addr) (bn : Nat) (aH : List aT) (bl : Option Addr) (bj : Nat) (bD : Int) (bI : Int) (bK : Int) (bE : Int) (a1 : Int) (a2 : Int) (r0 : Int) (H : lE.f av aF aP aW aO aH bD bI bK bE a1 a2 = some r0) : Fn Tryz.prog 97 [.agg #[.slice aL av.length aK,.int .i64 aF,.slice bB aP.length bA,.slice bm aW.length bk,.slice bo aO.length bn,.slice bl aH.length bj,.int .i64 bD,.int .i64 bI,.int .i64 bK,.int .i64 bE],.int .i64 a1,.int .i64 a2] [] [.sl 0 ai aL aK av 0 false,.sl 0 ai bB bA aP 0 false,.sl 0 ai bm bk aW 0 false,.sl 0 ai bo bn aO 0 false,.sl 0 aZ bl bj aH 0 false] (fun v bx en => v = .int .i64 r0 ∧ bx = [] ∧ en = []) := by
 refine eD 37 Tryz.func97 zZ zZ zZ (fun base T w0 => ?_)
 rw [lE.f] at H
 refine gs (rg (so zZ (gU (cs := [.slice aL av.length aK,.int .i64 aF,.slice bB aP.length bA,.slice bm aW.length bk,.slice bo aO.length bn,.slice bl aH.length bj,.int .i64 bD,.int .i64 bI,.int .i64 bK,.int .i64 bE]) ag fun b3 => (au ac (re (gs (gs (rg (al ac (sv (aq 5 zZ) zZ (sv (am 0 none ag) zZ (sv (bG zZ) zZ (sv (Ac zZ zZ) zZ (al ac ?_))))))))))))))
 revert H; refine aJ ?_ ?_ <;> intro c1 H
 ·
  refine ts 12 zZ (dT c1) (sk zZ (sk zZ (sv (aQ ag) zZ (al ac (sk zZ (sk zZ (sk zZ (sk zZ (sk zZ (sk zZ (sk zZ (sk zZ (sk zZ (sv (aQ ag) zZ (re (aB [1,2,3,26] [0] [0,1,2,3,4] ae (gt zZ zZ (gs (rg (au ac (re ?_)))))))))))))))))))))
  cases H
  exact rt Tryz.func97 zZ (.tmp zZ .nil) zZ [] [] zZ zZ zZ zZ zZ ⟨zZ,zZ,zZ⟩
 ·
  refine ts 12 zZ (dF c1) (al ac (sv (bS ac) zZ (sv (aI ag) zZ (al ac ?_))))
  revert H; refine aJ ?_ ?_ <;> intro c2 H
  ·
   refine ts 16 zZ (dT c2) (sk zZ (sk zZ (sk zZ (sk zZ (sk zZ (sk zZ (sk zZ (sk zZ (sk zZ (sv (aQ ag) zZ (re (aB [1,2,3,26] [0] [0,1,2,3,4] ae (gt zZ zZ (gs (rg (au ac (re ?_)))))))))))))))))
   cases H
   exact rt Tryz.func97 zZ (.tmp zZ .nil) zZ [] [] zZ zZ zZ zZ zZ ⟨zZ,zZ,zZ⟩
  ·
   refine ts 16 zZ (dF c2) (al ac (sv (aq 5 zZ) zZ (sv (am 0 none ag) zZ (al ac ?_))))
   revert H; refine aU ?_; intro g3 H
   revert H; refine aU ?_; intro g4 H
   refine sv (aM 4 ag g3 g4 zZ) zZ (sv (aq 0 zZ) zZ (qt (i := a1) 4 n5 zZ g3 g4 fun oB oA => (sv (ig (v := .slice oB ((aC aH a1).f0).length oA) 0 none 5 ae) zZ (sv (bG zZ) zZ (sv (Ac zZ zZ) zZ (sv (aI ag) zZ (re (aB [1,2,3,26] [0] [0,1,2,3,4] ae ?_))))))))
   revert H; refine aJ ?_ ?_ <;> intro c6 H
   ·
    refine gt zZ (dT c6) (gs (rg (au ac (re ?_))))
    cases H
    exact rt Tryz.func97 zZ (.tmp zZ .nil) zZ [] [] zZ zZ zZ zZ zZ ⟨zZ,zZ,zZ⟩
   ·
    refine gf zZ (dF c6) (gk (gs (rg (sv (aq 5 zZ) zZ (sv (am 0 none ag) zZ (al ac (sv (aM 4 ag g3 g4 zZ) zZ (sv (aq 0 zZ) zZ (qt (i := a1) 4 n5 zZ g3 g4 fun Ye XX => (sv (ig (v := .slice Ye ((aC aH a1).f0).length XX) 0 none 5 ae) zZ (al ac ?_)))))))))))
    revert H; refine aU ?_; intro g8 H
    revert H; refine aU ?_; intro g9 H
    refine sv (aM 6 ag g8 g9 zZ) zZ (sv (bg (v := .agg #[.int .i64 ((aa ((aC aH a1).f0) a2).f0),.int .i64 ((aa ((aC aH a1).f0) a2).f1),.int .i64 ((aa ((aC aH a1).f0) a2).f2)]) a2 0 (some 3) 6 cK zZ zZ zZ g8 g9 zZ zZ zZ) zZ ?_)
    revert H; refine aS ?_; rintro oa mz H
    refine so zZ (ax (fE.ok ((aa ((aC aH a1).f0) a2).f0) ((aa ((aC aH a1).f0) a2).f1) ((aa ((aC aH a1).f0) a2).f2) _ mz) [] 1 aG ?_)
    rintro _ _ _ ⟨rfl,rfl,rfl⟩
    refine au ac (re (aB [6] [] [] ae ?_))
    cases H
    exact rt Tryz.func97 zZ (.tmp zZ .nil) zZ [] [] zZ zZ zZ zZ zZ ⟨zZ,zZ,zZ⟩
def hJ.f (k : Nat) (av : List ah) (aF : Int) (aP : List ah) (aW : List ah) (aO : List ah) (aH : List aT) (bD : Int) (bI : Int) (bK : Int) (bE : Int) : Option (Int) := if bK = 1 then ((fY.f k aP).bind fun t2 => ((fY.f k aW).bind fun t3 => (some (wrap64 (t2 + t3))))) else (if bK = 2 then (if bD < 0 then (some 0) else (if bI < 0 then (some 0) else ((lE.f av aF aP aW aO aH bD bI bK bE 0 bD).bind fun t7 => ((lE.f av aF aP aW aO aH bD bI bK bE 1 bI).bind fun t8 => (some (wrap64 (t7 + t8))))))) else (if bK = 3 then ((lE.f av aF aP aW aO aH bD bI bK bE 0 bD).bind fun oa => (some oa)) else (some 0)))
theorem hJ.ok (k : Nat) (av : List ah) (aL : Option Addr) (aK : Nat) (aF : Int) (aP : List ah) (bB : Option Addr) (bA : Nat) (aW : List ah) (bm : Option Addr) (bk : Nat) (aO : List ah) (bo : Option Addr) (bn : Nat) (aH : List aT) (bl : Option Addr) (bj : Nat) (bD : Int) (bI : Int) (bK : Int) (bE : Int) (r0 : Int) (H : hJ.f k av aF aP aW aO aH bD bI bK bE = some r0) : Fn Tryz.prog 58 [.agg #[.slice aL av.length aK,.int .i64 aF,.slice bB aP.length bA,.slice bm aW.length bk,.slice bo aO.length bn,.slice bl aH.length bj,.int .i64 bD,.int .i64 bI,.int .i64 bK,.int .i64 bE]] [] [.sl 0 ai aL aK av 0 false,.sl 0 ai bB bA aP 0 false,.sl 0 ai bm bk aW 0 false,.sl 0 ai bo bn aO 0 false,.sl 0 aZ bl bj aH 0 false] (fun v bx en => v = .int .i64 r0 ∧ bx = [] ∧ en = []) := by
 refine eD 39 Tryz.func58 zZ zZ zZ (fun base T w0 => ?_)
 rw [hJ.f] at H
 refine gs (rg (so zZ (gU (cs := [.slice aL av.length aK,.int .i64 aF,.slice bB aP.length bA,.slice bm aW.length bk,.slice bo aO.length bn,.slice bl aH.length bj,.int .i64 bD,.int .i64 bI,.int .i64 bK,.int .i64 bE]) ag fun b1 => (au ac (re (gs (gs (rg (sv (aq 8 zZ) zZ (sv (am 0 none ag) zZ (re (gb (gs (rg (sv (bZ ac) zZ (au ac (re ?_)))))))))))))))))
 revert H; refine aJ ?_ ?_ <;> intro c1 H
 ·
  refine gt zZ (dT c1) (gs (fj [0] [0,1,2,3,4] [] 8 ae (ap 0 [0] [0,1,2,3,4] zZ (aq 2 zZ) ae (ap 1 [0] [0,1,2,3,4] zZ (am 0 none ag) ae (ap 3 [0] [0,1,2,3,4] zZ (aq 3 zZ) ae (ap 4 [0] [0,1,2,3,4] zZ (am 0 none ag) ae (ar 2 ac ?_)))))))
  revert H; refine aS ?_; rintro t2 A2 H
  refine ax (fY.ok k aP bB bA _ A2) [(aw 1)] 1 aG ?_
  rintro _ _ _ ⟨rfl,rfl,rfl⟩
  refine aN [0] [0,1,2,3,4] ag (ar 5 ac ?_)
  revert H; refine aS ?_; rintro t3 A3 H
  refine ax (fY.ok k aW bm bk _ A3) [(aw 2)] 1 aG ?_
  rintro _ _ _ ⟨rfl,rfl,rfl⟩
  refine aN [0] [0,1,2,3,4] ag (ap 6 [0] [0,1,2,3,4] zZ (ba ac) ae (ap 7 [0] [0,1,2,3,4] zZ (gE zZ) ae (xd (aB [2] [] [] ae ?_))))
  cases H
  exact rt Tryz.func58 zZ (.tmp zZ .nil) zZ [] [] zZ zZ zZ zZ zZ ⟨zZ,zZ,zZ⟩
 ·
  refine gf zZ (dF c1) (gs (rg (sv (bZ ac) zZ (au ac (re (aB [1,4,14] [0] [0,1,2,3,4] ae ?_))))))
  revert H; refine aJ ?_ ?_ <;> intro c4 H
  ·
   refine gt zZ (dT c4) (gs (gs (rg (sv (aq 6 zZ) zZ (sv (am 0 none ag) zZ (sv (bS ac) zZ (al ac ?_)))))))
   revert H; refine aJ ?_ ?_ <;> intro c5 H
   ·
    refine ts 19 zZ (dT c5) (sk zZ (sk zZ (sk zZ (sv (aQ ag) zZ (re (aB [1,23] [0] [0,1,2,3,4] ae (gt zZ zZ (gs (rg (au ac (re ?_)))))))))))
    cases H
    exact rt Tryz.func58 zZ (.tmp zZ .nil) zZ [] [] zZ zZ zZ zZ zZ ⟨zZ,zZ,zZ⟩
   ·
    refine ts 19 zZ (dF c5) (sv (aq 7 zZ) zZ (sv (am 0 none ag) zZ (sv (bS ac) zZ (sv (aI ag) zZ (re (aB [1,23] [0] [0,1,2,3,4] ae ?_))))))
    revert H; refine aJ ?_ ?_ <;> intro c6 H
    ·
     refine gt zZ (dT c6) (gs (rg (au ac (re ?_))))
     cases H
     exact rt Tryz.func58 zZ (.tmp zZ .nil) zZ [] [] zZ zZ zZ zZ zZ ⟨zZ,zZ,zZ⟩
    ·
     refine gf zZ (dF c6) (gk (gs (fj [0] [0,1,2,3,4] [] 10 ae (ap 0 [0] [0,1,2,3,4] zZ (am (v := .agg #[.slice aL av.length aK,.int .i64 aF,.slice bB aP.length bA,.slice bm aW.length bk,.slice bo aO.length bn,.slice bl aH.length bj,.int .i64 bD,.int .i64 bI,.int .i64 bK,.int .i64 bE]) 0 (some 10) ag) ae (ap 1 [0] [0,1,2,3,4] zZ (aq 6 zZ) ae (ap 2 [0] [0,1,2,3,4] zZ (am 0 none ag) ae (ap 4 [0] [0,1,2,3,4] zZ (am (v := .agg #[.slice aL av.length aK,.int .i64 aF,.slice bB aP.length bA,.slice bm aW.length bk,.slice bo aO.length bn,.slice bl aH.length bj,.int .i64 bD,.int .i64 bI,.int .i64 bK,.int .i64 bE]) 0 (some 10) ag) ae (ap 5 [0] [0,1,2,3,4] zZ (aq 7 zZ) ae (ap 6 [0] [0,1,2,3,4] zZ (am 0 none ag) ae (ar 3 ac ?_))))))))))
     revert H; refine aS ?_; rintro t7 A7 H
     refine ax (lE.ok av aL aK aF aP bB bA aW bm bk aO bo bn aH bl bj bD bI bK bE 0 bD _ A7) [(aw 0),(aw 1),(aw 2),(aw 3),(aw 4)] 1 aG ?_
     rintro _ _ _ ⟨rfl,rfl,rfl⟩
     refine aN [0] [0,1,2,3,4] ag (ar 7 ac ?_)
     revert H; refine aS ?_; rintro t8 A8 H
     refine ax (lE.ok av aL aK aF aP bB bA aW bm bk aO bo bn aH bl bj bD bI bK bE 1 bI _ A8) [(aw 0),(aw 1),(aw 2),(aw 3),(aw 4)] 1 aG ?_
     rintro _ _ _ ⟨rfl,rfl,rfl⟩
     refine aN [0] [0,1,2,3,4] ag (ap 8 [0] [0,1,2,3,4] zZ (ba ac) ae (ap 9 [0] [0,1,2,3,4] zZ (gE zZ) ae (xd (aB [2] [] [] ae ?_))))
     cases H
     exact rt Tryz.func58 zZ (.tmp zZ .nil) zZ [] [] zZ zZ zZ zZ zZ ⟨zZ,zZ,zZ⟩
  ·
   refine gf zZ (dF c4) (gs (rg (sv (bZ ac) zZ (au ac (re ?_)))))
   revert H; refine aJ ?_ ?_ <;> intro c9 H
   ·
    refine gt zZ (dT c9) (gs (rg (sv (am (v := .agg #[.slice aL av.length aK,.int .i64 aF,.slice bB aP.length bA,.slice bm aW.length bk,.slice bo aO.length bn,.slice bl aH.length bj,.int .i64 bD,.int .i64 bI,.int .i64 bK,.int .i64 bE]) 0 (some 10) ag) zZ (sv (aq 6 zZ) zZ (sv (am 0 none ag) zZ ?_)))))
    revert H; refine aS ?_; rintro oa mz H
    refine so zZ (ax (lE.ok av aL aK aF aP bB bA aW bm bk aO bo bn aH bl bj bD bI bK bE 0 bD _ mz) [(aw 0),(aw 1),(aw 2),(aw 3),(aw 4)] 1 aG ?_)
    rintro _ _ _ ⟨rfl,rfl,rfl⟩
    refine au ac (re (aB [2] [] [] ae ?_))
    cases H
    exact rt Tryz.func58 zZ (.tmp zZ .nil) zZ [] [] zZ zZ zZ zZ zZ ⟨zZ,zZ,zZ⟩
   ·
    refine gf zZ (dF c9) (gk (ge (gs (rg (au ac (re ?_))))))
    cases H
    exact rt Tryz.func58 zZ (.tmp zZ .nil) zZ [] [] zZ zZ zZ zZ zZ ⟨zZ,zZ,zZ⟩
def lF.f (a0 : Int) (a1 : Int) : Option (Int) := if a0 < a1 then (some (-1)) else (if a0 > a1 then (some 1) else (some 0))
theorem lF.ok (a0 : Int) (a1 : Int) (r0 : Int) (H : lF.f a0 a1 = some r0) : Fn Tryz.prog 99 [.int .i64 a0,.int .i64 a1] [] [] (fun v bx en => v = .int .i64 r0 ∧ bx = [] ∧ en = []) := by
 refine eD 13 Tryz.func99 zZ zZ zZ (fun base T w0 => ?_)
 rw [lF.f] at H
 refine gs (rg (au ac (re (gs (gb (gs (rg (al ac (al ac (sv (bS ac) zZ (au ac (re ?_))))))))))))
 revert H; refine aJ ?_ ?_ <;> intro c1 H
 ·
  refine gt zZ (dT c1) (gs (rg (au ac (re (aB [4] [] [] ae ?_)))))
  cases H
  exact rt Tryz.func99 zZ (.tmp zZ .nil) zZ [] [] zZ zZ zZ zZ zZ ⟨zZ,zZ,zZ⟩
 ·
  refine gf zZ (dF c1) (gs (rg (al ac (al ac (sv (dV ac) zZ (au ac (re (aB [9] [] [] ae ?_))))))))
  revert H; refine aJ ?_ ?_ <;> intro c2 H
  ·
   refine gt zZ (dT c2) (gs (rg (au ac (re ?_))))
   cases H
   exact rt Tryz.func99 zZ (.tmp zZ .nil) zZ [] [] zZ zZ zZ zZ zZ ⟨zZ,zZ,zZ⟩
  ·
   refine gf zZ (dF c2) (gk (ge (gs (rg (au ac (re ?_))))))
   cases H
   exact rt Tryz.func99 zZ (.tmp zZ .nil) zZ [] [] zZ zZ zZ zZ zZ ⟨zZ,zZ,zZ⟩
def dB.f (fb : Int) (aF : Int) (cw : Int) (oz : Int) (mu : Int) (xA : Int) : Option (Int) := (lF.f fb oz).bind fun t1 => (if t1 = 0 then ((lF.f aF mu).bind fun t3 => (if t3 = 0 then ((lF.f cw xA).bind fun t5 => (some t5)) else (some t3))) else (some t1))
theorem dB.ok (fb : Int) (aF : Int) (cw : Int) (oz : Int) (mu : Int) (xA : Int) (r0 : Int) (H : dB.f fb aF cw oz mu xA = some r0) : Fn Tryz.prog 65 [.agg #[.int .i64 fb,.int .i64 aF,.int .i64 cw],.agg #[.int .i64 oz,.int .i64 mu,.int .i64 xA]] [] [] (fun v bx en => v = .int .i64 r0 ∧ bx = [] ∧ en = []) := by
 refine eD 28 Tryz.func65 zZ zZ zZ (fun base T w0 => ?_)
 rw [dB.f] at H
 refine gs (rg (so zZ (gU (cs := [.int .i64 fb,.int .i64 aF,.int .i64 cw]) ag fun b2 => (so zZ (gU (cs := [.int .i64 oz,.int .i64 mu,.int .i64 xA]) ag fun b3 => (au ac (re (gs (gs (rg (sv (aq 0 zZ) zZ (sv (am 0 none ag) zZ (sv (aq 0 zZ) zZ (sv (am 1 none ag) zZ ?_))))))))))))))
 revert H; refine aS ?_; rintro t1 A1 H
 refine so zZ (ax (lF.ok fb oz _ A1) [] 1 aG ?_)
 rintro _ _ _ ⟨rfl,rfl,rfl⟩
 refine au ac (re (aB [2,3,5] [0,1] [] ae (gs (rg (al ac (sv (lK zZ zZ) zZ (re ?_)))))))
 revert H; refine aJ ?_ ?_ <;> intro c2 H
 ·
  refine gf zZ (nF c2) (gk (gs (gs (rg (sv (aq 1 zZ) zZ (sv (am 0 none ag) zZ (sv (aq 1 zZ) zZ (sv (am 1 none ag) zZ ?_))))))))
  revert H; refine aS ?_; rintro t3 A3 H
  refine so zZ (ax (lF.ok aF mu _ A3) [] 1 aG ?_)
  rintro _ _ _ ⟨rfl,rfl,rfl⟩
  refine au ac (re (aB [2,3,6] [0,1] [] ae (gs (rg (al ac (sv (lK zZ zZ) zZ (re ?_)))))))
  revert H; refine aJ ?_ ?_ <;> intro c4 H
  ·
   refine gf zZ (nF c4) (gk (gs (rg (sv (aq 2 zZ) zZ (sv (am 0 none ag) zZ (sv (aq 2 zZ) zZ (sv (am 1 none ag) zZ ?_)))))))
   revert H; refine aS ?_; rintro t5 A5 H
   refine so zZ (ax (lF.ok cw xA _ A5) [] 1 aG ?_)
   rintro _ _ _ ⟨rfl,rfl,rfl⟩
   refine au ac (re (aB [4] [] [] ae ?_))
   cases H
   exact rt Tryz.func65 zZ (.tmp zZ .nil) zZ [] [] zZ zZ zZ zZ zZ ⟨zZ,zZ,zZ⟩
  ·
   refine gt zZ (nT c4) (gs (rg (al ac (au ac (re (aB [4] [] [] ae ?_))))))
   cases H
   exact rt Tryz.func65 zZ (.tmp zZ .nil) zZ [] [] zZ zZ zZ zZ zZ ⟨zZ,zZ,zZ⟩
 ·
  refine gt zZ (nT c2) (gs (rg (al ac (au ac (re (aB [4] [] [] ae ?_))))))
  cases H
  exact rt Tryz.func65 zZ (.tmp zZ .nil) zZ [] [] zZ zZ zZ zZ zZ ⟨zZ,zZ,zZ⟩
def ow.f (fb : Int) (aF : Int) (cw : Int) (l1 : List ah) : Option (Bool) := if (l1.length : Int) > 0 then (if 0 ≤ (wrap64 ((l1.length : Int) - 1)) then (if (wrap64 ((l1.length : Int) - 1)) < (l1.length : Int) then ((dB.f fb aF cw ((aa l1 (wrap64 ((l1.length : Int) - 1))).f0) ((aa l1 (wrap64 ((l1.length : Int) - 1))).f1) ((aa l1 (wrap64 ((l1.length : Int) - 1))).f2)).bind fun t4 => (some (decide (t4 < 0)))) else none) else none) else (some false)
theorem ow.ok (fb : Int) (aF : Int) (cw : Int) (l1 : List ah) (i9 : Option Addr) (i7 : Nat) (r0 : Bool) (H : ow.f fb aF cw l1 = some r0) : Fn Tryz.prog 60 [.agg #[.int .i64 fb,.int .i64 aF,.int .i64 cw],.slice i9 l1.length i7] [] [.sl 0 ai i9 i7 l1 0 false] (fun v bx en => v = .bool r0 ∧ bx = [] ∧ en = []) := by
 refine eD 19 Tryz.func60 zZ zZ zZ (fun base T w0 => ?_)
 rw [ow.f] at H
 refine gs (rg (so zZ (gU (cs := [.int .i64 fb,.int .i64 aF,.int .i64 cw]) ag fun b2 => (au ac (re (gs (fj [0] [0] [] 15 ae (ap 0 [0] [0] zZ (aA zZ) ae (ap 1 [0] [0] zZ (bG zZ) ae (ap 2 [0] [0] zZ (dV ac) ae (ap 3 [0] [0] zZ (aA zZ) ae ?_)))))))))))
 revert H; refine aJ ?_ ?_ <;> intro c1 H
 ·
  refine ts 8 zZ (dT c1) (ap 4 [0] [0] zZ (am (v := .agg #[.int .i64 fb,.int .i64 aF,.int .i64 cw]) 0 (some 3) ag) ae (ap 5 [0] [0] zZ (aA zZ) ae (ap 6 [0] [0] zZ (aA zZ) ae (ap 7 [0] [0] zZ (bG zZ) ae (ap 8 [0] [0] zZ (co ac) ae ?_)))))
  revert H; refine aU ?_; intro g2 H
  revert H; refine aU ?_; intro g3 H
  refine ap 9 [0] [0] zZ (aM 0 ag g2 g3 zZ) ae (ap 10 [0] [0] zZ (bg (v := .agg #[.int .i64 ((aa l1 (wrap64 ((l1.length : Int) - 1))).f0),.int .i64 ((aa l1 (wrap64 ((l1.length : Int) - 1))).f1),.int .i64 ((aa l1 (wrap64 ((l1.length : Int) - 1))).f2)]) (wrap64 ((l1.length : Int) - 1)) 0 (some 3) 0 cK zZ zZ zZ g2 g3 zZ zZ zZ) ae (ar 11 ac ?_))
  revert H; refine aS ?_; rintro t4 A4 H
  refine ax (dB.ok fb aF cw ((aa l1 (wrap64 ((l1.length : Int) - 1))).f0) ((aa l1 (wrap64 ((l1.length : Int) - 1))).f1) ((aa l1 (wrap64 ((l1.length : Int) - 1))).f2) _ A4) [] 1 aG ?_
  rintro _ _ _ ⟨rfl,rfl,rfl⟩
  refine aN [0] [0] ag (ap 12 [0] [0] zZ (bS ac) ae (ap 13 [0] [0] zZ (aQ ag) ae (ap 14 [0] [0] zZ (gE zZ) ae (xd (aB [4] [] [] ae ?_)))))
  cases H
  exact rt Tryz.func60 zZ (.tmp zZ .nil) zZ [] [] zZ zZ zZ zZ zZ ⟨zZ,zZ,zZ⟩
 ·
  refine ts 8 zZ (dF c1) (bv 4 [0] [0] aG (bv 5 [0] [0] aG (bv 6 [0] [0] aG (bv 7 [0] [0] aG (bv 8 [0] [0] aG (bv 9 [0] [0] aG (bv 10 [0] [0] aG (bv 11 [0] [0] aG (bv 12 [0] [0] aG (ap 13 [0] [0] zZ (aI ag) ae (ap 14 [0] [0] zZ (gE zZ) ae (xd (aB [4] [] [] ae ?_)))))))))))))
  cases H
  exact rt Tryz.func60 zZ (.tmp zZ .nil) zZ [] [] zZ zZ zZ zZ zZ ⟨zZ,zZ,zZ⟩
def gY.l0 : Nat → Int → Int → (List ah) → Option (Bool)
 | 0,_,_,_ => none
 | k + 1,dt,bV,l0 => if bV < dt then (if 0 ≤ bV then (if bV < (l0.length : Int) then ((gV.f ((aa l0 bV).f0) ((aa l0 bV).f1) ((aa l0 bV).f2)).bind fun t4 => (if t4 = true then (gY.l0 k dt (wrap64 (bV + 1)) l0) else (some false))) else none) else none) else (some true)
def gY.f (k : Nat) (l0 : List ah) : Option (Bool) := gY.l0 k (l0.length : Int) 0 l0
theorem gY.ok (k : Nat) (l0 : List ah) (ay : Option Addr) (az : Nat) (r0 : Bool) (H : gY.f k l0 = some r0) : Fn Tryz.prog 102 [.slice ay l0.length az] [] [.sl 0 ai ay az l0 0 false] (fun v bx en => v = .bool r0 ∧ bx = [] ∧ en = []) := by
 refine eD 15 Tryz.func102 zZ zZ zZ (fun base T w0 => ?_)
 rw [gY.f] at H
 refine gs (rg (au ac (re (gs (gs (rg (al ac (sv (bG zZ) zZ (al ac (re (gb ?_)))))))))))
 refine lo (fun kk S => ∃ (dt : Int) (bV : Int),gY.l0 kk dt bV l0 = some r0 ∧ S = ⟨[(5,.slice ay l0.length az),(6,.int .i64 dt),(7,.int .i64 bV)],[],[.sl 0 ai ay az l0 0 false]⟩) (fun S hS => ?_) (fun n0 cZ S hS => ?_) ⟨(l0.length : Int),0,H,zZ⟩ (fun h => wk [5,6,7] [] [(aw 0)] h)
 · clear H; obtain ⟨_,_,H,_⟩ := hS; rw [gY.l0] at H; cases H
 clear H
 obtain ⟨dt,bV,H,rfl⟩ := hS
 rw [gY.l0] at H
 refine gs (rg (sv (bS ac) zZ (re (gs ?_))))
 revert H; refine aJ ?_ ?_ <;> intro c1 H
 ·
  refine gt zZ (dT c1) (gk (gs (gb (gs (rg ?_)))))
  revert H; refine aU ?_; intro g2 H
  revert H; refine aU ?_; intro g3 H
  refine sv (aM 0 ag g2 g3 zZ) zZ (sv (bg (v := .agg #[.int .i64 ((aa l0 bV).f0),.int .i64 ((aa l0 bV).f1),.int .i64 ((aa l0 bV).f2)]) bV 0 (some 3) 0 cK zZ zZ zZ g2 g3 zZ zZ zZ) zZ (so zZ (dk (cs := [.int .i64 0,.int .i64 0,.int .i64 0]) kK zZ fun b4 => (so zZ (aD (cs' := [.int .i64 ((aa l0 bV).f0),.int .i64 ((aa l0 bV).f1),.int .i64 ((aa l0 bV).f2)]) 0 bh (re (gs (rg (sv (am (v := .agg #[.int .i64 ((aa l0 bV).f0),.int .i64 ((aa l0 bV).f1),.int .i64 ((aa l0 bV).f2)]) 0 (some 3) ag) zZ ?_)))))))))
  revert H; refine aS ?_; rintro t4 A4 H
  refine so zZ (ax (gV.ok ((aa l0 bV).f0) ((aa l0 bV).f1) ((aa l0 bV).f2) _ A4) [] 1 aG ?_)
  rintro _ _ _ ⟨rfl,rfl,rfl⟩
  refine sv (eE zZ) zZ (re (aB [5,6,7,13] [] [0] ae ?_))
  revert H; refine aJ ?_ ?_ <;> intro c5 H
  ·
   subst c5
   exact gf zZ zZ (gk (ge (rg (sv (ba ac) zZ (al ac (re (wk [5,6,7] [] [(aw 0)] (cZ _ (by omega) _ ⟨dt,wrap64 (bV + 1),H,zZ⟩))))))))
  ·
   have xc5 := bF c5; subst xc5
   refine gt zZ zZ (gs (rg (au ac (re ?_))))
   cases H
   exact rt Tryz.func102 zZ (.tmp zZ .nil) zZ [] [] zZ zZ zZ zZ zZ ⟨zZ,zZ,zZ⟩
 ·
  refine gf zZ (dF c1) (gx zZ (gs (rg (au ac (re ?_)))))
  cases H
  exact rt Tryz.func102 zZ (.tmp zZ .nil) zZ [] [] zZ zZ zZ zZ zZ ⟨zZ,zZ,zZ⟩
def gG.f (k : Nat) (l0 : List ah) : Option (Bool) := if (l0.length : Int) ≤ 24 then ((gY.f k l0).bind fun t2 => (some t2)) else (some false)
theorem gG.ok (k : Nat) (l0 : List ah) (ay : Option Addr) (az : Nat) (r0 : Bool) (H : gG.f k l0 = some r0) : Fn Tryz.prog 75 [.slice ay l0.length az] [] [.sl 0 ai ay az l0 0 false] (fun v bx en => v = .bool r0 ∧ bx = [] ∧ en = []) := by
 refine eD 10 Tryz.func75 zZ zZ zZ (fun base T w0 => ?_)
 rw [gG.f] at H
 refine gs (rg (au ac (re (gs (rg (al ac (sv (bG zZ) zZ (sv (jv ac) zZ (al ac ?_)))))))))
 revert H; refine aJ ?_ ?_ <;> intro c1 H
 ·
  refine ts 6 zZ (dT c1) (al ac ?_)
  revert H; refine aS ?_; rintro t2 A2 H
  refine so zZ (ax (gY.ok k l0 ay az _ A2) [(aw 0)] 1 aG ?_)
  rintro _ _ _ ⟨rfl,rfl,rfl⟩
  refine sv (aQ ag) zZ (au ac (re (aB [2] [] [] ae ?_)))
  cases H
  exact rt Tryz.func75 zZ (.tmp zZ .nil) zZ [] [] zZ zZ zZ zZ zZ ⟨zZ,zZ,zZ⟩
 ·
  refine ts 6 zZ (dF c1) (sk zZ (sk zZ (sv (aI ag) zZ (au ac (re (aB [2] [] [] ae ?_))))))
  cases H
  exact rt Tryz.func75 zZ (.tmp zZ .nil) zZ [] [] zZ zZ zZ zZ zZ ⟨zZ,zZ,zZ⟩
def fU.l0 : Nat → Int → (List ah) → Option (Bool)
 | 0,_,_ => none
 | k + 1,aY,l0 => if aY < (l0.length : Int) then (if 0 ≤ aY then (if 0 ≤ (wrap64 (aY - 1)) then (if (wrap64 (aY - 1)) < (l0.length : Int) then ((dB.f ((aa l0 aY).f0) ((aa l0 aY).f1) ((aa l0 aY).f2) ((aa l0 (wrap64 (aY - 1))).f0) ((aa l0 (wrap64 (aY - 1))).f1) ((aa l0 (wrap64 (aY - 1))).f2)).bind fun t5 => (if t5 < 0 then (some false) else (fU.l0 k (wrap64 (aY + 1)) l0))) else none) else none) else none) else (some true)
def fU.f (k : Nat) (l0 : List ah) : Option (Bool) := fU.l0 k 1 l0
theorem fU.ok (k : Nat) (l0 : List ah) (ay : Option Addr) (az : Nat) (r0 : Bool) (H : fU.f k l0 = some r0) : Fn Tryz.prog 77 [.slice ay l0.length az] [] [.sl 0 ai ay az l0 0 false] (fun v bx en => v = .bool r0 ∧ bx = [] ∧ en = []) := by
 refine eD 21 Tryz.func77 zZ zZ zZ (fun base T w0 => ?_)
 rw [fU.f] at H
 refine gs (rg (au ac (re (gs (gs (rg (au ac (re (gb ?_)))))))))
 refine lo (fun kk S => ∃ (aY : Int),fU.l0 kk aY l0 = some r0 ∧ S = ⟨[(0,.slice ay l0.length az),(3,.int .i64 aY)],[],[.sl 0 ai ay az l0 0 false]⟩) (fun S hS => ?_) (fun n0 cZ S hS => ?_) ⟨1,H,zZ⟩ (fun h => wk [0,3] [] [(aw 0)] h)
 · clear H; obtain ⟨_,H,_⟩ := hS; rw [fU.l0] at H; cases H
 clear H
 obtain ⟨aY,H,rfl⟩ := hS
 rw [fU.l0] at H
 refine gs (gs (rg (al ac (al ac (sv (bG zZ) zZ (sv (bS ac) zZ (re ?_)))))))
 revert H; refine aJ ?_ ?_ <;> intro c1 H
 ·
  refine gt zZ (dT c1) (gk (gs (gb (gs ?_))))
  revert H; refine aU ?_; intro g2 H
  revert H; refine aU ?_; intro g3 H
  revert H; refine aU ?_; intro g4 H
  refine fj [] [0] [] 11 ae (ap 0 [] [0] zZ (aA zZ) ae (ap 1 [] [0] zZ (aA zZ) ae (ap 2 [] [0] zZ (aM 0 ag g2 c1 zZ) ae (ap 3 [] [0] zZ (bg (v := .agg #[.int .i64 ((aa l0 aY).f0),.int .i64 ((aa l0 aY).f1),.int .i64 ((aa l0 aY).f2)]) aY 0 (some 3) 0 cK zZ zZ zZ g2 c1 zZ zZ zZ) ae (ap 4 [] [0] zZ (aA zZ) ae (ap 5 [] [0] zZ (aA zZ) ae (ap 6 [] [0] zZ (co ac) ae (ap 7 [] [0] zZ (aM 0 ag g3 g4 zZ) ae (ap 8 [] [0] zZ (bg (v := .agg #[.int .i64 ((aa l0 (wrap64 (aY - 1))).f0),.int .i64 ((aa l0 (wrap64 (aY - 1))).f1),.int .i64 ((aa l0 (wrap64 (aY - 1))).f2)]) (wrap64 (aY - 1)) 0 (some 3) 0 cK zZ zZ zZ g3 g4 zZ zZ zZ) ae (ar 9 ac ?_))))))))))
  revert H; refine aS ?_; rintro t5 A5 H
  refine ax (dB.ok ((aa l0 aY).f0) ((aa l0 aY).f1) ((aa l0 aY).f2) ((aa l0 (wrap64 (aY - 1))).f0) ((aa l0 (wrap64 (aY - 1))).f1) ((aa l0 (wrap64 (aY - 1))).f2) _ A5) [] 1 aG ?_
  rintro _ _ _ ⟨rfl,rfl,rfl⟩
  refine aN [] [0] ag (ap 10 [] [0] zZ (bS ac) ae (xd (aB [0,3,20] [] [0] ae ?_)))
  revert H; refine aJ ?_ ?_ <;> intro c6 H
  ·
   refine gt zZ (dT c6) (gs (rg (au ac (re ?_))))
   cases H
   exact rt Tryz.func77 zZ (.tmp zZ .nil) zZ [] [] zZ zZ zZ zZ zZ ⟨zZ,zZ,zZ⟩
  ·
   exact gf zZ (dF c6) (gk (ge (rg (al ac (sv (ba ac) zZ (au ac (re (wk [0,3] [] [(aw 0)] (cZ _ (by omega) _ ⟨wrap64 (aY + 1),H,zZ⟩)))))))))
 ·
  refine gf zZ (dF c1) (gx zZ (gs (rg (au ac (re (aB [2] [] [] ae ?_))))))
  cases H
  exact rt Tryz.func77 zZ (.tmp zZ .nil) zZ [] [] zZ zZ zZ zZ zZ ⟨zZ,zZ,zZ⟩
def ff.l0 : Nat → Int → Int → (List aT) → Option (Bool)
 | 0,_,_,_ => none
 | k + 1,dt,bV,l0 => if bV < dt then (if 0 ≤ bV then (if bV < (l0.length : Int) then (if (((aC l0 bV).f0).length : Int) = 0 then (some false) else ((fU.f k ((aC l0 bV).f0)).bind fun t6 => (if t6 = true then ((gG.f k ((aC l0 bV).f0)).bind fun t8 => (if t8 = true then (ff.l0 k dt (wrap64 (bV + 1)) l0) else (some false))) else (some false)))) else none) else none) else (some true)
def ff.f (k : Nat) (l0 : List aT) : Option (Bool) := ff.l0 k (l0.length : Int) 0 l0
theorem ff.ok (k : Nat) (l0 : List aT) (ay : Option Addr) (az : Nat) (r0 : Bool) (H : ff.f k l0 = some r0) : Fn Tryz.prog 76 [.slice ay l0.length az] [] [.sl 0 aZ ay az l0 0 false] (fun v bx en => v = .bool r0 ∧ bx = [] ∧ en = []) := by
 refine eD 28 Tryz.func76 zZ zZ zZ (fun base T w0 => ?_)
 rw [ff.f] at H
 refine gs (rg (au ac (re (gs (gs (rg (al ac (sv (bG zZ) zZ (al ac (re (gb ?_)))))))))))
 refine lo (fun kk S => ∃ (dt : Int) (bV : Int),ff.l0 kk dt bV l0 = some r0 ∧ S = ⟨[(5,.slice ay l0.length az),(6,.int .i64 dt),(7,.int .i64 bV)],[],[.sl 0 aZ ay az l0 0 false]⟩) (fun S hS => ?_) (fun n0 cZ S hS => ?_) ⟨(l0.length : Int),0,H,zZ⟩ (fun h => wk [5,6,7] [] [(aw 0)] h)
 · clear H; obtain ⟨_,_,H,_⟩ := hS; rw [ff.l0] at H; cases H
 clear H
 obtain ⟨dt,bV,H,rfl⟩ := hS
 rw [ff.l0] at H
 refine gs (rg (sv (bS ac) zZ (re (gs ?_))))
 revert H; refine aJ ?_ ?_ <;> intro c1 H
 ·
  refine gt zZ (dT c1) (gk (gs (gb (gs (rg ?_)))))
  revert H; refine aU ?_; intro g2 H
  revert H; refine aU ?_; intro g3 H
  refine sv (aM 0 ag g2 g3 zZ) zZ (qt (i := bV) 0 n5 zZ g2 g3 fun xI xw => (sv (ig (v := .agg #[.slice xI ((aC l0 bV).f0).length xw]) 0 (some 1) 1 ae) zZ (so zZ (dk (cs := [.slice none 0 0]) kK zZ fun b4 => (so zZ (aD (cs' := [.slice xI ((aC l0 bV).f0).length xw]) 0 bh (re (gs (rg (sv (aq 0 zZ) zZ (sv (am 0 none ag) zZ (sv (bG zZ) zZ (sv (bZ ac) zZ (al ac ?_))))))))))))))
  revert H; refine aJ ?_ ?_ <;> intro c5 H
  ·
   refine ts 15 zZ (dT c5) (sk zZ (sk zZ (sk zZ (sk zZ (sv (aQ ag) zZ (al ac (sk zZ (sk zZ (sk zZ (sk zZ (sv (aQ ag) zZ (re (aB [5,6,7,26] [] [0] ae (gt zZ zZ (gs (rg (au ac (re ?_))))))))))))))))))
   cases H
   exact rt Tryz.func76 zZ (.tmp zZ .nil) zZ [] [] zZ zZ zZ zZ zZ ⟨zZ,zZ,zZ⟩
  ·
   refine ts 15 zZ (dF c5) (sv (aq 0 zZ) zZ (sv (am 0 none ag) zZ ?_))
   revert H; refine aS ?_; rintro t6 A6 H
   refine so zZ (ax (fU.ok n0 ((aC l0 bV).f0) xI xw _ A6) [(aw 2)] 1 aG ?_)
   rintro _ _ _ ⟨rfl,rfl,rfl⟩
   refine sv (eE zZ) zZ (sv (aI ag) zZ (al ac ?_))
   revert H; refine aJ ?_ ?_ <;> intro c7 H
   ·
    subst c7
    refine eq 21 ac (sv (aq 0 zZ) zZ (sv (am 0 none ag) zZ ?_))
    revert H; refine aS ?_; rintro t8 A8 H
    refine so zZ (ax (gG.ok n0 ((aC l0 bV).f0) xI xw _ A8) [(aw 2)] 1 aG ?_)
    rintro _ _ _ ⟨rfl,rfl,rfl⟩
    refine sv (eE zZ) zZ (sv (aI ag) zZ (re (aB [5,6,7,16,17,18,19,22,23,24,25,26] [0] [0,1,2] ae ?_)))
    revert H; refine aJ ?_ ?_ <;> intro c9 H
    ·
     subst c9
     exact gf zZ zZ (gk (ge (rg (sv (ba ac) zZ (al ac (re (wk [5,6,7] [] [(aw 0)] (cZ _ (by omega) _ ⟨dt,wrap64 (bV + 1),H,zZ⟩))))))))
    ·
     have xc9 := bF c9; subst xc9
     refine gt zZ zZ (gs (rg (au ac (re (aB [2] [] [] ae ?_)))))
     cases H
     exact rt Tryz.func76 zZ (.tmp zZ .nil) zZ [] [] zZ zZ zZ zZ zZ ⟨zZ,zZ,zZ⟩
   ·
    have xc7 := bF c7; subst xc7
    refine eq 21 ac (sk zZ (sk zZ (sk zZ (sk zZ (sv (aQ ag) zZ (re (aB [5,6,7,16,17,18,19,26] [0] [0,1,2] ae (gt zZ zZ (gs (rg (au ac (re (aB [2] [] [] ae ?_)))))))))))))
    cases H
    exact rt Tryz.func76 zZ (.tmp zZ .nil) zZ [] [] zZ zZ zZ zZ zZ ⟨zZ,zZ,zZ⟩
 ·
  refine gf zZ (dF c1) (gx zZ (gs (rg (au ac (re ?_)))))
  cases H
  exact rt Tryz.func76 zZ (.tmp zZ .nil) zZ [] [] zZ zZ zZ zZ zZ ⟨zZ,zZ,zZ⟩
def fx.l0 : Nat → (List ah) → Int → Int → (List aT) → Option ((List ah))
 | 0,_,_,_,_ => none
 | k + 1,aY,cQ,eB,l0 => if eB < cQ then (if 0 ≤ eB then (if eB < (l0.length : Int) then (if aY.length + ((aC l0 eB).f0).length ≤ 5864062014805 then (fx.l0 k (aY ++ ((aC l0 eB).f0)) cQ (wrap64 (eB + 1)) l0) else none) else none) else none) else (some aY)
def fx.f (k : Nat) (l0 : List aT) : Option ((List ah)) := fx.l0 k [] (l0.length : Int) 0 l0
theorem fx.ok (k : Nat) (l0 : List aT) (ay : Option Addr) (az : Nat) (r0 : List ah) (H : fx.f k l0 = some r0) : Fn Tryz.prog 78 [.slice ay l0.length az] [] [.sl 0 aZ ay az l0 0 false] (fun v bx en => ∃ A0 c0,v = .slice A0 r0.length c0 ∧ bx = [] ∧ en = [.sl 2 ai A0 c0 r0 1 true]) := by
 refine eD 19 Tryz.func78 zZ zZ zZ (fun base T w0 => ?_)
 rw [fx.f] at H
 refine gs (rg (au ac (re (gs (rg (so zZ (bH (s := 3) (by_ := 24) ai ([] : List ah) [] [] 1 [] dp dq zZ fun GM Gs => (au ac (re (gs (gs (rg (al ac (sv (bG zZ) zZ (al ac (re (gb ?_)))))))))))))))))
 refine lo (fun kk S => ∃ (aY : List ah) (i0 : Option Addr) (iV : Nat) (cQ : Int) (eB : Int),fx.l0 kk aY cQ eB l0 = some r0 ∧ S = ⟨[(3,.slice i0 aY.length iV),(7,.slice ay l0.length az),(8,.int .i64 cQ),(9,.int .i64 eB)],[],[.sl 2 ai i0 iV aY 1 true,.sl 0 aZ ay az l0 0 false]⟩) (fun S hS => ?_) (fun n0 cZ S hS => ?_) ⟨[],GM,Gs,(l0.length : Int),0,H,zZ⟩ (fun h => wk [3,7,8,9] [] [(aj 1 2 1),(aw 0)] h)
 · clear H; obtain ⟨_,_,_,_,_,H,_⟩ := hS; rw [fx.l0] at H; cases H
 clear H
 obtain ⟨aY,i0,iV,cQ,eB,H,rfl⟩ := hS
 rw [fx.l0] at H
 refine gs (rg (sv (bS ac) zZ (re (gs ?_))))
 revert H; refine aJ ?_ ?_ <;> intro c2 H
 ·
  refine gt zZ (dT c2) (gk (gs (gb (gs (rg ?_)))))
  revert H; refine aU ?_; intro g3 H
  revert H; refine aU ?_; intro g4 H
  refine sv (aM 1 ag g3 g4 zZ) zZ (qt (i := eB) 1 n5 zZ g3 g4 fun oB oA => (sv (ig (v := .agg #[.slice oB ((aC l0 eB).f0).length oA]) 0 (some 1) 2 ae) zZ (so zZ (dk (cs := [.slice none 0 0]) kK zZ fun b5 => (so zZ (aD (cs' := [.slice oB ((aC l0 eB).f0).length oA]) 0 bh (re (rg (al ac (sv (aq 0 zZ) zZ (sv (am 0 none ag) zZ ?_)))))))))))
  revert H; refine aU ?_; intro g6 H
  exact so zZ (di (k := ai) (s := 3) (by_ := 24) 0 3 ae (JY g6 dq) (Du g6 dq) (.inl zZ) true (fun _ => .inl zZ) ac fun MX Mf => (bR (en := [.sl 0 aZ ay az l0 0 false,yu ay (eB.toNat * 1) [.slice oB ((aC l0 eB).f0).length oA] 0,.sl 0 ai oB oA ((aC l0 eB).f0) 0 false,.sl 2 ai MX Mf (aY ++ ((aC l0 eB).f0)) 1 true]) kK (au ac (re (aB [3,7,8,9] [] [0,3] ae (ge (rg (sv (ba ac) zZ (al ac (re (wk [3,7,8,9] [] [(aj 1 2 1),(aw 0)] (cZ _ (by omega) _ ⟨aY ++ ((aC l0 eB).f0),MX,Mf,cQ,wrap64 (eB + 1),H,zZ⟩))))))))))))
 ·
  refine gf zZ (dF c2) (gx zZ (gs (rg (al ac (au ac (re (aB [2] [] [0] ae ?_)))))))
  cases H
  exact rt Tryz.func78 zZ (.tmp zZ .nil) zZ [] [(aj 0 2 1)] zZ zZ zZ zZ zZ ⟨_,_,zZ,zZ,zZ⟩
mutual
def aV.l1 : Nat → (List ah) → Int → Int → Int → Int → Option ((List ah))
 | 0,_,_,_,_,_ => none
 | k + 1,bU,vt,vW,oJ,cD => if cD > vt then (if 0 ≤ cD then (if cD < (bU.length : Int) then (if 0 ≤ (wrap64 (cD - 1)) then (if (wrap64 (cD - 1)) < (bU.length : Int) then ((dB.f ((aa bU cD).f0) ((aa bU cD).f1) ((aa bU cD).f2) ((aa bU (wrap64 (cD - 1))).f0) ((aa bU (wrap64 (cD - 1))).f1) ((aa bU (wrap64 (cD - 1))).f2)).bind fun t7 => (if t7 < 0 then ((some (bU.set cD.toNat (⟨(aa bU (wrap64 (cD - 1))).f0,(aa bU (wrap64 (cD - 1))).f1,(aa bU (wrap64 (cD - 1))).f2⟩ : ah))).bind fun s9 => (if (wrap64 (cD - 1)) < (s9.length : Int) then ((some (s9.set (wrap64 (cD - 1)).toNat (⟨(aa bU cD).f0,(aa bU cD).f1,(aa bU cD).f2⟩ : ah))).bind fun xa => (aV.l1 k xa vt vW oJ (wrap64 (cD - 1)))) else none)) else (aV.l0 k bU vt vW (wrap64 (oJ + 1))))) else none) else none) else none) else none) else (aV.l0 k bU vt vW (wrap64 (oJ + 1)))
def aV.l0 : Nat → (List ah) → Int → Int → Int → Option ((List ah))
 | 0,_,_,_,_ => none
 | k + 1,cu,eZ,eO,FU => if FU < eO then (aV.l1 k cu eZ eO FU FU) else (some cu)
end
def aV.f (k : Nat) (l0 : List ah) (a1 : Int) (a2 : Int) : Option ((List ah)) := aV.l0 k l0 a1 a2 (wrap64 (a1 + 1))
theorem aV.ok (k : Nat) (l0 : List ah) (ay : Option Addr) (az : Nat) (a1 : Int) (a2 : Int) (r0 : List ah) (H : aV.f k l0 a1 a2 = some r0) : Fn Tryz.prog 107 [.slice ay l0.length az,.int .i64 a1,.int .i64 a2,.func (.func 65) #[] #[]] [] [.sl 1 ai ay az l0 1 false] (fun v bx en => v = .tuple #[] ∧ bx = [] ∧ en = [.sl 1 ai ay az r0 1 false] ∧ r0.length = l0.length) := by
 refine eD 53 Tryz.func107 zZ zZ zZ (fun base T w0 => ?_)
 rw [aV.f] at H
 refine gs (rg (al ac (sv (ba ac) zZ (au ac (re (gb ?_))))))
 refine lo (fun kk S => ∃ (cu : List ah) (eZ : Int) (eO : Int) (FU : Int),aV.l0 kk cu eZ eO FU = some r0 ∧ cu.length = l0.length ∧ S = ⟨[(0,.slice ay cu.length az),(1,.int .i64 eZ),(2,.int .i64 eO),(3,.func (.func 65) #[] #[]),(8,.int .i64 FU)],[],[.sl 1 ai ay az cu 1 false]⟩) (fun S hS => ?_) (fun n0 cZ S hS => ?_) ⟨l0,a1,a2,wrap64 (a1 + 1),H,(by first | rfl | assumption | omega | (simp only [List.length_set]; first | done | assumption | omega)),zZ⟩ (fun h => wk [0,1,2,3,8] [] [(gh 0 1 1)] h)
 · clear H; obtain ⟨_,_,_,_,H,_⟩ := hS; rw [aV.l0] at H; cases H
 clear H
 obtain ⟨cu,eZ,eO,FU,H,ex1_ml0,rfl⟩ := hS
 rw [aV.l0] at H
 refine gs (gs (rg (al ac (al ac (sv (bS ac) zZ (re ?_))))))
 revert H; refine aJ ?_ ?_ <;> intro c1 H
 ·
  refine gt zZ (dT c1) (gk (gs (gb (gs (rg (al ac (au ac (re (gb ?_)))))))))
  refine lo (fun kk S => ∃ (bU : List ah) (vt : Int) (vW : Int) (oJ : Int) (cD : Int),kk ≤ n0 ∧ aV.l1 kk bU vt vW oJ cD = some r0 ∧ bU.length = l0.length ∧ S = ⟨[(0,.slice ay bU.length az),(1,.int .i64 vt),(2,.int .i64 vW),(3,.func (.func 65) #[] #[]),(8,.int .i64 oJ),(9,.int .i64 cD)],[],[.sl 1 ai ay az bU 1 false]⟩) (fun S hS => ?_) (fun n1 xO S hS => ?_) ⟨cu,eZ,eO,FU,FU,by omega,H,(by first | rfl | assumption | omega | (simp only [List.length_set]; first | done | assumption | omega)),zZ⟩ (fun h => wk [0,1,2,3,8,9] [] [(gh 0 1 1)] h)
  · clear H; obtain ⟨_,_,_,_,_,_,H,_⟩ := hS; rw [aV.l1] at H; cases H
  clear H
  obtain ⟨bU,vt,vW,oJ,cD,ZX,H,ex5_ml0,rfl⟩ := hS
  rw [aV.l1] at H
  refine gs (gs (fj [] [0] [] 17 ae (ap 0 [] [0] zZ (aA zZ) ae (ap 1 [] [0] zZ (aA zZ) ae (ap 2 [] [0] zZ (dV ac) ae (ap 3 [] [0] zZ (aA zZ) ae ?_))))))
  revert H; refine aJ ?_ ?_ <;> intro c2 H
  ·
   refine ts 21 zZ (dT c2) (ap 4 [] [0] zZ (aA zZ) ae (ap 5 [] [0] zZ (aA zZ) ae (ap 6 [] [0] zZ (aA zZ) ae ?_)))
   revert H; refine aU ?_; intro g3 H
   revert H; refine aU ?_; intro g4 H
   refine ap 7 [] [0] zZ (aM 0 ag g3 g4 zZ) ae (ap 8 [] [0] zZ (bg (v := .agg #[.int .i64 ((aa bU cD).f0),.int .i64 ((aa bU cD).f1),.int .i64 ((aa bU cD).f2)]) cD 0 (some 3) 0 cK zZ zZ zZ g3 g4 zZ zZ zZ) ae (ap 9 [] [0] zZ (aA zZ) ae (ap 10 [] [0] zZ (aA zZ) ae (ap 11 [] [0] zZ (co ac) ae ?_))))
   revert H; refine aU ?_; intro g5 H
   revert H; refine aU ?_; intro g6 H
   refine ap 12 [] [0] zZ (aM 0 ag g5 g6 zZ) ae (ap 13 [] [0] zZ (bg (v := .agg #[.int .i64 ((aa bU (wrap64 (cD - 1))).f0),.int .i64 ((aa bU (wrap64 (cD - 1))).f1),.int .i64 ((aa bU (wrap64 (cD - 1))).f2)]) (wrap64 (cD - 1)) 0 (some 3) 0 cK zZ zZ zZ g5 g6 zZ zZ zZ) ae (ar 14 ac ?_))
   revert H; refine aS ?_; rintro t7 A7 H
   refine XT (f := 65) zZ (ax (dB.ok ((aa bU cD).f0) ((aa bU cD).f1) ((aa bU cD).f2) ((aa bU (wrap64 (cD - 1))).f0) ((aa bU (wrap64 (cD - 1))).f1) ((aa bU (wrap64 (cD - 1))).f2) _ A7) [] 2 aG ?_)
   rintro _ _ _ ⟨rfl,rfl,rfl⟩
   refine aN [] [0] ag (ap 15 [] [0] zZ (bS ac) ae (ap 16 [] [0] zZ (aQ ag) ae (xd ?_)))
   revert H; refine aJ ?_ ?_ <;> intro c8 H
   ·
    refine gt zZ (dT c8) (gk (gs (gb (fj [] [] [16,17] 18 ae (ap 0 [] [] zZ (aA zZ) ae (ap 1 [] [] zZ (aA zZ) ae (ap 2 [] [] zZ (aA zZ) ae (ap 3 [] [] zZ (aA zZ) ae (ap 4 [] [] zZ (co ac) ae (ap 5 [] [] zZ (aA zZ) ae (ap 6 [] [] zZ (aA zZ) ae (ap 7 [] [] zZ (co ac) ae (ap 10 [] [] zZ (aA zZ) ae (ap 11 [] [] zZ (aA zZ) ae ?_))))))))))))))
    refine gW 8 12 zZ zZ zZ zZ ?_ ?_
    ·
     refine ov (aM 0 ag g5 g6 zZ) zZ (aN [] [] ag ?_)
     refine gW 9 12 zZ zZ zZ zZ ?_ ?_
     ·
      refine ov (bg (v := .agg #[.int .i64 ((aa bU (wrap64 (cD - 1))).f0),.int .i64 ((aa bU (wrap64 (cD - 1))).f1),.int .i64 ((aa bU (wrap64 (cD - 1))).f2)]) (wrap64 (cD - 1)) 0 (some 3) 0 cK zZ zZ zZ g5 g6 zZ zZ zZ) zZ (aN [] [] ag (ar 12 ac (ov (aM 0 ag g3 g4 zZ) zZ (aN [] [] ag (ar 13 ac (ov (bg (v := .agg #[.int .i64 ((aa bU cD).f0),.int .i64 ((aa bU cD).f1),.int .i64 ((aa bU cD).f2)]) cD 0 (some 3) 0 cK zZ zZ zZ g3 g4 zZ zZ zZ) zZ (aN [] [] ag (ar 14 ac (ov (aM 0 ag g3 g4 zZ) zZ (aN [] [] ag (ar 15 ac ?_)))))))))))
      revert H; refine aS ?_; intro s9 A9 H; have q9 := jr (Option.some.inj A9)
      refine eX cD 0 0 cK (⟨(aa bU (wrap64 (cD - 1))).f0,(aa bU (wrap64 (cD - 1))).f1,(aa bU (wrap64 (cD - 1))).f2⟩ : ah) (Option.some.inj A9) zZ zZ zZ zZ g3 g4 zZ zZ zZ zZ dq zZ (br 0 (v' := .slice ay s9.length az) zZ (bq _ _ q9) (br 23 (v' := .slice ay s9.length az) zZ (bq _ _ q9) (br 27 (v' := .slice ay s9.length az) zZ (bq _ _ q9) (br 37 (v' := .slice ay s9.length az) zZ (bq _ _ q9) (br 39 (v' := .slice ay s9.length az) zZ (bq _ _ q9) (br 42 (v' := .slice ay s9.length az) zZ (bq _ _ q9) (br 47 (v' := .slice ay s9.length az) zZ (bq _ _ q9) (bR (en := [.sl 1 ai ay az s9 1 true]) kK (aN [] [] ag (ar 16 ac ?_))))))))))
      revert H; refine aU ?_; intro iU H
      refine ov (aM 0 ag g5 iU zZ) zZ (xn zZ (ar 17 ac ?_))
      revert H; refine aS ?_; intro xa Ad H; have DY := jr (Option.some.inj Ad)
      exact eX (wrap64 (cD - 1)) 0 0 cK (⟨(aa bU cD).f0,(aa bU cD).f1,(aa bU cD).f2⟩ : ah) (Option.some.inj Ad) zZ zZ zZ zZ g5 iU zZ zZ zZ zZ dq zZ (br 0 (v' := .slice ay xa.length az) zZ (bq _ _ DY) (br 23 (v' := .slice ay xa.length az) zZ (bq _ _ DY) (br 27 (v' := .slice ay xa.length az) zZ (bq _ _ DY) (br 37 (v' := .slice ay xa.length az) zZ (bq _ _ DY) (br 39 (v' := .slice ay xa.length az) zZ (bq _ _ DY) (br 42 (v' := .slice ay xa.length az) zZ (bq _ _ DY) (br 47 (v' := .slice ay xa.length az) zZ (bq _ _ DY) (bR (en := [.sl 1 ai ay az xa 1 true]) kK (xn zZ (xd (aB [0,1,2,3,8,9,22,23,24,26,27,28,29,31,32,33] [] [0] ae (ge (rg (al ac (sv (co ac) zZ (au ac (re (wk [0,1,2,3,8,9] [] [(gh 0 1 1)] (xO _ (by omega) _ ⟨xa,vt,vW,oJ,wrap64 (cD - 1),by omega,H,(by first | rfl | assumption | omega | (simp only [List.length_set]; first | done | assumption | omega)),zZ⟩)))))))))))))))))))
     ·
      refine ov (aM 0 ag g3 g4 zZ) zZ (aN [] [] ag ?_)
      refine gW 9 13 zZ zZ zZ zZ ?_ ?_
      ·
       refine ov (bg (v := .agg #[.int .i64 ((aa bU (wrap64 (cD - 1))).f0),.int .i64 ((aa bU (wrap64 (cD - 1))).f1),.int .i64 ((aa bU (wrap64 (cD - 1))).f2)]) (wrap64 (cD - 1)) 0 (some 3) 0 cK zZ zZ zZ g5 g6 zZ zZ zZ) zZ (aN [] [] ag (ar 13 ac (ov (bg (v := .agg #[.int .i64 ((aa bU cD).f0),.int .i64 ((aa bU cD).f1),.int .i64 ((aa bU cD).f2)]) cD 0 (some 3) 0 cK zZ zZ zZ g3 g4 zZ zZ zZ) zZ (aN [] [] ag (ar 14 ac (ov (aM 0 ag g3 g4 zZ) zZ (aN [] [] ag (ar 15 ac ?_))))))))
       revert H; refine aS ?_; intro Cs sE H; have DX := jr (Option.some.inj sE)
       refine eX cD 0 0 cK (⟨(aa bU (wrap64 (cD - 1))).f0,(aa bU (wrap64 (cD - 1))).f1,(aa bU (wrap64 (cD - 1))).f2⟩ : ah) (Option.some.inj sE) zZ zZ zZ zZ g3 g4 zZ zZ zZ zZ dq zZ (br 0 (v' := .slice ay Cs.length az) zZ (bq _ _ DX) (br 23 (v' := .slice ay Cs.length az) zZ (bq _ _ DX) (br 27 (v' := .slice ay Cs.length az) zZ (bq _ _ DX) (br 37 (v' := .slice ay Cs.length az) zZ (bq _ _ DX) (br 39 (v' := .slice ay Cs.length az) zZ (bq _ _ DX) (br 42 (v' := .slice ay Cs.length az) zZ (bq _ _ DX) (br 47 (v' := .slice ay Cs.length az) zZ (bq _ _ DX) (bR (en := [.sl 1 ai ay az Cs 1 true]) kK (aN [] [] ag (ar 16 ac ?_))))))))))
       revert H; refine aU ?_; intro jQ H
       refine ov (aM 0 ag g5 jQ zZ) zZ (xn zZ (ar 17 ac ?_))
       revert H; refine aS ?_; intro rN sA H; have xg := jr (Option.some.inj sA)
       exact eX (wrap64 (cD - 1)) 0 0 cK (⟨(aa bU cD).f0,(aa bU cD).f1,(aa bU cD).f2⟩ : ah) (Option.some.inj sA) zZ zZ zZ zZ g5 jQ zZ zZ zZ zZ dq zZ (br 0 (v' := .slice ay rN.length az) zZ (bq _ _ xg) (br 23 (v' := .slice ay rN.length az) zZ (bq _ _ xg) (br 27 (v' := .slice ay rN.length az) zZ (bq _ _ xg) (br 37 (v' := .slice ay rN.length az) zZ (bq _ _ xg) (br 39 (v' := .slice ay rN.length az) zZ (bq _ _ xg) (br 42 (v' := .slice ay rN.length az) zZ (bq _ _ xg) (br 47 (v' := .slice ay rN.length az) zZ (bq _ _ xg) (bR (en := [.sl 1 ai ay az rN 1 true]) kK (xn zZ (xd (aB [0,1,2,3,8,9,22,23,24,26,27,28,29,31,32,33] [] [0] ae (ge (rg (al ac (sv (co ac) zZ (au ac (re (wk [0,1,2,3,8,9] [] [(gh 0 1 1)] (xO _ (by omega) _ ⟨rN,vt,vW,oJ,wrap64 (cD - 1),by omega,H,(by first | rfl | assumption | omega | (simp only [List.length_set]; first | done | assumption | omega)),zZ⟩)))))))))))))))))))
      ·
       refine ov (bg (v := .agg #[.int .i64 ((aa bU cD).f0),.int .i64 ((aa bU cD).f1),.int .i64 ((aa bU cD).f2)]) cD 0 (some 3) 0 cK zZ zZ zZ g3 g4 zZ zZ zZ) zZ (aN [] [] ag (ar 9 ac (ov (bg (v := .agg #[.int .i64 ((aa bU (wrap64 (cD - 1))).f0),.int .i64 ((aa bU (wrap64 (cD - 1))).f1),.int .i64 ((aa bU (wrap64 (cD - 1))).f2)]) (wrap64 (cD - 1)) 0 (some 3) 0 cK zZ zZ zZ g5 g6 zZ zZ zZ) zZ (aN [] [] ag (ar 14 ac (ov (aM 0 ag g3 g4 zZ) zZ (aN [] [] ag (ar 15 ac ?_))))))))
       revert H; refine aS ?_; intro Cr xP H; have DW := jr (Option.some.inj xP)
       refine eX cD 0 0 cK (⟨(aa bU (wrap64 (cD - 1))).f0,(aa bU (wrap64 (cD - 1))).f1,(aa bU (wrap64 (cD - 1))).f2⟩ : ah) (Option.some.inj xP) zZ zZ zZ zZ g3 g4 zZ zZ zZ zZ dq zZ (br 0 (v' := .slice ay Cr.length az) zZ (bq _ _ DW) (br 23 (v' := .slice ay Cr.length az) zZ (bq _ _ DW) (br 27 (v' := .slice ay Cr.length az) zZ (bq _ _ DW) (br 37 (v' := .slice ay Cr.length az) zZ (bq _ _ DW) (br 39 (v' := .slice ay Cr.length az) zZ (bq _ _ DW) (br 42 (v' := .slice ay Cr.length az) zZ (bq _ _ DW) (br 47 (v' := .slice ay Cr.length az) zZ (bq _ _ DW) (bR (en := [.sl 1 ai ay az Cr 1 true]) kK (aN [] [] ag (ar 16 ac ?_))))))))))
       revert H; refine aU ?_; intro wv H
       refine ov (aM 0 ag g5 wv zZ) zZ (xn zZ (ar 17 ac ?_))
       revert H; refine aS ?_; intro tL AH H; have xe := jr (Option.some.inj AH)
       exact eX (wrap64 (cD - 1)) 0 0 cK (⟨(aa bU cD).f0,(aa bU cD).f1,(aa bU cD).f2⟩ : ah) (Option.some.inj AH) zZ zZ zZ zZ g5 wv zZ zZ zZ zZ dq zZ (br 0 (v' := .slice ay tL.length az) zZ (bq _ _ xe) (br 23 (v' := .slice ay tL.length az) zZ (bq _ _ xe) (br 27 (v' := .slice ay tL.length az) zZ (bq _ _ xe) (br 37 (v' := .slice ay tL.length az) zZ (bq _ _ xe) (br 39 (v' := .slice ay tL.length az) zZ (bq _ _ xe) (br 42 (v' := .slice ay tL.length az) zZ (bq _ _ xe) (br 47 (v' := .slice ay tL.length az) zZ (bq _ _ xe) (bR (en := [.sl 1 ai ay az tL 1 true]) kK (xn zZ (xd (aB [0,1,2,3,8,9,22,23,24,26,27,28,29,31,32,33] [] [0] ae (ge (rg (al ac (sv (co ac) zZ (au ac (re (wk [0,1,2,3,8,9] [] [(gh 0 1 1)] (xO _ (by omega) _ ⟨tL,vt,vW,oJ,wrap64 (cD - 1),by omega,H,(by first | rfl | assumption | omega | (simp only [List.length_set]; first | done | assumption | omega)),zZ⟩)))))))))))))))))))
    ·
     refine ov (aM 0 ag g3 g4 zZ) zZ (aN [] [] ag ?_)
     refine gW 8 13 zZ zZ zZ zZ ?_ ?_
     ·
      refine ov (aM 0 ag g5 g6 zZ) zZ (aN [] [] ag ?_)
      refine gW 9 13 zZ zZ zZ zZ ?_ ?_
      ·
       refine ov (bg (v := .agg #[.int .i64 ((aa bU (wrap64 (cD - 1))).f0),.int .i64 ((aa bU (wrap64 (cD - 1))).f1),.int .i64 ((aa bU (wrap64 (cD - 1))).f2)]) (wrap64 (cD - 1)) 0 (some 3) 0 cK zZ zZ zZ g5 g6 zZ zZ zZ) zZ (aN [] [] ag (ar 13 ac (ov (bg (v := .agg #[.int .i64 ((aa bU cD).f0),.int .i64 ((aa bU cD).f1),.int .i64 ((aa bU cD).f2)]) cD 0 (some 3) 0 cK zZ zZ zZ g3 g4 zZ zZ zZ) zZ (aN [] [] ag (ar 14 ac (ov (aM 0 ag g3 g4 zZ) zZ (aN [] [] ag (ar 15 ac ?_))))))))
       revert H; refine aS ?_; intro Cq MW H; have DV := jr (Option.some.inj MW)
       refine eX cD 0 0 cK (⟨(aa bU (wrap64 (cD - 1))).f0,(aa bU (wrap64 (cD - 1))).f1,(aa bU (wrap64 (cD - 1))).f2⟩ : ah) (Option.some.inj MW) zZ zZ zZ zZ g3 g4 zZ zZ zZ zZ dq zZ (br 0 (v' := .slice ay Cq.length az) zZ (bq _ _ DV) (br 23 (v' := .slice ay Cq.length az) zZ (bq _ _ DV) (br 27 (v' := .slice ay Cq.length az) zZ (bq _ _ DV) (br 37 (v' := .slice ay Cq.length az) zZ (bq _ _ DV) (br 39 (v' := .slice ay Cq.length az) zZ (bq _ _ DV) (br 42 (v' := .slice ay Cq.length az) zZ (bq _ _ DV) (br 47 (v' := .slice ay Cq.length az) zZ (bq _ _ DV) (bR (en := [.sl 1 ai ay az Cq 1 true]) kK (aN [] [] ag (ar 16 ac ?_))))))))))
       revert H; refine aU ?_; intro tN H
       refine ov (aM 0 ag g5 tN zZ) zZ (xn zZ (ar 17 ac ?_))
       revert H; refine aS ?_; intro tK AG H; have xc := jr (Option.some.inj AG)
       exact eX (wrap64 (cD - 1)) 0 0 cK (⟨(aa bU cD).f0,(aa bU cD).f1,(aa bU cD).f2⟩ : ah) (Option.some.inj AG) zZ zZ zZ zZ g5 tN zZ zZ zZ zZ dq zZ (br 0 (v' := .slice ay tK.length az) zZ (bq _ _ xc) (br 23 (v' := .slice ay tK.length az) zZ (bq _ _ xc) (br 27 (v' := .slice ay tK.length az) zZ (bq _ _ xc) (br 37 (v' := .slice ay tK.length az) zZ (bq _ _ xc) (br 39 (v' := .slice ay tK.length az) zZ (bq _ _ xc) (br 42 (v' := .slice ay tK.length az) zZ (bq _ _ xc) (br 47 (v' := .slice ay tK.length az) zZ (bq _ _ xc) (bR (en := [.sl 1 ai ay az tK 1 true]) kK (xn zZ (xd (aB [0,1,2,3,8,9,22,23,24,26,27,28,29,31,32,33] [] [0] ae (ge (rg (al ac (sv (co ac) zZ (au ac (re (wk [0,1,2,3,8,9] [] [(gh 0 1 1)] (xO _ (by omega) _ ⟨tK,vt,vW,oJ,wrap64 (cD - 1),by omega,H,(by first | rfl | assumption | omega | (simp only [List.length_set]; first | done | assumption | omega)),zZ⟩)))))))))))))))))))
      ·
       refine ov (bg (v := .agg #[.int .i64 ((aa bU cD).f0),.int .i64 ((aa bU cD).f1),.int .i64 ((aa bU cD).f2)]) cD 0 (some 3) 0 cK zZ zZ zZ g3 g4 zZ zZ zZ) zZ (aN [] [] ag (ar 9 ac (ov (bg (v := .agg #[.int .i64 ((aa bU (wrap64 (cD - 1))).f0),.int .i64 ((aa bU (wrap64 (cD - 1))).f1),.int .i64 ((aa bU (wrap64 (cD - 1))).f2)]) (wrap64 (cD - 1)) 0 (some 3) 0 cK zZ zZ zZ g5 g6 zZ zZ zZ) zZ (aN [] [] ag (ar 14 ac (ov (aM 0 ag g3 g4 zZ) zZ (aN [] [] ag (ar 15 ac ?_))))))))
       revert H; refine aS ?_; intro Cp FF H; have DU := jr (Option.some.inj FF)
       refine eX cD 0 0 cK (⟨(aa bU (wrap64 (cD - 1))).f0,(aa bU (wrap64 (cD - 1))).f1,(aa bU (wrap64 (cD - 1))).f2⟩ : ah) (Option.some.inj FF) zZ zZ zZ zZ g3 g4 zZ zZ zZ zZ dq zZ (br 0 (v' := .slice ay Cp.length az) zZ (bq _ _ DU) (br 23 (v' := .slice ay Cp.length az) zZ (bq _ _ DU) (br 27 (v' := .slice ay Cp.length az) zZ (bq _ _ DU) (br 37 (v' := .slice ay Cp.length az) zZ (bq _ _ DU) (br 39 (v' := .slice ay Cp.length az) zZ (bq _ _ DU) (br 42 (v' := .slice ay Cp.length az) zZ (bq _ _ DU) (br 47 (v' := .slice ay Cp.length az) zZ (bq _ _ DU) (bR (en := [.sl 1 ai ay az Cp 1 true]) kK (aN [] [] ag (ar 16 ac ?_))))))))))
       revert H; refine aU ?_; intro qy H
       refine ov (aM 0 ag g5 qy zZ) zZ (xn zZ (ar 17 ac ?_))
       revert H; refine aS ?_; intro tJ Do H; have xb := jr (Option.some.inj Do)
       exact eX (wrap64 (cD - 1)) 0 0 cK (⟨(aa bU cD).f0,(aa bU cD).f1,(aa bU cD).f2⟩ : ah) (Option.some.inj Do) zZ zZ zZ zZ g5 qy zZ zZ zZ zZ dq zZ (br 0 (v' := .slice ay tJ.length az) zZ (bq _ _ xb) (br 23 (v' := .slice ay tJ.length az) zZ (bq _ _ xb) (br 27 (v' := .slice ay tJ.length az) zZ (bq _ _ xb) (br 37 (v' := .slice ay tJ.length az) zZ (bq _ _ xb) (br 39 (v' := .slice ay tJ.length az) zZ (bq _ _ xb) (br 42 (v' := .slice ay tJ.length az) zZ (bq _ _ xb) (br 47 (v' := .slice ay tJ.length az) zZ (bq _ _ xb) (bR (en := [.sl 1 ai ay az tJ 1 true]) kK (xn zZ (xd (aB [0,1,2,3,8,9,22,23,24,26,27,28,29,31,32,33] [] [0] ae (ge (rg (al ac (sv (co ac) zZ (au ac (re (wk [0,1,2,3,8,9] [] [(gh 0 1 1)] (xO _ (by omega) _ ⟨tJ,vt,vW,oJ,wrap64 (cD - 1),by omega,H,(by first | rfl | assumption | omega | (simp only [List.length_set]; first | done | assumption | omega)),zZ⟩)))))))))))))))))))
     ·
      refine ov (bg (v := .agg #[.int .i64 ((aa bU cD).f0),.int .i64 ((aa bU cD).f1),.int .i64 ((aa bU cD).f2)]) cD 0 (some 3) 0 cK zZ zZ zZ g3 g4 zZ zZ zZ) zZ (aN [] [] ag (ar 8 ac (ov (aM 0 ag g5 g6 zZ) zZ (aN [] [] ag (ar 9 ac (ov (bg (v := .agg #[.int .i64 ((aa bU (wrap64 (cD - 1))).f0),.int .i64 ((aa bU (wrap64 (cD - 1))).f1),.int .i64 ((aa bU (wrap64 (cD - 1))).f2)]) (wrap64 (cD - 1)) 0 (some 3) 0 cK zZ zZ zZ g5 g6 zZ zZ zZ) zZ (aN [] [] ag (ar 14 ac (ov (aM 0 ag g3 g4 zZ) zZ (aN [] [] ag (ar 15 ac ?_)))))))))))
      revert H; refine aS ?_; intro N9 OA H; have PG := jr (Option.some.inj OA)
      refine eX cD 0 0 cK (⟨(aa bU (wrap64 (cD - 1))).f0,(aa bU (wrap64 (cD - 1))).f1,(aa bU (wrap64 (cD - 1))).f2⟩ : ah) (Option.some.inj OA) zZ zZ zZ zZ g3 g4 zZ zZ zZ zZ dq zZ (br 0 (v' := .slice ay N9.length az) zZ (bq _ _ PG) (br 23 (v' := .slice ay N9.length az) zZ (bq _ _ PG) (br 27 (v' := .slice ay N9.length az) zZ (bq _ _ PG) (br 37 (v' := .slice ay N9.length az) zZ (bq _ _ PG) (br 39 (v' := .slice ay N9.length az) zZ (bq _ _ PG) (br 42 (v' := .slice ay N9.length az) zZ (bq _ _ PG) (br 47 (v' := .slice ay N9.length az) zZ (bq _ _ PG) (bR (en := [.sl 1 ai ay az N9 1 true]) kK (aN [] [] ag (ar 16 ac ?_))))))))))
      revert H; refine aU ?_; intro RI H
      refine ov (aM 0 ag g5 RI zZ) zZ (xn zZ (ar 17 ac ?_))
      revert H; refine aS ?_; intro AA FE H; have DT := jr (Option.some.inj FE)
      exact eX (wrap64 (cD - 1)) 0 0 cK (⟨(aa bU cD).f0,(aa bU cD).f1,(aa bU cD).f2⟩ : ah) (Option.some.inj FE) zZ zZ zZ zZ g5 RI zZ zZ zZ zZ dq zZ (br 0 (v' := .slice ay AA.length az) zZ (bq _ _ DT) (br 23 (v' := .slice ay AA.length az) zZ (bq _ _ DT) (br 27 (v' := .slice ay AA.length az) zZ (bq _ _ DT) (br 37 (v' := .slice ay AA.length az) zZ (bq _ _ DT) (br 39 (v' := .slice ay AA.length az) zZ (bq _ _ DT) (br 42 (v' := .slice ay AA.length az) zZ (bq _ _ DT) (br 47 (v' := .slice ay AA.length az) zZ (bq _ _ DT) (bR (en := [.sl 1 ai ay az AA 1 true]) kK (xn zZ (xd (aB [0,1,2,3,8,9,22,23,24,26,27,28,29,31,32,33] [] [0] ae (ge (rg (al ac (sv (co ac) zZ (au ac (re (wk [0,1,2,3,8,9] [] [(gh 0 1 1)] (xO _ (by omega) _ ⟨AA,vt,vW,oJ,wrap64 (cD - 1),by omega,H,(by first | rfl | assumption | omega | (simp only [List.length_set]; first | done | assumption | omega)),zZ⟩)))))))))))))))))))
   ·
    exact gf zZ (dF c8) (gx zZ (ge (rg (al ac (sv (ba ac) zZ (au ac (re (aB [0,1,2,3,8,22,23,24,25,26,27,28,29,30,31,32,33] [] [0] ae (wk [0,1,2,3,8] [] [(gh 0 1 1)] (cZ _ (by omega) _ ⟨bU,vt,vW,wrap64 (oJ + 1),H,(by first | rfl | assumption | omega | (simp only [List.length_set]; first | done | assumption | omega)),zZ⟩))))))))))
  ·
   exact ts 21 zZ (dF c2) (bv 4 [] [0] aG (bv 5 [] [0] aG (bv 6 [] [0] aG (bv 7 [] [0] aG (bv 8 [] [0] aG (bv 9 [] [0] aG (bv 10 [] [0] aG (bv 11 [] [0] aG (bv 12 [] [0] aG (bv 13 [] [0] aG (bv 14 [] [0] aG (bv 15 [] [0] aG (ap 16 [] [0] zZ (aI ag) ae (xd (aB [0,1,2,3,8,9,34] [] [0] ae (gf zZ zZ (gx zZ (ge (rg (al ac (sv (ba ac) zZ (au ac (re (wk [0,1,2,3,8] [] [(gh 0 1 1)] (cZ _ (by omega) _ ⟨bU,vt,vW,wrap64 (oJ + 1),H,(by first | rfl | assumption | omega | (simp only [List.length_set]; first | done | assumption | omega)),zZ⟩)))))))))))))))))))))))))
 ·
  refine gf zZ (dF c1) (gx zZ ?_)
  cases H
  exact GS Tryz.func107 zZ .nil zZ [] [(gh 0 1 1)] zZ zZ zZ zZ zZ ⟨zZ,zZ,zZ,by first | rfl | assumption | omega | (simp only [List.length_set]; first | done | assumption | omega)⟩
def bJ.l0 : Nat → (List ah) → Int → Int → Int → Int → Option ((List ah))
 | 0,_,_,_,_,_ => none
 | k + 1,cu,eZ,eO,Af,cn => if cn < Af then (if 0 ≤ (wrap64 (eO + cn)) then (if (wrap64 (eO + cn)) < (cu.length : Int) then (if 0 ≤ (wrap64 (eZ + cn)) then (if (wrap64 (eZ + cn)) < (cu.length : Int) then ((some (cu.set (wrap64 (eZ + cn)).toNat (⟨(aa cu (wrap64 (eO + cn))).f0,(aa cu (wrap64 (eO + cn))).f1,(aa cu (wrap64 (eO + cn))).f2⟩ : ah))).bind fun s6 => (if (wrap64 (eO + cn)) < (s6.length : Int) then ((some (s6.set (wrap64 (eO + cn)).toNat (⟨(aa cu (wrap64 (eZ + cn))).f0,(aa cu (wrap64 (eZ + cn))).f1,(aa cu (wrap64 (eZ + cn))).f2⟩ : ah))).bind fun s8 => (bJ.l0 k s8 eZ eO Af (wrap64 (cn + 1)))) else none)) else none) else none) else none) else none) else (some cu)
def bJ.f (k : Nat) (l0 : List ah) (a1 : Int) (a2 : Int) (a3 : Int) : Option ((List ah)) := bJ.l0 k l0 a1 a2 a3 0
theorem bJ.ok (k : Nat) (l0 : List ah) (ay : Option Addr) (az : Nat) (a1 : Int) (a2 : Int) (a3 : Int) (r0 : List ah) (H : bJ.f k l0 a1 a2 a3 = some r0) : Fn Tryz.prog 110 [.slice ay l0.length az,.int .i64 a1,.int .i64 a2,.int .i64 a3,.func (.func 65) #[] #[]] [] [.sl 1 ai ay az l0 1 false] (fun v bx en => v = .tuple #[] ∧ bx = [] ∧ en = [.sl 1 ai ay az r0 1 false] ∧ r0.length = l0.length) := by
 refine eD 38 Tryz.func110 zZ zZ zZ (fun base T w0 => ?_)
 rw [bJ.f] at H
 refine gs (rg (au ac (re (gb ?_))))
 refine lo (fun kk S => ∃ (cu : List ah) (eZ : Int) (eO : Int) (Af : Int) (cn : Int),bJ.l0 kk cu eZ eO Af cn = some r0 ∧ cu.length = l0.length ∧ S = ⟨[(0,.slice ay cu.length az),(1,.int .i64 eZ),(2,.int .i64 eO),(3,.int .i64 Af),(10,.int .i64 cn)],[],[.sl 1 ai ay az cu 1 false]⟩) (fun S hS => ?_) (fun n0 cZ S hS => ?_) ⟨l0,a1,a2,a3,0,H,(by first | rfl | assumption | omega | (simp only [List.length_set]; first | done | assumption | omega)),zZ⟩ (fun h => wk [0,1,2,3,10] [] [(gh 0 1 1)] h)
 · clear H; obtain ⟨_,_,_,_,_,H,_⟩ := hS; rw [bJ.l0] at H; cases H
 clear H
 obtain ⟨cu,eZ,eO,Af,cn,H,ex1_ml0,rfl⟩ := hS
 rw [bJ.l0] at H
 refine gs (gs (rg (al ac (al ac (sv (bS ac) zZ (re ?_))))))
 revert H; refine aJ ?_ ?_ <;> intro c1 H
 ·
  refine gt zZ (dT c1) (gk (gs (gb ?_)))
  revert H; refine aU ?_; intro g2 H
  revert H; refine aU ?_; intro g3 H
  revert H; refine aU ?_; intro g4 H
  revert H; refine aU ?_; intro g5 H
  refine fj [] [] [22,23] 24 ae (ap 0 [] [] zZ (aA zZ) ae (ap 1 [] [] zZ (aA zZ) ae (ap 2 [] [] zZ (aA zZ) ae (ap 3 [] [] zZ (ba ac) ae (ap 4 [] [] zZ (aA zZ) ae (ap 5 [] [] zZ (aA zZ) ae (ap 6 [] [] zZ (aA zZ) ae (ap 7 [] [] zZ (ba ac) ae (ap 8 [] [] zZ (aA zZ) ae (ap 9 [] [] zZ (aA zZ) ae (ap 10 [] [] zZ (aA zZ) ae (ap 11 [] [] zZ (ba ac) ae (ap 14 [] [] zZ (aA zZ) ae (ap 15 [] [] zZ (aA zZ) ae (ap 16 [] [] zZ (aA zZ) ae (ap 17 [] [] zZ (ba ac) ae ?_))))))))))))))))
  refine gW 12 18 zZ zZ zZ zZ ?_ ?_
  ·
   refine ov (aM 0 ag g2 g3 zZ) zZ (aN [] [] ag ?_)
   refine gW 13 18 zZ zZ zZ zZ ?_ ?_
   ·
    refine ov (bg (v := .agg #[.int .i64 ((aa cu (wrap64 (eO + cn))).f0),.int .i64 ((aa cu (wrap64 (eO + cn))).f1),.int .i64 ((aa cu (wrap64 (eO + cn))).f2)]) (wrap64 (eO + cn)) 0 (some 3) 0 cK zZ zZ zZ g2 g3 zZ zZ zZ) zZ (aN [] [] ag (ar 18 ac (ov (aM 0 ag g4 g5 zZ) zZ (aN [] [] ag (ar 19 ac (ov (bg (v := .agg #[.int .i64 ((aa cu (wrap64 (eZ + cn))).f0),.int .i64 ((aa cu (wrap64 (eZ + cn))).f1),.int .i64 ((aa cu (wrap64 (eZ + cn))).f2)]) (wrap64 (eZ + cn)) 0 (some 3) 0 cK zZ zZ zZ g4 g5 zZ zZ zZ) zZ (aN [] [] ag (ar 20 ac (ov (aM 0 ag g4 g5 zZ) zZ (aN [] [] ag (ar 21 ac ?_)))))))))))
    revert H; refine aS ?_; intro s6 A6 H; have q6 := jr (Option.some.inj A6)
    refine eX (wrap64 (eZ + cn)) 0 0 cK (⟨(aa cu (wrap64 (eO + cn))).f0,(aa cu (wrap64 (eO + cn))).f1,(aa cu (wrap64 (eO + cn))).f2⟩ : ah) (Option.some.inj A6) zZ zZ zZ zZ g4 g5 zZ zZ zZ zZ dq zZ (br 0 (v' := .slice ay s6.length az) zZ (bq _ _ q6) (br 16 (v' := .slice ay s6.length az) zZ (bq _ _ q6) (br 20 (v' := .slice ay s6.length az) zZ (bq _ _ q6) (br 24 (v' := .slice ay s6.length az) zZ (bq _ _ q6) (br 30 (v' := .slice ay s6.length az) zZ (bq _ _ q6) (bR (en := [.sl 1 ai ay az s6 1 true]) kK (aN [] [] ag (ar 22 ac ?_))))))))
    revert H; refine aU ?_; intro g7 H
    refine ov (aM 0 ag g2 g7 zZ) zZ (xn zZ (ar 23 ac ?_))
    revert H; refine aS ?_; intro s8 A8 H; have q8 := jr (Option.some.inj A8)
    exact eX (wrap64 (eO + cn)) 0 0 cK (⟨(aa cu (wrap64 (eZ + cn))).f0,(aa cu (wrap64 (eZ + cn))).f1,(aa cu (wrap64 (eZ + cn))).f2⟩ : ah) (Option.some.inj A8) zZ zZ zZ zZ g2 g7 zZ zZ zZ zZ dq zZ (br 0 (v' := .slice ay s8.length az) zZ (bq _ _ q8) (br 16 (v' := .slice ay s8.length az) zZ (bq _ _ q8) (br 20 (v' := .slice ay s8.length az) zZ (bq _ _ q8) (br 24 (v' := .slice ay s8.length az) zZ (bq _ _ q8) (br 30 (v' := .slice ay s8.length az) zZ (bq _ _ q8) (bR (en := [.sl 1 ai ay az s8 1 true]) kK (xn zZ (xd (aB [0,1,2,3,10] [] [0] ae (ge (rg (al ac (sv (ba ac) zZ (au ac (re (wk [0,1,2,3,10] [] [(gh 0 1 1)] (cZ _ (by omega) _ ⟨s8,eZ,eO,Af,wrap64 (cn + 1),H,(by first | rfl | assumption | omega | (simp only [List.length_set]; first | done | assumption | omega)),zZ⟩)))))))))))))))))
   ·
    refine ov (aM 0 ag g4 g5 zZ) zZ (aN [] [] ag ?_)
    refine gW 13 19 zZ zZ zZ zZ ?_ ?_
    ·
     refine ov (bg (v := .agg #[.int .i64 ((aa cu (wrap64 (eO + cn))).f0),.int .i64 ((aa cu (wrap64 (eO + cn))).f1),.int .i64 ((aa cu (wrap64 (eO + cn))).f2)]) (wrap64 (eO + cn)) 0 (some 3) 0 cK zZ zZ zZ g2 g3 zZ zZ zZ) zZ (aN [] [] ag (ar 19 ac (ov (bg (v := .agg #[.int .i64 ((aa cu (wrap64 (eZ + cn))).f0),.int .i64 ((aa cu (wrap64 (eZ + cn))).f1),.int .i64 ((aa cu (wrap64 (eZ + cn))).f2)]) (wrap64 (eZ + cn)) 0 (some 3) 0 cK zZ zZ zZ g4 g5 zZ zZ zZ) zZ (aN [] [] ag (ar 20 ac (ov (aM 0 ag g4 g5 zZ) zZ (aN [] [] ag (ar 21 ac ?_))))))))
     revert H; refine aS ?_; intro s9 A9 H; have q9 := jr (Option.some.inj A9)
     refine eX (wrap64 (eZ + cn)) 0 0 cK (⟨(aa cu (wrap64 (eO + cn))).f0,(aa cu (wrap64 (eO + cn))).f1,(aa cu (wrap64 (eO + cn))).f2⟩ : ah) (Option.some.inj A9) zZ zZ zZ zZ g4 g5 zZ zZ zZ zZ dq zZ (br 0 (v' := .slice ay s9.length az) zZ (bq _ _ q9) (br 16 (v' := .slice ay s9.length az) zZ (bq _ _ q9) (br 20 (v' := .slice ay s9.length az) zZ (bq _ _ q9) (br 24 (v' := .slice ay s9.length az) zZ (bq _ _ q9) (br 30 (v' := .slice ay s9.length az) zZ (bq _ _ q9) (bR (en := [.sl 1 ai ay az s9 1 true]) kK (aN [] [] ag (ar 22 ac ?_))))))))
     revert H; refine aU ?_; intro iU H
     refine ov (aM 0 ag g2 iU zZ) zZ (xn zZ (ar 23 ac ?_))
     revert H; refine aS ?_; intro xa Ad H; have DY := jr (Option.some.inj Ad)
     exact eX (wrap64 (eO + cn)) 0 0 cK (⟨(aa cu (wrap64 (eZ + cn))).f0,(aa cu (wrap64 (eZ + cn))).f1,(aa cu (wrap64 (eZ + cn))).f2⟩ : ah) (Option.some.inj Ad) zZ zZ zZ zZ g2 iU zZ zZ zZ zZ dq zZ (br 0 (v' := .slice ay xa.length az) zZ (bq _ _ DY) (br 16 (v' := .slice ay xa.length az) zZ (bq _ _ DY) (br 20 (v' := .slice ay xa.length az) zZ (bq _ _ DY) (br 24 (v' := .slice ay xa.length az) zZ (bq _ _ DY) (br 30 (v' := .slice ay xa.length az) zZ (bq _ _ DY) (bR (en := [.sl 1 ai ay az xa 1 true]) kK (xn zZ (xd (aB [0,1,2,3,10] [] [0] ae (ge (rg (al ac (sv (ba ac) zZ (au ac (re (wk [0,1,2,3,10] [] [(gh 0 1 1)] (cZ _ (by omega) _ ⟨xa,eZ,eO,Af,wrap64 (cn + 1),H,(by first | rfl | assumption | omega | (simp only [List.length_set]; first | done | assumption | omega)),zZ⟩)))))))))))))))))
    ·
     refine ov (bg (v := .agg #[.int .i64 ((aa cu (wrap64 (eZ + cn))).f0),.int .i64 ((aa cu (wrap64 (eZ + cn))).f1),.int .i64 ((aa cu (wrap64 (eZ + cn))).f2)]) (wrap64 (eZ + cn)) 0 (some 3) 0 cK zZ zZ zZ g4 g5 zZ zZ zZ) zZ (aN [] [] ag (ar 13 ac (ov (bg (v := .agg #[.int .i64 ((aa cu (wrap64 (eO + cn))).f0),.int .i64 ((aa cu (wrap64 (eO + cn))).f1),.int .i64 ((aa cu (wrap64 (eO + cn))).f2)]) (wrap64 (eO + cn)) 0 (some 3) 0 cK zZ zZ zZ g2 g3 zZ zZ zZ) zZ (aN [] [] ag (ar 20 ac (ov (aM 0 ag g4 g5 zZ) zZ (aN [] [] ag (ar 21 ac ?_))))))))
     revert H; refine aS ?_; intro Cs sE H; have DX := jr (Option.some.inj sE)
     refine eX (wrap64 (eZ + cn)) 0 0 cK (⟨(aa cu (wrap64 (eO + cn))).f0,(aa cu (wrap64 (eO + cn))).f1,(aa cu (wrap64 (eO + cn))).f2⟩ : ah) (Option.some.inj sE) zZ zZ zZ zZ g4 g5 zZ zZ zZ zZ dq zZ (br 0 (v' := .slice ay Cs.length az) zZ (bq _ _ DX) (br 16 (v' := .slice ay Cs.length az) zZ (bq _ _ DX) (br 20 (v' := .slice ay Cs.length az) zZ (bq _ _ DX) (br 24 (v' := .slice ay Cs.length az) zZ (bq _ _ DX) (br 30 (v' := .slice ay Cs.length az) zZ (bq _ _ DX) (bR (en := [.sl 1 ai ay az Cs 1 true]) kK (aN [] [] ag (ar 22 ac ?_))))))))
     revert H; refine aU ?_; intro jQ H
     refine ov (aM 0 ag g2 jQ zZ) zZ (xn zZ (ar 23 ac ?_))
     revert H; refine aS ?_; intro rN sA H; have xg := jr (Option.some.inj sA)
     exact eX (wrap64 (eO + cn)) 0 0 cK (⟨(aa cu (wrap64 (eZ + cn))).f0,(aa cu (wrap64 (eZ + cn))).f1,(aa cu (wrap64 (eZ + cn))).f2⟩ : ah) (Option.some.inj sA) zZ zZ zZ zZ g2 jQ zZ zZ zZ zZ dq zZ (br 0 (v' := .slice ay rN.length az) zZ (bq _ _ xg) (br 16 (v' := .slice ay rN.length az) zZ (bq _ _ xg) (br 20 (v' := .slice ay rN.length az) zZ (bq _ _ xg) (br 24 (v' := .slice ay rN.length az) zZ (bq _ _ xg) (br 30 (v' := .slice ay rN.length az) zZ (bq _ _ xg) (bR (en := [.sl 1 ai ay az rN 1 true]) kK (xn zZ (xd (aB [0,1,2,3,10] [] [0] ae (ge (rg (al ac (sv (ba ac) zZ (au ac (re (wk [0,1,2,3,10] [] [(gh 0 1 1)] (cZ _ (by omega) _ ⟨rN,eZ,eO,Af,wrap64 (cn + 1),H,(by first | rfl | assumption | omega | (simp only [List.length_set]; first | done | assumption | omega)),zZ⟩)))))))))))))))))
  ·
   refine ov (aM 0 ag g4 g5 zZ) zZ (aN [] [] ag ?_)
   refine gW 12 19 zZ zZ zZ zZ ?_ ?_
   ·
    refine ov (aM 0 ag g2 g3 zZ) zZ (aN [] [] ag ?_)
    refine gW 13 19 zZ zZ zZ zZ ?_ ?_
    ·
     refine ov (bg (v := .agg #[.int .i64 ((aa cu (wrap64 (eO + cn))).f0),.int .i64 ((aa cu (wrap64 (eO + cn))).f1),.int .i64 ((aa cu (wrap64 (eO + cn))).f2)]) (wrap64 (eO + cn)) 0 (some 3) 0 cK zZ zZ zZ g2 g3 zZ zZ zZ) zZ (aN [] [] ag (ar 19 ac (ov (bg (v := .agg #[.int .i64 ((aa cu (wrap64 (eZ + cn))).f0),.int .i64 ((aa cu (wrap64 (eZ + cn))).f1),.int .i64 ((aa cu (wrap64 (eZ + cn))).f2)]) (wrap64 (eZ + cn)) 0 (some 3) 0 cK zZ zZ zZ g4 g5 zZ zZ zZ) zZ (aN [] [] ag (ar 20 ac (ov (aM 0 ag g4 g5 zZ) zZ (aN [] [] ag (ar 21 ac ?_))))))))
     revert H; refine aS ?_; intro Cr xP H; have DW := jr (Option.some.inj xP)
     refine eX (wrap64 (eZ + cn)) 0 0 cK (⟨(aa cu (wrap64 (eO + cn))).f0,(aa cu (wrap64 (eO + cn))).f1,(aa cu (wrap64 (eO + cn))).f2⟩ : ah) (Option.some.inj xP) zZ zZ zZ zZ g4 g5 zZ zZ zZ zZ dq zZ (br 0 (v' := .slice ay Cr.length az) zZ (bq _ _ DW) (br 16 (v' := .slice ay Cr.length az) zZ (bq _ _ DW) (br 20 (v' := .slice ay Cr.length az) zZ (bq _ _ DW) (br 24 (v' := .slice ay Cr.length az) zZ (bq _ _ DW) (br 30 (v' := .slice ay Cr.length az) zZ (bq _ _ DW) (bR (en := [.sl 1 ai ay az Cr 1 true]) kK (aN [] [] ag (ar 22 ac ?_))))))))
     revert H; refine aU ?_; intro wv H
     refine ov (aM 0 ag g2 wv zZ) zZ (xn zZ (ar 23 ac ?_))
     revert H; refine aS ?_; intro tL AH H; have xe := jr (Option.some.inj AH)
     exact eX (wrap64 (eO + cn)) 0 0 cK (⟨(aa cu (wrap64 (eZ + cn))).f0,(aa cu (wrap64 (eZ + cn))).f1,(aa cu (wrap64 (eZ + cn))).f2⟩ : ah) (Option.some.inj AH) zZ zZ zZ zZ g2 wv zZ zZ zZ zZ dq zZ (br 0 (v' := .slice ay tL.length az) zZ (bq _ _ xe) (br 16 (v' := .slice ay tL.length az) zZ (bq _ _ xe) (br 20 (v' := .slice ay tL.length az) zZ (bq _ _ xe) (br 24 (v' := .slice ay tL.length az) zZ (bq _ _ xe) (br 30 (v' := .slice ay tL.length az) zZ (bq _ _ xe) (bR (en := [.sl 1 ai ay az tL 1 true]) kK (xn zZ (xd (aB [0,1,2,3,10] [] [0] ae (ge (rg (al ac (sv (ba ac) zZ (au ac (re (wk [0,1,2,3,10] [] [(gh 0 1 1)] (cZ _ (by omega) _ ⟨tL,eZ,eO,Af,wrap64 (cn + 1),H,(by first | rfl | assumption | omega | (simp only [List.length_set]; first | done | assumption | omega)),zZ⟩)))))))))))))))))
    ·
     refine ov (bg (v := .agg #[.int .i64 ((aa cu (wrap64 (eZ + cn))).f0),.int .i64 ((aa cu (wrap64 (eZ + cn))).f1),.int .i64 ((aa cu (wrap64 (eZ + cn))).f2)]) (wrap64 (eZ + cn)) 0 (some 3) 0 cK zZ zZ zZ g4 g5 zZ zZ zZ) zZ (aN [] [] ag (ar 13 ac (ov (bg (v := .agg #[.int .i64 ((aa cu (wrap64 (eO + cn))).f0),.int .i64 ((aa cu (wrap64 (eO + cn))).f1),.int .i64 ((aa cu (wrap64 (eO + cn))).f2)]) (wrap64 (eO + cn)) 0 (some 3) 0 cK zZ zZ zZ g2 g3 zZ zZ zZ) zZ (aN [] [] ag (ar 20 ac (ov (aM 0 ag g4 g5 zZ) zZ (aN [] [] ag (ar 21 ac ?_))))))))
     revert H; refine aS ?_; intro Cq MW H; have DV := jr (Option.some.inj MW)
     refine eX (wrap64 (eZ + cn)) 0 0 cK (⟨(aa cu (wrap64 (eO + cn))).f0,(aa cu (wrap64 (eO + cn))).f1,(aa cu (wrap64 (eO + cn))).f2⟩ : ah) (Option.some.inj MW) zZ zZ zZ zZ g4 g5 zZ zZ zZ zZ dq zZ (br 0 (v' := .slice ay Cq.length az) zZ (bq _ _ DV) (br 16 (v' := .slice ay Cq.length az) zZ (bq _ _ DV) (br 20 (v' := .slice ay Cq.length az) zZ (bq _ _ DV) (br 24 (v' := .slice ay Cq.length az) zZ (bq _ _ DV) (br 30 (v' := .slice ay Cq.length az) zZ (bq _ _ DV) (bR (en := [.sl 1 ai ay az Cq 1 true]) kK (aN [] [] ag (ar 22 ac ?_))))))))
     revert H; refine aU ?_; intro tN H
     refine ov (aM 0 ag g2 tN zZ) zZ (xn zZ (ar 23 ac ?_))
     revert H; refine aS ?_; intro tK AG H; have xc := jr (Option.some.inj AG)
     exact eX (wrap64 (eO + cn)) 0 0 cK (⟨(aa cu (wrap64 (eZ + cn))).f0,(aa cu (wrap64 (eZ + cn))).f1,(aa cu (wrap64 (eZ + cn))).f2⟩ : ah) (Option.some.inj AG) zZ zZ zZ zZ g2 tN zZ zZ zZ zZ dq zZ (br 0 (v' := .slice ay tK.length az) zZ (bq _ _ xc) (br 16 (v' := .slice ay tK.length az) zZ (bq _ _ xc) (br 20 (v' := .slice ay tK.length az) zZ (bq _ _ xc) (br 24 (v' := .slice ay tK.length az) zZ (bq _ _ xc) (br 30 (v' := .slice ay tK.length az) zZ (bq _ _ xc) (bR (en := [.sl 1 ai ay az tK 1 true]) kK (xn zZ (xd (aB [0,1,2,3,10] [] [0] ae (ge (rg (al ac (sv (ba ac) zZ (au ac (re (wk [0,1,2,3,10] [] [(gh 0 1 1)] (cZ _ (by omega) _ ⟨tK,eZ,eO,Af,wrap64 (cn + 1),H,(by first | rfl | assumption | omega | (simp only [List.length_set]; first | done | assumption | omega)),zZ⟩)))))))))))))))))
   ·
    refine ov (bg (v := .agg #[.int .i64 ((aa cu (wrap64 (eZ + cn))).f0),.int .i64 ((aa cu (wrap64 (eZ + cn))).f1),.int .i64 ((aa cu (wrap64 (eZ + cn))).f2)]) (wrap64 (eZ + cn)) 0 (some 3) 0 cK zZ zZ zZ g4 g5 zZ zZ zZ) zZ (aN [] [] ag (ar 12 ac (ov (aM 0 ag g2 g3 zZ) zZ (aN [] [] ag (ar 13 ac (ov (bg (v := .agg #[.int .i64 ((aa cu (wrap64 (eO + cn))).f0),.int .i64 ((aa cu (wrap64 (eO + cn))).f1),.int .i64 ((aa cu (wrap64 (eO + cn))).f2)]) (wrap64 (eO + cn)) 0 (some 3) 0 cK zZ zZ zZ g2 g3 zZ zZ zZ) zZ (aN [] [] ag (ar 20 ac (ov (aM 0 ag g4 g5 zZ) zZ (aN [] [] ag (ar 21 ac ?_)))))))))))
    revert H; refine aS ?_; intro Cp FF H; have DU := jr (Option.some.inj FF)
    refine eX (wrap64 (eZ + cn)) 0 0 cK (⟨(aa cu (wrap64 (eO + cn))).f0,(aa cu (wrap64 (eO + cn))).f1,(aa cu (wrap64 (eO + cn))).f2⟩ : ah) (Option.some.inj FF) zZ zZ zZ zZ g4 g5 zZ zZ zZ zZ dq zZ (br 0 (v' := .slice ay Cp.length az) zZ (bq _ _ DU) (br 16 (v' := .slice ay Cp.length az) zZ (bq _ _ DU) (br 20 (v' := .slice ay Cp.length az) zZ (bq _ _ DU) (br 24 (v' := .slice ay Cp.length az) zZ (bq _ _ DU) (br 30 (v' := .slice ay Cp.length az) zZ (bq _ _ DU) (bR (en := [.sl 1 ai ay az Cp 1 true]) kK (aN [] [] ag (ar 22 ac ?_))))))))
    revert H; refine aU ?_; intro qy H
    refine ov (aM 0 ag g2 qy zZ) zZ (xn zZ (ar 23 ac ?_))
    revert H; refine aS ?_; intro tJ Do H; have xb := jr (Option.some.inj Do)
    exact eX (wrap64 (eO + cn)) 0 0 cK (⟨(aa cu (wrap64 (eZ + cn))).f0,(aa cu (wrap64 (eZ + cn))).f1,(aa cu (wrap64 (eZ + cn))).f2⟩ : ah) (Option.some.inj Do) zZ zZ zZ zZ g2 qy zZ zZ zZ zZ dq zZ (br 0 (v' := .slice ay tJ.length az) zZ (bq _ _ xb) (br 16 (v' := .slice ay tJ.length az) zZ (bq _ _ xb) (br 20 (v' := .slice ay tJ.length az) zZ (bq _ _ xb) (br 24 (v' := .slice ay tJ.length az) zZ (bq _ _ xb) (br 30 (v' := .slice ay tJ.length az) zZ (bq _ _ xb) (bR (en := [.sl 1 ai ay az tJ 1 true]) kK (xn zZ (xd (aB [0,1,2,3,10] [] [0] ae (ge (rg (al ac (sv (ba ac) zZ (au ac (re (wk [0,1,2,3,10] [] [(gh 0 1 1)] (cZ _ (by omega) _ ⟨tJ,eZ,eO,Af,wrap64 (cn + 1),H,(by first | rfl | assumption | omega | (simp only [List.length_set]; first | done | assumption | omega)),zZ⟩)))))))))))))))))
 ·
  refine gf zZ (dF c1) (gx zZ ?_)
  cases H
  exact GS Tryz.func110 zZ .nil zZ [] [(gh 0 1 1)] zZ zZ zZ zZ zZ ⟨zZ,zZ,zZ,by first | rfl | assumption | omega | (simp only [List.length_set]; first | done | assumption | omega)⟩
def cm.l0 : Nat → (List ah) → Int → Int → Int → Option ((List ah))
 | 0,_,_,_,_ => none
 | k + 1,jx,rK,iC,ia => if iC = ia then ((bJ.f k jx (wrap64 (rK - iC)) rK iC).bind fun t2 => (some t2)) else (if iC > ia then ((bJ.f k jx (wrap64 (rK - iC)) rK ia).bind fun t4 => (cm.l0 k t4 rK (wrap64 (iC - ia)) ia)) else ((bJ.f k jx (wrap64 (rK - iC)) (wrap64 ((wrap64 (rK + ia)) - iC)) iC).bind fun t5 => (cm.l0 k t5 rK iC (wrap64 (ia - iC)))))
def cm.f (k : Nat) (l0 : List ah) (a1 : Int) (a2 : Int) (a3 : Int) : Option ((List ah)) := cm.l0 k l0 a2 (wrap64 (a2 - a1)) (wrap64 (a3 - a2))
theorem cm.ok (k : Nat) (l0 : List ah) (ay : Option Addr) (az : Nat) (a1 : Int) (a2 : Int) (a3 : Int) (r0 : List ah) (H : cm.f k l0 a1 a2 a3 = some r0) : Fn Tryz.prog 109 [.slice ay l0.length az,.int .i64 a1,.int .i64 a2,.int .i64 a3,.func (.func 65) #[] #[]] [] [.sl 1 ai ay az l0 1 false] (fun v bx en => v = .tuple #[] ∧ bx = [] ∧ en = [.sl 1 ai ay az r0 1 false] ∧ r0.length = l0.length) := by
 refine eD 58 Tryz.func109 zZ zZ zZ (fun base T w0 => ?_)
 rw [cm.f] at H
 refine gs (rg (al ac (al ac (sv (co ac) zZ (au ac (re (gs (rg (al ac (al ac (sv (co ac) zZ (au ac (re (aB [0,2,4,10,11] [] [0] ae (gs (gb ?_))))))))))))))))
 refine lo (fun kk S => ∃ (jx : List ah) (rK : Int) (iC : Int) (ia : Int),cm.l0 kk jx rK iC ia = some r0 ∧ jx.length = l0.length ∧ S = ⟨[(0,.slice ay jx.length az),(2,.int .i64 rK),(4,.func (.func 65) #[] #[]),(10,.int .i64 iC),(11,.int .i64 ia)],[],[.sl 1 ai ay az jx 1 false]⟩) (fun S hS => ?_) (fun n0 cZ S hS => ?_) ⟨l0,a2,wrap64 (a2 - a1),wrap64 (a3 - a2),H,(by first | rfl | assumption | omega | (simp only [List.length_set]; first | done | assumption | omega)),zZ⟩ (fun h => wk [0,2,4,10,11] [] [(gh 0 1 1)] h)
 · clear H; obtain ⟨_,_,_,_,H,_⟩ := hS; rw [cm.l0] at H; cases H
 clear H
 obtain ⟨jx,rK,iC,ia,H,ex2_ml0,rfl⟩ := hS
 rw [cm.l0] at H
 refine gs (gs (rg (al ac (al ac (sv (lK zZ zZ) zZ (re ?_))))))
 revert H; refine aJ ?_ ?_ <;> intro c1 H
 ·
  refine gf zZ (nF c1) (gx zZ (rg (al ac (al ac (al ac (sv (co ac) zZ (al ac (al ac (al ac ?_)))))))))
  revert H; refine aS ?_; rintro t2 A2 H
  refine so zZ (bb (bJ.ok n0 jx ay az (wrap64 (rK - iC)) rK iC _ A2) [(gh 0 1 1)] [] [] 2 ep ?_)
  rintro _ _ _ ⟨rfl,rfl,rfl,Ga⟩
  refine br 0 (v' := .slice ay t2.length az) zZ (bq _ _ Ga) (br 50 (v' := .slice ay t2.length az) zZ (bq _ _ Ga) (bR (en := [.sl 1 ai ay az t2 3 false]) kK (re (aB [] [] [0] ae ?_))))
  cases H
  exact GS Tryz.func109 zZ .nil zZ [] [(gh 0 1 1)] zZ zZ zZ zZ zZ ⟨zZ,zZ,zZ,by first | rfl | assumption | omega | (simp only [List.length_set]; first | done | assumption | omega)⟩
 ·
  refine gt zZ (nT c1) (gk (gb (gs (rg (al ac (al ac (sv (dV ac) zZ (re ?_))))))))
  revert H; refine aJ ?_ ?_ <;> intro c3 H
  ·
   refine gt zZ (dT c3) (gs (rg (al ac (al ac (al ac (sv (co ac) zZ (al ac (al ac (al ac ?_)))))))))
   revert H; refine aS ?_; rintro t4 A4 H
   refine so zZ (bb (bJ.ok n0 jx ay az (wrap64 (rK - iC)) rK ia _ A4) [(gh 0 1 1)] [] [] 2 ep ?_)
   rintro _ _ _ ⟨rfl,rfl,rfl,ZK⟩
   exact br 0 (v' := .slice ay t4.length az) zZ (bq _ _ ZK) (br 24 (v' := .slice ay t4.length az) zZ (bq _ _ ZK) (bR (en := [.sl 1 ai ay az t4 3 false]) kK (re (aB [0,2,4,10,11] [] [0] ae (rg (al ac (al ac (sv (co ac) zZ (au ac (re (ge (wk [0,2,4,10,11] [] [(gh 0 1 1)] (cZ _ (by omega) _ ⟨t4,rK,wrap64 (iC - ia),ia,H,(by first | rfl | assumption | omega | (simp only [List.length_set]; first | done | assumption | omega)),zZ⟩)))))))))))))
  ·
   refine gf zZ (dF c3) (gs (rg (al ac (al ac (al ac (sv (co ac) zZ (al ac (al ac (sv (ba ac) zZ (al ac (sv (co ac) zZ (al ac (al ac ?_)))))))))))))
   revert H; refine aS ?_; rintro t5 A5 H
   refine so zZ (bb (bJ.ok n0 jx ay az (wrap64 (rK - iC)) (wrap64 ((wrap64 (rK + ia)) - iC)) iC _ A5) [(gh 0 1 1)] [] [] 2 ep ?_)
   rintro _ _ _ ⟨rfl,rfl,rfl,ZJ⟩
   exact br 0 (v' := .slice ay t5.length az) zZ (bq _ _ ZJ) (br 35 (v' := .slice ay t5.length az) zZ (bq _ _ ZJ) (bR (en := [.sl 1 ai ay az t5 3 false]) kK (re (aB [0,2,4,10,11] [] [0] ae (rg (al ac (al ac (sv (co ac) zZ (au ac (re (ge (wk [0,2,4,10,11] [] [(gh 0 1 1)] (cZ _ (by omega) _ ⟨t5,rK,iC,wrap64 (ia - iC),H,(by first | rfl | assumption | omega | (simp only [List.length_set]; first | done | assumption | omega)),zZ⟩)))))))))))))
end Go.Proofs.YtfoblaonklkaoaaGreat.K
