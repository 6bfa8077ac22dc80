/- Walks: what the functions compute. Printed by gen.py; no condition. -/
import Derived.Test.YtfoblaonklkaoaaGreatVFnSorterRoundTripe
namespace Go.Proofs.YtfoblaonklkaoaaGreat.K
open Go Go.RowKit
set_option linter.unusedVariables false
set_option linter.unusedSimpArgs false
set_option maxHeartbeats 4000000
set_option maxRecDepth 100000
def jd.f (k : Nat) (a0 : ByteArray) : Option ((List ah) × Int × (List ah) × (List ah) × (List ah) × (List aT) × Int × Int × Int × Int × Bool) := (hO.f k a0 47).bind fun t1 => (if (t1.length : Int) = 10 then (if 0 < (t1.length : Int) then (if 1 < (t1.length : Int) then (if 2 < (t1.length : Int) then (if 3 < (t1.length : Int) then (if 4 < (t1.length : Int) then ((dD.f k (bu ByteArray.empty t1 0) true).bind fun vq => ((cx.f k (bu ByteArray.empty t1 1) vq.2).bind fun cR => ((dD.f k (bu ByteArray.empty t1 2) cR.2).bind fun vC => ((dD.f k (bu ByteArray.empty t1 3) vC.2).bind fun oy => ((dD.f k (bu ByteArray.empty t1 4) oy.2).bind fun wi => (if 5 < (t1.length : Int) then ((eY.f k (bu ByteArray.empty t1 5)).bind fun rv => (if 6 < (t1.length : Int) then (if 7 < (t1.length : Int) then (if 8 < (t1.length : Int) then (if 9 < (t1.length : Int) then ((cx.f k (bu ByteArray.empty t1 6) wi.2).bind fun CS => ((cx.f k (bu ByteArray.empty t1 7) CS.2).bind fun Tg => ((cx.f k (bu ByteArray.empty t1 8) Tg.2).bind fun KF => ((cx.f k (bu ByteArray.empty t1 9) KF.2).bind fun Dt => (if Dt.2 = true then (if rv.2 = true then ((dc.f k vq.1 cR.1 vC.1 oy.1 wi.1 rv.1 CS.1 Tg.1 KF.1 Dt.1).bind fun Rn => (if Rn = true then ((fe.f k vq.1 cR.1 vC.1 oy.1 wi.1 rv.1 CS.1 Tg.1 KF.1 Dt.1).bind fun t27 => (if t27.toList = a0.toList then (some (vq.1,cR.1,vC.1,oy.1,wi.1,rv.1,CS.1,Tg.1,KF.1,Dt.1,true)) else (some ([],0,[],[],[],[],0,0,0,0,false)))) else (some ([],0,[],[],[],[],0,0,0,0,false)))) else (some ([],0,[],[],[],[],0,0,0,0,false))) else (some ([],0,[],[],[],[],0,0,0,0,false))))))) else none) else none) else none) else none)) else none)))))) else none) else none) else none) else none) else none) else (some ([],0,[],[],[],[],0,0,0,0,false)))
theorem jd.ok (k : Nat) (a0 : ByteArray) (r0 : List ah) (r1 : Int) (r2 : List ah) (r3 : List ah) (r4 : List ah) (r5 : List aT) (r6 : Int) (r7 : Int) (r8 : Int) (r9 : Int) (my : Bool) (H : jd.f k a0 = some (r0,r1,r2,r3,r4,r5,r6,r7,r8,r9,my)) : Fn Tryz.prog 6 [.string a0] [] [] (fun v bx en => ∃ A0 c0 A2 c2 A3 c3 A4 c4 A5 c5,v = .tuple #[.agg #[.slice A0 r0.length c0,.int .i64 r1,.slice A2 r2.length c2,.slice A3 r3.length c3,.slice A4 r4.length c4,.slice A5 r5.length c5,.int .i64 r6,.int .i64 r7,.int .i64 r8,.int .i64 r9],.bool my] ∧ bx = [] ∧ en = [.sl 2 ai A0 c0 r0 1 true,.sl 2 ai A2 c2 r2 2 true,.sl 2 ai A3 c3 r3 3 true,.sl 2 ai A4 c4 r4 4 true,.sl 2 aZ A5 c5 r5 5 true]) := by
 refine eD 102 Tryz.func6 zZ zZ zZ (fun base T w0 => ?_)
 rw [jd.f] at H
 refine gs (rg (so zZ (dk (cs := [.slice none 0 0,.int .i64 0,.slice none 0 0,.slice none 0 0,.slice none 0 0,.slice none 0 0,.int .i64 0,.int .i64 0,.int .i64 0,.int .i64 0]) kK zZ fun b2 => (au ac (re (gs (rg (al ac ?_))))))))
 revert H; refine aS ?_; rintro t1 A1 H
 refine so zZ (ax (hO.ok k a0 47 _ A1) [] 1 aG ?_)
 rintro _ _ _ ⟨iF,iE,rfl,rfl,rfl⟩
 refine au ac (re (gs (gs (rg (al ac (sv (bG zZ) zZ (sv (lK zZ zZ) zZ (re ?_))))))))
 revert H; refine aJ ?_ ?_ <;> intro c2 H
 ·
  refine gf zZ (nF c2) (gk (gs (rg (sv (gu (v := .agg #[.slice none 0 0,.int .i64 0,.slice none 0 0,.slice none 0 0,.slice none 0 0,.slice none 0 0,.int .i64 0,.int .i64 0,.int .i64 0,.int .i64 0]) zZ kK) zZ (so zZ (dk (cs := [.slice none 0 0,.int .i64 0,.slice none 0 0,.slice none 0 0,.slice none 0 0,.slice none 0 0,.int .i64 0,.int .i64 0,.int .i64 0,.int .i64 0]) kK zZ fun b5 => (so zZ (dk (cs := [.bool false]) kK zZ fun b6 => (so zZ (aD (cs' := [.slice none 0 0,.int .i64 0,.slice none 0 0,.slice none 0 0,.slice none 0 0,.slice none 0 0,.int .i64 0,.int .i64 0,.int .i64 0,.int .i64 0]) 1 bh (so zZ (aD (cs' := [.bool true]) 2 bh (re (aB [0,2,4,5,6] [0,1,2] [0] ae (gs (rg (sv (Yc zZ) zZ (au ac (re (gs (rg (sv (Yc zZ) zZ (au ac (re (gs ?_)))))))))))))))))))))))))
  revert H; refine aU ?_; intro g3 H
  revert H; refine aU ?_; intro g4 H
  revert H; refine aU ?_; intro g5 H
  revert H; refine aU ?_; intro g6 H
  revert H; refine aU ?_; intro g7 H
  refine fj [0] [0] [33,34] 35 ae (ap 0 [0] [0] zZ (aA zZ) ae (ap 1 [0] [0] zZ (aA zZ) ae (ap 2 [0] [0] zZ (aM 0 ag dq g3 zZ) ae (ap 3 [0] [0] zZ (bg (v := .string (bu ByteArray.empty t1 0)) 0 0 none 0 ByteArray.empty zZ zZ zZ dq g3 zZ zZ zZ) ae (ap 5 [0] [0] zZ (aA zZ) ae (ap 6 [0] [0] zZ (aA zZ) ae (ap 7 [0] [0] zZ (aM 0 ag dq g4 zZ) ae (ap 8 [0] [0] zZ (bg (v := .string (bu ByteArray.empty t1 1)) 1 0 none 0 ByteArray.empty zZ zZ zZ dq g4 zZ zZ zZ) ae (ap 10 [0] [0] zZ (aA zZ) ae (ap 11 [0] [0] zZ (aA zZ) ae (ap 12 [0] [0] zZ (aM 0 ag dq g5 zZ) ae (ap 13 [0] [0] zZ (bg (v := .string (bu ByteArray.empty t1 2)) 2 0 none 0 ByteArray.empty zZ zZ zZ dq g5 zZ zZ zZ) ae (ap 15 [0] [0] zZ (aA zZ) ae (ap 16 [0] [0] zZ (aA zZ) ae (ap 17 [0] [0] zZ (aM 0 ag dq g6 zZ) ae (ap 18 [0] [0] zZ (bg (v := .string (bu ByteArray.empty t1 3)) 3 0 none 0 ByteArray.empty zZ zZ zZ dq g6 zZ zZ zZ) ae (ap 20 [0] [0] zZ (aA zZ) ae (ap 21 [0] [0] zZ (aA zZ) ae (ap 22 [0] [0] zZ (aM 0 ag dq g7 zZ) ae (ap 23 [0] [0] zZ (bg (v := .string (bu ByteArray.empty t1 4)) 4 0 none 0 ByteArray.empty zZ zZ zZ dq g7 zZ zZ zZ) ae (ar 4 ac ?_)))))))))))))))))))))
  revert H; refine aS ?_; rintro ⟨cH,F1⟩ A8 H
  refine mT (f := 23) zZ (bb (dD.ok k (bu ByteArray.empty t1 0) b6 true _ _ A8) [] [2] [0,1] 3 ep ?_)
  rintro _ _ _ ⟨ck,cj,rfl,rfl,rfl⟩
  refine bR (en := [.sl 2 .str iF iE t1 2 true,.sl 2 ai ck cj cH 4 true]) kK (aN [0] [0] ag ?_)
  refine gW 9 25 zZ zZ zZ zZ ?_ ?_
  ·
   revert H; refine aS ?_; rintro ⟨eG,kh⟩ A9 H
   refine mT (f := 25) zZ (bb (cx.ok k (bu ByteArray.empty t1 1) b6 F1 _ _ A9) [] [2] [0,1] 5 ep ?_)
   rintro _ _ _ ⟨rfl,rfl,rfl⟩
   refine bR (en := [.sl 2 .str iF iE t1 2 true,.sl 2 ai ck cj cH 4 true]) kK (aN [0] [0] ag ?_)
   refine gW 14 25 zZ zZ zZ zZ ?_ ?_
   ·
    revert H; refine aS ?_; rintro ⟨cS,ij⟩ mz H
    refine mT (f := 23) zZ (bb (dD.ok k (bu ByteArray.empty t1 2) b6 kh _ _ mz) [] [2] [0,1] 5 ep ?_)
    rintro _ _ _ ⟨cM,cL,rfl,rfl,rfl⟩
    refine bR (en := [.sl 2 .str iF iE t1 2 true,.sl 2 ai ck cj cH 4 true,.sl 2 ai cM cL cS 6 true]) kK (aN [0] [0] ag ?_)
    refine gW 19 25 zZ zZ zZ zZ ?_ ?_
    ·
     revert H; refine aS ?_; rintro ⟨gH,pd⟩ Ad H
     refine mT (f := 23) zZ (bb (dD.ok k (bu ByteArray.empty t1 3) b6 ij _ _ Ad) [] [2] [0,1] 7 ep ?_)
     rintro _ _ _ ⟨gj,gi,rfl,rfl,rfl⟩
     refine bR (en := [.sl 2 .str iF iE t1 2 true,.sl 2 ai ck cj cH 4 true,.sl 2 ai cM cL cS 6 true,.sl 2 ai gj gi gH 8 true]) kK (aN [0] [0] ag ?_)
     refine gW 24 25 zZ zZ zZ zZ ?_ ?_
     ·
      revert H; refine aS ?_; rintro ⟨gB,jS⟩ sE H
      refine mT (f := 23) zZ (bb (dD.ok k (bu ByteArray.empty t1 4) b6 pd _ _ sE) [] [2] [0,1] 9 ep ?_)
      rintro _ _ _ ⟨fA,fz,rfl,rfl,rfl⟩
      refine bR (en := [.sl 2 .str iF iE t1 2 true,.sl 2 ai ck cj cH 4 true,.sl 2 ai cM cL cS 6 true,.sl 2 ai gj gi gH 8 true,.sl 2 ai fA fz gB 10 true]) kK (aN [0] [0] ag (ar 25 ac (ov (aq 0 zZ) zZ (aN [0] [0] ag (ar 26 ac (aD (cs' := [.slice ck cH.length cj,.int .i64 0,.slice none 0 0,.slice none 0 0,.slice none 0 0,.slice none 0 0,.int .i64 0,.int .i64 0,.int .i64 0,.int .i64 0]) 1 bh (aN [0] [0] ag (ar 27 ac (ov (aq 1 zZ) zZ (aN [0] [0] ag (ar 28 ac (aD (cs' := [.slice ck cH.length cj,.int .i64 eG,.slice none 0 0,.slice none 0 0,.slice none 0 0,.slice none 0 0,.int .i64 0,.int .i64 0,.int .i64 0,.int .i64 0]) 1 bh (aN [0] [0] ag (ar 29 ac (ov (aq 2 zZ) zZ (aN [0] [0] ag (ar 30 ac (aD (cs' := [.slice ck cH.length cj,.int .i64 eG,.slice cM cS.length cL,.slice none 0 0,.slice none 0 0,.slice none 0 0,.int .i64 0,.int .i64 0,.int .i64 0,.int .i64 0]) 1 bh (aN [0] [0] ag (ar 31 ac (ov (aq 3 zZ) zZ (aN [0] [0] ag (ar 32 ac (aD (cs' := [.slice ck cH.length cj,.int .i64 eG,.slice cM cS.length cL,.slice gj gH.length gi,.slice none 0 0,.slice none 0 0,.int .i64 0,.int .i64 0,.int .i64 0,.int .i64 0]) 1 bh (aN [0] [0] ag (ar 33 ac (ov (aq 4 zZ) zZ (xn zZ (ar 34 ac ?_)))))))))))))))))))))))))))))
      refine aD (cs' := [.slice ck cH.length cj,.int .i64 eG,.slice cM cS.length cL,.slice gj gH.length gi,.slice fA gB.length fz,.slice none 0 0,.int .i64 0,.int .i64 0,.int .i64 0,.int .i64 0]) 1 bh (xn zZ (xd (aB [0,2,4,5,6,8] [0,1,2] [0,1,2,3,4] ae (gs (rg (al ac ?_))))))
      revert H; refine aU ?_; intro jQ H
      refine sv (aM 0 ag dq jQ zZ) zZ (sv (bg (v := .string (bu ByteArray.empty t1 5)) 5 0 none 0 ByteArray.empty zZ zZ zZ dq jQ zZ zZ zZ) zZ ?_)
      revert H; refine aS ?_; rintro ⟨nw,SN⟩ sA H
      refine so zZ (ax (eY.ok k (bu ByteArray.empty t1 5) _ _ sA) [] 11 aG ?_)
      rintro _ _ _ ⟨l7,l6,rfl,rfl,rfl⟩
      refine al ac (sv (bp ac) zZ (sv (bp ac) zZ (au ac (au ac (re (aB [0,2,4,5,6,8,9,10] [0,1,2] [0,1,2,3,4,5] ae (gs ?_)))))))
      revert H; refine aU ?_; intro D8 H
      revert H; refine aU ?_; intro wv H
      revert H; refine aU ?_; intro JS H
      revert H; refine aU ?_; intro AE H
      refine fj [0] [0,1,2,3,4,5] [29,30] 31 ae (ap 0 [0] [0,1,2,3,4,5] zZ (aA zZ) ae (ap 1 [0] [0,1,2,3,4,5] zZ (aA zZ) ae (ap 2 [0] [0,1,2,3,4,5] zZ (aA zZ) ae (ap 3 [0] [0,1,2,3,4,5] zZ (aM 0 ag dq D8 zZ) ae (ap 4 [0] [0,1,2,3,4,5] zZ (bg (v := .string (bu ByteArray.empty t1 6)) 6 0 none 0 ByteArray.empty zZ zZ zZ dq D8 zZ zZ zZ) ae (ap 6 [0] [0,1,2,3,4,5] zZ (aA zZ) ae (ap 7 [0] [0,1,2,3,4,5] zZ (aA zZ) ae (ap 8 [0] [0,1,2,3,4,5] zZ (aM 0 ag dq wv zZ) ae (ap 9 [0] [0,1,2,3,4,5] zZ (bg (v := .string (bu ByteArray.empty t1 7)) 7 0 none 0 ByteArray.empty zZ zZ zZ dq wv zZ zZ zZ) ae (ap 11 [0] [0,1,2,3,4,5] zZ (aA zZ) ae (ap 12 [0] [0,1,2,3,4,5] zZ (aA zZ) ae (ap 13 [0] [0,1,2,3,4,5] zZ (aM 0 ag dq JS zZ) ae (ap 14 [0] [0,1,2,3,4,5] zZ (bg (v := .string (bu ByteArray.empty t1 8)) 8 0 none 0 ByteArray.empty zZ zZ zZ dq JS zZ zZ zZ) ae (ap 16 [0] [0,1,2,3,4,5] zZ (aA zZ) ae (ap 17 [0] [0,1,2,3,4,5] zZ (aA zZ) ae (ap 18 [0] [0,1,2,3,4,5] zZ (aM 0 ag dq AE zZ) ae (ap 19 [0] [0,1,2,3,4,5] zZ (bg (v := .string (bu ByteArray.empty t1 9)) 9 0 none 0 ByteArray.empty zZ zZ zZ dq AE zZ zZ zZ) ae (ap 21 [0] [0,1,2,3,4,5] zZ (aq 5 zZ) ae (ar 5 ac ?_)))))))))))))))))))
      revert H; refine aS ?_; rintro ⟨lY,Su⟩ OB H
      refine mT (f := 25) zZ (bb (cx.ok k (bu ByteArray.empty t1 6) b6 jS _ _ OB) [] [2] [0,1] 13 ep ?_)
      rintro _ _ _ ⟨rfl,rfl,rfl⟩
      refine bR (en := [.sl 2 .str iF iE t1 2 true,.sl 2 ai ck cj cH 4 true,.sl 2 ai cM cL cS 6 true,.sl 2 ai gj gi gH 8 true,.sl 2 ai fA fz gB 10 true,.sl 2 aZ l7 l6 nw 12 true]) kK (aN [0] [0,1,2,3,4,5] ag (ar 10 ac ?_))
      revert H; refine aS ?_; rintro ⟨AT,acY⟩ AG H
      refine mT (f := 25) zZ (bb (cx.ok k (bu ByteArray.empty t1 7) b6 Su _ _ AG) [] [2] [0,1] 13 ep ?_)
      rintro _ _ _ ⟨rfl,rfl,rfl⟩
      refine bR (en := [.sl 2 .str iF iE t1 2 true,.sl 2 ai ck cj cH 4 true,.sl 2 ai cM cL cS 6 true,.sl 2 ai gj gi gH 8 true,.sl 2 ai fA fz gB 10 true,.sl 2 aZ l7 l6 nw 12 true]) kK (aN [0] [0,1,2,3,4,5] ag (ar 15 ac ?_))
      revert H; refine aS ?_; rintro ⟨sN,Xo⟩ FF H
      refine mT (f := 25) zZ (bb (cx.ok k (bu ByteArray.empty t1 8) b6 acY _ _ FF) [] [2] [0,1] 13 ep ?_)
      rintro _ _ _ ⟨rfl,rfl,rfl⟩
      refine bR (en := [.sl 2 .str iF iE t1 2 true,.sl 2 ai ck cj cH 4 true,.sl 2 ai cM cL cS 6 true,.sl 2 ai gj gi gH 8 true,.sl 2 ai fA fz gB 10 true,.sl 2 aZ l7 l6 nw 12 true]) kK (aN [0] [0,1,2,3,4,5] ag (ar 20 ac ?_))
      revert H; refine aS ?_; rintro ⟨tI,F3⟩ R9 H
      refine mT (f := 25) zZ (bb (cx.ok k (bu ByteArray.empty t1 9) b6 Xo _ _ R9) [] [2] [0,1] 13 ep ?_)
      rintro _ _ _ ⟨rfl,rfl,rfl⟩
      refine bR (en := [.sl 2 .str iF iE t1 2 true,.sl 2 ai ck cj cH 4 true,.sl 2 ai cM cL cS 6 true,.sl 2 ai gj gi gH 8 true,.sl 2 ai fA fz gB 10 true,.sl 2 aZ l7 l6 nw 12 true]) kK (aN [0] [0,1,2,3,4,5] ag (ar 22 ac (aD (cs' := [.slice ck cH.length cj,.int .i64 eG,.slice cM cS.length cL,.slice gj gH.length gi,.slice fA gB.length fz,.slice l7 nw.length l6,.int .i64 0,.int .i64 0,.int .i64 0,.int .i64 0]) 1 bh (aN [0] [0,1,2,3,4,5] ag (ar 23 ac (ov (aq 6 zZ) zZ (aN [0] [0,1,2,3,4,5] ag (ar 24 ac (aD (cs' := [.slice ck cH.length cj,.int .i64 eG,.slice cM cS.length cL,.slice gj gH.length gi,.slice fA gB.length fz,.slice l7 nw.length l6,.int .i64 lY,.int .i64 0,.int .i64 0,.int .i64 0]) 1 bh (aN [0] [0,1,2,3,4,5] ag (ar 25 ac (ov (aq 7 zZ) zZ (aN [0] [0,1,2,3,4,5] ag (ar 26 ac (aD (cs' := [.slice ck cH.length cj,.int .i64 eG,.slice cM cS.length cL,.slice gj gH.length gi,.slice fA gB.length fz,.slice l7 nw.length l6,.int .i64 lY,.int .i64 AT,.int .i64 0,.int .i64 0]) 1 bh (aN [0] [0,1,2,3,4,5] ag (ar 27 ac (ov (aq 8 zZ) zZ (aN [0] [0,1,2,3,4,5] ag (ar 28 ac (aD (cs' := [.slice ck cH.length cj,.int .i64 eG,.slice cM cS.length cL,.slice gj gH.length gi,.slice fA gB.length fz,.slice l7 nw.length l6,.int .i64 lY,.int .i64 AT,.int .i64 sN,.int .i64 0]) 1 bh (aN [0] [0,1,2,3,4,5] ag (ar 29 ac (ov (aq 9 zZ) zZ (xn zZ (ar 30 ac (aD (cs' := [.slice ck cH.length cj,.int .i64 eG,.slice cM cS.length cL,.slice gj gH.length gi,.slice fA gB.length fz,.slice l7 nw.length l6,.int .i64 lY,.int .i64 AT,.int .i64 sN,.int .i64 tI]) 1 bh (xn zZ (xd ?_)))))))))))))))))))))))))))))
      refine aB [0,2,5,6,10] [0,1,2] [1,2,3,4,5] ae (gs (gs (rg (sv (am 2 none ag) zZ (sv (eE zZ) zZ (al ac ?_))))))
      revert H; refine aJ ?_ ?_ <;> intro VB H
      ·
       subst VB
       refine eq 85 ac (al ac (sv (eE zZ) zZ (sv (aI ag) zZ (al ac ?_))))
       revert H; refine aJ ?_ ?_ <;> intro VA H
       ·
        subst VA
        refine eq 89 ac (sv (am (v := .agg #[.slice ck cH.length cj,.int .i64 eG,.slice cM cS.length cL,.slice gj gH.length gi,.slice fA gB.length fz,.slice l7 nw.length l6,.int .i64 lY,.int .i64 AT,.int .i64 sN,.int .i64 tI]) 1 (some 10) ag) zZ ?_)
        revert H; refine aS ?_; rintro Rn R8 H
        refine so zZ (ax (dc.ok k cH ck cj eG cS cM cL gH gj gi gB fA fz nw l7 l6 lY AT sN tI _ R8) [(aw 0),(aw 1),(aw 2),(aw 3),(aw 4)] 13 aG ?_)
        rintro _ _ _ ⟨rfl,rfl,rfl⟩
        refine sv (eE zZ) zZ (sv (aI ag) zZ (al ac ?_))
        revert H; refine aJ ?_ ?_ <;> intro AF H
        ·
         subst AF
         refine eq 94 ac (sv (am (v := .agg #[.slice ck cH.length cj,.int .i64 eG,.slice cM cS.length cL,.slice gj gH.length gi,.slice fA gB.length fz,.slice l7 nw.length l6,.int .i64 lY,.int .i64 AT,.int .i64 sN,.int .i64 tI]) 1 (some 10) ag) zZ ?_)
         revert H; refine aS ?_; rintro t27 A27 H
         refine so zZ (ax (fe.ok k cH ck cj eG cS cM cL gH gj gi gB fA fz nw l7 l6 lY AT sN tI _ A27) [(aw 0),(aw 1),(aw 2),(aw 3),(aw 4)] 13 aG ?_)
         rintro _ _ _ ⟨rfl,rfl,rfl⟩
         refine al ac (sv (nh zZ zZ) zZ (sv (aI ag) zZ (re (aB [2,5,99] [0,1] [0,1,2,3,4] ae ?_))))
         revert H; refine aJ ?_ ?_ <;> intro H3 H
         ·
          refine gf zZ (nF H3) (gk (gs (rg (sv (am (v := .agg #[.slice ck cH.length cj,.int .i64 eG,.slice cM cS.length cL,.slice gj gH.length gi,.slice fA gB.length fz,.slice l7 nw.length l6,.int .i64 lY,.int .i64 AT,.int .i64 sN,.int .i64 tI]) 1 (some 10) ag) zZ (so zZ (aD (cs' := [.slice ck cH.length cj,.int .i64 eG,.slice cM cS.length cL,.slice gj gH.length gi,.slice fA gB.length fz,.slice l7 nw.length l6,.int .i64 lY,.int .i64 AT,.int .i64 sN,.int .i64 tI]) 0 bh (au ac (re ?_))))))))
          cases H
          exact rt Tryz.func6 zZ (.cell 0 (some 10) zZ zZ zZ (.tmp zZ .nil)) zZ [] [(aj 0 2 1),(aj 1 2 2),(aj 2 2 3),(aj 3 2 4),(aj 4 2 5)] zZ zZ zZ zZ zZ ⟨_,_,_,_,_,_,_,_,_,_,zZ,zZ,zZ⟩
         ·
          refine gt zZ (nT H3) (gs (rg (sv (gu (v := .agg #[.slice none 0 0,.int .i64 0,.slice none 0 0,.slice none 0 0,.slice none 0 0,.slice none 0 0,.int .i64 0,.int .i64 0,.int .i64 0,.int .i64 0]) zZ kK) zZ (so zZ (aD (cs' := [.slice none 0 0,.int .i64 0,.slice none 0 0,.slice none 0 0,.slice none 0 0,.slice none 0 0,.int .i64 0,.int .i64 0,.int .i64 0,.int .i64 0]) 0 bh (au ac (re (aR ai 13 dq (aR ai 14 dq (aR ai 15 dq (aR ai 16 dq (aR aZ 17 dq ?_))))))))))))
          cases H
          exact rt Tryz.func6 zZ (.cell 0 (some 10) zZ zZ zZ (.tmp zZ .nil)) zZ [] [(aj 5 2 1),(aj 6 2 2),(aj 7 2 3),(aj 8 2 4),(aj 9 2 5)] zZ zZ zZ zZ zZ ⟨_,_,_,_,_,_,_,_,_,_,zZ,zZ,zZ⟩
        ·
         have xc26 := bF AF; subst xc26
         refine eq 94 ac (sk zZ (sk zZ (sk zZ (sk zZ (sv (aQ ag) zZ (re (aB [2,5,99] [0,1] [0,1,2,3,4] ae (gt zZ zZ (gs (rg (sv (gu (v := .agg #[.slice none 0 0,.int .i64 0,.slice none 0 0,.slice none 0 0,.slice none 0 0,.slice none 0 0,.int .i64 0,.int .i64 0,.int .i64 0,.int .i64 0]) zZ kK) zZ (so zZ (aD (cs' := [.slice none 0 0,.int .i64 0,.slice none 0 0,.slice none 0 0,.slice none 0 0,.slice none 0 0,.int .i64 0,.int .i64 0,.int .i64 0,.int .i64 0]) 0 bh (au ac (re (aR ai 13 dq (aR ai 14 dq (aR ai 15 dq (aR ai 16 dq (aR aZ 17 dq ?_))))))))))))))))))))
         cases H
         exact rt Tryz.func6 zZ (.cell 0 (some 10) zZ zZ zZ (.tmp zZ .nil)) zZ [] [(aj 5 2 1),(aj 6 2 2),(aj 7 2 3),(aj 8 2 4),(aj 9 2 5)] zZ zZ zZ zZ zZ ⟨_,_,_,_,_,_,_,_,_,_,zZ,zZ,zZ⟩
       ·
        have xc24 := bF VA; subst xc24
        refine eq 89 ac (sk zZ (sk zZ (sk zZ (sv (aQ ag) zZ (al ac (sk zZ (sk zZ (sk zZ (sk zZ (sv (aQ ag) zZ (re (aB [2,5,99] [0,1] [0,1,2,3,4] ae (gt zZ zZ (gs (rg (sv (gu (v := .agg #[.slice none 0 0,.int .i64 0,.slice none 0 0,.slice none 0 0,.slice none 0 0,.slice none 0 0,.int .i64 0,.int .i64 0,.int .i64 0,.int .i64 0]) zZ kK) zZ (so zZ (aD (cs' := [.slice none 0 0,.int .i64 0,.slice none 0 0,.slice none 0 0,.slice none 0 0,.slice none 0 0,.int .i64 0,.int .i64 0,.int .i64 0,.int .i64 0]) 0 bh (au ac (re (aR ai 13 dq (aR ai 14 dq (aR ai 15 dq (aR ai 16 dq (aR aZ 17 dq ?_)))))))))))))))))))))))))
        cases H
        exact rt Tryz.func6 zZ (.cell 0 (some 10) zZ zZ zZ (.tmp zZ .nil)) zZ [] [(aj 5 2 1),(aj 6 2 2),(aj 7 2 3),(aj 8 2 4),(aj 9 2 5)] zZ zZ zZ zZ zZ ⟨_,_,_,_,_,_,_,_,_,_,zZ,zZ,zZ⟩
      ·
       have xc23 := bF VB; subst xc23
       refine eq 85 ac (sk zZ (sk zZ (sv (aQ ag) zZ (al ac (sk zZ (sk zZ (sk zZ (sv (aQ ag) zZ (al ac (sk zZ (sk zZ (sk zZ (sk zZ (sv (aQ ag) zZ (re (aB [2,5,99] [0,1] [0,1,2,3,4] ae (gt zZ zZ (gs (rg (sv (gu (v := .agg #[.slice none 0 0,.int .i64 0,.slice none 0 0,.slice none 0 0,.slice none 0 0,.slice none 0 0,.int .i64 0,.int .i64 0,.int .i64 0,.int .i64 0]) zZ kK) zZ (so zZ (aD (cs' := [.slice none 0 0,.int .i64 0,.slice none 0 0,.slice none 0 0,.slice none 0 0,.slice none 0 0,.int .i64 0,.int .i64 0,.int .i64 0,.int .i64 0]) 0 bh (au ac (re (aR ai 13 dq (aR ai 14 dq (aR ai 15 dq (aR ai 16 dq (aR aZ 17 dq ?_)))))))))))))))))))))))))))))
       cases H
       exact rt Tryz.func6 zZ (.cell 0 (some 10) zZ zZ zZ (.tmp zZ .nil)) zZ [] [(aj 5 2 1),(aj 6 2 2),(aj 7 2 3),(aj 8 2 4),(aj 9 2 5)] zZ zZ zZ zZ zZ ⟨_,_,_,_,_,_,_,_,_,_,zZ,zZ,zZ⟩
     ·
      refine ov (aq 0 zZ) zZ (aN [0] [0] ag (ar 24 ac ?_))
      revert H; refine aS ?_; rintro ⟨qo,acX⟩ R7 H
      refine mT (f := 23) zZ (bb (dD.ok k (bu ByteArray.empty t1 4) b6 pd _ _ R7) [] [2] [0,1] 9 ep ?_)
      rintro _ _ _ ⟨nv,na,rfl,rfl,rfl⟩
      refine bR (en := [.sl 2 .str iF iE t1 2 true,.sl 2 ai ck cj cH 4 true,.sl 2 ai cM cL cS 6 true,.sl 2 ai gj gi gH 8 true,.sl 2 ai nv na qo 10 true]) kK (aN [0] [0] ag (ar 26 ac (aD (cs' := [.slice ck cH.length cj,.int .i64 0,.slice none 0 0,.slice none 0 0,.slice none 0 0,.slice none 0 0,.int .i64 0,.int .i64 0,.int .i64 0,.int .i64 0]) 1 bh (aN [0] [0] ag (ar 27 ac (ov (aq 1 zZ) zZ (aN [0] [0] ag (ar 28 ac (aD (cs' := [.slice ck cH.length cj,.int .i64 eG,.slice none 0 0,.slice none 0 0,.slice none 0 0,.slice none 0 0,.int .i64 0,.int .i64 0,.int .i64 0,.int .i64 0]) 1 bh (aN [0] [0] ag (ar 29 ac (ov (aq 2 zZ) zZ (aN [0] [0] ag (ar 30 ac (aD (cs' := [.slice ck cH.length cj,.int .i64 eG,.slice cM cS.length cL,.slice none 0 0,.slice none 0 0,.slice none 0 0,.int .i64 0,.int .i64 0,.int .i64 0,.int .i64 0]) 1 bh (aN [0] [0] ag (ar 31 ac (ov (aq 3 zZ) zZ (aN [0] [0] ag (ar 32 ac (aD (cs' := [.slice ck cH.length cj,.int .i64 eG,.slice cM cS.length cL,.slice gj gH.length gi,.slice none 0 0,.slice none 0 0,.int .i64 0,.int .i64 0,.int .i64 0,.int .i64 0]) 1 bh (aN [0] [0] ag (ar 33 ac (ov (aq 4 zZ) zZ (xn zZ (ar 34 ac (aD (cs' := [.slice ck cH.length cj,.int .i64 eG,.slice cM cS.length cL,.slice gj gH.length gi,.slice nv qo.length na,.slice none 0 0,.int .i64 0,.int .i64 0,.int .i64 0,.int .i64 0]) 1 bh (xn zZ (xd ?_)))))))))))))))))))))))))))))
      refine aB [0,2,4,5,6,8] [0,1,2] [0,1,2,3,4] ae (gs (rg (al ac ?_)))
      revert H; refine aU ?_; intro xl H
      refine sv (aM 0 ag dq xl zZ) zZ (sv (bg (v := .string (bu ByteArray.empty t1 5)) 5 0 none 0 ByteArray.empty zZ zZ zZ dq xl zZ zZ zZ) zZ ?_)
      revert H; refine aS ?_; rintro ⟨sM,ahj⟩ JZ H
      refine so zZ (ax (eY.ok k (bu ByteArray.empty t1 5) _ _ JZ) [] 11 aG ?_)
      rintro _ _ _ ⟨pa,o4,rfl,rfl,rfl⟩
      refine al ac (sv (bp ac) zZ (sv (bp ac) zZ (au ac (au ac (re (aB [0,2,4,5,6,8,9,10] [0,1,2] [0,1,2,3,4,5] ae (gs ?_)))))))
      revert H; refine aU ?_; intro Uu H
      revert H; refine aU ?_; intro Ut H
      revert H; refine aU ?_; intro Oi H
      revert H; refine aU ?_; intro Us H
      refine fj [0] [0,1,2,3,4,5] [29,30] 31 ae (ap 0 [0] [0,1,2,3,4,5] zZ (aA zZ) ae (ap 1 [0] [0,1,2,3,4,5] zZ (aA zZ) ae (ap 2 [0] [0,1,2,3,4,5] zZ (aA zZ) ae (ap 3 [0] [0,1,2,3,4,5] zZ (aM 0 ag dq Uu zZ) ae (ap 4 [0] [0,1,2,3,4,5] zZ (bg (v := .string (bu ByteArray.empty t1 6)) 6 0 none 0 ByteArray.empty zZ zZ zZ dq Uu zZ zZ zZ) ae (ap 6 [0] [0,1,2,3,4,5] zZ (aA zZ) ae (ap 7 [0] [0,1,2,3,4,5] zZ (aA zZ) ae (ap 8 [0] [0,1,2,3,4,5] zZ (aM 0 ag dq Ut zZ) ae (ap 9 [0] [0,1,2,3,4,5] zZ (bg (v := .string (bu ByteArray.empty t1 7)) 7 0 none 0 ByteArray.empty zZ zZ zZ dq Ut zZ zZ zZ) ae (ap 11 [0] [0,1,2,3,4,5] zZ (aA zZ) ae (ap 12 [0] [0,1,2,3,4,5] zZ (aA zZ) ae (ap 13 [0] [0,1,2,3,4,5] zZ (aM 0 ag dq Oi zZ) ae (ap 14 [0] [0,1,2,3,4,5] zZ (bg (v := .string (bu ByteArray.empty t1 8)) 8 0 none 0 ByteArray.empty zZ zZ zZ dq Oi zZ zZ zZ) ae (ap 16 [0] [0,1,2,3,4,5] zZ (aA zZ) ae (ap 17 [0] [0,1,2,3,4,5] zZ (aA zZ) ae (ap 18 [0] [0,1,2,3,4,5] zZ (aM 0 ag dq Us zZ) ae (ap 19 [0] [0,1,2,3,4,5] zZ (bg (v := .string (bu ByteArray.empty t1 9)) 9 0 none 0 ByteArray.empty zZ zZ zZ dq Us zZ zZ zZ) ae (ap 21 [0] [0,1,2,3,4,5] zZ (aq 5 zZ) ae (ar 5 ac ?_)))))))))))))))))))
      revert H; refine aS ?_; rintro ⟨yO,acW⟩ A36 H
      refine mT (f := 25) zZ (bb (cx.ok k (bu ByteArray.empty t1 6) b6 acX _ _ A36) [] [2] [0,1] 13 ep ?_)
      rintro _ _ _ ⟨rfl,rfl,rfl⟩
      refine bR (en := [.sl 2 .str iF iE t1 2 true,.sl 2 ai ck cj cH 4 true,.sl 2 ai cM cL cS 6 true,.sl 2 ai gj gi gH 8 true,.sl 2 ai nv na qo 10 true,.sl 2 aZ pa o4 sM 12 true]) kK (aN [0] [0,1,2,3,4,5] ag (ar 10 ac ?_))
      revert H; refine aS ?_; rintro ⟨tH,IA⟩ A37 H
      refine mT (f := 25) zZ (bb (cx.ok k (bu ByteArray.empty t1 7) b6 acW _ _ A37) [] [2] [0,1] 13 ep ?_)
      rintro _ _ _ ⟨rfl,rfl,rfl⟩
      refine bR (en := [.sl 2 .str iF iE t1 2 true,.sl 2 ai ck cj cH 4 true,.sl 2 ai cM cL cS 6 true,.sl 2 ai gj gi gH 8 true,.sl 2 ai nv na qo 10 true,.sl 2 aZ pa o4 sM 12 true]) kK (aN [0] [0,1,2,3,4,5] ag (ar 15 ac ?_))
      revert H; refine aS ?_; rintro ⟨yN,Sn⟩ MU H
      refine mT (f := 25) zZ (bb (cx.ok k (bu ByteArray.empty t1 8) b6 IA _ _ MU) [] [2] [0,1] 13 ep ?_)
      rintro _ _ _ ⟨rfl,rfl,rfl⟩
      refine bR (en := [.sl 2 .str iF iE t1 2 true,.sl 2 ai ck cj cH 4 true,.sl 2 ai cM cL cS 6 true,.sl 2 ai gj gi gH 8 true,.sl 2 ai nv na qo 10 true,.sl 2 aZ pa o4 sM 12 true]) kK (aN [0] [0,1,2,3,4,5] ag (ar 20 ac ?_))
      revert H; refine aS ?_; rintro ⟨AR,Xm⟩ A39 H
      refine mT (f := 25) zZ (bb (cx.ok k (bu ByteArray.empty t1 9) b6 Sn _ _ A39) [] [2] [0,1] 13 ep ?_)
      rintro _ _ _ ⟨rfl,rfl,rfl⟩
      refine bR (en := [.sl 2 .str iF iE t1 2 true,.sl 2 ai ck cj cH 4 true,.sl 2 ai cM cL cS 6 true,.sl 2 ai gj gi gH 8 true,.sl 2 ai nv na qo 10 true,.sl 2 aZ pa o4 sM 12 true]) kK (aN [0] [0,1,2,3,4,5] ag (ar 22 ac (aD (cs' := [.slice ck cH.length cj,.int .i64 eG,.slice cM cS.length cL,.slice gj gH.length gi,.slice nv qo.length na,.slice pa sM.length o4,.int .i64 0,.int .i64 0,.int .i64 0,.int .i64 0]) 1 bh (aN [0] [0,1,2,3,4,5] ag (ar 23 ac (ov (aq 6 zZ) zZ (aN [0] [0,1,2,3,4,5] ag (ar 24 ac (aD (cs' := [.slice ck cH.length cj,.int .i64 eG,.slice cM cS.length cL,.slice gj gH.length gi,.slice nv qo.length na,.slice pa sM.length o4,.int .i64 yO,.int .i64 0,.int .i64 0,.int .i64 0]) 1 bh (aN [0] [0,1,2,3,4,5] ag (ar 25 ac (ov (aq 7 zZ) zZ (aN [0] [0,1,2,3,4,5] ag (ar 26 ac (aD (cs' := [.slice ck cH.length cj,.int .i64 eG,.slice cM cS.length cL,.slice gj gH.length gi,.slice nv qo.length na,.slice pa sM.length o4,.int .i64 yO,.int .i64 tH,.int .i64 0,.int .i64 0]) 1 bh (aN [0] [0,1,2,3,4,5] ag (ar 27 ac (ov (aq 8 zZ) zZ (aN [0] [0,1,2,3,4,5] ag (ar 28 ac (aD (cs' := [.slice ck cH.length cj,.int .i64 eG,.slice cM cS.length cL,.slice gj gH.length gi,.slice nv qo.length na,.slice pa sM.length o4,.int .i64 yO,.int .i64 tH,.int .i64 yN,.int .i64 0]) 1 bh (aN [0] [0,1,2,3,4,5] ag (ar 29 ac (ov (aq 9 zZ) zZ (xn zZ (ar 30 ac (aD (cs' := [.slice ck cH.length cj,.int .i64 eG,.slice cM cS.length cL,.slice gj gH.length gi,.slice nv qo.length na,.slice pa sM.length o4,.int .i64 yO,.int .i64 tH,.int .i64 yN,.int .i64 AR]) 1 bh (xn zZ (xd ?_)))))))))))))))))))))))))))))
      refine aB [0,2,5,6,10] [0,1,2] [1,2,3,4,5] ae (gs (gs (rg (sv (am 2 none ag) zZ (sv (eE zZ) zZ (al ac ?_))))))
      revert H; refine aJ ?_ ?_ <;> intro zW H
      ·
       subst zW
       refine eq 85 ac (al ac (sv (eE zZ) zZ (sv (aI ag) zZ (al ac ?_))))
       revert H; refine aJ ?_ ?_ <;> intro H1 H
       ·
        subst H1
        refine eq 89 ac (sv (am (v := .agg #[.slice ck cH.length cj,.int .i64 eG,.slice cM cS.length cL,.slice gj gH.length gi,.slice nv qo.length na,.slice pa sM.length o4,.int .i64 yO,.int .i64 tH,.int .i64 yN,.int .i64 AR]) 1 (some 10) ag) zZ ?_)
        revert H; refine aS ?_; rintro Zh A42 H
        refine so zZ (ax (dc.ok k cH ck cj eG cS cM cL gH gj gi qo nv na sM pa o4 yO tH yN AR _ A42) [(aw 0),(aw 1),(aw 2),(aw 3),(aw 4)] 13 aG ?_)
        rintro _ _ _ ⟨rfl,rfl,rfl⟩
        refine sv (eE zZ) zZ (sv (aI ag) zZ (al ac ?_))
        revert H; refine aJ ?_ ?_ <;> intro Vo H
        ·
         subst Vo
         refine eq 94 ac (sv (am (v := .agg #[.slice ck cH.length cj,.int .i64 eG,.slice cM cS.length cL,.slice gj gH.length gi,.slice nv qo.length na,.slice pa sM.length o4,.int .i64 yO,.int .i64 tH,.int .i64 yN,.int .i64 AR]) 1 (some 10) ag) zZ ?_)
         revert H; refine aS ?_; rintro eJ Rb H
         refine so zZ (ax (fe.ok k cH ck cj eG cS cM cL gH gj gi qo nv na sM pa o4 yO tH yN AR _ Rb) [(aw 0),(aw 1),(aw 2),(aw 3),(aw 4)] 13 aG ?_)
         rintro _ _ _ ⟨rfl,rfl,rfl⟩
         refine al ac (sv (nh zZ zZ) zZ (sv (aI ag) zZ (re (aB [2,5,99] [0,1] [0,1,2,3,4] ae ?_))))
         revert H; refine aJ ?_ ?_ <;> intro Vn H
         ·
          refine gf zZ (nF Vn) (gk (gs (rg (sv (am (v := .agg #[.slice ck cH.length cj,.int .i64 eG,.slice cM cS.length cL,.slice gj gH.length gi,.slice nv qo.length na,.slice pa sM.length o4,.int .i64 yO,.int .i64 tH,.int .i64 yN,.int .i64 AR]) 1 (some 10) ag) zZ (so zZ (aD (cs' := [.slice ck cH.length cj,.int .i64 eG,.slice cM cS.length cL,.slice gj gH.length gi,.slice nv qo.length na,.slice pa sM.length o4,.int .i64 yO,.int .i64 tH,.int .i64 yN,.int .i64 AR]) 0 bh (au ac (re ?_))))))))
          cases H
          exact rt Tryz.func6 zZ (.cell 0 (some 10) zZ zZ zZ (.tmp zZ .nil)) zZ [] [(aj 0 2 1),(aj 1 2 2),(aj 2 2 3),(aj 3 2 4),(aj 4 2 5)] zZ zZ zZ zZ zZ ⟨_,_,_,_,_,_,_,_,_,_,zZ,zZ,zZ⟩
         ·
          refine gt zZ (nT Vn) (gs (rg (sv (gu (v := .agg #[.slice none 0 0,.int .i64 0,.slice none 0 0,.slice none 0 0,.slice none 0 0,.slice none 0 0,.int .i64 0,.int .i64 0,.int .i64 0,.int .i64 0]) zZ kK) zZ (so zZ (aD (cs' := [.slice none 0 0,.int .i64 0,.slice none 0 0,.slice none 0 0,.slice none 0 0,.slice none 0 0,.int .i64 0,.int .i64 0,.int .i64 0,.int .i64 0]) 0 bh (au ac (re (aR ai 13 dq (aR ai 14 dq (aR ai 15 dq (aR ai 16 dq (aR aZ 17 dq ?_))))))))))))
          cases H
          exact rt Tryz.func6 zZ (.cell 0 (some 10) zZ zZ zZ (.tmp zZ .nil)) zZ [] [(aj 5 2 1),(aj 6 2 2),(aj 7 2 3),(aj 8 2 4),(aj 9 2 5)] zZ zZ zZ zZ zZ ⟨_,_,_,_,_,_,_,_,_,_,zZ,zZ,zZ⟩
        ·
         have xc43 := bF Vo; subst xc43
         refine eq 94 ac (sk zZ (sk zZ (sk zZ (sk zZ (sv (aQ ag) zZ (re (aB [2,5,99] [0,1] [0,1,2,3,4] ae (gt zZ zZ (gs (rg (sv (gu (v := .agg #[.slice none 0 0,.int .i64 0,.slice none 0 0,.slice none 0 0,.slice none 0 0,.slice none 0 0,.int .i64 0,.int .i64 0,.int .i64 0,.int .i64 0]) zZ kK) zZ (so zZ (aD (cs' := [.slice none 0 0,.int .i64 0,.slice none 0 0,.slice none 0 0,.slice none 0 0,.slice none 0 0,.int .i64 0,.int .i64 0,.int .i64 0,.int .i64 0]) 0 bh (au ac (re (aR ai 13 dq (aR ai 14 dq (aR ai 15 dq (aR ai 16 dq (aR aZ 17 dq ?_))))))))))))))))))))
         cases H
         exact rt Tryz.func6 zZ (.cell 0 (some 10) zZ zZ zZ (.tmp zZ .nil)) zZ [] [(aj 5 2 1),(aj 6 2 2),(aj 7 2 3),(aj 8 2 4),(aj 9 2 5)] zZ zZ zZ zZ zZ ⟨_,_,_,_,_,_,_,_,_,_,zZ,zZ,zZ⟩
       ·
        have xc41 := bF H1; subst xc41
        refine eq 89 ac (sk zZ (sk zZ (sk zZ (sv (aQ ag) zZ (al ac (sk zZ (sk zZ (sk zZ (sk zZ (sv (aQ ag) zZ (re (aB [2,5,99] [0,1] [0,1,2,3,4] ae (gt zZ zZ (gs (rg (sv (gu (v := .agg #[.slice none 0 0,.int .i64 0,.slice none 0 0,.slice none 0 0,.slice none 0 0,.slice none 0 0,.int .i64 0,.int .i64 0,.int .i64 0,.int .i64 0]) zZ kK) zZ (so zZ (aD (cs' := [.slice none 0 0,.int .i64 0,.slice none 0 0,.slice none 0 0,.slice none 0 0,.slice none 0 0,.int .i64 0,.int .i64 0,.int .i64 0,.int .i64 0]) 0 bh (au ac (re (aR ai 13 dq (aR ai 14 dq (aR ai 15 dq (aR ai 16 dq (aR aZ 17 dq ?_)))))))))))))))))))))))))
        cases H
        exact rt Tryz.func6 zZ (.cell 0 (some 10) zZ zZ zZ (.tmp zZ .nil)) zZ [] [(aj 5 2 1),(aj 6 2 2),(aj 7 2 3),(aj 8 2 4),(aj 9 2 5)] zZ zZ zZ zZ zZ ⟨_,_,_,_,_,_,_,_,_,_,zZ,zZ,zZ⟩
      ·
       have xc40 := bF zW; subst xc40
       refine eq 85 ac (sk zZ (sk zZ (sv (aQ ag) zZ (al ac (sk zZ (sk zZ (sk zZ (sv (aQ ag) zZ (al ac (sk zZ (sk zZ (sk zZ (sk zZ (sv (aQ ag) zZ (re (aB [2,5,99] [0,1] [0,1,2,3,4] ae (gt zZ zZ (gs (rg (sv (gu (v := .agg #[.slice none 0 0,.int .i64 0,.slice none 0 0,.slice none 0 0,.slice none 0 0,.slice none 0 0,.int .i64 0,.int .i64 0,.int .i64 0,.int .i64 0]) zZ kK) zZ (so zZ (aD (cs' := [.slice none 0 0,.int .i64 0,.slice none 0 0,.slice none 0 0,.slice none 0 0,.slice none 0 0,.int .i64 0,.int .i64 0,.int .i64 0,.int .i64 0]) 0 bh (au ac (re (aR ai 13 dq (aR ai 14 dq (aR ai 15 dq (aR ai 16 dq (aR aZ 17 dq ?_)))))))))))))))))))))))))))))
       cases H
       exact rt Tryz.func6 zZ (.cell 0 (some 10) zZ zZ zZ (.tmp zZ .nil)) zZ [] [(aj 5 2 1),(aj 6 2 2),(aj 7 2 3),(aj 8 2 4),(aj 9 2 5)] zZ zZ zZ zZ zZ ⟨_,_,_,_,_,_,_,_,_,_,zZ,zZ,zZ⟩
    ·
     refine ov (aq 0 zZ) zZ (aN [0] [0] ag (ar 19 ac ?_))
     revert H; refine aS ?_; rintro ⟨oo,acK⟩ A46 H
     refine mT (f := 23) zZ (bb (dD.ok k (bu ByteArray.empty t1 3) b6 ij _ _ A46) [] [2] [0,1] 7 ep ?_)
     rintro _ _ _ ⟨lO,lJ,rfl,rfl,rfl⟩
     refine bR (en := [.sl 2 .str iF iE t1 2 true,.sl 2 ai ck cj cH 4 true,.sl 2 ai cM cL cS 6 true,.sl 2 ai lO lJ oo 8 true]) kK (aN [0] [0] ag (ar 24 ac ?_))
     revert H; refine aS ?_; rintro ⟨qn,acJ⟩ R6 H
     refine mT (f := 23) zZ (bb (dD.ok k (bu ByteArray.empty t1 4) b6 acK _ _ R6) [] [2] [0,1] 9 ep ?_)
     rintro _ _ _ ⟨nu,m0,rfl,rfl,rfl⟩
     refine bR (en := [.sl 2 .str iF iE t1 2 true,.sl 2 ai ck cj cH 4 true,.sl 2 ai cM cL cS 6 true,.sl 2 ai lO lJ oo 8 true,.sl 2 ai nu m0 qn 10 true]) kK (aN [0] [0] ag (ar 26 ac (aD (cs' := [.slice ck cH.length cj,.int .i64 0,.slice none 0 0,.slice none 0 0,.slice none 0 0,.slice none 0 0,.int .i64 0,.int .i64 0,.int .i64 0,.int .i64 0]) 1 bh (aN [0] [0] ag (ar 27 ac (ov (aq 1 zZ) zZ (aN [0] [0] ag (ar 28 ac (aD (cs' := [.slice ck cH.length cj,.int .i64 eG,.slice none 0 0,.slice none 0 0,.slice none 0 0,.slice none 0 0,.int .i64 0,.int .i64 0,.int .i64 0,.int .i64 0]) 1 bh (aN [0] [0] ag (ar 29 ac (ov (aq 2 zZ) zZ (aN [0] [0] ag (ar 30 ac (aD (cs' := [.slice ck cH.length cj,.int .i64 eG,.slice cM cS.length cL,.slice none 0 0,.slice none 0 0,.slice none 0 0,.int .i64 0,.int .i64 0,.int .i64 0,.int .i64 0]) 1 bh (aN [0] [0] ag (ar 31 ac (ov (aq 3 zZ) zZ (aN [0] [0] ag (ar 32 ac (aD (cs' := [.slice ck cH.length cj,.int .i64 eG,.slice cM cS.length cL,.slice lO oo.length lJ,.slice none 0 0,.slice none 0 0,.int .i64 0,.int .i64 0,.int .i64 0,.int .i64 0]) 1 bh (aN [0] [0] ag (ar 33 ac (ov (aq 4 zZ) zZ (xn zZ (ar 34 ac (aD (cs' := [.slice ck cH.length cj,.int .i64 eG,.slice cM cS.length cL,.slice lO oo.length lJ,.slice nu qn.length m0,.slice none 0 0,.int .i64 0,.int .i64 0,.int .i64 0,.int .i64 0]) 1 bh (xn zZ (xd ?_)))))))))))))))))))))))))))))
     refine aB [0,2,4,5,6,8] [0,1,2] [0,1,2,3,4] ae (gs (rg (al ac ?_)))
     revert H; refine aU ?_; intro Uq H
     refine sv (aM 0 ag dq Uq zZ) zZ (sv (bg (v := .string (bu ByteArray.empty t1 5)) 5 0 none 0 ByteArray.empty zZ zZ zZ dq Uq zZ zZ zZ) zZ ?_)
     revert H; refine aS ?_; rintro ⟨sL,ahi⟩ Wg H
     refine so zZ (ax (eY.ok k (bu ByteArray.empty t1 5) _ _ Wg) [] 11 aG ?_)
     rintro _ _ _ ⟨o9,o3,rfl,rfl,rfl⟩
     refine al ac (sv (bp ac) zZ (sv (bp ac) zZ (au ac (au ac (re (aB [0,2,4,5,6,8,9,10] [0,1,2] [0,1,2,3,4,5] ae (gs ?_)))))))
     revert H; refine aU ?_; intro Up H
     revert H; refine aU ?_; intro Uo H
     revert H; refine aU ?_; intro HP H
     revert H; refine aU ?_; intro Og H
     refine fj [0] [0,1,2,3,4,5] [29,30] 31 ae (ap 0 [0] [0,1,2,3,4,5] zZ (aA zZ) ae (ap 1 [0] [0,1,2,3,4,5] zZ (aA zZ) ae (ap 2 [0] [0,1,2,3,4,5] zZ (aA zZ) ae (ap 3 [0] [0,1,2,3,4,5] zZ (aM 0 ag dq Up zZ) ae (ap 4 [0] [0,1,2,3,4,5] zZ (bg (v := .string (bu ByteArray.empty t1 6)) 6 0 none 0 ByteArray.empty zZ zZ zZ dq Up zZ zZ zZ) ae (ap 6 [0] [0,1,2,3,4,5] zZ (aA zZ) ae (ap 7 [0] [0,1,2,3,4,5] zZ (aA zZ) ae (ap 8 [0] [0,1,2,3,4,5] zZ (aM 0 ag dq Uo zZ) ae (ap 9 [0] [0,1,2,3,4,5] zZ (bg (v := .string (bu ByteArray.empty t1 7)) 7 0 none 0 ByteArray.empty zZ zZ zZ dq Uo zZ zZ zZ) ae (ap 11 [0] [0,1,2,3,4,5] zZ (aA zZ) ae (ap 12 [0] [0,1,2,3,4,5] zZ (aA zZ) ae (ap 13 [0] [0,1,2,3,4,5] zZ (aM 0 ag dq HP zZ) ae (ap 14 [0] [0,1,2,3,4,5] zZ (bg (v := .string (bu ByteArray.empty t1 8)) 8 0 none 0 ByteArray.empty zZ zZ zZ dq HP zZ zZ zZ) ae (ap 16 [0] [0,1,2,3,4,5] zZ (aA zZ) ae (ap 17 [0] [0,1,2,3,4,5] zZ (aA zZ) ae (ap 18 [0] [0,1,2,3,4,5] zZ (aM 0 ag dq Og zZ) ae (ap 19 [0] [0,1,2,3,4,5] zZ (bg (v := .string (bu ByteArray.empty t1 9)) 9 0 none 0 ByteArray.empty zZ zZ zZ dq Og zZ zZ zZ) ae (ap 21 [0] [0,1,2,3,4,5] zZ (aq 5 zZ) ae (ar 5 ac ?_)))))))))))))))))))
     revert H; refine aS ?_; rintro ⟨yM,acu⟩ RY H
     refine mT (f := 25) zZ (bb (cx.ok k (bu ByteArray.empty t1 6) b6 acJ _ _ RY) [] [2] [0,1] 13 ep ?_)
     rintro _ _ _ ⟨rfl,rfl,rfl⟩
     refine bR (en := [.sl 2 .str iF iE t1 2 true,.sl 2 ai ck cj cH 4 true,.sl 2 ai cM cL cS 6 true,.sl 2 ai lO lJ oo 8 true,.sl 2 ai nu m0 qn 10 true,.sl 2 aZ o9 o3 sL 12 true]) kK (aN [0] [0,1,2,3,4,5] ag (ar 10 ac ?_))
     revert H; refine aS ?_; rintro ⟨tG,Sk⟩ Wf H
     refine mT (f := 25) zZ (bb (cx.ok k (bu ByteArray.empty t1 7) b6 acu _ _ Wf) [] [2] [0,1] 13 ep ?_)
     rintro _ _ _ ⟨rfl,rfl,rfl⟩
     refine bR (en := [.sl 2 .str iF iE t1 2 true,.sl 2 ai ck cj cH 4 true,.sl 2 ai cM cL cS 6 true,.sl 2 ai lO lJ oo 8 true,.sl 2 ai nu m0 qn 10 true,.sl 2 aZ o9 o3 sL 12 true]) kK (aN [0] [0,1,2,3,4,5] ag (ar 15 ac ?_))
     revert H; refine aS ?_; rintro ⟨C9,act⟩ Yg H
     refine mT (f := 25) zZ (bb (cx.ok k (bu ByteArray.empty t1 8) b6 Sk _ _ Yg) [] [2] [0,1] 13 ep ?_)
     rintro _ _ _ ⟨rfl,rfl,rfl⟩
     refine bR (en := [.sl 2 .str iF iE t1 2 true,.sl 2 ai ck cj cH 4 true,.sl 2 ai cM cL cS 6 true,.sl 2 ai lO lJ oo 8 true,.sl 2 ai nu m0 qn 10 true,.sl 2 aZ o9 o3 sL 12 true]) kK (aN [0] [0,1,2,3,4,5] ag (ar 20 ac ?_))
     revert H; refine aS ?_; rintro ⟨yL,Xk⟩ G3 H
     refine mT (f := 25) zZ (bb (cx.ok k (bu ByteArray.empty t1 9) b6 act _ _ G3) [] [2] [0,1] 13 ep ?_)
     rintro _ _ _ ⟨rfl,rfl,rfl⟩
     refine bR (en := [.sl 2 .str iF iE t1 2 true,.sl 2 ai ck cj cH 4 true,.sl 2 ai cM cL cS 6 true,.sl 2 ai lO lJ oo 8 true,.sl 2 ai nu m0 qn 10 true,.sl 2 aZ o9 o3 sL 12 true]) kK (aN [0] [0,1,2,3,4,5] ag (ar 22 ac (aD (cs' := [.slice ck cH.length cj,.int .i64 eG,.slice cM cS.length cL,.slice lO oo.length lJ,.slice nu qn.length m0,.slice o9 sL.length o3,.int .i64 0,.int .i64 0,.int .i64 0,.int .i64 0]) 1 bh (aN [0] [0,1,2,3,4,5] ag (ar 23 ac (ov (aq 6 zZ) zZ (aN [0] [0,1,2,3,4,5] ag (ar 24 ac (aD (cs' := [.slice ck cH.length cj,.int .i64 eG,.slice cM cS.length cL,.slice lO oo.length lJ,.slice nu qn.length m0,.slice o9 sL.length o3,.int .i64 yM,.int .i64 0,.int .i64 0,.int .i64 0]) 1 bh (aN [0] [0,1,2,3,4,5] ag (ar 25 ac (ov (aq 7 zZ) zZ (aN [0] [0,1,2,3,4,5] ag (ar 26 ac (aD (cs' := [.slice ck cH.length cj,.int .i64 eG,.slice cM cS.length cL,.slice lO oo.length lJ,.slice nu qn.length m0,.slice o9 sL.length o3,.int .i64 yM,.int .i64 tG,.int .i64 0,.int .i64 0]) 1 bh (aN [0] [0,1,2,3,4,5] ag (ar 27 ac (ov (aq 8 zZ) zZ (aN [0] [0,1,2,3,4,5] ag (ar 28 ac (aD (cs' := [.slice ck cH.length cj,.int .i64 eG,.slice cM cS.length cL,.slice lO oo.length lJ,.slice nu qn.length m0,.slice o9 sL.length o3,.int .i64 yM,.int .i64 tG,.int .i64 C9,.int .i64 0]) 1 bh (aN [0] [0,1,2,3,4,5] ag (ar 29 ac (ov (aq 9 zZ) zZ (xn zZ (ar 30 ac (aD (cs' := [.slice ck cH.length cj,.int .i64 eG,.slice cM cS.length cL,.slice lO oo.length lJ,.slice nu qn.length m0,.slice o9 sL.length o3,.int .i64 yM,.int .i64 tG,.int .i64 C9,.int .i64 yL]) 1 bh (xn zZ (xd ?_)))))))))))))))))))))))))))))
     refine aB [0,2,5,6,10] [0,1,2] [1,2,3,4,5] ae (gs (gs (rg (sv (am 2 none ag) zZ (sv (eE zZ) zZ (al ac ?_))))))
     revert H; refine aJ ?_ ?_ <;> intro c58 H
     ·
      subst c58
      refine eq 85 ac (al ac (sv (eE zZ) zZ (sv (aI ag) zZ (al ac ?_))))
      revert H; refine aJ ?_ ?_ <;> intro c59 H
      ·
       subst c59
       refine eq 89 ac (sv (am (v := .agg #[.slice ck cH.length cj,.int .i64 eG,.slice cM cS.length cL,.slice lO oo.length lJ,.slice nu qn.length m0,.slice o9 sL.length o3,.int .i64 yM,.int .i64 tG,.int .i64 C9,.int .i64 yL]) 1 (some 10) ag) zZ ?_)
       revert H; refine aS ?_; rintro HA Oz H
       refine so zZ (ax (dc.ok k cH ck cj eG cS cM cL oo lO lJ qn nu m0 sL o9 o3 yM tG C9 yL _ Oz) [(aw 0),(aw 1),(aw 2),(aw 3),(aw 4)] 13 aG ?_)
       rintro _ _ _ ⟨rfl,rfl,rfl⟩
       refine sv (eE zZ) zZ (sv (aI ag) zZ (al ac ?_))
       revert H; refine aJ ?_ ?_ <;> intro Ou H
       ·
        subst Ou
        refine eq 94 ac (sv (am (v := .agg #[.slice ck cH.length cj,.int .i64 eG,.slice cM cS.length cL,.slice lO oo.length lJ,.slice nu qn.length m0,.slice o9 sL.length o3,.int .i64 yM,.int .i64 tG,.int .i64 C9,.int .i64 yL]) 1 (some 10) ag) zZ ?_)
        revert H; refine aS ?_; rintro t62 Yf H
        refine so zZ (ax (fe.ok k cH ck cj eG cS cM cL oo lO lJ qn nu m0 sL o9 o3 yM tG C9 yL _ Yf) [(aw 0),(aw 1),(aw 2),(aw 3),(aw 4)] 13 aG ?_)
        rintro _ _ _ ⟨rfl,rfl,rfl⟩
        refine al ac (sv (nh zZ zZ) zZ (sv (aI ag) zZ (re (aB [2,5,99] [0,1] [0,1,2,3,4] ae ?_))))
        revert H; refine aJ ?_ ?_ <;> intro c63 H
        ·
         refine gf zZ (nF c63) (gk (gs (rg (sv (am (v := .agg #[.slice ck cH.length cj,.int .i64 eG,.slice cM cS.length cL,.slice lO oo.length lJ,.slice nu qn.length m0,.slice o9 sL.length o3,.int .i64 yM,.int .i64 tG,.int .i64 C9,.int .i64 yL]) 1 (some 10) ag) zZ (so zZ (aD (cs' := [.slice ck cH.length cj,.int .i64 eG,.slice cM cS.length cL,.slice lO oo.length lJ,.slice nu qn.length m0,.slice o9 sL.length o3,.int .i64 yM,.int .i64 tG,.int .i64 C9,.int .i64 yL]) 0 bh (au ac (re ?_))))))))
         cases H
         exact rt Tryz.func6 zZ (.cell 0 (some 10) zZ zZ zZ (.tmp zZ .nil)) zZ [] [(aj 0 2 1),(aj 1 2 2),(aj 2 2 3),(aj 3 2 4),(aj 4 2 5)] zZ zZ zZ zZ zZ ⟨_,_,_,_,_,_,_,_,_,_,zZ,zZ,zZ⟩
        ·
         refine gt zZ (nT c63) (gs (rg (sv (gu (v := .agg #[.slice none 0 0,.int .i64 0,.slice none 0 0,.slice none 0 0,.slice none 0 0,.slice none 0 0,.int .i64 0,.int .i64 0,.int .i64 0,.int .i64 0]) zZ kK) zZ (so zZ (aD (cs' := [.slice none 0 0,.int .i64 0,.slice none 0 0,.slice none 0 0,.slice none 0 0,.slice none 0 0,.int .i64 0,.int .i64 0,.int .i64 0,.int .i64 0]) 0 bh (au ac (re (aR ai 13 dq (aR ai 14 dq (aR ai 15 dq (aR ai 16 dq (aR aZ 17 dq ?_))))))))))))
         cases H
         exact rt Tryz.func6 zZ (.cell 0 (some 10) zZ zZ zZ (.tmp zZ .nil)) zZ [] [(aj 5 2 1),(aj 6 2 2),(aj 7 2 3),(aj 8 2 4),(aj 9 2 5)] zZ zZ zZ zZ zZ ⟨_,_,_,_,_,_,_,_,_,_,zZ,zZ,zZ⟩
       ·
        have xc61 := bF Ou; subst xc61
        refine eq 94 ac (sk zZ (sk zZ (sk zZ (sk zZ (sv (aQ ag) zZ (re (aB [2,5,99] [0,1] [0,1,2,3,4] ae (gt zZ zZ (gs (rg (sv (gu (v := .agg #[.slice none 0 0,.int .i64 0,.slice none 0 0,.slice none 0 0,.slice none 0 0,.slice none 0 0,.int .i64 0,.int .i64 0,.int .i64 0,.int .i64 0]) zZ kK) zZ (so zZ (aD (cs' := [.slice none 0 0,.int .i64 0,.slice none 0 0,.slice none 0 0,.slice none 0 0,.slice none 0 0,.int .i64 0,.int .i64 0,.int .i64 0,.int .i64 0]) 0 bh (au ac (re (aR ai 13 dq (aR ai 14 dq (aR ai 15 dq (aR ai 16 dq (aR aZ 17 dq ?_))))))))))))))))))))
        cases H
        exact rt Tryz.func6 zZ (.cell 0 (some 10) zZ zZ zZ (.tmp zZ .nil)) zZ [] [(aj 5 2 1),(aj 6 2 2),(aj 7 2 3),(aj 8 2 4),(aj 9 2 5)] zZ zZ zZ zZ zZ ⟨_,_,_,_,_,_,_,_,_,_,zZ,zZ,zZ⟩
      ·
       have xc59 := bF c59; subst xc59
       refine eq 89 ac (sk zZ (sk zZ (sk zZ (sv (aQ ag) zZ (al ac (sk zZ (sk zZ (sk zZ (sk zZ (sv (aQ ag) zZ (re (aB [2,5,99] [0,1] [0,1,2,3,4] ae (gt zZ zZ (gs (rg (sv (gu (v := .agg #[.slice none 0 0,.int .i64 0,.slice none 0 0,.slice none 0 0,.slice none 0 0,.slice none 0 0,.int .i64 0,.int .i64 0,.int .i64 0,.int .i64 0]) zZ kK) zZ (so zZ (aD (cs' := [.slice none 0 0,.int .i64 0,.slice none 0 0,.slice none 0 0,.slice none 0 0,.slice none 0 0,.int .i64 0,.int .i64 0,.int .i64 0,.int .i64 0]) 0 bh (au ac (re (aR ai 13 dq (aR ai 14 dq (aR ai 15 dq (aR ai 16 dq (aR aZ 17 dq ?_)))))))))))))))))))))))))
       cases H
       exact rt Tryz.func6 zZ (.cell 0 (some 10) zZ zZ zZ (.tmp zZ .nil)) zZ [] [(aj 5 2 1),(aj 6 2 2),(aj 7 2 3),(aj 8 2 4),(aj 9 2 5)] zZ zZ zZ zZ zZ ⟨_,_,_,_,_,_,_,_,_,_,zZ,zZ,zZ⟩
     ·
      have xc58 := bF c58; subst xc58
      refine eq 85 ac (sk zZ (sk zZ (sv (aQ ag) zZ (al ac (sk zZ (sk zZ (sk zZ (sv (aQ ag) zZ (al ac (sk zZ (sk zZ (sk zZ (sk zZ (sv (aQ ag) zZ (re (aB [2,5,99] [0,1] [0,1,2,3,4] ae (gt zZ zZ (gs (rg (sv (gu (v := .agg #[.slice none 0 0,.int .i64 0,.slice none 0 0,.slice none 0 0,.slice none 0 0,.slice none 0 0,.int .i64 0,.int .i64 0,.int .i64 0,.int .i64 0]) zZ kK) zZ (so zZ (aD (cs' := [.slice none 0 0,.int .i64 0,.slice none 0 0,.slice none 0 0,.slice none 0 0,.slice none 0 0,.int .i64 0,.int .i64 0,.int .i64 0,.int .i64 0]) 0 bh (au ac (re (aR ai 13 dq (aR ai 14 dq (aR ai 15 dq (aR ai 16 dq (aR aZ 17 dq ?_)))))))))))))))))))))))))))))
      cases H
      exact rt Tryz.func6 zZ (.cell 0 (some 10) zZ zZ zZ (.tmp zZ .nil)) zZ [] [(aj 5 2 1),(aj 6 2 2),(aj 7 2 3),(aj 8 2 4),(aj 9 2 5)] zZ zZ zZ zZ zZ ⟨_,_,_,_,_,_,_,_,_,_,zZ,zZ,zZ⟩
   ·
    refine ov (aq 0 zZ) zZ (aN [0] [0] ag (ar 14 ac ?_))
    revert H; refine aS ?_; rintro ⟨mG,aco⟩ A64 H
    refine mT (f := 23) zZ (bb (dD.ok k (bu ByteArray.empty t1 2) b6 kh _ _ A64) [] [2] [0,1] 5 ep ?_)
    rintro _ _ _ ⟨kG,kE,rfl,rfl,rfl⟩
    refine bR (en := [.sl 2 .str iF iE t1 2 true,.sl 2 ai ck cj cH 4 true,.sl 2 ai kG kE mG 6 true]) kK (aN [0] [0] ag (ar 19 ac ?_))
    revert H; refine aS ?_; rintro ⟨om,acn⟩ A65 H
    refine mT (f := 23) zZ (bb (dD.ok k (bu ByteArray.empty t1 3) b6 aco _ _ A65) [] [2] [0,1] 7 ep ?_)
    rintro _ _ _ ⟨lN,lI,rfl,rfl,rfl⟩
    refine bR (en := [.sl 2 .str iF iE t1 2 true,.sl 2 ai ck cj cH 4 true,.sl 2 ai kG kE mG 6 true,.sl 2 ai lN lI om 8 true]) kK (aN [0] [0] ag (ar 24 ac ?_))
    revert H; refine aS ?_; rintro ⟨lX,Iz⟩ Wc H
    refine mT (f := 23) zZ (bb (dD.ok k (bu ByteArray.empty t1 4) b6 acn _ _ Wc) [] [2] [0,1] 9 ep ?_)
    rintro _ _ _ ⟨kg,kf,rfl,rfl,rfl⟩
    refine bR (en := [.sl 2 .str iF iE t1 2 true,.sl 2 ai ck cj cH 4 true,.sl 2 ai kG kE mG 6 true,.sl 2 ai lN lI om 8 true,.sl 2 ai kg kf lX 10 true]) kK (aN [0] [0] ag (ar 26 ac (aD (cs' := [.slice ck cH.length cj,.int .i64 0,.slice none 0 0,.slice none 0 0,.slice none 0 0,.slice none 0 0,.int .i64 0,.int .i64 0,.int .i64 0,.int .i64 0]) 1 bh (aN [0] [0] ag (ar 27 ac (ov (aq 1 zZ) zZ (aN [0] [0] ag (ar 28 ac (aD (cs' := [.slice ck cH.length cj,.int .i64 eG,.slice none 0 0,.slice none 0 0,.slice none 0 0,.slice none 0 0,.int .i64 0,.int .i64 0,.int .i64 0,.int .i64 0]) 1 bh (aN [0] [0] ag (ar 29 ac (ov (aq 2 zZ) zZ (aN [0] [0] ag (ar 30 ac (aD (cs' := [.slice ck cH.length cj,.int .i64 eG,.slice kG mG.length kE,.slice none 0 0,.slice none 0 0,.slice none 0 0,.int .i64 0,.int .i64 0,.int .i64 0,.int .i64 0]) 1 bh (aN [0] [0] ag (ar 31 ac (ov (aq 3 zZ) zZ (aN [0] [0] ag (ar 32 ac (aD (cs' := [.slice ck cH.length cj,.int .i64 eG,.slice kG mG.length kE,.slice lN om.length lI,.slice none 0 0,.slice none 0 0,.int .i64 0,.int .i64 0,.int .i64 0,.int .i64 0]) 1 bh (aN [0] [0] ag (ar 33 ac (ov (aq 4 zZ) zZ (xn zZ (ar 34 ac (aD (cs' := [.slice ck cH.length cj,.int .i64 eG,.slice kG mG.length kE,.slice lN om.length lI,.slice kg lX.length kf,.slice none 0 0,.int .i64 0,.int .i64 0,.int .i64 0,.int .i64 0]) 1 bh (xn zZ (xd ?_)))))))))))))))))))))))))))))
    refine aB [0,2,4,5,6,8] [0,1,2] [0,1,2,3,4] ae (gs (rg (al ac ?_)))
    revert H; refine aU ?_; intro Ul H
    refine sv (aM 0 ag dq Ul zZ) zZ (sv (bg (v := .string (bu ByteArray.empty t1 5)) 5 0 none 0 ByteArray.empty zZ zZ zZ dq Ul zZ zZ zZ) zZ ?_)
    revert H; refine aS ?_; rintro ⟨qm,Xe⟩ Wb H
    refine so zZ (ax (eY.ok k (bu ByteArray.empty t1 5) _ _ Wb) [] 11 aG ?_)
    rintro _ _ _ ⟨o8,o0,rfl,rfl,rfl⟩
    refine al ac (sv (bp ac) zZ (sv (bp ac) zZ (au ac (au ac (re (aB [0,2,4,5,6,8,9,10] [0,1,2] [0,1,2,3,4,5] ae (gs ?_)))))))
    revert H; refine aU ?_; intro LB H
    revert H; refine aU ?_; intro g70 H
    revert H; refine aU ?_; intro Uk H
    revert H; refine aU ?_; intro Oe H
    refine fj [0] [0,1,2,3,4,5] [29,30] 31 ae (ap 0 [0] [0,1,2,3,4,5] zZ (aA zZ) ae (ap 1 [0] [0,1,2,3,4,5] zZ (aA zZ) ae (ap 2 [0] [0,1,2,3,4,5] zZ (aA zZ) ae (ap 3 [0] [0,1,2,3,4,5] zZ (aM 0 ag dq LB zZ) ae (ap 4 [0] [0,1,2,3,4,5] zZ (bg (v := .string (bu ByteArray.empty t1 6)) 6 0 none 0 ByteArray.empty zZ zZ zZ dq LB zZ zZ zZ) ae (ap 6 [0] [0,1,2,3,4,5] zZ (aA zZ) ae (ap 7 [0] [0,1,2,3,4,5] zZ (aA zZ) ae (ap 8 [0] [0,1,2,3,4,5] zZ (aM 0 ag dq g70 zZ) ae (ap 9 [0] [0,1,2,3,4,5] zZ (bg (v := .string (bu ByteArray.empty t1 7)) 7 0 none 0 ByteArray.empty zZ zZ zZ dq g70 zZ zZ zZ) ae (ap 11 [0] [0,1,2,3,4,5] zZ (aA zZ) ae (ap 12 [0] [0,1,2,3,4,5] zZ (aA zZ) ae (ap 13 [0] [0,1,2,3,4,5] zZ (aM 0 ag dq Uk zZ) ae (ap 14 [0] [0,1,2,3,4,5] zZ (bg (v := .string (bu ByteArray.empty t1 8)) 8 0 none 0 ByteArray.empty zZ zZ zZ dq Uk zZ zZ zZ) ae (ap 16 [0] [0,1,2,3,4,5] zZ (aA zZ) ae (ap 17 [0] [0,1,2,3,4,5] zZ (aA zZ) ae (ap 18 [0] [0,1,2,3,4,5] zZ (aM 0 ag dq Oe zZ) ae (ap 19 [0] [0,1,2,3,4,5] zZ (bg (v := .string (bu ByteArray.empty t1 9)) 9 0 none 0 ByteArray.empty zZ zZ zZ dq Oe zZ zZ zZ) ae (ap 21 [0] [0,1,2,3,4,5] zZ (aq 5 zZ) ae (ar 5 ac ?_)))))))))))))))))))
    revert H; refine aS ?_; rintro ⟨yK,ab8⟩ Wa H
    refine mT (f := 25) zZ (bb (cx.ok k (bu ByteArray.empty t1 6) b6 Iz _ _ Wa) [] [2] [0,1] 13 ep ?_)
    rintro _ _ _ ⟨rfl,rfl,rfl⟩
    refine bR (en := [.sl 2 .str iF iE t1 2 true,.sl 2 ai ck cj cH 4 true,.sl 2 ai kG kE mG 6 true,.sl 2 ai lN lI om 8 true,.sl 2 ai kg kf lX 10 true,.sl 2 aZ o8 o0 qm 12 true]) kK (aN [0] [0,1,2,3,4,5] ag (ar 10 ac ?_))
    revert H; refine aS ?_; rintro ⟨AQ,ab7⟩ A74 H
    refine mT (f := 25) zZ (bb (cx.ok k (bu ByteArray.empty t1 7) b6 ab8 _ _ A74) [] [2] [0,1] 13 ep ?_)
    rintro _ _ _ ⟨rfl,rfl,rfl⟩
    refine bR (en := [.sl 2 .str iF iE t1 2 true,.sl 2 ai ck cj cH 4 true,.sl 2 ai kG kE mG 6 true,.sl 2 ai lN lI om 8 true,.sl 2 ai kg kf lX 10 true,.sl 2 aZ o8 o0 qm 12 true]) kK (aN [0] [0,1,2,3,4,5] ag (ar 15 ac ?_))
    revert H; refine aS ?_; rintro ⟨C8,ab6⟩ V9 H
    refine mT (f := 25) zZ (bb (cx.ok k (bu ByteArray.empty t1 8) b6 ab7 _ _ V9) [] [2] [0,1] 13 ep ?_)
    rintro _ _ _ ⟨rfl,rfl,rfl⟩
    refine bR (en := [.sl 2 .str iF iE t1 2 true,.sl 2 ai ck cj cH 4 true,.sl 2 ai kG kE mG 6 true,.sl 2 ai lN lI om 8 true,.sl 2 ai kg kf lX 10 true,.sl 2 aZ o8 o0 qm 12 true]) kK (aN [0] [0,1,2,3,4,5] ag (ar 20 ac ?_))
    revert H; refine aS ?_; rintro ⟨F2,ahg⟩ A76 H
    refine mT (f := 25) zZ (bb (cx.ok k (bu ByteArray.empty t1 9) b6 ab6 _ _ A76) [] [2] [0,1] 13 ep ?_)
    rintro _ _ _ ⟨rfl,rfl,rfl⟩
    refine bR (en := [.sl 2 .str iF iE t1 2 true,.sl 2 ai ck cj cH 4 true,.sl 2 ai kG kE mG 6 true,.sl 2 ai lN lI om 8 true,.sl 2 ai kg kf lX 10 true,.sl 2 aZ o8 o0 qm 12 true]) kK (aN [0] [0,1,2,3,4,5] ag (ar 22 ac (aD (cs' := [.slice ck cH.length cj,.int .i64 eG,.slice kG mG.length kE,.slice lN om.length lI,.slice kg lX.length kf,.slice o8 qm.length o0,.int .i64 0,.int .i64 0,.int .i64 0,.int .i64 0]) 1 bh (aN [0] [0,1,2,3,4,5] ag (ar 23 ac (ov (aq 6 zZ) zZ (aN [0] [0,1,2,3,4,5] ag (ar 24 ac (aD (cs' := [.slice ck cH.length cj,.int .i64 eG,.slice kG mG.length kE,.slice lN om.length lI,.slice kg lX.length kf,.slice o8 qm.length o0,.int .i64 yK,.int .i64 0,.int .i64 0,.int .i64 0]) 1 bh (aN [0] [0,1,2,3,4,5] ag (ar 25 ac (ov (aq 7 zZ) zZ (aN [0] [0,1,2,3,4,5] ag (ar 26 ac (aD (cs' := [.slice ck cH.length cj,.int .i64 eG,.slice kG mG.length kE,.slice lN om.length lI,.slice kg lX.length kf,.slice o8 qm.length o0,.int .i64 yK,.int .i64 AQ,.int .i64 0,.int .i64 0]) 1 bh (aN [0] [0,1,2,3,4,5] ag (ar 27 ac (ov (aq 8 zZ) zZ (aN [0] [0,1,2,3,4,5] ag (ar 28 ac (aD (cs' := [.slice ck cH.length cj,.int .i64 eG,.slice kG mG.length kE,.slice lN om.length lI,.slice kg lX.length kf,.slice o8 qm.length o0,.int .i64 yK,.int .i64 AQ,.int .i64 C8,.int .i64 0]) 1 bh (aN [0] [0,1,2,3,4,5] ag (ar 29 ac (ov (aq 9 zZ) zZ (xn zZ (ar 30 ac (aD (cs' := [.slice ck cH.length cj,.int .i64 eG,.slice kG mG.length kE,.slice lN om.length lI,.slice kg lX.length kf,.slice o8 qm.length o0,.int .i64 yK,.int .i64 AQ,.int .i64 C8,.int .i64 F2]) 1 bh (xn zZ (xd ?_)))))))))))))))))))))))))))))
    refine aB [0,2,5,6,10] [0,1,2] [1,2,3,4,5] ae (gs (gs (rg (sv (am 2 none ag) zZ (sv (eE zZ) zZ (al ac ?_))))))
    revert H; refine aJ ?_ ?_ <;> intro U5 H
    ·
     subst U5
     refine eq 85 ac (al ac (sv (eE zZ) zZ (sv (aI ag) zZ (al ac ?_))))
     revert H; refine aJ ?_ ?_ <;> intro Oq H
     ·
      subst Oq
      refine eq 89 ac (sv (am (v := .agg #[.slice ck cH.length cj,.int .i64 eG,.slice kG mG.length kE,.slice lN om.length lI,.slice kg lX.length kf,.slice o8 qm.length o0,.int .i64 yK,.int .i64 AQ,.int .i64 C8,.int .i64 F2]) 1 (some 10) ag) zZ ?_)
      revert H; refine aS ?_; rintro Rl V8 H
      refine so zZ (ax (dc.ok k cH ck cj eG mG kG kE om lN lI lX kg kf qm o8 o0 yK AQ C8 F2 _ V8) [(aw 0),(aw 1),(aw 2),(aw 3),(aw 4)] 13 aG ?_)
      rintro _ _ _ ⟨rfl,rfl,rfl⟩
      refine sv (eE zZ) zZ (sv (aI ag) zZ (al ac ?_))
      revert H; refine aJ ?_ ?_ <;> intro U4 H
      ·
       subst U4
       refine eq 94 ac (sv (am (v := .agg #[.slice ck cH.length cj,.int .i64 eG,.slice kG mG.length kE,.slice lN om.length lI,.slice kg lX.length kf,.slice o8 qm.length o0,.int .i64 yK,.int .i64 AQ,.int .i64 C8,.int .i64 F2]) 1 (some 10) ag) zZ ?_)
       revert H; refine aS ?_; rintro Lf V7 H
       refine so zZ (ax (fe.ok k cH ck cj eG mG kG kE om lN lI lX kg kf qm o8 o0 yK AQ C8 F2 _ V7) [(aw 0),(aw 1),(aw 2),(aw 3),(aw 4)] 13 aG ?_)
       rintro _ _ _ ⟨rfl,rfl,rfl⟩
       refine al ac (sv (nh zZ zZ) zZ (sv (aI ag) zZ (re (aB [2,5,99] [0,1] [0,1,2,3,4] ae ?_))))
       revert H; refine aJ ?_ ?_ <;> intro Oo H
       ·
        refine gf zZ (nF Oo) (gk (gs (rg (sv (am (v := .agg #[.slice ck cH.length cj,.int .i64 eG,.slice kG mG.length kE,.slice lN om.length lI,.slice kg lX.length kf,.slice o8 qm.length o0,.int .i64 yK,.int .i64 AQ,.int .i64 C8,.int .i64 F2]) 1 (some 10) ag) zZ (so zZ (aD (cs' := [.slice ck cH.length cj,.int .i64 eG,.slice kG mG.length kE,.slice lN om.length lI,.slice kg lX.length kf,.slice o8 qm.length o0,.int .i64 yK,.int .i64 AQ,.int .i64 C8,.int .i64 F2]) 0 bh (au ac (re ?_))))))))
        cases H
        exact rt Tryz.func6 zZ (.cell 0 (some 10) zZ zZ zZ (.tmp zZ .nil)) zZ [] [(aj 0 2 1),(aj 1 2 2),(aj 2 2 3),(aj 3 2 4),(aj 4 2 5)] zZ zZ zZ zZ zZ ⟨_,_,_,_,_,_,_,_,_,_,zZ,zZ,zZ⟩
       ·
        refine gt zZ (nT Oo) (gs (rg (sv (gu (v := .agg #[.slice none 0 0,.int .i64 0,.slice none 0 0,.slice none 0 0,.slice none 0 0,.slice none 0 0,.int .i64 0,.int .i64 0,.int .i64 0,.int .i64 0]) zZ kK) zZ (so zZ (aD (cs' := [.slice none 0 0,.int .i64 0,.slice none 0 0,.slice none 0 0,.slice none 0 0,.slice none 0 0,.int .i64 0,.int .i64 0,.int .i64 0,.int .i64 0]) 0 bh (au ac (re (aR ai 13 dq (aR ai 14 dq (aR ai 15 dq (aR ai 16 dq (aR aZ 17 dq ?_))))))))))))
        cases H
        exact rt Tryz.func6 zZ (.cell 0 (some 10) zZ zZ zZ (.tmp zZ .nil)) zZ [] [(aj 5 2 1),(aj 6 2 2),(aj 7 2 3),(aj 8 2 4),(aj 9 2 5)] zZ zZ zZ zZ zZ ⟨_,_,_,_,_,_,_,_,_,_,zZ,zZ,zZ⟩
      ·
       have xc80 := bF U4; subst xc80
       refine eq 94 ac (sk zZ (sk zZ (sk zZ (sk zZ (sv (aQ ag) zZ (re (aB [2,5,99] [0,1] [0,1,2,3,4] ae (gt zZ zZ (gs (rg (sv (gu (v := .agg #[.slice none 0 0,.int .i64 0,.slice none 0 0,.slice none 0 0,.slice none 0 0,.slice none 0 0,.int .i64 0,.int .i64 0,.int .i64 0,.int .i64 0]) zZ kK) zZ (so zZ (aD (cs' := [.slice none 0 0,.int .i64 0,.slice none 0 0,.slice none 0 0,.slice none 0 0,.slice none 0 0,.int .i64 0,.int .i64 0,.int .i64 0,.int .i64 0]) 0 bh (au ac (re (aR ai 13 dq (aR ai 14 dq (aR ai 15 dq (aR ai 16 dq (aR aZ 17 dq ?_))))))))))))))))))))
       cases H
       exact rt Tryz.func6 zZ (.cell 0 (some 10) zZ zZ zZ (.tmp zZ .nil)) zZ [] [(aj 5 2 1),(aj 6 2 2),(aj 7 2 3),(aj 8 2 4),(aj 9 2 5)] zZ zZ zZ zZ zZ ⟨_,_,_,_,_,_,_,_,_,_,zZ,zZ,zZ⟩
     ·
      have xc78 := bF Oq; subst xc78
      refine eq 89 ac (sk zZ (sk zZ (sk zZ (sv (aQ ag) zZ (al ac (sk zZ (sk zZ (sk zZ (sk zZ (sv (aQ ag) zZ (re (aB [2,5,99] [0,1] [0,1,2,3,4] ae (gt zZ zZ (gs (rg (sv (gu (v := .agg #[.slice none 0 0,.int .i64 0,.slice none 0 0,.slice none 0 0,.slice none 0 0,.slice none 0 0,.int .i64 0,.int .i64 0,.int .i64 0,.int .i64 0]) zZ kK) zZ (so zZ (aD (cs' := [.slice none 0 0,.int .i64 0,.slice none 0 0,.slice none 0 0,.slice none 0 0,.slice none 0 0,.int .i64 0,.int .i64 0,.int .i64 0,.int .i64 0]) 0 bh (au ac (re (aR ai 13 dq (aR ai 14 dq (aR ai 15 dq (aR ai 16 dq (aR aZ 17 dq ?_)))))))))))))))))))))))))
      cases H
      exact rt Tryz.func6 zZ (.cell 0 (some 10) zZ zZ zZ (.tmp zZ .nil)) zZ [] [(aj 5 2 1),(aj 6 2 2),(aj 7 2 3),(aj 8 2 4),(aj 9 2 5)] zZ zZ zZ zZ zZ ⟨_,_,_,_,_,_,_,_,_,_,zZ,zZ,zZ⟩
    ·
     have xc77 := bF U5; subst xc77
     refine eq 85 ac (sk zZ (sk zZ (sv (aQ ag) zZ (al ac (sk zZ (sk zZ (sk zZ (sv (aQ ag) zZ (al ac (sk zZ (sk zZ (sk zZ (sk zZ (sv (aQ ag) zZ (re (aB [2,5,99] [0,1] [0,1,2,3,4] ae (gt zZ zZ (gs (rg (sv (gu (v := .agg #[.slice none 0 0,.int .i64 0,.slice none 0 0,.slice none 0 0,.slice none 0 0,.slice none 0 0,.int .i64 0,.int .i64 0,.int .i64 0,.int .i64 0]) zZ kK) zZ (so zZ (aD (cs' := [.slice none 0 0,.int .i64 0,.slice none 0 0,.slice none 0 0,.slice none 0 0,.slice none 0 0,.int .i64 0,.int .i64 0,.int .i64 0,.int .i64 0]) 0 bh (au ac (re (aR ai 13 dq (aR ai 14 dq (aR ai 15 dq (aR ai 16 dq (aR aZ 17 dq ?_)))))))))))))))))))))))))))))
     cases H
     exact rt Tryz.func6 zZ (.cell 0 (some 10) zZ zZ zZ (.tmp zZ .nil)) zZ [] [(aj 5 2 1),(aj 6 2 2),(aj 7 2 3),(aj 8 2 4),(aj 9 2 5)] zZ zZ zZ zZ zZ ⟨_,_,_,_,_,_,_,_,_,_,zZ,zZ,zZ⟩
  ·
   refine ov (aq 0 zZ) zZ (aN [0] [0] ag (ar 9 ac ?_))
   revert H; refine aS ?_; rintro ⟨sK,abP⟩ A83 H
   refine mT (f := 25) zZ (bb (cx.ok k (bu ByteArray.empty t1 1) b6 F1 _ _ A83) [] [2] [0,1] 5 ep ?_)
   rintro _ _ _ ⟨rfl,rfl,rfl⟩
   refine bR (en := [.sl 2 .str iF iE t1 2 true,.sl 2 ai ck cj cH 4 true]) kK (aN [0] [0] ag (ar 14 ac ?_))
   revert H; refine aS ?_; rintro ⟨mF,abO⟩ A84 H
   refine mT (f := 23) zZ (bb (dD.ok k (bu ByteArray.empty t1 2) b6 abP _ _ A84) [] [2] [0,1] 5 ep ?_)
   rintro _ _ _ ⟨kF,kD,rfl,rfl,rfl⟩
   refine bR (en := [.sl 2 .str iF iE t1 2 true,.sl 2 ai ck cj cH 4 true,.sl 2 ai kF kD mF 6 true]) kK (aN [0] [0] ag (ar 19 ac ?_))
   revert H; refine aS ?_; rintro ⟨oh,abN⟩ A85 H
   refine mT (f := 23) zZ (bb (dD.ok k (bu ByteArray.empty t1 3) b6 abO _ _ A85) [] [2] [0,1] 7 ep ?_)
   rintro _ _ _ ⟨lM,lH,rfl,rfl,rfl⟩
   refine bR (en := [.sl 2 .str iF iE t1 2 true,.sl 2 ai ck cj cH 4 true,.sl 2 ai kF kD mF 6 true,.sl 2 ai lM lH oh 8 true]) kK (aN [0] [0] ag (ar 24 ac ?_))
   revert H; refine aS ?_; rintro ⟨ql,abM⟩ A86 H
   refine mT (f := 23) zZ (bb (dD.ok k (bu ByteArray.empty t1 4) b6 abN _ _ A86) [] [2] [0,1] 9 ep ?_)
   rintro _ _ _ ⟨ns,mZ,rfl,rfl,rfl⟩
   refine bR (en := [.sl 2 .str iF iE t1 2 true,.sl 2 ai ck cj cH 4 true,.sl 2 ai kF kD mF 6 true,.sl 2 ai lM lH oh 8 true,.sl 2 ai ns mZ ql 10 true]) kK (aN [0] [0] ag (ar 26 ac (aD (cs' := [.slice ck cH.length cj,.int .i64 0,.slice none 0 0,.slice none 0 0,.slice none 0 0,.slice none 0 0,.int .i64 0,.int .i64 0,.int .i64 0,.int .i64 0]) 1 bh (aN [0] [0] ag (ar 27 ac (ov (aq 1 zZ) zZ (aN [0] [0] ag (ar 28 ac (aD (cs' := [.slice ck cH.length cj,.int .i64 sK,.slice none 0 0,.slice none 0 0,.slice none 0 0,.slice none 0 0,.int .i64 0,.int .i64 0,.int .i64 0,.int .i64 0]) 1 bh (aN [0] [0] ag (ar 29 ac (ov (aq 2 zZ) zZ (aN [0] [0] ag (ar 30 ac (aD (cs' := [.slice ck cH.length cj,.int .i64 sK,.slice kF mF.length kD,.slice none 0 0,.slice none 0 0,.slice none 0 0,.int .i64 0,.int .i64 0,.int .i64 0,.int .i64 0]) 1 bh (aN [0] [0] ag (ar 31 ac (ov (aq 3 zZ) zZ (aN [0] [0] ag (ar 32 ac (aD (cs' := [.slice ck cH.length cj,.int .i64 sK,.slice kF mF.length kD,.slice lM oh.length lH,.slice none 0 0,.slice none 0 0,.int .i64 0,.int .i64 0,.int .i64 0,.int .i64 0]) 1 bh (aN [0] [0] ag (ar 33 ac (ov (aq 4 zZ) zZ (xn zZ (ar 34 ac (aD (cs' := [.slice ck cH.length cj,.int .i64 sK,.slice kF mF.length kD,.slice lM oh.length lH,.slice ns ql.length mZ,.slice none 0 0,.int .i64 0,.int .i64 0,.int .i64 0,.int .i64 0]) 1 bh (xn zZ (xd ?_)))))))))))))))))))))))))))))
   refine aB [0,2,4,5,6,8] [0,1,2] [0,1,2,3,4] ae (gs (rg (al ac ?_)))
   revert H; refine aU ?_; intro g87 H
   refine sv (aM 0 ag dq g87 zZ) zZ (sv (bg (v := .string (bu ByteArray.empty t1 5)) 5 0 none 0 ByteArray.empty zZ zZ zZ dq g87 zZ zZ zZ) zZ ?_)
   revert H; refine aS ?_; rintro ⟨sJ,ahf⟩ A88 H
   refine so zZ (ax (eY.ok k (bu ByteArray.empty t1 5) _ _ A88) [] 11 aG ?_)
   rintro _ _ _ ⟨o7,oZ,rfl,rfl,rfl⟩
   refine al ac (sv (bp ac) zZ (sv (bp ac) zZ (au ac (au ac (re (aB [0,2,4,5,6,8,9,10] [0,1,2] [0,1,2,3,4,5] ae (gs ?_)))))))
   revert H; refine aU ?_; intro Uj H
   revert H; refine aU ?_; intro Ui H
   revert H; refine aU ?_; intro g91 H
   revert H; refine aU ?_; intro g92 H
   refine fj [0] [0,1,2,3,4,5] [29,30] 31 ae (ap 0 [0] [0,1,2,3,4,5] zZ (aA zZ) ae (ap 1 [0] [0,1,2,3,4,5] zZ (aA zZ) ae (ap 2 [0] [0,1,2,3,4,5] zZ (aA zZ) ae (ap 3 [0] [0,1,2,3,4,5] zZ (aM 0 ag dq Uj zZ) ae (ap 4 [0] [0,1,2,3,4,5] zZ (bg (v := .string (bu ByteArray.empty t1 6)) 6 0 none 0 ByteArray.empty zZ zZ zZ dq Uj zZ zZ zZ) ae (ap 6 [0] [0,1,2,3,4,5] zZ (aA zZ) ae (ap 7 [0] [0,1,2,3,4,5] zZ (aA zZ) ae (ap 8 [0] [0,1,2,3,4,5] zZ (aM 0 ag dq Ui zZ) ae (ap 9 [0] [0,1,2,3,4,5] zZ (bg (v := .string (bu ByteArray.empty t1 7)) 7 0 none 0 ByteArray.empty zZ zZ zZ dq Ui zZ zZ zZ) ae (ap 11 [0] [0,1,2,3,4,5] zZ (aA zZ) ae (ap 12 [0] [0,1,2,3,4,5] zZ (aA zZ) ae (ap 13 [0] [0,1,2,3,4,5] zZ (aM 0 ag dq g91 zZ) ae (ap 14 [0] [0,1,2,3,4,5] zZ (bg (v := .string (bu ByteArray.empty t1 8)) 8 0 none 0 ByteArray.empty zZ zZ zZ dq g91 zZ zZ zZ) ae (ap 16 [0] [0,1,2,3,4,5] zZ (aA zZ) ae (ap 17 [0] [0,1,2,3,4,5] zZ (aA zZ) ae (ap 18 [0] [0,1,2,3,4,5] zZ (aM 0 ag dq g92 zZ) ae (ap 19 [0] [0,1,2,3,4,5] zZ (bg (v := .string (bu ByteArray.empty t1 9)) 9 0 none 0 ByteArray.empty zZ zZ zZ dq g92 zZ zZ zZ) ae (ap 21 [0] [0,1,2,3,4,5] zZ (aq 5 zZ) ae (ar 5 ac ?_)))))))))))))))))))
   revert H; refine aS ?_; rintro ⟨yJ,abL⟩ A93 H
   refine mT (f := 25) zZ (bb (cx.ok k (bu ByteArray.empty t1 6) b6 abM _ _ A93) [] [2] [0,1] 13 ep ?_)
   rintro _ _ _ ⟨rfl,rfl,rfl⟩
   refine bR (en := [.sl 2 .str iF iE t1 2 true,.sl 2 ai ck cj cH 4 true,.sl 2 ai kF kD mF 6 true,.sl 2 ai lM lH oh 8 true,.sl 2 ai ns mZ ql 10 true,.sl 2 aZ o7 oZ sJ 12 true]) kK (aN [0] [0,1,2,3,4,5] ag (ar 10 ac ?_))
   revert H; refine aS ?_; rintro ⟨AP,abK⟩ A94 H
   refine mT (f := 25) zZ (bb (cx.ok k (bu ByteArray.empty t1 7) b6 abL _ _ A94) [] [2] [0,1] 13 ep ?_)
   rintro _ _ _ ⟨rfl,rfl,rfl⟩
   refine bR (en := [.sl 2 .str iF iE t1 2 true,.sl 2 ai ck cj cH 4 true,.sl 2 ai kF kD mF 6 true,.sl 2 ai lM lH oh 8 true,.sl 2 ai ns mZ ql 10 true,.sl 2 aZ o7 oZ sJ 12 true]) kK (aN [0] [0,1,2,3,4,5] ag (ar 15 ac ?_))
   revert H; refine aS ?_; rintro ⟨C7,abJ⟩ A95 H
   refine mT (f := 25) zZ (bb (cx.ok k (bu ByteArray.empty t1 8) b6 abK _ _ A95) [] [2] [0,1] 13 ep ?_)
   rintro _ _ _ ⟨rfl,rfl,rfl⟩
   refine bR (en := [.sl 2 .str iF iE t1 2 true,.sl 2 ai ck cj cH 4 true,.sl 2 ai kF kD mF 6 true,.sl 2 ai lM lH oh 8 true,.sl 2 ai ns mZ ql 10 true,.sl 2 aZ o7 oZ sJ 12 true]) kK (aN [0] [0,1,2,3,4,5] ag (ar 20 ac ?_))
   revert H; refine aS ?_; rintro ⟨FZ,ahd⟩ A96 H
   refine mT (f := 25) zZ (bb (cx.ok k (bu ByteArray.empty t1 9) b6 abJ _ _ A96) [] [2] [0,1] 13 ep ?_)
   rintro _ _ _ ⟨rfl,rfl,rfl⟩
   refine bR (en := [.sl 2 .str iF iE t1 2 true,.sl 2 ai ck cj cH 4 true,.sl 2 ai kF kD mF 6 true,.sl 2 ai lM lH oh 8 true,.sl 2 ai ns mZ ql 10 true,.sl 2 aZ o7 oZ sJ 12 true]) kK (aN [0] [0,1,2,3,4,5] ag (ar 22 ac (aD (cs' := [.slice ck cH.length cj,.int .i64 sK,.slice kF mF.length kD,.slice lM oh.length lH,.slice ns ql.length mZ,.slice o7 sJ.length oZ,.int .i64 0,.int .i64 0,.int .i64 0,.int .i64 0]) 1 bh (aN [0] [0,1,2,3,4,5] ag (ar 23 ac (ov (aq 6 zZ) zZ (aN [0] [0,1,2,3,4,5] ag (ar 24 ac (aD (cs' := [.slice ck cH.length cj,.int .i64 sK,.slice kF mF.length kD,.slice lM oh.length lH,.slice ns ql.length mZ,.slice o7 sJ.length oZ,.int .i64 yJ,.int .i64 0,.int .i64 0,.int .i64 0]) 1 bh (aN [0] [0,1,2,3,4,5] ag (ar 25 ac (ov (aq 7 zZ) zZ (aN [0] [0,1,2,3,4,5] ag (ar 26 ac (aD (cs' := [.slice ck cH.length cj,.int .i64 sK,.slice kF mF.length kD,.slice lM oh.length lH,.slice ns ql.length mZ,.slice o7 sJ.length oZ,.int .i64 yJ,.int .i64 AP,.int .i64 0,.int .i64 0]) 1 bh (aN [0] [0,1,2,3,4,5] ag (ar 27 ac (ov (aq 8 zZ) zZ (aN [0] [0,1,2,3,4,5] ag (ar 28 ac (aD (cs' := [.slice ck cH.length cj,.int .i64 sK,.slice kF mF.length kD,.slice lM oh.length lH,.slice ns ql.length mZ,.slice o7 sJ.length oZ,.int .i64 yJ,.int .i64 AP,.int .i64 C7,.int .i64 0]) 1 bh (aN [0] [0,1,2,3,4,5] ag (ar 29 ac (ov (aq 9 zZ) zZ (xn zZ (ar 30 ac (aD (cs' := [.slice ck cH.length cj,.int .i64 sK,.slice kF mF.length kD,.slice lM oh.length lH,.slice ns ql.length mZ,.slice o7 sJ.length oZ,.int .i64 yJ,.int .i64 AP,.int .i64 C7,.int .i64 FZ]) 1 bh (xn zZ (xd ?_)))))))))))))))))))))))))))))
   refine aB [0,2,5,6,10] [0,1,2] [1,2,3,4,5] ae (gs (gs (rg (sv (am 2 none ag) zZ (sv (eE zZ) zZ (al ac ?_))))))
   revert H; refine aJ ?_ ?_ <;> intro c97 H
   ·
    subst c97
    refine eq 85 ac (al ac (sv (eE zZ) zZ (sv (aI ag) zZ (al ac ?_))))
    revert H; refine aJ ?_ ?_ <;> intro c98 H
    ·
     subst c98
     refine eq 89 ac (sv (am (v := .agg #[.slice ck cH.length cj,.int .i64 sK,.slice kF mF.length kD,.slice lM oh.length lH,.slice ns ql.length mZ,.slice o7 sJ.length oZ,.int .i64 yJ,.int .i64 AP,.int .i64 C7,.int .i64 FZ]) 1 (some 10) ag) zZ ?_)
     revert H; refine aS ?_; rintro t99 A99 H
     refine so zZ (ax (dc.ok k cH ck cj sK mF kF kD oh lM lH ql ns mZ sJ o7 oZ yJ AP C7 FZ _ A99) [(aw 0),(aw 1),(aw 2),(aw 3),(aw 4)] 13 aG ?_)
     rintro _ _ _ ⟨rfl,rfl,rfl⟩
     refine sv (eE zZ) zZ (sv (aI ag) zZ (al ac ?_))
     revert H; refine aJ ?_ ?_ <;> intro aaN H
     ·
      subst aaN
      refine eq 94 ac (sv (am (v := .agg #[.slice ck cH.length cj,.int .i64 sK,.slice kF mF.length kD,.slice lM oh.length lH,.slice ns ql.length mZ,.slice o7 sJ.length oZ,.int .i64 yJ,.int .i64 AP,.int .i64 C7,.int .i64 FZ]) 1 (some 10) ag) zZ ?_)
      revert H; refine aS ?_; rintro ahO afX H
      refine so zZ (ax (fe.ok k cH ck cj sK mF kF kD oh lM lH ql ns mZ sJ o7 oZ yJ AP C7 FZ _ afX) [(aw 0),(aw 1),(aw 2),(aw 3),(aw 4)] 13 aG ?_)
      rintro _ _ _ ⟨rfl,rfl,rfl⟩
      refine al ac (sv (nh zZ zZ) zZ (sv (aI ag) zZ (re (aB [2,5,99] [0,1] [0,1,2,3,4] ae ?_))))
      revert H; refine aJ ?_ ?_ <;> intro aaL H
      ·
       refine gf zZ (nF aaL) (gk (gs (rg (sv (am (v := .agg #[.slice ck cH.length cj,.int .i64 sK,.slice kF mF.length kD,.slice lM oh.length lH,.slice ns ql.length mZ,.slice o7 sJ.length oZ,.int .i64 yJ,.int .i64 AP,.int .i64 C7,.int .i64 FZ]) 1 (some 10) ag) zZ (so zZ (aD (cs' := [.slice ck cH.length cj,.int .i64 sK,.slice kF mF.length kD,.slice lM oh.length lH,.slice ns ql.length mZ,.slice o7 sJ.length oZ,.int .i64 yJ,.int .i64 AP,.int .i64 C7,.int .i64 FZ]) 0 bh (au ac (re ?_))))))))
       cases H
       exact rt Tryz.func6 zZ (.cell 0 (some 10) zZ zZ zZ (.tmp zZ .nil)) zZ [] [(aj 0 2 1),(aj 1 2 2),(aj 2 2 3),(aj 3 2 4),(aj 4 2 5)] zZ zZ zZ zZ zZ ⟨_,_,_,_,_,_,_,_,_,_,zZ,zZ,zZ⟩
      ·
       refine gt zZ (nT aaL) (gs (rg (sv (gu (v := .agg #[.slice none 0 0,.int .i64 0,.slice none 0 0,.slice none 0 0,.slice none 0 0,.slice none 0 0,.int .i64 0,.int .i64 0,.int .i64 0,.int .i64 0]) zZ kK) zZ (so zZ (aD (cs' := [.slice none 0 0,.int .i64 0,.slice none 0 0,.slice none 0 0,.slice none 0 0,.slice none 0 0,.int .i64 0,.int .i64 0,.int .i64 0,.int .i64 0]) 0 bh (au ac (re (aR ai 13 dq (aR ai 14 dq (aR ai 15 dq (aR ai 16 dq (aR aZ 17 dq ?_))))))))))))
       cases H
       exact rt Tryz.func6 zZ (.cell 0 (some 10) zZ zZ zZ (.tmp zZ .nil)) zZ [] [(aj 5 2 1),(aj 6 2 2),(aj 7 2 3),(aj 8 2 4),(aj 9 2 5)] zZ zZ zZ zZ zZ ⟨_,_,_,_,_,_,_,_,_,_,zZ,zZ,zZ⟩
     ·
      have xc100 := bF aaN; subst xc100
      refine eq 94 ac (sk zZ (sk zZ (sk zZ (sk zZ (sv (aQ ag) zZ (re (aB [2,5,99] [0,1] [0,1,2,3,4] ae (gt zZ zZ (gs (rg (sv (gu (v := .agg #[.slice none 0 0,.int .i64 0,.slice none 0 0,.slice none 0 0,.slice none 0 0,.slice none 0 0,.int .i64 0,.int .i64 0,.int .i64 0,.int .i64 0]) zZ kK) zZ (so zZ (aD (cs' := [.slice none 0 0,.int .i64 0,.slice none 0 0,.slice none 0 0,.slice none 0 0,.slice none 0 0,.int .i64 0,.int .i64 0,.int .i64 0,.int .i64 0]) 0 bh (au ac (re (aR ai 13 dq (aR ai 14 dq (aR ai 15 dq (aR ai 16 dq (aR aZ 17 dq ?_))))))))))))))))))))
      cases H
      exact rt Tryz.func6 zZ (.cell 0 (some 10) zZ zZ zZ (.tmp zZ .nil)) zZ [] [(aj 5 2 1),(aj 6 2 2),(aj 7 2 3),(aj 8 2 4),(aj 9 2 5)] zZ zZ zZ zZ zZ ⟨_,_,_,_,_,_,_,_,_,_,zZ,zZ,zZ⟩
    ·
     have xc98 := bF c98; subst xc98
     refine eq 89 ac (sk zZ (sk zZ (sk zZ (sv (aQ ag) zZ (al ac (sk zZ (sk zZ (sk zZ (sk zZ (sv (aQ ag) zZ (re (aB [2,5,99] [0,1] [0,1,2,3,4] ae (gt zZ zZ (gs (rg (sv (gu (v := .agg #[.slice none 0 0,.int .i64 0,.slice none 0 0,.slice none 0 0,.slice none 0 0,.slice none 0 0,.int .i64 0,.int .i64 0,.int .i64 0,.int .i64 0]) zZ kK) zZ (so zZ (aD (cs' := [.slice none 0 0,.int .i64 0,.slice none 0 0,.slice none 0 0,.slice none 0 0,.slice none 0 0,.int .i64 0,.int .i64 0,.int .i64 0,.int .i64 0]) 0 bh (au ac (re (aR ai 13 dq (aR ai 14 dq (aR ai 15 dq (aR ai 16 dq (aR aZ 17 dq ?_)))))))))))))))))))))))))
     cases H
     exact rt Tryz.func6 zZ (.cell 0 (some 10) zZ zZ zZ (.tmp zZ .nil)) zZ [] [(aj 5 2 1),(aj 6 2 2),(aj 7 2 3),(aj 8 2 4),(aj 9 2 5)] zZ zZ zZ zZ zZ ⟨_,_,_,_,_,_,_,_,_,_,zZ,zZ,zZ⟩
   ·
    have xc97 := bF c97; subst xc97
    refine eq 85 ac (sk zZ (sk zZ (sv (aQ ag) zZ (al ac (sk zZ (sk zZ (sk zZ (sv (aQ ag) zZ (al ac (sk zZ (sk zZ (sk zZ (sk zZ (sv (aQ ag) zZ (re (aB [2,5,99] [0,1] [0,1,2,3,4] ae (gt zZ zZ (gs (rg (sv (gu (v := .agg #[.slice none 0 0,.int .i64 0,.slice none 0 0,.slice none 0 0,.slice none 0 0,.slice none 0 0,.int .i64 0,.int .i64 0,.int .i64 0,.int .i64 0]) zZ kK) zZ (so zZ (aD (cs' := [.slice none 0 0,.int .i64 0,.slice none 0 0,.slice none 0 0,.slice none 0 0,.slice none 0 0,.int .i64 0,.int .i64 0,.int .i64 0,.int .i64 0]) 0 bh (au ac (re (aR ai 13 dq (aR ai 14 dq (aR ai 15 dq (aR ai 16 dq (aR aZ 17 dq ?_)))))))))))))))))))))))))))))
    cases H
    exact rt Tryz.func6 zZ (.cell 0 (some 10) zZ zZ zZ (.tmp zZ .nil)) zZ [] [(aj 5 2 1),(aj 6 2 2),(aj 7 2 3),(aj 8 2 4),(aj 9 2 5)] zZ zZ zZ zZ zZ ⟨_,_,_,_,_,_,_,_,_,_,zZ,zZ,zZ⟩
 ·
  refine gt zZ (nT c2) (gs (rg (sv (gu (v := .agg #[.slice none 0 0,.int .i64 0,.slice none 0 0,.slice none 0 0,.slice none 0 0,.slice none 0 0,.int .i64 0,.int .i64 0,.int .i64 0,.int .i64 0]) zZ kK) zZ (so zZ (aD (cs' := [.slice none 0 0,.int .i64 0,.slice none 0 0,.slice none 0 0,.slice none 0 0,.slice none 0 0,.int .i64 0,.int .i64 0,.int .i64 0,.int .i64 0]) 0 bh (au ac (re (aB [2,3] [0] [] ae (aR ai 1 dq (aR ai 2 dq (aR ai 3 dq (aR ai 4 dq (aR aZ 5 dq ?_)))))))))))))
  cases H
  exact rt Tryz.func6 zZ (.cell 0 (some 10) zZ zZ zZ (.tmp zZ .nil)) zZ [] [(aj 0 2 1),(aj 1 2 2),(aj 2 2 3),(aj 3 2 4),(aj 4 2 5)] zZ zZ zZ zZ zZ ⟨_,_,_,_,_,_,_,_,_,_,zZ,zZ,zZ⟩
mutual
def cy.j0 : Nat → Int → ByteArray → Bool → Int → Option (ByteArray)
 | 0,_,_,_,_ => none
 | k + 1,M0,kW,lT,iQ => if (strOfNums ([IntKind.u8.wrap (wrap64 (48 + iQ))] : List Int)).size + kW.size ≤ 9223372036854775807 then (cy.l0 k (wrap64 (Int.tdiv M0 10)) ((strOfNums ([IntKind.u8.wrap (wrap64 (48 + iQ))] : List Int)) ++ kW) lT) else none
def cy.l0 : Nat → Int → ByteArray → Bool → Option (ByteArray)
 | 0,_,_,_ => none
 | k + 1,jR,BO,oe => if jR = 0 then (if oe = true then (if (⟨#[45]⟩ : ByteArray).size + BO.size ≤ 9223372036854775807 then (some ((⟨#[45]⟩ : ByteArray) ++ BO)) else none) else (some BO)) else (if (Int.tmod jR 10) < 0 then (cy.j0 k jR BO oe (wrap64 (-(Int.tmod jR 10)))) else (cy.j0 k jR BO oe (Int.tmod jR 10)))
end
def cy.f (k : Nat) (a0 : Int) : Option (ByteArray) := if a0 = 0 then (some (⟨#[48]⟩ : ByteArray)) else (cy.l0 k a0 (⟨#[]⟩ : ByteArray) (decide (a0 < 0)))
theorem cy.ok (k : Nat) (a0 : Int) (r0 : ByteArray) (H : cy.f k a0 = some r0) : Fn Tryz.prog 85 [.int .i64 a0] [] [] (fun v bx en => v = .string r0 ∧ bx = [] ∧ en = []) := by
 refine eD 31 Tryz.func85 zZ zZ zZ (fun base T w0 => ?_)
 rw [cy.f] at H
 refine gs (rg (au ac (re (gs (gs (rg (al ac (sv (bZ ac) zZ (re ?_)))))))))
 revert H; refine aJ ?_ ?_ <;> intro c1 H
 ·
  refine gt zZ (dT c1) (gs (rg (au ac (re ?_))))
  cases H
  exact rt Tryz.func85 zZ (.tmp zZ .nil) zZ [] [] zZ zZ zZ zZ zZ ⟨zZ,zZ,zZ⟩
 ·
  refine gf zZ (dF c1) (gk (gs (rg (au ac (re (gs (rg (al ac (sv (bS ac) zZ (au ac (re (gs (gb ?_)))))))))))))
  refine lo (fun kk S => ∃ (jR : Int) (BO : ByteArray) (oe : Bool),cy.l0 kk jR BO oe = some r0 ∧ S = ⟨[(0,.int .i64 jR),(3,.string BO),(4,.bool oe)],[],[]⟩) (fun S hS => ?_) (fun n0 cZ S hS => ?_) ⟨a0,(⟨#[]⟩ : ByteArray),decide (a0 < 0),H,zZ⟩ (fun h => wk [0,3,4] [] [] h)
  · clear H; obtain ⟨_,_,_,H,_⟩ := hS; rw [cy.l0] at H; cases H
  clear H
  obtain ⟨jR,BO,oe,H,rfl⟩ := hS
  rw [cy.l0] at H
  refine gs (gs (rg (al ac (sv (lK zZ zZ) zZ (re ?_)))))
  revert H; refine aJ ?_ ?_ <;> intro c2 H
  ·
   refine gf zZ (nF c2) (gx zZ (gs (gs (rg (al ac (re ?_))))))
   revert H; refine aJ ?_ ?_ <;> intro c3 H
   ·
    subst c3
    refine gt zZ zZ (gs (rg (al ac ?_)))
    revert H; refine aU ?_; intro g4 H
    refine sv (fK zZ zZ g4) zZ (au ac (re (aB [2] [] [] ae ?_)))
    cases H
    exact rt Tryz.func85 zZ (.tmp zZ .nil) zZ [] [] zZ zZ zZ zZ zZ ⟨zZ,zZ,zZ⟩
   ·
    have xc3 := bF c3; subst xc3
    refine gf zZ zZ (gk (gs (rg (al ac (au ac (re (aB [2] [] [] ae ?_)))))))
    cases H
    exact rt Tryz.func85 zZ (.tmp zZ .nil) zZ [] [] zZ zZ zZ zZ zZ ⟨zZ,zZ,zZ⟩
  ·
   refine gt zZ (nT c2) (gk (gb (gs (rg (al ac (sv (EZ zZ zZ dq) zZ (au ac (re ?_))))))))
   refine jo (fun S => ∃ (m : Nat) (M0 : Int) (kW : ByteArray) (lT : Bool) (iQ : Int),m ≤ n0 ∧ cy.j0 m M0 kW lT iQ = some r0 ∧ S = ⟨[(0,.int .i64 M0),(3,.string kW),(4,.bool lT),(5,.int .i64 iQ)],[],[]⟩) (fun S hS => ?_) (fun gw => ?_)
   ·
    clear H
    obtain ⟨m5,M0,kW,lT,iQ,lm5,H,rfl⟩ := hS
    rcases m5 with _ | m5
    · rw [cy.j0] at H; cases H
    rw [cy.j0] at H
    refine gs (rg (al ac (sv (ba ac) zZ (sv (mJ (k' := .u8) zZ) zZ (so zZ (bH (s := 1) (by_ := 1) (.int .u8) ([IntKind.u8.wrap (wrap64 (48 + iQ))] : List Int) [[]] [] 1 [.tmp 20] dp dq zZ fun Pg Pd => (sv (Dn 0 zZ zZ) zZ (al ac ?_))))))))
    revert H; refine aU ?_; intro g7 H
    exact sv (fK zZ zZ g7) zZ (au ac (re (aB [0,3,4] [] [] ae (rg (al ac (sv (aaS zZ zZ dq) zZ (au ac (re (ge (wk [0,3,4] [] [] (cZ _ (by omega) _ ⟨wrap64 (Int.tdiv M0 10),(strOfNums ([IntKind.u8.wrap (wrap64 (48 + iQ))] : List Int)) ++ kW,lT,H,zZ⟩)))))))))))
   ·
    refine gs (rg (al ac (sv (bS ac) zZ (re ?_))))
    revert H; refine aJ ?_ ?_ <;> intro c8 H
    ·
     exact gt zZ (dT c8) (rg (al ac (sv (Th zZ) zZ (au ac (re (aB [0,3,4,5] [] [] ae (wk [0,3,4,5] [] [] (gw _ ⟨_,jR,BO,oe,wrap64 (-(Int.tmod jR 10)),by omega,H,zZ⟩))))))))
    ·
     exact gf zZ (dF c8) (gk (wk [0,3,4,5] [] [] (gw _ ⟨_,jR,BO,oe,Int.tmod jR 10,by omega,H,zZ⟩)))
def kR.f (k : Nat) (fb : Int) (aF : Int) (cw : Int) : Option (ByteArray) := (iv.f fb aF cw).bind fun t1 => (if t1 = true then ((cy.f k fb).bind fun t3 => (if t3.size + (⟨#[46]⟩ : ByteArray).size ≤ 9223372036854775807 then ((cy.f k aF).bind fun t5 => (if (t3 ++ (⟨#[46]⟩ : ByteArray)).size + t5.size ≤ 9223372036854775807 then (if ((t3 ++ (⟨#[46]⟩ : ByteArray)) ++ t5).size + (⟨#[46]⟩ : ByteArray).size ≤ 9223372036854775807 then ((cy.f k cw).bind fun t8 => (if (((t3 ++ (⟨#[46]⟩ : ByteArray)) ++ t5) ++ (⟨#[46]⟩ : ByteArray)).size + t8.size ≤ 9223372036854775807 then (some ((((t3 ++ (⟨#[46]⟩ : ByteArray)) ++ t5) ++ (⟨#[46]⟩ : ByteArray)) ++ t8)) else none)) else none) else none)) else none)) else (some (⟨#[]⟩ : ByteArray)))
theorem kR.ok (k : Nat) (fb : Int) (aF : Int) (cw : Int) (r0 : ByteArray) (H : kR.f k fb aF cw = some r0) : Fn Tryz.prog 104 [.agg #[.int .i64 fb,.int .i64 aF,.int .i64 cw]] [] [] (fun v bx en => v = .string r0 ∧ bx = [] ∧ en = []) := by
 refine eD 19 Tryz.func104 zZ zZ zZ (fun base T w0 => ?_)
 rw [kR.f] at H
 refine gs (rg (so zZ (gU (cs := [.int .i64 fb,.int .i64 aF,.int .i64 cw]) ag fun b1 => (au ac (re (gs (gs (rg (sv (am (v := .agg #[.int .i64 fb,.int .i64 aF,.int .i64 cw]) 0 (some 3) ag) zZ ?_)))))))))
 revert H; refine aS ?_; rintro t1 A1 H
 refine so zZ (ax (iv.ok fb aF cw _ A1) [] 1 aG ?_)
 rintro _ _ _ ⟨rfl,rfl,rfl⟩
 refine sv (eE zZ) zZ (re ?_)
 revert H; refine aJ ?_ ?_ <;> intro c2 H
 ·
  subst c2
  refine gf zZ zZ (gk (gs (fj [0] [] [] 14 ae (ap 0 [0] [] zZ (aq 0 zZ) ae (ap 1 [0] [] zZ (am 0 none ag) ae (ap 4 [0] [] zZ (aq 1 zZ) ae (ap 5 [0] [] zZ (am 0 none ag) ae (ap 9 [0] [] zZ (aq 2 zZ) ae (ap 10 [0] [] zZ (am 0 none ag) ae (ar 2 ac ?_))))))))))
  revert H; refine aS ?_; rintro t3 A3 H
  refine ax (cy.ok k fb _ A3) [] 1 aG ?_
  rintro _ _ _ ⟨rfl,rfl,rfl⟩
  refine aN [0] [] ag ?_
  revert H; refine aU ?_; intro g4 H
  refine ap 3 [0] [] zZ (fK zZ zZ g4) ae (ar 6 ac ?_)
  revert H; refine aS ?_; rintro t5 A5 H
  refine ax (cy.ok k aF _ A5) [] 1 aG ?_
  rintro _ _ _ ⟨rfl,rfl,rfl⟩
  refine aN [0] [] ag ?_
  revert H; refine aU ?_; intro g6 H
  refine ap 7 [0] [] zZ (fK zZ zZ g6) ae ?_
  revert H; refine aU ?_; intro g7 H
  refine ap 8 [0] [] zZ (fK zZ zZ g7) ae (ar 11 ac ?_)
  revert H; refine aS ?_; rintro t8 A8 H
  refine ax (cy.ok k cw _ A8) [] 1 aG ?_
  rintro _ _ _ ⟨rfl,rfl,rfl⟩
  refine aN [0] [] ag ?_
  revert H; refine aU ?_; intro g9 H
  refine ap 12 [0] [] zZ (fK zZ zZ g9) ae (ap 13 [0] [] zZ (gE zZ) ae (xd (aB [2] [] [] ae ?_)))
  cases H
  exact rt Tryz.func104 zZ (.tmp zZ .nil) zZ [] [] zZ zZ zZ zZ zZ ⟨zZ,zZ,zZ⟩
 ·
  have xc2 := bF c2; subst xc2
  refine gt zZ zZ (gs (rg (au ac (re ?_))))
  cases H
  exact rt Tryz.func104 zZ (.tmp zZ .nil) zZ [] [] zZ zZ zZ zZ zZ ⟨zZ,zZ,zZ⟩
mutual
def cG.j0 : Nat → ByteArray → Int → Bool → (List ah) → Option (ByteArray)
 | 0,_,_,_,_ => none
 | k + 1,sG,jc,Lb,l0 => if 0 ≤ jc then (if jc < (l0.length : Int) then ((kR.f k ((aa l0 jc).f0) ((aa l0 jc).f1) ((aa l0 jc).f2)).bind fun t7 => (if sG.size + t7.size ≤ 9223372036854775807 then (cG.l0 k (sG ++ t7) (wrap64 (jc + 1)) l0) else none)) else none) else none
def cG.l0 : Nat → ByteArray → Int → (List ah) → Option (ByteArray)
 | 0,_,_,_ => none
 | k + 1,kW,lT,l0 => if lT < (l0.length : Int) then ((dA.f k l0).bind fun t2 => (if t2 = true then (if lT > 0 then (if kW.size + (⟨#[32]⟩ : ByteArray).size ≤ 9223372036854775807 then (cG.j0 k (kW ++ (⟨#[32]⟩ : ByteArray)) lT true l0) else none) else (cG.j0 k kW lT true l0)) else (some kW))) else (some kW)
end
def cG.f (k : Nat) (l0 : List ah) : Option (ByteArray) := cG.l0 k (⟨#[]⟩ : ByteArray) 0 l0
theorem cG.ok (k : Nat) (l0 : List ah) (ay : Option Addr) (az : Nat) (r0 : ByteArray) (H : cG.f k l0 = some r0) : Fn Tryz.prog 84 [.slice ay l0.length az] [] [.sl 0 ai ay az l0 0 false] (fun v bx en => v = .string r0 ∧ bx = [] ∧ en = []) := by
 refine eD 27 Tryz.func84 zZ zZ zZ (fun base T w0 => ?_)
 rw [cG.f] at H
 refine gs (rg (au ac (re (gs (rg (au ac (re (gs (gs (rg (au ac (re (gb ?_)))))))))))))
 refine lo (fun kk S => ∃ (kW : ByteArray) (lT : Int),cG.l0 kk kW lT l0 = some r0 ∧ S = ⟨[(0,.slice ay l0.length az),(3,.string kW),(4,.int .i64 lT)],[],[.sl 0 ai ay az l0 0 false]⟩) (fun S hS => ?_) (fun n0 cZ S hS => ?_) ⟨(⟨#[]⟩ : ByteArray),0,H,zZ⟩ (fun h => wk [0,3,4] [] [(aw 0)] h)
 · clear H; obtain ⟨_,_,H,_⟩ := hS; rw [cG.l0] at H; cases H
 clear H
 obtain ⟨kW,lT,H,rfl⟩ := hS
 rw [cG.l0] at H
 refine gs (gs (rg (al ac (al ac (sv (bG zZ) zZ (sv (bS ac) zZ (al ac ?_)))))))
 revert H; refine aJ ?_ ?_ <;> intro c1 H
 ·
  refine ts 9 zZ (dT c1) (al ac ?_)
  revert H; refine aS ?_; rintro t2 A2 H
  refine so zZ (ax (dA.ok n0 l0 ay az _ A2) [(aw 0)] 1 aG ?_)
  rintro _ _ _ ⟨rfl,rfl,rfl⟩
  refine sv (aQ ag) zZ (re ?_)
  revert H; refine aJ ?_ ?_ <;> intro c3 H
  ·
   subst c3
   refine gt zZ zZ (gk (gs (gb ?_)))
   refine jo (fun S => ∃ (m : Nat) (sG : ByteArray) (jc : Int) (Lb : Bool),m ≤ n0 ∧ cG.j0 m sG jc Lb l0 = some r0 ∧ S = ⟨[(0,.slice ay l0.length az),(3,.string sG),(4,.int .i64 jc),(10,.slice ay l0.length az),(11,.bool Lb)],[],[.sl 0 ai ay az l0 0 false]⟩) (fun S hS => ?_) (fun gw => ?_)
   ·
    clear H
    obtain ⟨m4,sG,jc,Lb,lm4,H,rfl⟩ := hS
    rcases m4 with _ | m4
    · rw [cG.j0] at H; cases H
    rw [cG.j0] at H
    refine rg (al ac (al ac (al ac ?_)))
    revert H; refine aU ?_; intro g5 H
    revert H; refine aU ?_; intro g6 H
    refine sv (aM 0 ag g5 g6 zZ) zZ (sv (bg (v := .agg #[.int .i64 ((aa l0 jc).f0),.int .i64 ((aa l0 jc).f1),.int .i64 ((aa l0 jc).f2)]) jc 0 (some 3) 0 cK zZ zZ zZ g5 g6 zZ zZ zZ) zZ ?_)
    revert H; refine aS ?_; rintro t7 A7 H
    refine so zZ (ax (kR.ok m4 ((aa l0 jc).f0) ((aa l0 jc).f1) ((aa l0 jc).f2) _ A7) [] 1 aG ?_)
    rintro _ _ _ ⟨rfl,rfl,rfl⟩
    revert H; refine aU ?_; intro g8 H
    exact sv (fK zZ zZ g8) zZ (au ac (re (aB [0,3,4,10,11] [] [0] ae (ge (rg (al ac (sv (ba ac) zZ (au ac (re (wk [0,3,4] [] [(aw 0)] (cZ _ (by omega) _ ⟨sG ++ t7,wrap64 (jc + 1),H,zZ⟩)))))))))))
   ·
    refine gs (rg (al ac (sv (dV ac) zZ (re (aB [0,3,4,10,11,16] [] [0] ae ?_)))))
    revert H; refine aJ ?_ ?_ <;> intro c9 H
    ·
     refine gt zZ (dT c9) (rg (al ac ?_))
     revert H; refine aU ?_; intro iU H
     exact sv (fK zZ zZ iU) zZ (au ac (re (wk [0,3,4,10,11] [] [(aw 0)] (gw _ ⟨_,kW ++ (⟨#[32]⟩ : ByteArray),lT,true,by omega,H,zZ⟩))))
    ·
     exact gf zZ (dF c9) (gk (wk [0,3,4,10,11] [] [(aw 0)] (gw _ ⟨_,kW,lT,true,by omega,H,zZ⟩)))
  ·
   have xc3 := bF c3; subst xc3
   refine gf zZ zZ (gx zZ (gs (rg (al ac (au ac (re (aB [2] [] [] ae ?_)))))))
   cases H
   exact rt Tryz.func84 zZ (.tmp zZ .nil) zZ [] [] zZ zZ zZ zZ zZ ⟨zZ,zZ,zZ⟩
 ·
  refine ts 9 zZ (dF c1) (sk zZ (sk zZ (sv (aI ag) zZ (re (aB [0,3,4,12] [] [0] ae (gf zZ zZ (gx zZ (gs (rg (al ac (au ac (re ?_))))))))))))
  cases H
  exact rt Tryz.func84 zZ (.tmp zZ .nil) zZ [] [] zZ zZ zZ zZ zZ ⟨zZ,zZ,zZ⟩
mutual
def dv.j0 : Nat → ByteArray → Int → (List aT) → Option (ByteArray)
 | 0,_,_,_ => none
 | k + 1,sG,jc,l0 => if 0 ≤ jc then (if jc < (l0.length : Int) then ((cG.f k ((aC l0 jc).f0)).bind fun t6 => (if sG.size + t6.size ≤ 9223372036854775807 then (dv.l0 k (sG ++ t6) (wrap64 (jc + 1)) l0) else none)) else none) else none
def dv.l0 : Nat → ByteArray → Int → (List aT) → Option (ByteArray)
 | 0,_,_,_ => none
 | k + 1,kW,lT,l0 => if lT < (l0.length : Int) then (if lT > 0 then (if kW.size + (⟨#[124]⟩ : ByteArray).size ≤ 9223372036854775807 then (dv.j0 k (kW ++ (⟨#[124]⟩ : ByteArray)) lT l0) else none) else (dv.j0 k kW lT l0)) else (some kW)
end
def dv.f (k : Nat) (l0 : List aT) : Option (ByteArray) := dv.l0 k (⟨#[]⟩ : ByteArray) 0 l0
theorem dv.ok (k : Nat) (l0 : List aT) (ay : Option Addr) (az : Nat) (r0 : ByteArray) (H : dv.f k l0 = some r0) : Fn Tryz.prog 86 [.slice ay l0.length az] [] [.sl 0 aZ ay az l0 0 false] (fun v bx en => v = .string r0 ∧ bx = [] ∧ en = []) := by
 refine eD 24 Tryz.func86 zZ zZ zZ (fun base T w0 => ?_)
 rw [dv.f] at H
 refine gs (rg (au ac (re (gs (rg (au ac (re (gs (gs (rg (au ac (re (gb ?_)))))))))))))
 refine lo (fun kk S => ∃ (kW : ByteArray) (lT : Int),dv.l0 kk kW lT l0 = some r0 ∧ S = ⟨[(0,.slice ay l0.length az),(3,.string kW),(4,.int .i64 lT)],[],[.sl 0 aZ ay az l0 0 false]⟩) (fun S hS => ?_) (fun n0 cZ S hS => ?_) ⟨(⟨#[]⟩ : ByteArray),0,H,zZ⟩ (fun h => wk [0,3,4] [] [(aw 0)] h)
 · clear H; obtain ⟨_,_,H,_⟩ := hS; rw [dv.l0] at H; cases H
 clear H
 obtain ⟨kW,lT,H,rfl⟩ := hS
 rw [dv.l0] at H
 refine gs (gs (rg (al ac (al ac (sv (bG zZ) zZ (sv (bS ac) zZ (re ?_)))))))
 revert H; refine aJ ?_ ?_ <;> intro c1 H
 ·
  refine gt zZ (dT c1) (gk (gs (gb ?_)))
  refine jo (fun S => ∃ (m : Nat) (sG : ByteArray) (jc : Int),m ≤ n0 ∧ dv.j0 m sG jc l0 = some r0 ∧ S = ⟨[(0,.slice ay l0.length az),(3,.string sG),(4,.int .i64 jc)],[],[.sl 0 aZ ay az l0 0 false]⟩) (fun S hS => ?_) (fun gw => ?_)
  ·
   clear H
   obtain ⟨m2,sG,jc,lm2,H,rfl⟩ := hS
   rcases m2 with _ | m2
   · rw [dv.j0] at H; cases H
   rw [dv.j0] at H
   refine rg (al ac (al ac (al ac ?_)))
   revert H; refine aU ?_; intro g3 H
   revert H; refine aU ?_; intro g4 H
   refine sv (aM 0 ag g3 g4 zZ) zZ (sv (aq 0 zZ) zZ (qt (i := jc) 0 n5 zZ g3 g4 fun oB oA => (sv (ig (v := .slice oB ((aC l0 jc).f0).length oA) 0 none 1 ae) zZ ?_)))
   revert H; refine aS ?_; rintro t6 A6 H
   refine so zZ (ax (cG.ok m2 ((aC l0 jc).f0) oB oA _ A6) [(aw 2)] 1 aG ?_)
   rintro _ _ _ ⟨rfl,rfl,rfl⟩
   revert H; refine aU ?_; intro g7 H
   exact sv (fK zZ zZ g7) zZ (au ac (re (aB [0,3,4] [] [0] ae (ge (rg (al ac (sv (ba ac) zZ (au ac (re (wk [0,3,4] [] [(aw 0)] (cZ _ (by omega) _ ⟨sG ++ t6,wrap64 (jc + 1),H,zZ⟩)))))))))))
  ·
   refine gs (rg (al ac (sv (dV ac) zZ (re ?_))))
   revert H; refine aJ ?_ ?_ <;> intro c8 H
   ·
    refine gt zZ (dT c8) (rg (al ac ?_))
    revert H; refine aU ?_; intro g9 H
    exact sv (fK zZ zZ g9) zZ (au ac (re (aB [0,3,4] [] [0] ae (wk [0,3,4] [] [(aw 0)] (gw _ ⟨_,kW ++ (⟨#[124]⟩ : ByteArray),lT,by omega,H,zZ⟩)))))
   ·
    exact gf zZ (dF c8) (gk (wk [0,3,4] [] [(aw 0)] (gw _ ⟨_,kW,lT,by omega,H,zZ⟩)))
 ·
  refine gf zZ (dF c1) (gx zZ (gs (rg (al ac (au ac (re (aB [2] [] [] ae ?_)))))))
  cases H
  exact rt Tryz.func86 zZ (.tmp zZ .nil) zZ [] [] zZ zZ zZ zZ zZ ⟨zZ,zZ,zZ⟩
def jk.f (k : Nat) (av : List ah) (aF : Int) (aP : List ah) (aW : List ah) (aO : List ah) (aH : List aT) (bD : Int) (bI : Int) (bK : Int) (bE : Int) : Option (ByteArray) := (dx.f k av aF aP aW aO aH bD bI bK bE).bind fun t1 => (if t1 = true then ((cG.f k av).bind fun t3 => (if t3.size + (⟨#[47]⟩ : ByteArray).size ≤ 9223372036854775807 then ((cy.f k aF).bind fun t5 => (if (t3 ++ (⟨#[47]⟩ : ByteArray)).size + t5.size ≤ 9223372036854775807 then (if ((t3 ++ (⟨#[47]⟩ : ByteArray)) ++ t5).size + (⟨#[47]⟩ : ByteArray).size ≤ 9223372036854775807 then ((cG.f k aP).bind fun t8 => (if (((t3 ++ (⟨#[47]⟩ : ByteArray)) ++ t5) ++ (⟨#[47]⟩ : ByteArray)).size + t8.size ≤ 9223372036854775807 then (if ((((t3 ++ (⟨#[47]⟩ : ByteArray)) ++ t5) ++ (⟨#[47]⟩ : ByteArray)) ++ t8).size + (⟨#[47]⟩ : ByteArray).size ≤ 9223372036854775807 then ((cG.f k aW).bind fun wu => (if (((((t3 ++ (⟨#[47]⟩ : ByteArray)) ++ t5) ++ (⟨#[47]⟩ : ByteArray)) ++ t8) ++ (⟨#[47]⟩ : ByteArray)).size + wu.size ≤ 9223372036854775807 then (if ((((((t3 ++ (⟨#[47]⟩ : ByteArray)) ++ t5) ++ (⟨#[47]⟩ : ByteArray)) ++ t8) ++ (⟨#[47]⟩ : ByteArray)) ++ wu).size + (⟨#[47]⟩ : ByteArray).size ≤ 9223372036854775807 then ((cG.f k aO).bind fun qp => (if (((((((t3 ++ (⟨#[47]⟩ : ByteArray)) ++ t5) ++ (⟨#[47]⟩ : ByteArray)) ++ t8) ++ (⟨#[47]⟩ : ByteArray)) ++ wu) ++ (⟨#[47]⟩ : ByteArray)).size + qp.size ≤ 9223372036854775807 then (if ((((((((t3 ++ (⟨#[47]⟩ : ByteArray)) ++ t5) ++ (⟨#[47]⟩ : ByteArray)) ++ t8) ++ (⟨#[47]⟩ : ByteArray)) ++ wu) ++ (⟨#[47]⟩ : ByteArray)) ++ qp).size + (⟨#[47]⟩ : ByteArray).size ≤ 9223372036854775807 then ((dv.f k aH).bind fun Db => (if (((((((((t3 ++ (⟨#[47]⟩ : ByteArray)) ++ t5) ++ (⟨#[47]⟩ : ByteArray)) ++ t8) ++ (⟨#[47]⟩ : ByteArray)) ++ wu) ++ (⟨#[47]⟩ : ByteArray)) ++ qp) ++ (⟨#[47]⟩ : ByteArray)).size + Db.size ≤ 9223372036854775807 then (if ((((((((((t3 ++ (⟨#[47]⟩ : ByteArray)) ++ t5) ++ (⟨#[47]⟩ : ByteArray)) ++ t8) ++ (⟨#[47]⟩ : ByteArray)) ++ wu) ++ (⟨#[47]⟩ : ByteArray)) ++ qp) ++ (⟨#[47]⟩ : ByteArray)) ++ Db).size + (⟨#[47]⟩ : ByteArray).size ≤ 9223372036854775807 then ((cy.f k bD).bind fun Cj => (if (((((((((((t3 ++ (⟨#[47]⟩ : ByteArray)) ++ t5) ++ (⟨#[47]⟩ : ByteArray)) ++ t8) ++ (⟨#[47]⟩ : ByteArray)) ++ wu) ++ (⟨#[47]⟩ : ByteArray)) ++ qp) ++ (⟨#[47]⟩ : ByteArray)) ++ Db) ++ (⟨#[47]⟩ : ByteArray)).size + Cj.size ≤ 9223372036854775807 then (if ((((((((((((t3 ++ (⟨#[47]⟩ : ByteArray)) ++ t5) ++ (⟨#[47]⟩ : ByteArray)) ++ t8) ++ (⟨#[47]⟩ : ByteArray)) ++ wu) ++ (⟨#[47]⟩ : ByteArray)) ++ qp) ++ (⟨#[47]⟩ : ByteArray)) ++ Db) ++ (⟨#[47]⟩ : ByteArray)) ++ Cj).size + (⟨#[47]⟩ : ByteArray).size ≤ 9223372036854775807 then ((cy.f k bI).bind fun JJ => (if (((((((((((((t3 ++ (⟨#[47]⟩ : ByteArray)) ++ t5) ++ (⟨#[47]⟩ : ByteArray)) ++ t8) ++ (⟨#[47]⟩ : ByteArray)) ++ wu) ++ (⟨#[47]⟩ : ByteArray)) ++ qp) ++ (⟨#[47]⟩ : ByteArray)) ++ Db) ++ (⟨#[47]⟩ : ByteArray)) ++ Cj) ++ (⟨#[47]⟩ : ByteArray)).size + JJ.size ≤ 9223372036854775807 then (if ((((((((((((((t3 ++ (⟨#[47]⟩ : ByteArray)) ++ t5) ++ (⟨#[47]⟩ : ByteArray)) ++ t8) ++ (⟨#[47]⟩ : ByteArray)) ++ wu) ++ (⟨#[47]⟩ : ByteArray)) ++ qp) ++ (⟨#[47]⟩ : ByteArray)) ++ Db) ++ (⟨#[47]⟩ : ByteArray)) ++ Cj) ++ (⟨#[47]⟩ : ByteArray)) ++ JJ).size + (⟨#[47]⟩ : ByteArray).size ≤ 9223372036854775807 then ((cy.f k bK).bind fun N4 => (if (((((((((((((((t3 ++ (⟨#[47]⟩ : ByteArray)) ++ t5) ++ (⟨#[47]⟩ : ByteArray)) ++ t8) ++ (⟨#[47]⟩ : ByteArray)) ++ wu) ++ (⟨#[47]⟩ : ByteArray)) ++ qp) ++ (⟨#[47]⟩ : ByteArray)) ++ Db) ++ (⟨#[47]⟩ : ByteArray)) ++ Cj) ++ (⟨#[47]⟩ : ByteArray)) ++ JJ) ++ (⟨#[47]⟩ : ByteArray)).size + N4.size ≤ 9223372036854775807 then (if ((((((((((((((((t3 ++ (⟨#[47]⟩ : ByteArray)) ++ t5) ++ (⟨#[47]⟩ : ByteArray)) ++ t8) ++ (⟨#[47]⟩ : ByteArray)) ++ wu) ++ (⟨#[47]⟩ : ByteArray)) ++ qp) ++ (⟨#[47]⟩ : ByteArray)) ++ Db) ++ (⟨#[47]⟩ : ByteArray)) ++ Cj) ++ (⟨#[47]⟩ : ByteArray)) ++ JJ) ++ (⟨#[47]⟩ : ByteArray)) ++ N4).size + (⟨#[47]⟩ : ByteArray).size ≤ 9223372036854775807 then ((cy.f k bE).bind fun Zj => (if (((((((((((((((((t3 ++ (⟨#[47]⟩ : ByteArray)) ++ t5) ++ (⟨#[47]⟩ : ByteArray)) ++ t8) ++ (⟨#[47]⟩ : ByteArray)) ++ wu) ++ (⟨#[47]⟩ : ByteArray)) ++ qp) ++ (⟨#[47]⟩ : ByteArray)) ++ Db) ++ (⟨#[47]⟩ : ByteArray)) ++ Cj) ++ (⟨#[47]⟩ : ByteArray)) ++ JJ) ++ (⟨#[47]⟩ : ByteArray)) ++ N4) ++ (⟨#[47]⟩ : ByteArray)).size + Zj.size ≤ 9223372036854775807 then (some ((((((((((((((((((t3 ++ (⟨#[47]⟩ : ByteArray)) ++ t5) ++ (⟨#[47]⟩ : ByteArray)) ++ t8) ++ (⟨#[47]⟩ : ByteArray)) ++ wu) ++ (⟨#[47]⟩ : ByteArray)) ++ qp) ++ (⟨#[47]⟩ : ByteArray)) ++ Db) ++ (⟨#[47]⟩ : ByteArray)) ++ Cj) ++ (⟨#[47]⟩ : ByteArray)) ++ JJ) ++ (⟨#[47]⟩ : ByteArray)) ++ N4) ++ (⟨#[47]⟩ : ByteArray)) ++ Zj)) else none)) else none) else none)) else none) else none)) else none) else none)) else none) else none)) else none) else none)) else none) else none)) else none) else none)) else none) else none)) else none)) else (some (⟨#[]⟩ : ByteArray)))
theorem jk.ok (k : Nat) (av : List ah) (aL : Option Addr) (aK : Nat) (aF : Int) (aP : List ah) (bB : Option Addr) (bA : Nat) (aW : List ah) (bm : Option Addr) (bk : Nat) (aO : List ah) (bo : Option Addr) (bn : Nat) (aH : List aT) (bl : Option Addr) (bj : Nat) (bD : Int) (bI : Int) (bK : Int) (bE : Int) (r0 : ByteArray) (H : jk.f k av aF aP aW aO aH bD bI bK bE = some r0) : Fn Tryz.prog 34 [.agg #[.slice aL av.length aK,.int .i64 aF,.slice bB aP.length bA,.slice bm aW.length bk,.slice bo aO.length bn,.slice bl aH.length bj,.int .i64 bD,.int .i64 bI,.int .i64 bK,.int .i64 bE]] [] [.sl 0 ai aL aK av 0 false,.sl 0 ai bB bA aP 0 false,.sl 0 ai bm bk aW 0 false,.sl 0 ai bo bn aO 0 false,.sl 0 aZ bl bj aH 0 false] (fun v bx en => v = .string r0 ∧ bx = [] ∧ en = []) := by
 refine eD 54 Tryz.func34 zZ zZ zZ (fun base T w0 => ?_)
 rw [jk.f] at H
 refine gs (rg (so zZ (gU (cs := [.slice aL av.length aK,.int .i64 aF,.slice bB aP.length bA,.slice bm aW.length bk,.slice bo aO.length bn,.slice bl aH.length bj,.int .i64 bD,.int .i64 bI,.int .i64 bK,.int .i64 bE]) ag fun b1 => (au ac (re (gs (gs (rg (sv (am (v := .agg #[.slice aL av.length aK,.int .i64 aF,.slice bB aP.length bA,.slice bm aW.length bk,.slice bo aO.length bn,.slice bl aH.length bj,.int .i64 bD,.int .i64 bI,.int .i64 bK,.int .i64 bE]) 0 (some 10) ag) zZ ?_)))))))))
 revert H; refine aS ?_; rintro t1 A1 H
 refine so zZ (ax (dx.ok k av aL aK aF aP bB bA aW bm bk aO bo bn aH bl bj bD bI bK bE _ A1) [(aw 0),(aw 1),(aw 2),(aw 3),(aw 4)] 1 aG ?_)
 rintro _ _ _ ⟨rfl,rfl,rfl⟩
 refine sv (eE zZ) zZ (re ?_)
 revert H; refine aJ ?_ ?_ <;> intro c2 H
 ·
  subst c2
  refine gf zZ zZ (gk (gs (fj [0] [0,1,2,3,4] [] 49 ae (xv 0 [0] [0,1,2,3,4] zZ (aq 0 zZ) kK kK kK kK (xv 1 [0] [0,1,2,3,4] zZ (am 0 none ag) kK kK kK kK (xv 4 [0] [0,1,2,3,4] zZ (aq 1 zZ) kK kK kK kK (xv 5 [0] [0,1,2,3,4] zZ (am 0 none ag) kK kK kK kK (xv 9 [0] [0,1,2,3,4] zZ (aq 2 zZ) kK kK kK kK (xv 10 [0] [0,1,2,3,4] zZ (am 0 none ag) kK kK kK kK (xv 14 [0] [0,1,2,3,4] zZ (aq 3 zZ) kK kK kK kK (xv 15 [0] [0,1,2,3,4] zZ (am 0 none ag) kK kK kK kK (xv 19 [0] [0,1,2,3,4] zZ (aq 4 zZ) kK kK kK kK (xv 20 [0] [0,1,2,3,4] zZ (am 0 none ag) kK kK kK kK (xv 24 [0] [0,1,2,3,4] zZ (aq 5 zZ) kK kK kK kK (xv 25 [0] [0,1,2,3,4] zZ (am 0 none ag) kK kK kK kK (xv 29 [0] [0,1,2,3,4] zZ (aq 6 zZ) kK kK kK kK (xv 30 [0] [0,1,2,3,4] zZ (am 0 none ag) kK kK kK kK (xv 34 [0] [0,1,2,3,4] zZ (aq 7 zZ) kK kK kK kK (xv 35 [0] [0,1,2,3,4] zZ (am 0 none ag) kK kK kK kK (xv 39 [0] [0,1,2,3,4] zZ (aq 8 zZ) kK kK kK kK (xv 40 [0] [0,1,2,3,4] zZ (am 0 none ag) kK kK kK kK (xv 44 [0] [0,1,2,3,4] zZ (aq 9 zZ) kK kK kK kK (xv 45 [0] [0,1,2,3,4] zZ (am 0 none ag) kK kK kK kK (ar 2 ac ?_))))))))))))))))))))))))
  revert H; refine aS ?_; rintro t3 A3 H
  refine ax (cG.ok k av aL aK _ A3) [(aw 0)] 1 aG ?_
  rintro _ _ _ ⟨rfl,rfl,rfl⟩
  refine aN [0] [0,1,2,3,4] ag ?_
  revert H; refine aU ?_; intro g4 H
  refine xv 3 [0] [0,1,2,3,4] zZ (fK zZ zZ g4) kK kK kK kK (ar 6 ac ?_)
  revert H; refine aS ?_; rintro t5 A5 H
  refine ax (cy.ok k aF _ A5) [] 1 aG ?_
  rintro _ _ _ ⟨rfl,rfl,rfl⟩
  refine aN [0] [0,1,2,3,4] ag ?_
  revert H; refine aU ?_; intro g6 H
  refine xv 7 [0] [0,1,2,3,4] zZ (fK zZ zZ g6) kK kK kK kK ?_
  revert H; refine aU ?_; intro g7 H
  refine xv 8 [0] [0,1,2,3,4] zZ (fK zZ zZ g7) kK kK kK kK (ar 11 ac ?_)
  revert H; refine aS ?_; rintro t8 A8 H
  refine ax (cG.ok k aP bB bA _ A8) [(aw 1)] 1 aG ?_
  rintro _ _ _ ⟨rfl,rfl,rfl⟩
  refine aN [0] [0,1,2,3,4] ag ?_
  revert H; refine aU ?_; intro g9 H
  refine xv 12 [0] [0,1,2,3,4] zZ (fK zZ zZ g9) kK kK kK kK ?_
  revert H; refine aU ?_; intro iU H
  refine xv 13 [0] [0,1,2,3,4] zZ (fK zZ zZ iU) kK kK kK kK (ar 16 ac ?_)
  revert H; refine aS ?_; rintro wu Ad H
  refine ax (cG.ok k aW bm bk _ Ad) [(aw 2)] 1 aG ?_
  rintro _ _ _ ⟨rfl,rfl,rfl⟩
  refine aN [0] [0,1,2,3,4] ag ?_
  revert H; refine aU ?_; intro ju H
  refine xv 17 [0] [0,1,2,3,4] zZ (fK zZ zZ ju) kK kK kK kK ?_
  revert H; refine aU ?_; intro jQ H
  refine xv 18 [0] [0,1,2,3,4] zZ (fK zZ zZ jQ) kK kK kK kK (ar 21 ac ?_)
  revert H; refine aS ?_; rintro qp sA H
  refine ax (cG.ok k aO bo bn _ sA) [(aw 3)] 1 aG ?_
  rintro _ _ _ ⟨rfl,rfl,rfl⟩
  refine aN [0] [0,1,2,3,4] ag ?_
  revert H; refine aU ?_; intro D8 H
  refine xv 22 [0] [0,1,2,3,4] zZ (fK zZ zZ D8) kK kK kK kK ?_
  revert H; refine aU ?_; intro wv H
  refine xv 23 [0] [0,1,2,3,4] zZ (fK zZ zZ wv) kK kK kK kK (ar 26 ac ?_)
  revert H; refine aS ?_; rintro Db AH H
  refine ax (dv.ok k aH bl bj _ AH) [(aw 4)] 1 aG ?_
  rintro _ _ _ ⟨rfl,rfl,rfl⟩
  refine aN [0] [0,1,2,3,4] ag ?_
  revert H; refine aU ?_; intro AE H
  refine xv 27 [0] [0,1,2,3,4] zZ (fK zZ zZ AE) kK kK kK kK ?_
  revert H; refine aU ?_; intro tN H
  refine xv 28 [0] [0,1,2,3,4] zZ (fK zZ zZ tN) kK kK kK kK (ar 31 ac ?_)
  revert H; refine aS ?_; rintro Cj AG H
  refine ax (cy.ok k bD _ AG) [] 1 aG ?_
  rintro _ _ _ ⟨rfl,rfl,rfl⟩
  refine aN [0] [0,1,2,3,4] ag ?_
  revert H; refine aU ?_; intro xm H
  refine xv 32 [0] [0,1,2,3,4] zZ (fK zZ zZ xm) kK kK kK kK ?_
  revert H; refine aU ?_; intro qy H
  refine xv 33 [0] [0,1,2,3,4] zZ (fK zZ zZ qy) kK kK kK kK (ar 36 ac ?_)
  revert H; refine aS ?_; rintro JJ Do H
  refine ax (cy.ok k bI _ Do) [] 1 aG ?_
  rintro _ _ _ ⟨rfl,rfl,rfl⟩
  refine aN [0] [0,1,2,3,4] ag ?_
  revert H; refine aU ?_; intro GV H
  refine xv 37 [0] [0,1,2,3,4] zZ (fK zZ zZ GV) kK kK kK kK ?_
  revert H; refine aU ?_; intro RI H
  refine xv 38 [0] [0,1,2,3,4] zZ (fK zZ zZ RI) kK kK kK kK (ar 41 ac ?_)
  revert H; refine aS ?_; rintro N4 FE H
  refine ax (cy.ok k bK _ FE) [] 1 aG ?_
  rintro _ _ _ ⟨rfl,rfl,rfl⟩
  refine aN [0] [0,1,2,3,4] ag ?_
  revert H; refine aU ?_; intro PV H
  refine xv 42 [0] [0,1,2,3,4] zZ (fK zZ zZ PV) kK kK kK kK ?_
  revert H; refine aU ?_; intro Z2 H
  refine xv 43 [0] [0,1,2,3,4] zZ (fK zZ zZ Z2) kK kK kK kK (ar 46 ac ?_)
  revert H; refine aS ?_; rintro Zj R7 H
  refine ax (cy.ok k bE _ R7) [] 1 aG ?_
  rintro _ _ _ ⟨rfl,rfl,rfl⟩
  refine aN [0] [0,1,2,3,4] ag ?_
  revert H; refine aU ?_; intro xl H
  refine xv 47 [0] [0,1,2,3,4] zZ (fK zZ zZ xl) kK kK kK kK (xv 48 [0] [0,1,2,3,4] zZ (gE zZ) kK kK kK kK (xd (aB [2] [] [] ae ?_)))
  cases H
  exact rt Tryz.func34 zZ (.tmp zZ .nil) zZ [] [] zZ zZ zZ zZ zZ ⟨zZ,zZ,zZ⟩
 ·
  have xc2 := bF c2; subst xc2
  refine gt zZ zZ (gs (rg (au ac (re ?_))))
  cases H
  exact rt Tryz.func34 zZ (.tmp zZ .nil) zZ [] [] zZ zZ zZ zZ zZ ⟨zZ,zZ,zZ⟩
mutual
def dU.j1 : Nat → (List Int) → Int → Int → Int → Int → Int → (List Int) → Option (ByteArray × Int × Int)
 | 0,_,_,_,_,_,_,_ => none
 | k + 1,AK,Il,Ik,AJ,uN,uM,av => if AK.length < 140737488355328 then (dU.l0 k (AK ++ ([IntKind.u8.wrap AJ] : List Int)) Il (wrap64 (Ik - 1)) uN uM av) else none
def dU.j0 : Nat → (List Int) → Int → Int → Int → Int → Int → (List Int) → Option (ByteArray × Int × Int)
 | 0,_,_,_,_,_,_,_ => none
 | k + 1,AM,AL,C6,C5,pU,pT,av => if AL = 2 then (dU.j1 k AM AL C6 (wrap64 (97 + (Int.tmod C5 4))) pU pT av) else (dU.j1 k AM AL C6 C5 pU pT av)
def dU.l0 : Nat → (List Int) → Int → Int → Int → Int → (List Int) → Option (ByteArray × Int × Int)
 | 0,_,_,_,_,_,_ => none
 | k + 1,og,AN,pW,sI,sH,av => if pW > 0 then ((gI.f av sI sH).bind fun hY => (if AN = 1 then (dU.j0 k og AN pW (Int.tmod hY.1 2) hY.2.1 hY.2.2 av) else (dU.j0 k og AN pW hY.1 hY.2.1 hY.2.2 av))) else (some (strOfNums og,sI,sH))
end
def dU.f (k : Nat) (av : List Int) (aF : Int) (cw : Int) (a1 : Int) : Option (ByteArray × Int × Int) := (cP.f av aF cw 4).bind fun gr => ((cP.f av gr.2.1 gr.2.2 (wrap64 (a1 + 1))).bind fun dm => (dU.l0 k [] gr.1 dm.1 dm.2.1 dm.2.2 av))
theorem dU.ok (k : Nat) (dh : Nat) (av : List Int) (aL : Option Addr) (aK : Nat) (aF : Int) (cw : Int) (a1 : Int) (r0 : ByteArray) (r1 : Int) (r2 : Int) (H : dU.f k av aF cw a1 = some (r0,r1,r2)) : Fn Tryz.prog 87 [.pointer (some ⟨dh,0,none⟩),.int .i64 a1] [⟨dh,92,[.slice aL av.length aK,.int .i64 aF,.int .i64 cw]⟩] [.sl 0 (.int .u8) aL aK av 0 false] (fun v bx en => v = .string r0 ∧ bx = [⟨dh,92,[.slice aL av.length aK,.int .i64 r1,.int .i64 r2]⟩] ∧ en = []) := by
 refine eD 38 Tryz.func87 zZ zZ zZ (fun base T w0 => ?_)
 rw [dU.f] at H
 refine gs (rg (au ac (re (gs (rg (so zZ (bH (s := 1) (by_ := 1) (.int .u8) ([] : List Int) [] [] 1 [] dp dq zZ fun Q3 Qr => (au ac (re (gs (rg (al ac ?_))))))))))))
 revert H; refine aS ?_; rintro ⟨oQ,uw,pq⟩ A2 H
 refine so zZ (bb (cP.ok dh av aL aK aF cw 4 _ _ _ A2) [(aw 0)] [0] [] 2 ep ?_)
 rintro _ _ _ ⟨rfl,rfl,rfl⟩
 refine bR (en := [.sl 0 (.int .u8) aL aK av 0 false,.sl 2 (.int .u8) Q3 Qr [] 1 true]) kK (au ac (re (gs (gs (rg (al ac (al ac (sv (ba ac) zZ ?_))))))))
 revert H; refine aS ?_; rintro ⟨mo,mn,lU⟩ A3 H
 refine so zZ (bb (cP.ok dh av aL aK uw pq (wrap64 (a1 + 1)) _ _ _ A3) [(aw 0)] [0] [] 2 ep ?_)
 rintro _ _ _ ⟨rfl,rfl,rfl⟩
 refine bR (en := [.sl 0 (.int .u8) aL aK av 0 false,.sl 2 (.int .u8) Q3 Qr [] 1 true]) kK (au ac (re (aB [0,5,6,7] [0] [0,1] ae (gb ?_))))
 refine lo (fun kk S => ∃ (og : List Int) (FD : Option Addr) (EO : Nat) (AN : Int) (pW : Int) (sI : Int) (sH : Int),dU.l0 kk og AN pW sI sH av = some (r0,r1,r2) ∧ S = ⟨[(0,.pointer (some ⟨dh,0,none⟩)),(5,.slice FD og.length EO),(6,.int .i64 AN),(7,.int .i64 pW)],[⟨dh,92,[.slice aL av.length aK,.int .i64 sI,.int .i64 sH]⟩],[.sl 2 (.int .u8) FD EO og 1 true,.sl 0 (.int .u8) aL aK av 0 false]⟩) (fun S hS => ?_) (fun n0 cZ S hS => ?_) ⟨[],Q3,Qr,oQ,mo,mn,lU,H,zZ⟩ (fun h => wk [0,5,6,7] [0] [(aj 1 2 1),(aw 0)] h)
 · clear H; obtain ⟨_,_,_,_,_,_,_,H,_⟩ := hS; rw [dU.l0] at H; cases H
 clear H
 obtain ⟨og,FD,EO,AN,pW,sI,sH,H,rfl⟩ := hS
 rw [dU.l0] at H
 refine gs (gs (rg (al ac (sv (dV ac) zZ (re ?_)))))
 revert H; refine aJ ?_ ?_ <;> intro c4 H
 ·
  refine gt zZ (dT c4) (gk (gs (gb (gs (rg (al ac ?_))))))
  revert H; refine aS ?_; rintro ⟨Ag,yd,yc⟩ A5 H
  refine so zZ (bb (gI.ok dh av aL aK sI sH _ _ _ A5) [(aw 1)] [0] [] 2 ep ?_)
  rintro _ _ _ ⟨rfl,rfl,rfl⟩
  refine bR (en := [.sl 2 (.int .u8) FD EO og 1 true,.sl 0 (.int .u8) aL aK av 0 false]) kK (au ac (re ?_))
  refine jo (fun S => ∃ (m : Nat) (AM : List Int) (H9 : Option Addr) (HT : Nat) (AL : Int) (C6 : Int) (C5 : Int) (pU : Int) (pT : Int),m ≤ n0 ∧ dU.j0 m AM AL C6 C5 pU pT av = some (r0,r1,r2) ∧ S = ⟨[(0,.pointer (some ⟨dh,0,none⟩)),(5,.slice H9 AM.length HT),(6,.int .i64 AL),(7,.int .i64 C6),(8,.int .i64 C5)],[⟨dh,92,[.slice aL av.length aK,.int .i64 pU,.int .i64 pT]⟩],[.sl 2 (.int .u8) H9 HT AM 1 true,.sl 0 (.int .u8) aL aK av 0 false]⟩) (fun S hS => ?_) (fun gw => ?_)
  ·
   clear H
   obtain ⟨m6,AM,H9,HT,AL,C6,C5,pU,pT,lm6,H,rfl⟩ := hS
   rcases m6 with _ | m6
   · rw [dU.j0] at H; cases H
   rw [dU.j0] at H
   refine jo (fun S => ∃ (m : Nat) (AK : List Int) (QK : Option Addr) (P7 : Nat) (Il : Int) (Ik : Int) (AJ : Int) (uN : Int) (uM : Int),m ≤ m6 ∧ dU.j1 m AK Il Ik AJ uN uM av = some (r0,r1,r2) ∧ S = ⟨[(0,.pointer (some ⟨dh,0,none⟩)),(5,.slice QK AK.length P7),(6,.int .i64 Il),(7,.int .i64 Ik),(8,.int .i64 AJ)],[⟨dh,92,[.slice aL av.length aK,.int .i64 uN,.int .i64 uM]⟩],[.sl 2 (.int .u8) QK P7 AK 1 true,.sl 0 (.int .u8) aL aK av 0 false]⟩) (fun S hS => ?_) (fun xj => ?_)
   ·
    clear H
    obtain ⟨m7,AK,QK,P7,Il,Ik,AJ,uN,uM,lm7,H,rfl⟩ := hS
    rcases m7 with _ | m7
    · rw [dU.j1] at H; cases H
    rw [dU.j1] at H
    refine rg (al ac (al ac (sv (mJ (k' := .u8) zZ) zZ (so zZ (bH (s := 1) (by_ := 1) (.int .u8) ([IntKind.u8.wrap AJ] : List Int) [[]] [] 2 [.tmp 33] dp dq zZ fun adU ady => ?_)))))
    revert H; refine aU ?_; intro g9 H
    exact so zZ (di (k := (.int .u8)) (s := 1) (by_ := 1) 0 2 ae (km g9 dq) (iz g9 dq) (.inl zZ) true (fun _ => .inl zZ) ac fun Wn Vu => (bR (en := [.sl 0 (.int .u8) aL aK av 0 false,.sl 2 (.int .u8) adU ady ([IntKind.u8.wrap AJ] : List Int) 2 true,.sl 2 (.int .u8) Wn Vu (AK ++ ([IntKind.u8.wrap AJ] : List Int)) 1 true]) kK (au ac (re (aB [0,5,6,7] [0] [0,2] ae (ge (rg (al ac (sv (co ac) zZ (au ac (re (wk [0,5,6,7] [0] [(aj 1 2 1),(aw 0)] (cZ _ (by omega) _ ⟨AK ++ ([IntKind.u8.wrap AJ] : List Int),Wn,Vu,Il,wrap64 (Ik - 1),uN,uM,H,zZ⟩)))))))))))))
   ·
    refine gs (rg (al ac (sv (bZ ac) zZ (re ?_))))
    revert H; refine aJ ?_ ?_ <;> intro qR H
    ·
     exact gt zZ (dT qR) (rg (al ac (sv (EZ zZ zZ dq) zZ (sv (ba ac) zZ (au ac (re (wk [0,5,6,7,8] [0] [(aj 0 2 1),(aw 1)] (xj _ ⟨_,AM,H9,HT,AL,C6,wrap64 (97 + (Int.tmod C5 4)),pU,pT,by omega,H,zZ⟩))))))))
    ·
     exact gf zZ (dF qR) (gk (wk [0,5,6,7,8] [0] [(aj 0 2 1),(aw 1)] (xj _ ⟨_,AM,H9,HT,AL,C6,C5,pU,pT,by omega,H,zZ⟩)))
  ·
   refine gs (rg (al ac (sv (bZ ac) zZ (re ?_))))
   revert H; refine aJ ?_ ?_ <;> intro Aa H
   ·
    exact gt zZ (dT Aa) (rg (al ac (sv (EZ zZ zZ dq) zZ (au ac (re (aB [0,5,6,7,8] [0] [0,1] ae (wk [0,5,6,7,8] [0] [(aj 0 2 1),(aw 1)] (gw _ ⟨_,og,FD,EO,AN,pW,Int.tmod Ag 2,yd,yc,by omega,H,zZ⟩))))))))
   ·
    exact gf zZ (dF Aa) (gk (wk [0,5,6,7,8] [0] [(aj 0 2 1),(aw 1)] (gw _ ⟨_,og,FD,EO,AN,pW,Ag,yd,yc,by omega,H,zZ⟩)))
 ·
  refine gf zZ (dF c4) (gx zZ (gs (rg (al ac (sv (Dn 0 zZ zZ) zZ (au ac (re (aB [4] [0] [1] ae ?_))))))))
  cases H
  exact rt Tryz.func87 zZ (.tmp zZ .nil) zZ [0] [] zZ zZ zZ zZ zZ ⟨zZ,zZ,zZ⟩
def kC.f (k : Nat) (av : List Int) (aF : Int) (cw : Int) (a1 : ByteArray) : Option (ByteArray × Int × Int) := if (a1.size : Int) = 0 then ((dU.f k av aF cw 3).bind fun gr => (some (gr.1,gr.2.1,gr.2.2))) else ((cP.f av aF cw (a1.size : Int)).bind fun dm => ((cP.f av dm.2.1 dm.2.2 4).bind fun nD => (if nD.1 = 0 then (if 0 ≤ dm.1 then (if dm.1 ≤ (a1.size : Int) then (if 0 ≤ (wrap64 (dm.1 + 1)) then (if (wrap64 (dm.1 + 1)) ≤ (a1.size : Int) then (if (a1.extract 0 dm.1.toNat).size + (a1.extract (wrap64 (dm.1 + 1)).toNat a1.size).size ≤ 9223372036854775807 then (some ((a1.extract 0 dm.1.toNat) ++ (a1.extract (wrap64 (dm.1 + 1)).toNat a1.size),nD.2.1,nD.2.2)) else none) else none) else none) else none) else none) else (if nD.1 = 1 then (if 0 ≤ dm.1 then (if dm.1 ≤ (a1.size : Int) then ((gI.f av nD.2.1 nD.2.2).bind fun rv => (if (a1.extract 0 dm.1.toNat).size + (strOfNums ([IntKind.u8.wrap rv.1] : List Int)).size ≤ 9223372036854775807 then (if ((a1.extract 0 dm.1.toNat) ++ (strOfNums ([IntKind.u8.wrap rv.1] : List Int))).size + (a1.extract dm.1.toNat a1.size).size ≤ 9223372036854775807 then (some (((a1.extract 0 dm.1.toNat) ++ (strOfNums ([IntKind.u8.wrap rv.1] : List Int))) ++ (a1.extract dm.1.toNat a1.size),rv.2.1,rv.2.2)) else none) else none)) else none) else none) else (if nD.1 = 2 then (if 0 ≤ dm.1 then (if dm.1 ≤ (a1.size : Int) then (some (a1.extract 0 dm.1.toNat,nD.2.1,nD.2.2)) else none) else none) else (if 0 ≤ dm.1 then (if dm.1 ≤ (a1.size : Int) then (if dm.1 < (a1.size : Int) then (if 0 ≤ (wrap64 (dm.1 + 1)) then (if (wrap64 (dm.1 + 1)) ≤ (a1.size : Int) then ((cP.f av nD.2.1 nD.2.2 255).bind fun wh => (if (a1.extract 0 dm.1.toNat).size + (strOfNums ([IntKind.u8.wrap (xorI (IntKind.i64.wrap (bt a1 dm.1)) (wrap64 (1 + wh.1)))] : List Int)).size ≤ 9223372036854775807 then (if ((a1.extract 0 dm.1.toNat) ++ (strOfNums ([IntKind.u8.wrap (xorI (IntKind.i64.wrap (bt a1 dm.1)) (wrap64 (1 + wh.1)))] : List Int))).size + (a1.extract (wrap64 (dm.1 + 1)).toNat a1.size).size ≤ 9223372036854775807 then (some (((a1.extract 0 dm.1.toNat) ++ (strOfNums ([IntKind.u8.wrap (xorI (IntKind.i64.wrap (bt a1 dm.1)) (wrap64 (1 + wh.1)))] : List Int))) ++ (a1.extract (wrap64 (dm.1 + 1)).toNat a1.size),wh.2.1,wh.2.2)) else none) else none)) else none) else none) else none) else none) else none))))))
theorem kC.ok (k : Nat) (dh : Nat) (av : List Int) (aL : Option Addr) (aK : Nat) (aF : Int) (cw : Int) (a1 : ByteArray) (r0 : ByteArray) (r1 : Int) (r2 : Int) (H : kC.f k av aF cw a1 = some (r0,r1,r2)) : Fn Tryz.prog 37 [.pointer (some ⟨dh,0,none⟩),.string a1] [⟨dh,92,[.slice aL av.length aK,.int .i64 aF,.int .i64 cw]⟩] [.sl 0 (.int .u8) aL aK av 0 false] (fun v bx en => v = .string r0 ∧ bx = [⟨dh,92,[.slice aL av.length aK,.int .i64 r1,.int .i64 r2]⟩] ∧ en = []) := by
 refine eD 67 Tryz.func37 zZ zZ zZ (fun base T w0 => ?_)
 rw [kC.f] at H
 refine gs (rg (au ac (re (gs (gs (rg (al ac (sv (sf zZ) zZ (sv (bZ ac) zZ (re ?_))))))))))
 revert H; refine aJ ?_ ?_ <;> intro c1 H
 ·
  refine gt zZ (dT c1) (gs (rg (al ac ?_)))
  revert H; refine aS ?_; rintro ⟨oQ,uw,pq⟩ A2 H
  refine so zZ (bb (dU.ok k dh av aL aK aF cw 3 _ _ _ A2) [(aw 0)] [0] [] 1 ep ?_)
  rintro _ _ _ ⟨rfl,rfl,rfl⟩
  refine bR (en := [.sl 0 (.int .u8) aL aK av 0 false]) kK (au ac (re (aB [4] [0] [0] ae ?_)))
  cases H
  exact rt Tryz.func37 zZ (.tmp zZ .nil) zZ [0] [] zZ zZ zZ zZ zZ ⟨zZ,zZ,zZ⟩
 ·
  refine gf zZ (dF c1) (gk (gs (rg (al ac (al ac (sv (sf zZ) zZ ?_))))))
  revert H; refine aS ?_; rintro ⟨mo,mn,lU⟩ A3 H
  refine so zZ (bb (cP.ok dh av aL aK aF cw (a1.size : Int) _ _ _ A3) [(aw 0)] [0] [] 1 ep ?_)
  rintro _ _ _ ⟨rfl,rfl,rfl⟩
  refine bR (en := [.sl 0 (.int .u8) aL aK av 0 false]) kK (au ac (re (aB [0,1,5] [0] [0] ae (gs (gs (rg (al ac ?_)))))))
  revert H; refine aS ?_; rintro ⟨k8,Ci,HB⟩ A4 H
  refine so zZ (bb (cP.ok dh av aL aK mn lU 4 _ _ _ A4) [(aw 0)] [0] [] 1 ep ?_)
  rintro _ _ _ ⟨rfl,rfl,rfl⟩
  refine bR (en := [.sl 0 (.int .u8) aL aK av 0 false]) kK (re (gb (gs (rg (sv (bZ ac) zZ (au ac (re ?_)))))))
  revert H; refine aJ ?_ ?_ <;> intro c5 H
  ·
   refine gt zZ (dT c5) (gs ?_)
   revert H; refine aU ?_; intro g6 H
   revert H; refine aU ?_; intro g7 H
   revert H; refine aU ?_; intro g8 H
   revert H; refine aU ?_; intro g9 H
   revert H; refine aU ?_; intro iU H
   refine fj [0] [0] [] 9 ae (ap 0 [0] [0] zZ (aA zZ) ae (ap 1 [0] [0] zZ (aA zZ) ae (ap 2 [0] [0] zZ (Mn zZ zZ g6 g7) ae (ap 3 [0] [0] zZ (aA zZ) ae (ap 4 [0] [0] zZ (aA zZ) ae (ap 5 [0] [0] zZ (ba ac) ae (ap 6 [0] [0] zZ (EY zZ zZ g8 g9) ae (ap 7 [0] [0] zZ (fK zZ zZ iU) ae (ap 8 [0] [0] zZ (gE zZ) ae (xd (aB [4] [0] [0] ae ?_)))))))))))
   cases H
   exact rt Tryz.func37 zZ (.tmp zZ .nil) zZ [0] [] zZ zZ zZ zZ zZ ⟨zZ,zZ,zZ⟩
  ·
   refine gf zZ (dF c5) (gs (rg (sv (bZ ac) zZ (au ac (re ?_)))))
   revert H; refine aJ ?_ ?_ <;> intro qR H
   ·
    refine gt zZ (dT qR) (gs ?_)
    revert H; refine aU ?_; intro ju H
    revert H; refine aU ?_; intro jQ H
    refine fj [] [0] [13] 14 ae (ap 0 [] [0] zZ (aA zZ) ae (ap 1 [] [0] zZ (aA zZ) ae (ap 2 [] [0] zZ (Mn zZ zZ ju jQ) ae (ap 3 [] [0] zZ (aA zZ) ae (ap 9 [] [0] zZ (aA zZ) ae (ap 10 [] [0] zZ (aA zZ) ae (ap 11 [] [0] zZ (EY zZ zZ ju jQ) ae (ar 4 ac ?_))))))))
    revert H; refine aS ?_; rintro ⟨nw,SN,SM⟩ sA H
    refine bb (gI.ok dh av aL aK Ci HB _ _ _ sA) [(aw 0)] [0] [] 1 ep ?_
    rintro _ _ _ ⟨rfl,rfl,rfl⟩
    refine bR (en := [.sl 0 (.int .u8) aL aK av 0 false]) kK (aN [] [0] ag (ar 5 ac (ov (mJ (k' := .u8) zZ) zZ (aN [] [0] ag (ar 6 ac (bH (s := 1) (by_ := 1) (.int .u8) ([IntKind.u8.wrap nw] : List Int) [[]] [] 1 [.tmp 34] dp dq zZ fun ag5 agz => (aN [] [0] ag (ar 7 ac (ov (Dn 1 zZ zZ) zZ (aN [] [0] ag (ar 8 ac ?_)))))))))))
    revert H; refine aU ?_; intro wv H
    refine ov (fK zZ zZ wv) zZ (aN [] [0] ag (ar 12 ac ?_))
    revert H; refine aU ?_; intro JS H
    refine ov (fK zZ zZ JS) zZ (aN [] [0] ag (ar 13 ac (ov (gE zZ) zZ (xn zZ (xd (aB [4] [0] [0] ae ?_))))))
    cases H
    exact rt Tryz.func37 zZ (.tmp zZ .nil) zZ [0] [] zZ zZ zZ zZ zZ ⟨zZ,zZ,zZ⟩
   ·
    refine gf zZ (dF qR) (gs (rg (sv (bZ ac) zZ (au ac (re (aB [0,1,5,42] [0] [0] ae ?_))))))
    revert H; refine aJ ?_ ?_ <;> intro ES H
    ·
     refine gt zZ (dT ES) (gs (rg (al ac (al ac ?_))))
     revert H; refine aU ?_; intro tN H
     revert H; refine aU ?_; intro PX H
     refine sv (Mn zZ zZ tN PX) zZ (au ac (re (aB [4] [0] [0] ae ?_)))
     cases H
     exact rt Tryz.func37 zZ (.tmp zZ .nil) zZ [0] [] zZ zZ zZ zZ zZ ⟨zZ,zZ,zZ⟩
    ·
     refine gf zZ (dF ES) (gk (ge (gs ?_)))
     revert H; refine aU ?_; intro xm H
     revert H; refine aU ?_; intro qy H
     revert H; refine aU ?_; intro PW H
     revert H; refine aU ?_; intro GV H
     revert H; refine aU ?_; intro RI H
     refine fj [] [0] [20] 21 ae (ap 0 [] [0] zZ (aA zZ) ae (ap 1 [] [0] zZ (aA zZ) ae (ap 2 [] [0] zZ (Mn zZ zZ xm qy) ae (ap 3 [] [0] zZ (aA zZ) ae (ap 4 [] [0] zZ (aA zZ) ae (ap 5 [] [0] zZ (xB zZ zZ xm PW) ae (ap 6 [] [0] zZ (mJ (k' := .i64) zZ) ae (ap 7 [] [0] zZ (aA zZ) ae (ap 15 [] [0] zZ (aA zZ) ae (ap 16 [] [0] zZ (aA zZ) ae (ap 17 [] [0] zZ (ba ac) ae (ap 18 [] [0] zZ (EY zZ zZ GV RI) ae (ar 8 ac ?_)))))))))))))
     revert H; refine aS ?_; rintro ⟨IC,Xn,IB⟩ FE H
     refine bb (cP.ok dh av aL aK Ci HB 255 _ _ _ FE) [(aw 0)] [0] [] 1 ep ?_
     rintro _ _ _ ⟨rfl,rfl,rfl⟩
     refine bR (en := [.sl 0 (.int .u8) aL aK av 0 false]) kK (aN [] [0] ag (ar 9 ac (ov (ba ac) zZ (aN [] [0] ag (ar 10 ac (ov (RV zZ zZ) zZ (aN [] [0] ag (ar 11 ac (ov (mJ (k' := .u8) zZ) zZ (aN [] [0] ag (ar 12 ac (bH (s := 1) (by_ := 1) (.int .u8) ([IntKind.u8.wrap (xorI (IntKind.i64.wrap (bt a1 mo)) (wrap64 (1 + IC)))] : List Int) [[]] [] 1 [.tmp 58] dp dq zZ fun ag0 agx => (aN [] [0] ag (ar 13 ac (ov (Dn 1 zZ zZ) zZ (aN [] [0] ag (ar 14 ac ?_)))))))))))))))))
     revert H; refine aU ?_; intro Z2 H
     refine ov (fK zZ zZ Z2) zZ (aN [] [0] ag (ar 19 ac ?_))
     revert H; refine aU ?_; intro JR H
     refine ov (fK zZ zZ JR) zZ (aN [] [0] ag (ar 20 ac (ov (gE zZ) zZ (xn zZ (xd (aB [4] [0] [0] ae ?_))))))
     cases H
     exact rt Tryz.func37 zZ (.tmp zZ .nil) zZ [0] [] zZ zZ zZ zZ zZ ⟨zZ,zZ,zZ⟩
def jT.f (k : Nat) (l0 : List Int) : Option (ByteArray) := (eL.f k l0).bind fun aE => ((et.f k l0 aE.1 aE.2).bind fun gr => ((jk.f k gr.1 gr.2.1 gr.2.2.1 gr.2.2.2.1 gr.2.2.2.2.1 gr.2.2.2.2.2.1 gr.2.2.2.2.2.2.1 gr.2.2.2.2.2.2.2.1 gr.2.2.2.2.2.2.2.2.1 gr.2.2.2.2.2.2.2.2.2.1).bind fun t3 => ((mI.f l0 gr.2.2.2.2.2.2.2.2.2.2.1 gr.2.2.2.2.2.2.2.2.2.2.2 3).bind fun nD => (if nD.1 = true then ((kC.f k l0 nD.2.1 nD.2.2 t3).bind fun sD => ((mH.f l0 sD.2.1 sD.2.2 ([(⟨#[]⟩ : ByteArray),(⟨#[47,48,47,47,47,47,47,47,47,49,47,48]⟩ : ByteArray),(⟨#[47,48,47,47,47,47,47,48,47,48,47,49,47,48]⟩ : ByteArray),(⟨#[47,48,47,47,47,47,47,48,47,48,47,52,47,48]⟩ : ByteArray),sD.1] : List ByteArray)).bind fun vq => (some vq.1))) else (some t3)))))
theorem jT.ok (k : Nat) (l0 : List Int) (ay : Option Addr) (az : Nat) (r0 : ByteArray) (H : jT.f k l0 = some r0) : Fn Tryz.prog 8 [.slice ay l0.length az] [] [.sl 0 (.int .u8) ay az l0 0 false] (fun v bx en => v = .string r0 ∧ bx = [] ∧ en = []) := by
 refine eD 19 Tryz.func8 zZ zZ zZ (fun base T w0 => ?_)
 rw [jT.f] at H
 refine gs (rg (au ac (re (gs (rg (al ac ?_))))))
 revert H; refine aS ?_; rintro ⟨bC,bX⟩ A1 H
 refine so zZ (bb (eL.ok k l0 ay az _ _ A1) [(aw 0)] [] [] 1 ep ?_)
 rintro _ _ _ ⟨vV,rfl,rfl,rfl⟩
 refine bR (en := [.sl 0 (.int .u8) ay az l0 0 false]) kK (au ac (re (gs (rg (al ac ?_)))))
 revert H; refine aS ?_; rintro ⟨oQ,uw,pq,uv,uu,ut,Ak,Aj,Ai,Ah,Lh,O2⟩ A2 H
 refine so zZ (bb (et.ok k vV l0 ay az bC bX _ _ _ _ _ _ _ _ _ _ _ _ A2) [(aw 0)] [0] [] 1 ep ?_)
 rintro _ _ _ ⟨rk,qQ,rj,qP,ri,qO,rh,qN,rf,qM,rfl,rfl,rfl⟩
 refine bR (en := [.sl 0 (.int .u8) ay az l0 0 false,.sl 1 ai rk qQ oQ 2 true,.sl 1 ai rj qP pq 3 true,.sl 1 ai ri qO uv 4 true,.sl 1 ai rh qN uu 5 true,.sl 1 aZ rf qM ut 6 true]) kK ?_
 revert H; refine aS ?_; rintro t3 A3 H
 refine so zZ (ax (jk.ok k oQ rk qQ uw pq rj qP uv ri qO uu rh qN ut rf qM Ak Aj Ai Ah _ A3) [(aw 1),(aw 2),(aw 3),(aw 4),(aw 5)] 7 aG ?_)
 rintro _ _ _ ⟨rfl,rfl,rfl⟩
 refine au ac (re (aB [3,4] [0] [0] ae (gs (gs (rg (al ac ?_))))))
 revert H; refine aS ?_; rintro ⟨k8,Ci,HB⟩ A4 H
 refine so zZ (bb (mI.ok vV l0 ay az Lh O2 3 _ _ _ A4) [(aw 0)] [0] [] 1 ep ?_)
 rintro _ _ _ ⟨rfl,rfl,rfl⟩
 refine bR (en := [.sl 0 (.int .u8) ay az l0 0 false]) kK (re ?_)
 revert H; refine aJ ?_ ?_ <;> intro c5 H
 ·
  subst c5
  refine gt zZ zZ (gs (rg (al ac (al ac (al ac ?_)))))
  revert H; refine aS ?_; rintro ⟨kN,ol,rl⟩ A6 H
  refine so zZ (bb (kC.ok k vV l0 ay az Ci HB t3 _ _ _ A6) [(aw 0)] [0] [] 1 ep ?_)
  rintro _ _ _ ⟨rfl,rfl,rfl⟩
  refine bR (en := [.sl 0 (.int .u8) ay az l0 0 false]) kK (so zZ (bH (s := 1) (by_ := 16) .str ([(⟨#[]⟩ : ByteArray),(⟨#[47,48,47,47,47,47,47,47,47,49,47,48]⟩ : ByteArray),(⟨#[47,48,47,47,47,47,47,48,47,48,47,49,47,48]⟩ : ByteArray),(⟨#[47,48,47,47,47,47,47,48,47,48,47,52,47,48]⟩ : ByteArray),kN] : List ByteArray) [[],[],[],[],[]] [] 1 [.const (.string (⟨#[]⟩ : ByteArray)),.const (.string (⟨#[47,48,47,47,47,47,47,47,47,49,47,48]⟩ : ByteArray)),.const (.string (⟨#[47,48,47,47,47,47,47,48,47,48,47,49,47,48]⟩ : ByteArray)),.const (.string (⟨#[47,48,47,47,47,47,47,48,47,48,47,52,47,48]⟩ : ByteArray)),.tmp 15] dp dq zZ fun MX Mf => ?_))
  revert H; refine aS ?_; rintro ⟨cH,F1,Wx⟩ A8 H
  refine so zZ (bb (mH.ok vV l0 ay az ol rl ([(⟨#[]⟩ : ByteArray),(⟨#[47,48,47,47,47,47,47,47,47,49,47,48]⟩ : ByteArray),(⟨#[47,48,47,47,47,47,47,48,47,48,47,49,47,48]⟩ : ByteArray),(⟨#[47,48,47,47,47,47,47,48,47,48,47,52,47,48]⟩ : ByteArray),kN] : List ByteArray) MX Mf _ _ _ A8) [(aw 0),(aw 1)] [0] [] 2 ep ?_)
  rintro _ _ _ ⟨rfl,rfl,rfl⟩
  refine bR (en := [.sl 0 (.int .u8) ay az l0 0 false,.sl 2 .str MX Mf ([(⟨#[]⟩ : ByteArray),(⟨#[47,48,47,47,47,47,47,47,47,49,47,48]⟩ : ByteArray),(⟨#[47,48,47,47,47,47,47,48,47,48,47,49,47,48]⟩ : ByteArray),(⟨#[47,48,47,47,47,47,47,48,47,48,47,52,47,48]⟩ : ByteArray),kN] : List ByteArray) 1 true]) kK (au ac (re (aB [2] [] [] ae ?_)))
  cases H
  exact rt Tryz.func8 zZ (.tmp zZ .nil) zZ [] [] zZ zZ zZ zZ zZ ⟨zZ,zZ,zZ⟩
 ·
  have xc5 := bF c5; subst xc5
  refine gf zZ zZ (gk (gs (rg (al ac (au ac (re ?_))))))
  cases H
  exact rt Tryz.func8 zZ (.tmp zZ .nil) zZ [] [] zZ zZ zZ zZ zZ ⟨zZ,zZ,zZ⟩
mutual
def bY.j1 : Nat → ByteArray → Int → Int → Option (Int × Bool)
 | 0,_,_,_ => none
 | k + 1,jl,fC,kZ => if kZ > 9 then (some (0,false)) else (if (jl.size : Int) > 10 then (some (0,false)) else ((cy.f k fC).bind fun t5 => (if t5.toList = jl.toList then (some (fC,true)) else (some (0,false)))))
def bY.j0 : Nat → ByteArray → Int → Int → Option (Int × Bool)
 | 0,_,_,_ => none
 | k + 1,fh,bL,bW => if (fh.size : Int) > 0 then (if 0 < (fh.size : Int) then (if (bt fh 0) = 45 then (bY.j1 k fh (wrap64 (-bL)) bW) else (bY.j1 k fh bL bW)) else none) else (bY.j1 k fh bL bW)
def bY.l0 : Nat → ByteArray → Int → Int → Int → Option (Int × Bool)
 | 0,_,_,_,_ => none
 | k + 1,jR,oe,nL,mb => if mb < (jR.size : Int) then (if mb < 11 then (if 0 ≤ mb then (if (bt jR mb) ≥ 48 then (if (bt jR mb) ≤ 57 then (bY.l0 k jR (wrap64 ((wrap64 (oe * 10)) + (IntKind.i64.wrap (IntKind.u8.wrap ((bt jR mb) - 48))))) (wrap64 (nL + 1)) (wrap64 (mb + 1))) else (bY.l0 k jR oe nL (wrap64 (mb + 1)))) else (bY.l0 k jR oe nL (wrap64 (mb + 1)))) else none) else (bY.j0 k jR oe nL)) else (bY.j0 k jR oe nL)
end
def bY.f (k : Nat) (a0 : ByteArray) : Option (Int × Bool) := bY.l0 k a0 0 0 0
theorem bY.ok (k : Nat) (a0 : ByteArray) (r0 : Int) (r1 : Bool) (H : bY.f k a0 = some (r0,r1)) : Fn Tryz.prog 40 [.string a0] [] [] (fun v bx en => v = .tuple #[.int .i64 r0,.bool r1] ∧ bx = [] ∧ en = []) := by
 refine eD 61 Tryz.func40 zZ zZ zZ (fun base T w0 => ?_)
 rw [bY.f] at H
 refine gs (rg (au ac (au ac (re (gs (rg (au ac (re (gs (rg (au ac (re ?_))))))))))))
 refine jo (fun S => ∃ (m : Nat) (fh : ByteArray) (bL : Int) (bW : Int),bY.j0 m fh bL bW = some (r0,r1) ∧ S = ⟨[(0,.string fh),(4,.int .i64 bL),(5,.int .i64 bW)],[],[]⟩) (fun S hS => ?_) (fun gw => ?_)
 ·
  clear H
  obtain ⟨m1,fh,bL,bW,H,rfl⟩ := hS
  rcases m1 with _ | m1
  · rw [bY.j0] at H; cases H
  rw [bY.j0] at H
  refine jo (fun S => ∃ (m : Nat) (jl : ByteArray) (fC : Int) (kZ : Int),m ≤ m1 ∧ bY.j1 m jl fC kZ = some (r0,r1) ∧ S = ⟨[(0,.string jl),(4,.int .i64 fC),(5,.int .i64 kZ)],[],[]⟩) (fun S hS => ?_) (fun xj => ?_)
  ·
   clear H
   obtain ⟨m2,jl,fC,kZ,lm2,H,rfl⟩ := hS
   rcases m2 with _ | m2
   · rw [bY.j1] at H; cases H
   rw [bY.j1] at H
   refine gs (gs (rg (al ac (sv (dV ac) zZ (al ac ?_)))))
   revert H; refine aJ ?_ ?_ <;> intro c3 H
   ·
    refine ts 49 zZ (dT c3) (sk zZ (sk zZ (sk zZ (sv (aQ ag) zZ (al ac (sk zZ (sk zZ (sk zZ (sk zZ (sv (aQ ag) zZ (re (aB [4,59] [] [] ae (gt zZ zZ (gs (rg (au ac (au ac (re ?_))))))))))))))))))
    cases H
    exact rt Tryz.func40 zZ (.tmp zZ (.tmp zZ .nil)) zZ [] [] zZ zZ zZ zZ zZ ⟨zZ,zZ,zZ⟩
   ·
    refine ts 49 zZ (dF c3) (al ac (sv (sf zZ) zZ (sv (dV ac) zZ (sv (aI ag) zZ (al ac ?_)))))
    revert H; refine aJ ?_ ?_ <;> intro c4 H
    ·
     refine ts 54 zZ (dT c4) (sk zZ (sk zZ (sk zZ (sk zZ (sv (aQ ag) zZ (re (aB [4,59] [] [] ae (gt zZ zZ (gs (rg (au ac (au ac (re ?_)))))))))))))
     cases H
     exact rt Tryz.func40 zZ (.tmp zZ (.tmp zZ .nil)) zZ [] [] zZ zZ zZ zZ zZ ⟨zZ,zZ,zZ⟩
    ·
     refine ts 54 zZ (dF c4) (al ac ?_)
     revert H; refine aS ?_; rintro t5 A5 H
     refine so zZ (ax (cy.ok m2 fC _ A5) [] 1 aG ?_)
     rintro _ _ _ ⟨rfl,rfl,rfl⟩
     refine al ac (sv (nh zZ zZ) zZ (sv (aI ag) zZ (re (aB [4,59] [] [] ae ?_))))
     revert H; refine aJ ?_ ?_ <;> intro c6 H
     ·
      refine gf zZ (nF c6) (gk (gs (rg (al ac (au ac (au ac (re ?_)))))))
      cases H
      exact rt Tryz.func40 zZ (.tmp zZ (.tmp zZ .nil)) zZ [] [] zZ zZ zZ zZ zZ ⟨zZ,zZ,zZ⟩
     ·
      refine gt zZ (nT c6) (gs (rg (au ac (au ac (re ?_)))))
      cases H
      exact rt Tryz.func40 zZ (.tmp zZ (.tmp zZ .nil)) zZ [] [] zZ zZ zZ zZ zZ ⟨zZ,zZ,zZ⟩
  ·
   refine gs (rg (al ac (sv (sf zZ) zZ (sv (dV ac) zZ (al ac ?_)))))
   revert H; refine aJ ?_ ?_ <;> intro c7 H
   ·
    refine ts 40 zZ (dT c7) (al ac ?_)
    revert H; refine aU ?_; intro g8 H
    refine sv (xB zZ zZ dq g8) zZ (sv (bZ ac) zZ (sv (aQ ag) zZ (re (aB [0,4,5,44] [] [] ae ?_))))
    revert H; refine aJ ?_ ?_ <;> intro c9 H
    ·
     exact gt zZ (dT c9) (rg (al ac (sv (Th zZ) zZ (au ac (re (wk [0,4,5] [] [] (xj _ ⟨_,fh,wrap64 (-bL),bW,by omega,H,zZ⟩)))))))
    ·
     exact gf zZ (dF c9) (gk (wk [0,4,5] [] [] (xj _ ⟨_,fh,bL,bW,by omega,H,zZ⟩)))
   ·
    exact ts 40 zZ (dF c7) (sk zZ (sk zZ (sk zZ (sv (aI ag) zZ (re (aB [0,4,5,44] [] [] ae (gf zZ zZ (gk (wk [0,4,5] [] [] (xj _ ⟨_,fh,bL,bW,by omega,H,zZ⟩))))))))))
 ·
  refine gs (rg (au ac (re (gb ?_))))
  refine lo (fun kk S => ∃ (jR : ByteArray) (oe : Int) (nL : Int) (mb : Int),bY.l0 kk jR oe nL mb = some (r0,r1) ∧ S = ⟨[(0,.string jR),(4,.int .i64 oe),(5,.int .i64 nL),(6,.int .i64 mb)],[],[]⟩) (fun S hS => ?_) (fun n0 cZ S hS => ?_) ⟨a0,0,0,0,H,zZ⟩ (fun h => wk [0,4,5,6] [] [] h)
  · clear H; obtain ⟨_,_,_,_,H,_⟩ := hS; rw [bY.l0] at H; cases H
  clear H
  obtain ⟨jR,oe,nL,mb,H,rfl⟩ := hS
  rw [bY.l0] at H
  refine gs (gs (rg (al ac (al ac (sv (sf zZ) zZ (sv (bS ac) zZ (al ac ?_)))))))
  revert H; refine aJ ?_ ?_ <;> intro lS H
  ·
   refine ts 11 zZ (dT lS) (al ac (sv (bS ac) zZ (sv (aQ ag) zZ (re ?_))))
   revert H; refine aJ ?_ ?_ <;> intro qR H
   ·
    refine gt zZ (dT qR) (gk (gs (gb (gs (rg (al ac (al ac ?_)))))))
    revert H; refine aU ?_; intro ju H
    refine sv (xB zZ zZ ju lS) zZ (sv (Ac zZ zZ) zZ (al ac ?_))
    revert H; refine aJ ?_ ?_ <;> intro wJ H
    ·
     refine ts 21 zZ (dT wJ) (al ac (al ac (sv (xB zZ zZ ju lS) zZ (sv (jv ac) zZ (sv (aQ ag) zZ (re (aB [0,4,5,6,12,13,22,23,24,25,26] [] [] ae ?_)))))))
     revert H; refine aJ ?_ ?_ <;> intro sC H
     ·
      exact gt zZ (dT sC) (gs (rg (al ac (sv (uI zZ zZ) zZ (al ac (al ac (sv (xB zZ zZ ju lS) zZ (sv (RW zZ zZ) zZ (sv (mJ (k' := .i64) zZ) zZ (sv (ba ac) zZ (au ac (re (aB [0,4,5,6,12,13,22,23,24,25] [] [] ae (rg (al ac (sv (ba ac) zZ (au ac (re (ge (rg (al ac (sv (ba ac) zZ (au ac (re (wk [0,4,5,6] [] [] (cZ _ (by omega) _ ⟨jR,wrap64 ((wrap64 (oe * 10)) + (IntKind.i64.wrap (IntKind.u8.wrap ((bt jR mb) - 48)))),wrap64 (nL + 1),wrap64 (mb + 1),H,zZ⟩))))))))))))))))))))))))))
     ·
      exact gf zZ (dF sC) (gk (ge (rg (al ac (sv (ba ac) zZ (au ac (re (wk [0,4,5,6] [] [] (cZ _ (by omega) _ ⟨jR,oe,nL,wrap64 (mb + 1),H,zZ⟩)))))))))
    ·
     exact ts 21 zZ (dF wJ) (sk zZ (sk zZ (sk zZ (sk zZ (sv (aI ag) zZ (re (aB [0,4,5,6,12,13,26] [] [] ae (gf zZ zZ (gk (ge (rg (al ac (sv (ba ac) zZ (au ac (re (wk [0,4,5,6] [] [] (cZ _ (by omega) _ ⟨jR,oe,nL,wrap64 (mb + 1),H,zZ⟩)))))))))))))))))
   ·
    exact gf zZ (dF qR) (gx zZ (wk [0,4,5] [] [] (gw _ ⟨_,jR,oe,nL,H,zZ⟩)))
  ·
   exact ts 11 zZ (dF lS) (sk zZ (sk zZ (sv (aI ag) zZ (re (aB [0,4,5,6,14] [] [] ae (gf zZ zZ (gx zZ (wk [0,4,5] [] [] (gw _ ⟨_,jR,oe,nL,H,zZ⟩)))))))))
def pC.f (k : Nat) (a0 : ByteArray) : Option (Int × Int × Int × Bool) := (gc.f k a0 46).bind fun t1 => (if (t1.length : Int) = 3 then (if 0 < (t1.length : Int) then ((bY.f k (bu ByteArray.empty t1 0)).bind fun nD => (if 1 < (t1.length : Int) then ((bY.f k (bu ByteArray.empty t1 1)).bind fun sD => (if 2 < (t1.length : Int) then ((bY.f k (bu ByteArray.empty t1 2)).bind fun vq => ((kR.f k nD.1 sD.1 vq.1).bind fun t9 => (if t9.toList = a0.toList then (some (nD.1,sD.1,vq.1,true)) else (some (0,0,0,false))))) else none)) else none)) else none) else (some (0,0,0,false)))
theorem pC.ok (k : Nat) (a0 : ByteArray) (r0 : Int) (r1 : Int) (r2 : Int) (r3 : Bool) (H : pC.f k a0 = some (r0,r1,r2,r3)) : Fn Tryz.prog 89 [.string a0] [] [] (fun v bx en => v = .tuple #[.agg #[.int .i64 r0,.int .i64 r1,.int .i64 r2],.bool r3] ∧ bx = [] ∧ en = []) := by
 refine eD 43 Tryz.func89 zZ zZ zZ (fun base T w0 => ?_)
 rw [pC.f] at H
 refine gs (rg (so zZ (dk (cs := [.int .i64 0,.int .i64 0,.int .i64 0]) kK zZ fun b2 => (au ac (re (gs (rg (al ac ?_))))))))
 revert H; refine aS ?_; rintro t1 A1 H
 refine so zZ (ax (gc.ok k a0 46 _ A1) [] 1 aG ?_)
 rintro _ _ _ ⟨iF,iE,rfl,rfl,rfl⟩
 refine au ac (re (gs (gs (rg (al ac (sv (bG zZ) zZ (sv (lK zZ zZ) zZ (re ?_))))))))
 revert H; refine aJ ?_ ?_ <;> intro c2 H
 ·
  refine gf zZ (nF c2) (gk (gs (rg (sv (gu (v := .agg #[.int .i64 0,.int .i64 0,.int .i64 0]) zZ kK) zZ (so zZ (dk (cs := [.int .i64 0,.int .i64 0,.int .i64 0]) kK zZ fun b5 => (so zZ (aD (cs' := [.int .i64 0,.int .i64 0,.int .i64 0]) 1 bh (re (aB [0,2,4,5] [0,1] [0] ae (gs (rg (al ac ?_)))))))))))))
  revert H; refine aU ?_; intro g3 H
  refine sv (aM 0 ag dq g3 zZ) zZ (sv (bg (v := .string (bu ByteArray.empty t1 0)) 0 0 none 0 ByteArray.empty zZ zZ zZ dq g3 zZ zZ zZ) zZ ?_)
  revert H; refine aS ?_; rintro ⟨k8,Ci⟩ A4 H
  refine so zZ (ax (bY.ok k (bu ByteArray.empty t1 0) _ _ A4) [] 3 aG ?_)
  rintro _ _ _ ⟨rfl,rfl,rfl⟩
  refine al ac (sv (bp ac) zZ (sv (bp ac) zZ (sv (aq 0 zZ) zZ (so zZ (aD (cs' := [.int .i64 k8,.int .i64 0,.int .i64 0]) 1 bh (re (aB [0,2,4,5] [0,1] [0] ae (gs (rg (al ac ?_))))))))))
  revert H; refine aU ?_; intro g5 H
  refine sv (aM 0 ag dq g5 zZ) zZ (sv (bg (v := .string (bu ByteArray.empty t1 1)) 1 0 none 0 ByteArray.empty zZ zZ zZ dq g5 zZ zZ zZ) zZ ?_)
  revert H; refine aS ?_; rintro ⟨kN,ol⟩ A6 H
  refine so zZ (ax (bY.ok k (bu ByteArray.empty t1 1) _ _ A6) [] 3 aG ?_)
  rintro _ _ _ ⟨rfl,rfl,rfl⟩
  refine al ac (sv (bp ac) zZ (sv (bp ac) zZ (sv (aq 1 zZ) zZ (so zZ (aD (cs' := [.int .i64 k8,.int .i64 kN,.int .i64 0]) 1 bh (re (aB [0,2,4,5] [0,1] [0] ae (gs (rg (al ac ?_))))))))))
  revert H; refine aU ?_; intro g7 H
  refine sv (aM 0 ag dq g7 zZ) zZ (sv (bg (v := .string (bu ByteArray.empty t1 2)) 2 0 none 0 ByteArray.empty zZ zZ zZ dq g7 zZ zZ zZ) zZ ?_)
  revert H; refine aS ?_; rintro ⟨cH,F1⟩ A8 H
  refine so zZ (ax (bY.ok k (bu ByteArray.empty t1 2) _ _ A8) [] 3 aG ?_)
  rintro _ _ _ ⟨rfl,rfl,rfl⟩
  refine al ac (sv (bp ac) zZ (sv (bp ac) zZ (sv (aq 2 zZ) zZ (so zZ (aD (cs' := [.int .i64 k8,.int .i64 kN,.int .i64 cH]) 1 bh (re (aB [0,2,5] [0,1] [] ae (gs (gs (rg (sv (am (v := .agg #[.int .i64 k8,.int .i64 kN,.int .i64 cH]) 1 (some 3) ag) zZ ?_)))))))))))
  revert H; refine aS ?_; rintro t9 A9 H
  refine so zZ (ax (kR.ok k k8 kN cH _ A9) [] 1 aG ?_)
  rintro _ _ _ ⟨rfl,rfl,rfl⟩
  refine al ac (sv (nh zZ zZ) zZ (re ?_))
  revert H; refine aJ ?_ ?_ <;> intro lS H
  ·
   refine gf zZ (nF lS) (gk (gs (rg (sv (am (v := .agg #[.int .i64 k8,.int .i64 kN,.int .i64 cH]) 1 (some 3) ag) zZ (so zZ (aD (cs' := [.int .i64 k8,.int .i64 kN,.int .i64 cH]) 0 bh (au ac (re (aB [2,3] [0] [] ae ?_)))))))))
   cases H
   exact rt Tryz.func89 zZ (.cell 0 (some 3) zZ zZ zZ (.tmp zZ .nil)) zZ [] [] zZ zZ zZ zZ zZ ⟨zZ,zZ,zZ⟩
  ·
   refine gt zZ (nT lS) (gs (rg (sv (gu (v := .agg #[.int .i64 0,.int .i64 0,.int .i64 0]) zZ kK) zZ (so zZ (aD (cs' := [.int .i64 0,.int .i64 0,.int .i64 0]) 0 bh (au ac (re (aB [2,3] [0] [] ae ?_))))))))
   cases H
   exact rt Tryz.func89 zZ (.cell 0 (some 3) zZ zZ zZ (.tmp zZ .nil)) zZ [] [] zZ zZ zZ zZ zZ ⟨zZ,zZ,zZ⟩
 ·
  refine gt zZ (nT c2) (gs (rg (sv (gu (v := .agg #[.int .i64 0,.int .i64 0,.int .i64 0]) zZ kK) zZ (so zZ (aD (cs' := [.int .i64 0,.int .i64 0,.int .i64 0]) 0 bh (au ac (re (aB [2,3] [0] [] ae ?_))))))))
  cases H
  exact rt Tryz.func89 zZ (.cell 0 (some 3) zZ zZ zZ (.tmp zZ .nil)) zZ [] [] zZ zZ zZ zZ zZ ⟨zZ,zZ,zZ⟩
mutual
def de.j0 : Nat → (List ah) → Option ((List ah) × Bool)
 | 0,_ => none
 | k + 1,bL => (dA.f k bL).bind fun t4 => (if t4 = true then (some (bL,true)) else (some ([],false)))
def de.l0 : Nat → ByteArray → (List ah) → (List ByteArray) → Int → Option ((List ah) × Bool)
 | 0,_,_,_,_ => none
 | k + 1,jl,fC,kZ,mP => if mP < (kZ.length : Int) then (if jl.toList = (⟨#[]⟩ : ByteArray).toList then (de.j0 k fC) else (if 0 ≤ mP then ((pC.f k (bu ByteArray.empty kZ mP)).bind fun vC => (if vC.2.2.2 = true then (if fC.length < 5864062014805 then (de.l0 k jl (fC ++ ([(⟨vC.1,vC.2.1,vC.2.2.1⟩ : ah)] : List ah)) kZ (wrap64 (mP + 1))) else none) else (some ([],false)))) else none)) else (de.j0 k fC)
end
def de.f (k : Nat) (a0 : ByteArray) : Option ((List ah) × Bool) := (gc.f k a0 32).bind fun t2 => (de.l0 k a0 [] t2 0)
theorem de.ok (k : Nat) (a0 : ByteArray) (r0 : List ah) (r1 : Bool) (H : de.f k a0 = some (r0,r1)) : Fn Tryz.prog 39 [.string a0] [] [] (fun v bx en => ∃ A0 c0,v = .tuple #[.slice A0 r0.length c0,.bool r1] ∧ bx = [] ∧ en = [.sl 2 ai A0 c0 r0 1 true]) := by
 refine eD 42 Tryz.func39 zZ zZ zZ (fun base T w0 => ?_)
 rw [de.f] at H
 refine gs (rg (au ac (au ac (re (gs (rg (so zZ (bH (s := 3) (by_ := 24) ai ([] : List ah) [] [] 1 [] dp dq zZ fun Q3 Qr => (au ac (re (gs (rg (al ac ?_)))))))))))))
 revert H; refine aS ?_; rintro t2 A2 H
 refine so zZ (ax (gc.ok k a0 32 _ A2) [] 2 aG ?_)
 rintro _ _ _ ⟨G2,GX,rfl,rfl,rfl⟩
 refine au ac (re ?_)
 refine jo (fun S => ∃ (m : Nat) (bL : List ah) (pg : Option Addr) (pe : Nat),de.j0 m bL = some (r0,r1) ∧ S = ⟨[(4,.slice pg bL.length pe)],[],[.sl 2 ai pg pe bL 1 true]⟩) (fun S hS => ?_) (fun gw => ?_)
 ·
  clear H
  obtain ⟨m3,bL,pg,pe,H,rfl⟩ := hS
  rcases m3 with _ | m3
  · rw [de.j0] at H; cases H
  rw [de.j0] at H
  refine gs (gs (rg (al ac ?_)))
  revert H; refine aS ?_; rintro t4 A4 H
  refine so zZ (ax (dA.ok m3 bL pg pe _ A4) [(aw 0)] 2 aG ?_)
  rintro _ _ _ ⟨rfl,rfl,rfl⟩
  refine sv (eE zZ) zZ (re ?_)
  revert H; refine aJ ?_ ?_ <;> intro c5 H
  ·
   subst c5
   refine gf zZ zZ (gk (gs (rg (al ac (au ac (au ac (re ?_)))))))
   cases H
   exact rt Tryz.func39 zZ (.tmp zZ (.tmp zZ .nil)) zZ [] [(aj 0 2 1)] zZ zZ zZ zZ zZ ⟨_,_,zZ,zZ,zZ⟩
  ·
   have xc5 := bF c5; subst xc5
   refine gt zZ zZ (gs (rg (so zZ (bH (s := 3) (by_ := 24) ai ([] : List ah) [] [] 2 [] dp dq zZ fun ahC ahr => (au ac (au ac (re ?_)))))))
   cases H
   exact rt Tryz.func39 zZ (.tmp zZ (.tmp zZ .nil)) zZ [] [(aj 1 2 1)] zZ zZ zZ zZ zZ ⟨_,_,zZ,zZ,zZ⟩
 ·
  refine gs (rg (au ac (re (gb ?_))))
  refine lo (fun kk S => ∃ (jl : ByteArray) (fC : List ah) (tP : Option Addr) (tO : Nat) (kZ : List ByteArray) (Mr : Option Addr) (LI : Nat) (mP : Int),de.l0 kk jl fC kZ mP = some (r0,r1) ∧ S = ⟨[(0,.string jl),(4,.slice tP fC.length tO),(5,.slice Mr kZ.length LI),(6,.int .i64 mP)],[],[.sl 2 ai tP tO fC 1 true,.sl 2 .str Mr LI kZ 2 true]⟩) (fun S hS => ?_) (fun n0 cZ S hS => ?_) ⟨a0,[],Q3,Qr,t2,G2,GX,0,H,zZ⟩ (fun h => wk [0,4,5,6] [] [(aj 0 2 1),(aj 1 2 2)] h)
  · clear H; obtain ⟨_,_,_,_,_,_,_,_,H,_⟩ := hS; rw [de.l0] at H; cases H
  clear H
  obtain ⟨jl,fC,tP,tO,kZ,Mr,LI,mP,H,rfl⟩ := hS
  rw [de.l0] at H
  refine gs (gs (rg (al ac (al ac (sv (bG zZ) zZ (sv (bS ac) zZ (al ac ?_)))))))
  revert H; refine aJ ?_ ?_ <;> intro c7 H
  ·
   refine ts 16 zZ (dT c7) (al ac (sv (nh zZ zZ) zZ (sv (aQ ag) zZ (re ?_))))
   revert H; refine aJ ?_ ?_ <;> intro c8 H
   ·
    exact gf zZ (nF c8) (gx zZ (wk [4] [] [(aj 0 2 1)] (gw _ ⟨_,fC,tP,tO,H,zZ⟩)))
   ·
    refine gt zZ (nT c8) (gk (gs (gb (gs (rg (al ac (al ac ?_)))))))
    revert H; refine aU ?_; intro g9 H
    refine sv (aM 1 ag g9 c7 zZ) zZ (sv (bg (v := .string (bu ByteArray.empty kZ mP)) mP 0 none 1 ByteArray.empty zZ zZ zZ g9 c7 zZ zZ zZ) zZ ?_)
    revert H; refine aS ?_; rintro ⟨cS,ij,ji,kS⟩ mz H
    refine so zZ (ax (pC.ok n0 (bu ByteArray.empty kZ mP) _ _ _ _ mz) [] 3 aG ?_)
    rintro _ _ _ ⟨rfl,rfl,rfl⟩
    refine al ac (sv (bp ac) zZ (sv (bp ac) zZ (so zZ (dk (cs := [.int .i64 0,.int .i64 0,.int .i64 0]) kK zZ fun b7 => (so zZ (aD (cs' := [.int .i64 cS,.int .i64 ij,.int .i64 ji]) 0 bh (au ac (re (aB [0,4,5,6,7,8,17,18] [0] [0,1] ae (gs (gs (rg (al ac (sv (eE zZ) zZ (re ?_)))))))))))))))
    revert H; refine aJ ?_ ?_ <;> intro qR H
    ·
     subst qR
     refine gf zZ zZ (gk (rg (al ac (sv (am (v := .agg #[.int .i64 cS,.int .i64 ij,.int .i64 ji]) 0 (some 3) ag) zZ (so zZ (bH (s := 3) (by_ := 24) ai ([(⟨cS,ij,ji⟩ : ah)] : List ah) [[]] [] 3 [.tmp 34] dp dq zZ fun abB aaC => ?_))))))
     revert H; refine aU ?_; intro jQ H
     exact so zZ (di (k := ai) (s := 3) (by_ := 24) 0 2 ae (km jQ dq) (iz jQ dq) (.inl zZ) true (fun _ => .inl zZ) ac fun Wm Vs => (bR (en := [.sl 2 .str Mr LI kZ 2 true,.sl 2 ai abB aaC ([(⟨cS,ij,ji⟩ : ah)] : List ah) 3 true,.sl 2 ai Wm Vs (fC ++ ([(⟨cS,ij,ji⟩ : ah)] : List ah)) 1 true]) kK (au ac (re (aB [0,4,5,6,17,18] [] [0,2] ae (ge (rg (al ac (sv (ba ac) zZ (au ac (re (wk [0,4,5,6] [] [(aj 1 2 1),(aj 0 2 2)] (cZ _ (by omega) _ ⟨jl,fC ++ ([(⟨cS,ij,ji⟩ : ah)] : List ah),Wm,Vs,kZ,Mr,LI,wrap64 (mP + 1),H,zZ⟩)))))))))))))
    ·
     have xc11 := bF qR; subst xc11
     refine gt zZ zZ (gs (rg (so zZ (bH (s := 3) (by_ := 24) ai ([] : List ah) [] [] 3 [] dp dq zZ fun ag7 agA => (au ac (au ac (re (aB [2,3] [] [2] ae ?_))))))))
     cases H
     exact rt Tryz.func39 zZ (.tmp zZ (.tmp zZ .nil)) zZ [] [(aj 0 2 1)] zZ zZ zZ zZ zZ ⟨_,_,zZ,zZ,zZ⟩
  ·
   exact ts 16 zZ (dF c7) (sk zZ (sk zZ (sv (aI ag) zZ (re (aB [0,4,5,6,19] [] [0,1] ae (gf zZ zZ (gx zZ (wk [4] [] [(aj 0 2 1)] (gw _ ⟨_,fC,tP,tO,H,zZ⟩)))))))))
mutual
def dn.j0 : Nat → ByteArray → (List ByteArray) → (List ah) → Int → (List ah) → (List ah) → (List ah) → (List aT) → Int → Int → Int → Int → (List ah) → Int → (List ah) → (List ah) → (List ah) → (List aT) → Int → Int → Int → Int → Option ((List ah) × Int × (List ah) × (List ah) × (List ah) × (List aT) × Int × Int × Int × Int × Bool)
 | 0,_,_,_,_,_,_,_,_,_,_,_,_,_,_,_,_,_,_,_,_,_,_ => none
 | k + 1,fh,bL,Hx,td,Hw,Hv,Hu,Ht,tc,tb,ta,s7,oP,pJ,oO,oN,oM,oL,La,Hs,DG,BQ => if 6 < (bL.length : Int) then ((bY.f k (bu ByteArray.empty bL 6)).bind fun NC => (if 7 < (bL.length : Int) then ((bY.f k (bu ByteArray.empty bL 7)).bind fun CS => (if 8 < (bL.length : Int) then ((bY.f k (bu ByteArray.empty bL 8)).bind fun KF => (if 9 < (bL.length : Int) then ((bY.f k (bu ByteArray.empty bL 9)).bind fun aaO => ((jk.f k oP pJ oO oN oM oL NC.1 CS.1 KF.1 aaO.1).bind fun N5 => (if N5.toList = fh.toList then (some (oP,pJ,oO,oN,oM,oL,NC.1,CS.1,KF.1,aaO.1,true)) else (some ([],0,[],[],[],[],0,0,0,0,false))))) else none)) else none)) else none)) else none
def dn.l0 : Nat → ByteArray → (List ByteArray) → (List ByteArray) → Int → (List ah) → Int → (List ah) → (List ah) → (List ah) → (List aT) → Int → Int → Int → Int → (List ah) → Int → (List ah) → (List ah) → (List ah) → (List aT) → Int → Int → Int → Int → Option ((List ah) × Int × (List ah) × (List ah) × (List ah) × (List aT) × Int × Int × Int × Int × Bool)
 | 0,_,_,_,_,_,_,_,_,_,_,_,_,_,_,_,_,_,_,_,_,_,_,_,_ => none
 | k + 1,jl,fC,mP,Ae,rI,vH,rH,rG,rF,rE,vG,vF,vE,vD,pH,tV,pG,pF,pE,oK,tU,tT,tR,tQ => if Ae < (mP.length : Int) then (if 5 < (fC.length : Int) then (if (bu ByteArray.empty fC 5).toList = (⟨#[]⟩ : ByteArray).toList then (dn.j0 k jl fC rI vH rH rG rF rE vG vF vE vD pH tV pG pF pE oK tU tT tR tQ) else (if 0 ≤ Ae then ((de.f k (bu ByteArray.empty mP Ae)).bind fun afJ => (if oK.length < 5864062014805 then (dn.l0 k jl fC mP (wrap64 (Ae + 1)) rI vH rH rG rF rE vG vF vE vD pH tV pG pF pE (oK ++ ([(⟨afJ.1⟩ : aT)] : List aT)) tU tT tR tQ) else none)) else none)) else none) else (dn.j0 k jl fC rI vH rH rG rF rE vG vF vE vD pH tV pG pF pE oK tU tT tR tQ)
end
def dn.f (k : Nat) (a0 : ByteArray) : Option ((List ah) × Int × (List ah) × (List ah) × (List ah) × (List aT) × Int × Int × Int × Int × Bool) := (gc.f k a0 47).bind fun t1 => (if (t1.length : Int) = 10 then (if 0 < (t1.length : Int) then ((de.f k (bu ByteArray.empty t1 0)).bind fun nD => (if 1 < (t1.length : Int) then ((bY.f k (bu ByteArray.empty t1 1)).bind fun sD => (if 2 < (t1.length : Int) then ((de.f k (bu ByteArray.empty t1 2)).bind fun vq => (if 3 < (t1.length : Int) then ((de.f k (bu ByteArray.empty t1 3)).bind fun vC => (if 4 < (t1.length : Int) then ((de.f k (bu ByteArray.empty t1 4)).bind fun wi => (if 5 < (t1.length : Int) then ((gc.f k (bu ByteArray.empty t1 5) 124).bind fun qp => (dn.l0 k a0 t1 qp 0 [] 0 [] [] [] [] 0 0 0 0 nD.1 sD.1 vq.1 vC.1 wi.1 [] 0 0 0 0)) else none)) else none)) else none)) else none)) else none)) else none) else (some ([],0,[],[],[],[],0,0,0,0,false)))
theorem dn.ok (k : Nat) (a0 : ByteArray) (r0 : List ah) (r1 : Int) (r2 : List ah) (r3 : List ah) (r4 : List ah) (r5 : List aT) (r6 : Int) (r7 : Int) (r8 : Int) (r9 : Int) (my : Bool) (H : dn.f k a0 = some (r0,r1,r2,r3,r4,r5,r6,r7,r8,r9,my)) : Fn Tryz.prog 9 [.string a0] [] [] (fun v bx en => ∃ A0 c0 A2 c2 A3 c3 A4 c4 A5 c5,v = .tuple #[.agg #[.slice A0 r0.length c0,.int .i64 r1,.slice A2 r2.length c2,.slice A3 r3.length c3,.slice A4 r4.length c4,.slice A5 r5.length c5,.int .i64 r6,.int .i64 r7,.int .i64 r8,.int .i64 r9],.bool my] ∧ bx = [] ∧ en = [.sl 2 ai A0 c0 r0 1 true,.sl 2 ai A2 c2 r2 2 true,.sl 2 ai A3 c3 r3 3 true,.sl 2 ai A4 c4 r4 4 true,.sl 2 aZ A5 c5 r5 5 true]) := by
 refine eD 126 Tryz.func9 zZ zZ zZ (fun base T w0 => ?_)
 rw [dn.f] at H
 refine gs (rg (so zZ (dk (cs := [.slice none 0 0,.int .i64 0,.slice none 0 0,.slice none 0 0,.slice none 0 0,.slice none 0 0,.int .i64 0,.int .i64 0,.int .i64 0,.int .i64 0]) kK zZ fun b2 => (au ac (re (gs (rg (al ac ?_))))))))
 revert H; refine aS ?_; rintro t1 A1 H
 refine so zZ (ax (gc.ok k a0 47 _ A1) [] 1 aG ?_)
 rintro _ _ _ ⟨iF,iE,rfl,rfl,rfl⟩
 refine au ac (re (gs (gs (rg (al ac (sv (bG zZ) zZ (sv (lK zZ zZ) zZ (re ?_))))))))
 revert H; refine aJ ?_ ?_ <;> intro c2 H
 ·
  refine gf zZ (nF c2) (gk (gs (rg (sv (gu (v := .agg #[.slice none 0 0,.int .i64 0,.slice none 0 0,.slice none 0 0,.slice none 0 0,.slice none 0 0,.int .i64 0,.int .i64 0,.int .i64 0,.int .i64 0]) zZ kK) zZ (so zZ (dk (cs := [.slice none 0 0,.int .i64 0,.slice none 0 0,.slice none 0 0,.slice none 0 0,.slice none 0 0,.int .i64 0,.int .i64 0,.int .i64 0,.int .i64 0]) kK zZ fun b5 => (so zZ (aD (cs' := [.slice none 0 0,.int .i64 0,.slice none 0 0,.slice none 0 0,.slice none 0 0,.slice none 0 0,.int .i64 0,.int .i64 0,.int .i64 0,.int .i64 0]) 1 bh (re (aB [0,2,4,5] [0,1] [0] ae (gs (rg (al ac ?_)))))))))))))
  revert H; refine aU ?_; intro g3 H
  refine sv (aM 0 ag dq g3 zZ) zZ (sv (bg (v := .string (bu ByteArray.empty t1 0)) 0 0 none 0 ByteArray.empty zZ zZ zZ dq g3 zZ zZ zZ) zZ ?_)
  revert H; refine aS ?_; rintro ⟨k8,Ci⟩ A4 H
  refine so zZ (ax (de.ok k (bu ByteArray.empty t1 0) _ _ A4) [] 3 aG ?_)
  rintro _ _ _ ⟨Jm,IZ,rfl,rfl,rfl⟩
  refine al ac (sv (bp ac) zZ (sv (bp ac) zZ (sv (aq 0 zZ) zZ (so zZ (aD (cs' := [.slice Jm k8.length IZ,.int .i64 0,.slice none 0 0,.slice none 0 0,.slice none 0 0,.slice none 0 0,.int .i64 0,.int .i64 0,.int .i64 0,.int .i64 0]) 1 bh (re (aB [0,2,4,5] [0,1] [0,1] ae (gs (rg (al ac ?_))))))))))
  revert H; refine aU ?_; intro g5 H
  refine sv (aM 0 ag dq g5 zZ) zZ (sv (bg (v := .string (bu ByteArray.empty t1 1)) 1 0 none 0 ByteArray.empty zZ zZ zZ dq g5 zZ zZ zZ) zZ ?_)
  revert H; refine aS ?_; rintro ⟨kN,ol⟩ A6 H
  refine so zZ (ax (bY.ok k (bu ByteArray.empty t1 1) _ _ A6) [] 5 aG ?_)
  rintro _ _ _ ⟨rfl,rfl,rfl⟩
  refine al ac (sv (bp ac) zZ (sv (bp ac) zZ (sv (aq 1 zZ) zZ (so zZ (aD (cs' := [.slice Jm k8.length IZ,.int .i64 kN,.slice none 0 0,.slice none 0 0,.slice none 0 0,.slice none 0 0,.int .i64 0,.int .i64 0,.int .i64 0,.int .i64 0]) 1 bh (re (aB [0,2,4,5] [0,1] [0,1] ae (gs (rg (al ac ?_))))))))))
  revert H; refine aU ?_; intro g7 H
  refine sv (aM 0 ag dq g7 zZ) zZ (sv (bg (v := .string (bu ByteArray.empty t1 2)) 2 0 none 0 ByteArray.empty zZ zZ zZ dq g7 zZ zZ zZ) zZ ?_)
  revert H; refine aS ?_; rintro ⟨cH,F1⟩ A8 H
  refine so zZ (ax (de.ok k (bu ByteArray.empty t1 2) _ _ A8) [] 5 aG ?_)
  rintro _ _ _ ⟨ck,cj,rfl,rfl,rfl⟩
  refine al ac (sv (bp ac) zZ (sv (bp ac) zZ (sv (aq 2 zZ) zZ (so zZ (aD (cs' := [.slice Jm k8.length IZ,.int .i64 kN,.slice ck cH.length cj,.slice none 0 0,.slice none 0 0,.slice none 0 0,.int .i64 0,.int .i64 0,.int .i64 0,.int .i64 0]) 1 bh (re (aB [0,2,4,5] [0,1] [0,1,2] ae (gs (rg (al ac ?_))))))))))
  revert H; refine aU ?_; intro g9 H
  refine sv (aM 0 ag dq g9 zZ) zZ (sv (bg (v := .string (bu ByteArray.empty t1 3)) 3 0 none 0 ByteArray.empty zZ zZ zZ dq g9 zZ zZ zZ) zZ ?_)
  revert H; refine aS ?_; rintro ⟨cS,ij⟩ mz H
  refine so zZ (ax (de.ok k (bu ByteArray.empty t1 3) _ _ mz) [] 7 aG ?_)
  rintro _ _ _ ⟨cM,cL,rfl,rfl,rfl⟩
  refine al ac (sv (bp ac) zZ (sv (bp ac) zZ (sv (aq 3 zZ) zZ (so zZ (aD (cs' := [.slice Jm k8.length IZ,.int .i64 kN,.slice ck cH.length cj,.slice cM cS.length cL,.slice none 0 0,.slice none 0 0,.int .i64 0,.int .i64 0,.int .i64 0,.int .i64 0]) 1 bh (re (aB [0,2,4,5] [0,1] [0,1,2,3] ae (gs (rg (al ac ?_))))))))))
  revert H; refine aU ?_; intro lR H
  refine sv (aM 0 ag dq lR zZ) zZ (sv (bg (v := .string (bu ByteArray.empty t1 4)) 4 0 none 0 ByteArray.empty zZ zZ zZ dq lR zZ zZ zZ) zZ ?_)
  revert H; refine aS ?_; rintro ⟨gB,jS⟩ sE H
  refine so zZ (ax (de.ok k (bu ByteArray.empty t1 4) _ _ sE) [] 9 aG ?_)
  rintro _ _ _ ⟨fA,fz,rfl,rfl,rfl⟩
  refine al ac (sv (bp ac) zZ (sv (bp ac) zZ (sv (aq 4 zZ) zZ (so zZ (aD (cs' := [.slice Jm k8.length IZ,.int .i64 kN,.slice ck cH.length cj,.slice cM cS.length cL,.slice fA gB.length fz,.slice none 0 0,.int .i64 0,.int .i64 0,.int .i64 0,.int .i64 0]) 1 bh (re (aB [0,2,4,5] [0,1] [0,1,2,3,4] ae (gs (rg (al ac ?_))))))))))
  revert H; refine aU ?_; intro jQ H
  refine sv (aM 0 ag dq jQ zZ) zZ (sv (bg (v := .string (bu ByteArray.empty t1 5)) 5 0 none 0 ByteArray.empty zZ zZ zZ dq jQ zZ zZ zZ) zZ ?_)
  revert H; refine aS ?_; rintro qp sA H
  refine so zZ (ax (gc.ok k (bu ByteArray.empty t1 5) 124 _ sA) [] 11 aG ?_)
  rintro _ _ _ ⟨Q0,Qo,rfl,rfl,rfl⟩
  refine au ac (re ?_)
  refine jo (fun S => ∃ (m : Nat) (fh : ByteArray) (bL : List ByteArray) (pg : Option Addr) (pe : Nat) (Hx : List ah) (NV : Option Addr) (Nw : Nat) (td : Int) (Hw : List ah) (NU : Option Addr) (Nv : Nat) (Hv : List ah) (NT : Option Addr) (Nu : Nat) (Hu : List ah) (NS : Option Addr) (Nt : Nat) (Ht : List aT) (NR : Option Addr) (Ns : Nat) (tc : Int) (tb : Int) (ta : Int) (s7 : Int) (oP : List ah) (sy : Option Addr) (sc : Nat) (pJ : Int) (oO : List ah) (sx : Option Addr) (sb : Nat) (oN : List ah) (su : Option Addr) (sa : Nat) (oM : List ah) (ss : Option Addr) (rZ : Nat) (oL : List aT) (sq : Option Addr) (rY : Nat) (La : Int) (Hs : Int) (DG : Int) (BQ : Int),dn.j0 m fh bL Hx td Hw Hv Hu Ht tc tb ta s7 oP pJ oO oN oM oL La Hs DG BQ = some (r0,r1,r2,r3,r4,r5,r6,r7,r8,r9,my) ∧ S = ⟨[(0,.string fh),(2,.pointer (some ⟨b2,0,none⟩)),(4,.slice pg bL.length pe),(5,.pointer (some ⟨b5,0,none⟩))],[⟨b2,27,[.slice NV Hx.length Nw,.int .i64 td,.slice NU Hw.length Nv,.slice NT Hv.length Nu,.slice NS Hu.length Nt,.slice NR Ht.length Ns,.int .i64 tc,.int .i64 tb,.int .i64 ta,.int .i64 s7]⟩,⟨b5,27,[.slice sy oP.length sc,.int .i64 pJ,.slice sx oO.length sb,.slice su oN.length sa,.slice ss oM.length rZ,.slice sq oL.length rY,.int .i64 La,.int .i64 Hs,.int .i64 DG,.int .i64 BQ]⟩],[.sl 2 .str pg pe bL 1 true,.sl 2 ai NV Nw Hx 2 true,.sl 2 ai NU Nv Hw 3 true,.sl 2 ai NT Nu Hv 4 true,.sl 2 ai NS Nt Hu 5 true,.sl 2 aZ NR Ns Ht 6 true,.sl 2 ai sy sc oP 7 true,.sl 2 ai sx sb oO 8 true,.sl 2 ai su sa oN 9 true,.sl 2 ai ss rZ oM 10 true,.sl 2 aZ sq rY oL 11 true]⟩) (fun S hS => ?_) (fun gw => ?_)
  ·
   clear H
   obtain ⟨JL,fh,bL,pg,pe,Hx,NV,Nw,td,Hw,NU,Nv,Hv,NT,Nu,Hu,NS,Nt,Ht,NR,Ns,tc,tb,ta,s7,oP,sy,sc,pJ,oO,sx,sb,oN,su,sa,oM,ss,rZ,oL,sq,rY,La,Hs,DG,BQ,H,rfl⟩ := hS
   rcases JL with _ | JL
   · rw [dn.j0] at H; cases H
   rw [dn.j0] at H
   refine gs (rg (al ac ?_))
   revert H; refine aU ?_; intro wv H
   refine sv (aM 0 ag dq wv zZ) zZ (sv (bg (v := .string (bu ByteArray.empty bL 6)) 6 0 none 0 ByteArray.empty zZ zZ zZ dq wv zZ zZ zZ) zZ ?_)
   revert H; refine aS ?_; rintro ⟨vU,acZ⟩ AH H
   refine so zZ (ax (bY.ok JL (bu ByteArray.empty bL 6) _ _ AH) [] 12 aG ?_)
   rintro _ _ _ ⟨rfl,rfl,rfl⟩
   refine al ac (sv (bp ac) zZ (sv (bp ac) zZ (sv (aq 6 zZ) zZ (so zZ (aD (cs' := [.slice sy oP.length sc,.int .i64 pJ,.slice sx oO.length sb,.slice su oN.length sa,.slice ss oM.length rZ,.slice sq oL.length rY,.int .i64 vU,.int .i64 Hs,.int .i64 DG,.int .i64 BQ]) 1 bh (re (aB [0,2,4,5] [0,1] [0,1,2,3,4,5,6,7,8,9,10] ae (gs (rg (al ac ?_))))))))))
   revert H; refine aU ?_; intro AE H
   refine sv (aM 0 ag dq AE zZ) zZ (sv (bg (v := .string (bu ByteArray.empty bL 7)) 7 0 none 0 ByteArray.empty zZ zZ zZ dq AE zZ zZ zZ) zZ ?_)
   revert H; refine aS ?_; rintro ⟨lY,Su⟩ OB H
   refine so zZ (ax (bY.ok JL (bu ByteArray.empty bL 7) _ _ OB) [] 12 aG ?_)
   rintro _ _ _ ⟨rfl,rfl,rfl⟩
   refine al ac (sv (bp ac) zZ (sv (bp ac) zZ (sv (aq 7 zZ) zZ (so zZ (aD (cs' := [.slice sy oP.length sc,.int .i64 pJ,.slice sx oO.length sb,.slice su oN.length sa,.slice ss oM.length rZ,.slice sq oL.length rY,.int .i64 vU,.int .i64 lY,.int .i64 DG,.int .i64 BQ]) 1 bh (re (aB [0,2,4,5] [0,1] [0,1,2,3,4,5,6,7,8,9,10] ae (gs (rg (al ac ?_))))))))))
   revert H; refine aU ?_; intro PX H
   refine sv (aM 0 ag dq PX zZ) zZ (sv (bg (v := .string (bu ByteArray.empty bL 8)) 8 0 none 0 ByteArray.empty zZ zZ zZ dq PX zZ zZ zZ) zZ ?_)
   revert H; refine aS ?_; rintro ⟨sN,Xo⟩ FF H
   refine so zZ (ax (bY.ok JL (bu ByteArray.empty bL 8) _ _ FF) [] 12 aG ?_)
   rintro _ _ _ ⟨rfl,rfl,rfl⟩
   refine al ac (sv (bp ac) zZ (sv (bp ac) zZ (sv (aq 8 zZ) zZ (so zZ (aD (cs' := [.slice sy oP.length sc,.int .i64 pJ,.slice sx oO.length sb,.slice su oN.length sa,.slice ss oM.length rZ,.slice sq oL.length rY,.int .i64 vU,.int .i64 lY,.int .i64 sN,.int .i64 BQ]) 1 bh (re (aB [0,2,4,5] [0,1] [0,1,2,3,4,5,6,7,8,9,10] ae (gs (rg (al ac ?_))))))))))
   revert H; refine aU ?_; intro qy H
   refine sv (aM 0 ag dq qy zZ) zZ (sv (bg (v := .string (bu ByteArray.empty bL 9)) 9 0 none 0 ByteArray.empty zZ zZ zZ dq qy zZ zZ zZ) zZ ?_)
   revert H; refine aS ?_; rintro ⟨Li,ahl⟩ Do H
   refine so zZ (ax (bY.ok JL (bu ByteArray.empty bL 9) _ _ Do) [] 12 aG ?_)
   rintro _ _ _ ⟨rfl,rfl,rfl⟩
   refine al ac (sv (bp ac) zZ (sv (bp ac) zZ (sv (aq 9 zZ) zZ (so zZ (aD (cs' := [.slice sy oP.length sc,.int .i64 pJ,.slice sx oO.length sb,.slice su oN.length sa,.slice ss oM.length rZ,.slice sq oL.length rY,.int .i64 vU,.int .i64 lY,.int .i64 sN,.int .i64 Li]) 1 bh (re (aB [0,2,5] [0,1] [1,2,3,4,5,6,7,8,9,10] ae (gs (gs (rg (sv (am (v := .agg #[.slice sy oP.length sc,.int .i64 pJ,.slice sx oO.length sb,.slice su oN.length sa,.slice ss oM.length rZ,.slice sq oL.length rY,.int .i64 vU,.int .i64 lY,.int .i64 sN,.int .i64 Li]) 1 (some 10) ag) zZ ?_)))))))))))
   revert H; refine aS ?_; rintro N5 OA H
   refine so zZ (ax (jk.ok JL oP sy sc pJ oO sx sb oN su sa oM ss rZ oL sq rY vU lY sN Li _ OA) [(aw 5),(aw 6),(aw 7),(aw 8),(aw 9)] 12 aG ?_)
   rintro _ _ _ ⟨rfl,rfl,rfl⟩
   refine al ac (sv (nh zZ zZ) zZ (re ?_))
   revert H; refine aJ ?_ ?_ <;> intro Dl H
   ·
    refine gf zZ (nF Dl) (gk (gs (rg (sv (am (v := .agg #[.slice sy oP.length sc,.int .i64 pJ,.slice sx oO.length sb,.slice su oN.length sa,.slice ss oM.length rZ,.slice sq oL.length rY,.int .i64 vU,.int .i64 lY,.int .i64 sN,.int .i64 Li]) 1 (some 10) ag) zZ (so zZ (aD (cs' := [.slice sy oP.length sc,.int .i64 pJ,.slice sx oO.length sb,.slice su oN.length sa,.slice ss oM.length rZ,.slice sq oL.length rY,.int .i64 vU,.int .i64 lY,.int .i64 sN,.int .i64 Li]) 0 bh (au ac (re (aB [2,3] [0] [5,6,7,8,9] ae ?_)))))))))
    cases H
    exact rt Tryz.func9 zZ (.cell 0 (some 10) zZ zZ zZ (.tmp zZ .nil)) zZ [] [(aj 0 2 1),(aj 1 2 2),(aj 2 2 3),(aj 3 2 4),(aj 4 2 5)] zZ zZ zZ zZ zZ ⟨_,_,_,_,_,_,_,_,_,_,zZ,zZ,zZ⟩
   ·
    refine gt zZ (nT Dl) (gs (rg (sv (gu (v := .agg #[.slice none 0 0,.int .i64 0,.slice none 0 0,.slice none 0 0,.slice none 0 0,.slice none 0 0,.int .i64 0,.int .i64 0,.int .i64 0,.int .i64 0]) zZ kK) zZ (so zZ (aD (cs' := [.slice none 0 0,.int .i64 0,.slice none 0 0,.slice none 0 0,.slice none 0 0,.slice none 0 0,.int .i64 0,.int .i64 0,.int .i64 0,.int .i64 0]) 0 bh (au ac (re (aB [2,3] [0] [] ae (aR ai 1 dq (aR ai 2 dq (aR ai 3 dq (aR ai 4 dq (aR aZ 5 dq ?_)))))))))))))
    cases H
    exact rt Tryz.func9 zZ (.cell 0 (some 10) zZ zZ zZ (.tmp zZ .nil)) zZ [] [(aj 0 2 1),(aj 1 2 2),(aj 2 2 3),(aj 3 2 4),(aj 4 2 5)] zZ zZ zZ zZ zZ ⟨_,_,_,_,_,_,_,_,_,_,zZ,zZ,zZ⟩
  ·
   refine gs (rg (au ac (re (gb (aR ai 13 dq (aR ai 14 dq (aR ai 15 dq (aR ai 16 dq (aR aZ 17 dq (aR aZ 18 dq ?_))))))))))
   refine lo (fun kk S => ∃ (jl : ByteArray) (fC : List ByteArray) (tP : Option Addr) (tO : Nat) (mP : List ByteArray) (Jl : Option Addr) (IY : Nat) (Ae : Int) (rI : List ah) (wP : Option Addr) (wC : Nat) (vH : Int) (rH : List ah) (wO : Option Addr) (wB : Nat) (rG : List ah) (wN : Option Addr) (wA : Nat) (rF : List ah) (wM : Option Addr) (wz : Nat) (rE : List aT) (wL : Option Addr) (ww : Nat) (vG : Int) (vF : Int) (vE : Int) (vD : Int) (pH : List ah) (vg : Option Addr) (uY : Nat) (tV : Int) (pG : List ah) (ve : Option Addr) (uX : Nat) (pF : List ah) (vc : Option Addr) (uW : Nat) (pE : List ah) (u9 : Option Addr) (uV : Nat) (oK : List aT) (Bn : Option Addr) (Bj : Nat) (tU : Int) (tT : Int) (tR : Int) (tQ : Int),dn.l0 kk jl fC mP Ae rI vH rH rG rF rE vG vF vE vD pH tV pG pF pE oK tU tT tR tQ = some (r0,r1,r2,r3,r4,r5,r6,r7,r8,r9,my) ∧ S = ⟨[(0,.string jl),(2,.pointer (some ⟨b2,0,none⟩)),(4,.slice tP fC.length tO),(5,.pointer (some ⟨b5,0,none⟩)),(6,.slice Jl mP.length IY),(7,.int .i64 Ae)],[⟨b2,27,[.slice wP rI.length wC,.int .i64 vH,.slice wO rH.length wB,.slice wN rG.length wA,.slice wM rF.length wz,.slice wL rE.length ww,.int .i64 vG,.int .i64 vF,.int .i64 vE,.int .i64 vD]⟩,⟨b5,27,[.slice vg pH.length uY,.int .i64 tV,.slice ve pG.length uX,.slice vc pF.length uW,.slice u9 pE.length uV,.slice Bn oK.length Bj,.int .i64 tU,.int .i64 tT,.int .i64 tR,.int .i64 tQ]⟩],[.sl 2 .str tP tO fC 1 true,.sl 2 .str Jl IY mP 2 true,.sl 2 ai wP wC rI 3 true,.sl 2 ai wO wB rH 4 true,.sl 2 ai wN wA rG 5 true,.sl 2 ai wM wz rF 6 true,.sl 2 aZ wL ww rE 7 true,.sl 2 ai vg uY pH 8 true,.sl 2 ai ve uX pG 9 true,.sl 2 ai vc uW pF 10 true,.sl 2 ai u9 uV pE 11 true,.sl 2 aZ Bn Bj oK 12 true]⟩) (fun S hS => ?_) (fun n0 cZ S hS => ?_) ⟨a0,t1,iF,iE,qp,Q0,Qo,0,[],none,0,0,[],none,0,[],none,0,[],none,0,[],none,0,0,0,0,0,k8,Jm,IZ,kN,cH,ck,cj,cS,cM,cL,gB,fA,fz,[],none,0,0,0,0,0,H,zZ⟩ (fun h => wk [0,2,4,5,6,7] [0,1] [(aj 0 2 1),(aj 5 2 2),(aj 6 2 3),(aj 7 2 4),(aj 8 2 5),(aj 9 2 6),(aj 10 2 7),(aj 1 2 8),(aj 2 2 9),(aj 3 2 10),(aj 4 2 11),(aj 11 2 12)] h)
   · clear H; obtain ⟨_,_,_,_,_,_,_,_,_,_,_,_,_,_,_,_,_,_,_,_,_,_,_,_,_,_,_,_,_,_,_,_,_,_,_,_,_,_,_,_,_,_,_,_,_,_,_,_,H,_⟩ := hS; rw [dn.l0] at H; cases H
   clear H
   obtain ⟨jl,fC,tP,tO,mP,Jl,IY,Ae,rI,wP,wC,vH,rH,wO,wB,rG,wN,wA,rF,wM,wz,rE,wL,ww,vG,vF,vE,vD,pH,vg,uY,tV,pG,ve,uX,pF,vc,uW,pE,u9,uV,oK,Bn,Bj,tU,tT,tR,tQ,H,rfl⟩ := hS
   rw [dn.l0] at H
   refine gs (gs (rg (al ac (al ac (sv (bG zZ) zZ (sv (bS ac) zZ (al ac ?_)))))))
   revert H; refine aJ ?_ ?_ <;> intro AF H
   ·
    refine ts 65 zZ (dT AF) (al ac ?_)
    revert H; refine aU ?_; intro PV H
    refine sv (aM 0 ag dq PV zZ) zZ (sv (bg (v := .string (bu ByteArray.empty fC 5)) 5 0 none 0 ByteArray.empty zZ zZ zZ dq PV zZ zZ zZ) zZ (sv (nh zZ zZ) zZ (sv (aQ ag) zZ (re ?_))))
    revert H; refine aJ ?_ ?_ <;> intro H3 H
    ·
     exact gf zZ (nF H3) (gx zZ (wk [0,2,4,5] [0,1] [(aj 0 2 1),(aj 2 2 2),(aj 3 2 3),(aj 4 2 4),(aj 5 2 5),(aj 6 2 6),(aj 7 2 7),(aj 8 2 8),(aj 9 2 9),(aj 10 2 10),(aj 11 2 11)] (gw _ ⟨_,jl,fC,tP,tO,rI,wP,wC,vH,rH,wO,wB,rG,wN,wA,rF,wM,wz,rE,wL,ww,vG,vF,vE,vD,pH,vg,uY,tV,pG,ve,uX,pF,vc,uW,pE,u9,uV,oK,Bn,Bj,tU,tT,tR,tQ,H,zZ⟩)))
    ·
     refine gt zZ (nT H3) (gk (gs (gb (gs (rg (al ac (al ac ?_)))))))
     revert H; refine aU ?_; intro JR H
     refine sv (aM 1 ag JR AF zZ) zZ (sv (bg (v := .string (bu ByteArray.empty mP Ae)) Ae 0 none 1 ByteArray.empty zZ zZ zZ JR AF zZ zZ zZ) zZ ?_)
     revert H; refine aS ?_; rintro ⟨AS,ahk⟩ A30 H
     refine so zZ (ax (de.ok n0 (bu ByteArray.empty mP Ae) _ _ A30) [] 13 aG ?_)
     rintro _ _ _ ⟨MP,L8,rfl,rfl,rfl⟩
     refine al ac (sv (bp ac) zZ (sv (bp ac) zZ (au ac (au ac (re (aB [0,2,4,5,6,7,8,66,67,68,69] [0,1] [0,1,2,3,4,5,6,7,8,9,10,11,12] ae (rg (sv (aq 5 zZ) zZ (sv (am 1 none ag) zZ (al ac (sv (gu (v := .agg #[.slice MP AS.length L8]) zZ kK) zZ (so zZ (bH (s := 1) (by_ := 24) aZ ([(⟨AS⟩ : aT)] : List aT) [[(MP,L8)]] [12] 15 [.tmp 84] dp dq zZ fun V6 U3 => (bR (en := [.sl 2 .str tP tO fC 1 true,.sl 2 .str Jl IY mP 2 true,.sl 2 ai wP wC rI 3 true,.sl 2 ai wO wB rH 4 true,.sl 2 ai wN wA rG 5 true,.sl 2 ai wM wz rF 6 true,.sl 2 aZ wL ww rE 7 true,.sl 2 ai vg uY pH 8 true,.sl 2 ai ve uX pG 9 true,.sl 2 ai vc uW pF 10 true,.sl 2 ai u9 uV pE 11 true,.sl 2 aZ Bn Bj oK 12 true,.sl 2 ai MP L8 AS 15 true,.sl 2 aZ V6 U3 ([(⟨AS⟩ : aT)] : List aT) 15 true]) kK ?_))))))))))))))
     revert H; refine aU ?_; intro Uu H
     exact so zZ (di (k := aZ) (s := 1) (by_ := 24) 11 13 ae (km Uu dq) (iz Uu dq) (.inr ⟨dq,dq,zZ,dq⟩) true (fun _ => .inr ⟨zZ,zZ,dq⟩) ac fun Q6 Qu => (bR (en := [.sl 2 .str tP tO fC 1 true,.sl 2 .str Jl IY mP 2 true,.sl 2 ai wP wC rI 3 true,.sl 2 ai wO wB rH 4 true,.sl 2 ai wN wA rG 5 true,.sl 2 ai wM wz rF 6 true,.sl 2 aZ wL ww rE 7 true,.sl 2 ai vg uY pH 8 true,.sl 2 ai ve uX pG 9 true,.sl 2 ai vc uW pF 10 true,.sl 2 ai u9 uV pE 11 true,.sl 2 ai MP L8 AS 12 true,.sl 2 aZ V6 U3 ([(⟨AS⟩ : aT)] : List aT) 12 true,.sl 2 aZ Q6 Qu (oK ++ ([(⟨AS⟩ : aT)] : List aT)) 12 true]) kK (sv (aq 5 zZ) zZ (so zZ (aD (cs' := [.slice vg pH.length uY,.int .i64 tV,.slice ve pG.length uX,.slice vc pF.length uW,.slice u9 pE.length uV,.slice Q6 (oK ++ ([(⟨AS⟩ : aT)] : List aT)).length Qu,.int .i64 tU,.int .i64 tT,.int .i64 tR,.int .i64 tQ]) 1 bh (re (aB [0,2,4,5,6,7,66,67,68,69] [0,1] [0,1,2,3,4,5,6,7,8,9,10,13] ae (ge (rg (al ac (sv (ba ac) zZ (au ac (re (wk [0,2,4,5,6,7] [0,1] [(aj 0 2 1),(aj 1 2 2),(aj 2 2 3),(aj 3 2 4),(aj 4 2 5),(aj 5 2 6),(aj 6 2 7),(aj 7 2 8),(aj 8 2 9),(aj 9 2 10),(aj 10 2 11),(aj 11 2 12)] (cZ _ (by omega) _ ⟨jl,fC,tP,tO,mP,Jl,IY,wrap64 (Ae + 1),rI,wP,wC,vH,rH,wO,wB,rG,wN,wA,rF,wM,wz,rE,wL,ww,vG,vF,vE,vD,pH,vg,uY,tV,pG,ve,uX,pF,vc,uW,pE,u9,uV,oK ++ ([(⟨AS⟩ : aT)] : List aT),Q6,Qu,tU,tT,tR,tQ,H,zZ⟩)))))))))))))))
   ·
    exact ts 65 zZ (dF AF) (sk zZ (sk zZ (sk zZ (sk zZ (sv (aI ag) zZ (re (aB [0,2,4,5,6,7,70] [0,1] [0,1,2,3,4,5,6,7,8,9,10,11] ae (gf zZ zZ (gx zZ (wk [0,2,4,5] [0,1] [(aj 0 2 1),(aj 2 2 2),(aj 3 2 3),(aj 4 2 4),(aj 5 2 5),(aj 6 2 6),(aj 7 2 7),(aj 8 2 8),(aj 9 2 9),(aj 10 2 10),(aj 11 2 11)] (gw _ ⟨_,jl,fC,tP,tO,rI,wP,wC,vH,rH,wO,wB,rG,wN,wA,rF,wM,wz,rE,wL,ww,vG,vF,vE,vD,pH,vg,uY,tV,pG,ve,uX,pF,vc,uW,pE,u9,uV,oK,Bn,Bj,tU,tT,tR,tQ,H,zZ⟩)))))))))))
 ·
  refine gt zZ (nT c2) (gs (rg (sv (gu (v := .agg #[.slice none 0 0,.int .i64 0,.slice none 0 0,.slice none 0 0,.slice none 0 0,.slice none 0 0,.int .i64 0,.int .i64 0,.int .i64 0,.int .i64 0]) zZ kK) zZ (so zZ (aD (cs' := [.slice none 0 0,.int .i64 0,.slice none 0 0,.slice none 0 0,.slice none 0 0,.slice none 0 0,.int .i64 0,.int .i64 0,.int .i64 0,.int .i64 0]) 0 bh (au ac (re (aB [2,3] [0] [] ae (aR ai 1 dq (aR ai 2 dq (aR ai 3 dq (aR ai 4 dq (aR aZ 5 dq ?_)))))))))))))
  cases H
  exact rt Tryz.func9 zZ (.cell 0 (some 10) zZ zZ zZ (.tmp zZ .nil)) zZ [] [(aj 0 2 1),(aj 1 2 2),(aj 2 2 3),(aj 3 2 4),(aj 4 2 5)] zZ zZ zZ zZ zZ ⟨_,_,_,_,_,_,_,_,_,_,zZ,zZ,zZ⟩
end Go.Proofs.YtfoblaonklkaoaaGreat.K
