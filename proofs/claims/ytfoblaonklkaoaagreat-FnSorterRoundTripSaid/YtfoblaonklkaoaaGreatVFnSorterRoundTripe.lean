/- Walks: what the functions compute. Printed by gen.py; no condition. -/
import Derived.Test.YtfoblaonklkaoaaGreatVFnSorterRoundTripd
namespace Go.Proofs.YtfoblaonklkaoaaGreat.K
open Go Go.RowKit
set_option linter.unusedVariables false
set_option linter.unusedSimpArgs false
set_option maxHeartbeats 4000000
set_option maxRecDepth 100000
mutual
def bi.j0 : Nat → (List ah) → (List ah) → Int → (List ah) → (List ah) → (List ah) → (List aT) → Int → Int → Int → Int → (List ah) → Int → (List ah) → (List ah) → (List ah) → (List aT) → Int → Int → Int → Int → Option ((List ah) × Int × (List ah) × (List ah) × (List ah) × (List aT) × Int × Int × Int × Int × (List ah) × Bool)
 | 0,_,_,_,_,_,_,_,_,_,_,_,_,_,_,_,_,_,_,_,_,_ => none
 | k + 1,M1,Hr,K9,Hq,Hp,Ho,Hn,K8,K7,K6,K5,zt,BN,zs,zr,zq,zp,BM,BL,BK,BJ => some (zt,BN,zs,zr,zq,zp,BM,BL,BK,BJ,M1,true)
def bi.j1 : Nat → (List ah) → (List ah) → Int → (List ah) → (List ah) → (List ah) → (List aT) → Int → Int → Int → Int → (List ah) → Int → (List ah) → (List ah) → (List ah) → (List aT) → Int → Int → Int → Int → Option ((List ah) × Int × (List ah) × (List ah) × (List ah) × (List aT) × Int × Int × Int × Int × (List ah) × Bool)
 | 0,_,_,_,_,_,_,_,_,_,_,_,_,_,_,_,_,_,_,_,_,_ => none
 | k + 1,oJ,BI,DF,BH,BG,BF,BE,DE,DD,DC,DB,zo,BD,zn,zm,zl,zk,BC,BB,BA,Bz => bi.j0 k oJ BI DF BH BG BF BE DE DD DC DB zo (wrap64 (BD + 1)) zn zm zl zk BC BB BA Bz
def bi.j3 : Nat → (List ah) → (List ah) → Int → (List ah) → (List ah) → (List ah) → (List aT) → Int → Int → Int → Int → (List ah) → Int → (List ah) → (List ah) → (List ah) → (List aT) → Int → Int → Int → Int → Int → Int → Int → Option ((List ah) × Int × (List ah) × (List ah) × (List ah) × (List aT) × Int × Int × Int × Int × (List ah) × Bool)
 | 0,_,_,_,_,_,_,_,_,_,_,_,_,_,_,_,_,_,_,_,_,_,_,_,_ => none
 | k + 1,Hm,ku,oI,kt,ks,kr,kq,oH,oG,oF,oE,iP,kb,iO,iN,gR,iD,ka,j9,j8,j7,ma,l9,l8 => if gR.length < 5864062014805 then ((fE.f ma l9 l8).bind fun Xc => (bi.j0 k Hm ku oI kt ks kr kq oH oG oF oE iP kb iO iN (gR ++ ([(⟨ma,l9,l8⟩ : ah)] : List ah)) iD ka j9 j8 (wrap64 (j7 + Xc)))) else none
def bi.j2 : Nat → (List ah) → (List ah) → (List ah) → (List ah) → Int → (List ah) → (List ah) → (List ah) → (List aT) → Int → Int → Int → Int → (List ah) → Int → (List ah) → (List ah) → (List ah) → (List aT) → Int → Int → Int → Int → Option ((List ah) × Int × (List ah) × (List ah) × (List ah) × (List aT) × Int × Int × Int × Int × (List ah) × Bool)
 | 0,_,_,_,_,_,_,_,_,_,_,_,_,_,_,_,_,_,_,_,_,_,_,_ => none
 | k + 1,xQ,gZ,gS,rD,s5,rC,rB,rA,rz,sZ,sY,sX,sW,mO,n8,mN,mM,mL,mK,ek,eh,n7,n6 => if eh = (gS.length : Int) then (if 0 ≤ ek then (if ek < (gZ.length : Int) then (bi.j3 k xQ rD s5 rC rB rA rz sZ sY sX sW mO n8 mN mM mL mK (wrap64 (ek + 1)) eh n7 n6 ((aa gZ ek).f0) ((aa gZ ek).f1) ((aa gZ ek).f2)) else none) else none) else (if ek < (gZ.length : Int) then (if 0 ≤ ek then (if 0 ≤ eh then (if eh < (gS.length : Int) then ((dB.f ((aa gZ ek).f0) ((aa gZ ek).f1) ((aa gZ ek).f2) ((aa gS eh).f0) ((aa gS eh).f1) ((aa gS eh).f2)).bind fun Zw => (if Zw ≤ 0 then (bi.j3 k xQ rD s5 rC rB rA rz sZ sY sX sW mO n8 mN mM mL mK (wrap64 (ek + 1)) eh n7 n6 ((aa gZ ek).f0) ((aa gZ ek).f1) ((aa gZ ek).f2)) else (bi.j3 k xQ rD s5 rC rB rA rz sZ sY sX sW mO n8 mN mM mL mK ek (wrap64 (eh + 1)) n7 n6 ((aa gS eh).f0) ((aa gS eh).f1) ((aa gS eh).f2)))) else none) else none) else none) else (if 0 ≤ eh then (if eh < (gS.length : Int) then (bi.j3 k xQ rD s5 rC rB rA rz sZ sY sX sW mO n8 mN mM mL mK ek (wrap64 (eh + 1)) n7 n6 ((aa gS eh).f0) ((aa gS eh).f1) ((aa gS eh).f2)) else none) else none))
end
def bi.f (k : Nat) (av : List ah) (aF : Int) (aP : List ah) (aW : List ah) (aO : List ah) (aH : List aT) (bD : Int) (bI : Int) (bK : Int) (bE : Int) (a1 : Int) : Option ((List ah) × Int × (List ah) × (List ah) × (List ah) × (List aT) × Int × Int × Int × Int × (List ah) × Bool) := (mr.f k av aF aP aW aO aH bD bI bK bE).bind fun aE => ((dc.f k av aF aP aW aO aH bD bI bK bE).bind fun t2 => (if t2 = true then ((oV.f a1).bind fun t4 => (if t4 = true then (if bK = 4 then (some (aE.1,aE.2.1,aE.2.2.1,aE.2.2.2.1,aE.2.2.2.2.1,aE.2.2.2.2.2.1,aE.2.2.2.2.2.2.1,aE.2.2.2.2.2.2.2.1,aE.2.2.2.2.2.2.2.2.1,aE.2.2.2.2.2.2.2.2.2,[],false)) else (if aE.2.2.2.2.2.2.2.2.1 = 1 then (if aE.2.1 < (aE.1.length : Int) then (if 0 ≤ aE.2.1 then ((hJ.f k aE.1 aE.2.1 aE.2.2.1 aE.2.2.2.1 aE.2.2.2.2.1 aE.2.2.2.2.2.1 aE.2.2.2.2.2.2.1 aE.2.2.2.2.2.2.2.1 aE.2.2.2.2.2.2.2.2.1 aE.2.2.2.2.2.2.2.2.2).bind fun Au => ((fE.f ((aa aE.1 aE.2.1).f0) ((aa aE.1 aE.2.1).f1) ((aa aE.1 aE.2.1).f2)).bind fun vJ => (if (wrap64 (Au + vJ)) ≤ a1 then ((ow.f ((aa aE.1 aE.2.1).f0) ((aa aE.1 aE.2.1).f1) ((aa aE.1 aE.2.1).f2) aE.2.2.2.2.1).bind fun t16 => (if t16 = true then (if aE.2.2.2.1.length < 5864062014805 then (bi.j1 k [] [] 0 [] [] [] [] 0 0 0 0 aE.1 aE.2.1 aE.2.2.1 (aE.2.2.2.1 ++ ([(⟨(aa aE.1 aE.2.1).f0,(aa aE.1 aE.2.1).f1,(aa aE.1 aE.2.1).f2⟩ : ah)] : List ah)) aE.2.2.2.2.1 aE.2.2.2.2.2.1 aE.2.2.2.2.2.2.1 aE.2.2.2.2.2.2.2.1 aE.2.2.2.2.2.2.2.2.1 aE.2.2.2.2.2.2.2.2.2) else none) else (if aE.2.2.1.length < 5864062014805 then (bi.j1 k [] [] 0 [] [] [] [] 0 0 0 0 aE.1 aE.2.1 (aE.2.2.1 ++ ([(⟨(aa aE.1 aE.2.1).f0,(aa aE.1 aE.2.1).f1,(aa aE.1 aE.2.1).f2⟩ : ah)] : List ah)) aE.2.2.2.1 aE.2.2.2.2.1 aE.2.2.2.2.2.1 aE.2.2.2.2.2.2.1 aE.2.2.2.2.2.2.2.1 aE.2.2.2.2.2.2.2.2.1 aE.2.2.2.2.2.2.2.2.2) else none))) else (if (aE.2.2.1.length : Int) = 0 then (if (aE.2.2.2.1.length : Int) > 0 then ((gJ.f aE.1 aE.2.1 aE.2.2.1 aE.2.2.2.1 aE.2.2.2.2.1 aE.2.2.2.2.2.1 aE.2.2.2.2.2.2.1 aE.2.2.2.2.2.2.2.1 aE.2.2.2.2.2.2.2.2.1 aE.2.2.2.2.2.2.2.2.2).bind fun wh => (bi.j0 k [] [] 0 [] [] [] [] 0 0 0 0 wh.1 wh.2.2.2.2.2.1 wh.2.2.1 [] wh.2.2.2.1 wh.2.2.2.2.1 wh.2.2.2.2.2.2.1 wh.2.2.2.2.2.2.2.1 wh.2.2.2.2.2.2.2.2.1 wh.2.2.2.2.2.2.2.2.2)) else (if (aE.2.2.1.length : Int) > 0 then ((dS.f k aE.2.2.1).bind fun iT => (if 0 ≤ iT then (if iT < (aE.2.2.1.length : Int) then ((jU.f aE.2.2.1 iT).bind fun DQ => (if aE.2.2.2.2.1.length < 5864062014805 then ((fE.f ((aa aE.2.2.1 iT).f0) ((aa aE.2.2.1 iT).f1) ((aa aE.2.2.1 iT).f2)).bind fun Pq => (bi.j0 k [] [] 0 [] [] [] [] 0 0 0 0 aE.1 aE.2.1 DQ aE.2.2.2.1 (aE.2.2.2.2.1 ++ ([(⟨(aa aE.2.2.1 iT).f0,(aa aE.2.2.1 iT).f1,(aa aE.2.2.1 iT).f2⟩ : ah)] : List ah)) aE.2.2.2.2.2.1 aE.2.2.2.2.2.2.1 aE.2.2.2.2.2.2.2.1 aE.2.2.2.2.2.2.2.2.1 (wrap64 (aE.2.2.2.2.2.2.2.2.2 + Pq)))) else none)) else none) else none)) else (if (aE.2.2.2.2.1.length : Int) > 0 then ((gJ.f aE.1 aE.2.1 aE.2.2.1 aE.2.2.2.1 aE.2.2.2.2.1 aE.2.2.2.2.2.1 aE.2.2.2.2.2.2.1 aE.2.2.2.2.2.2.2.1 aE.2.2.2.2.2.2.2.2.1 aE.2.2.2.2.2.2.2.2.2).bind fun wg => ((ez.f wg.1 wg.2.2.2.2.2.1 wg.2.1 wg.2.2.1 wg.2.2.2.1 wg.2.2.2.2.1 wg.2.2.2.2.2.2.1 wg.2.2.2.2.2.2.2.1 wg.2.2.2.2.2.2.2.2.1 wg.2.2.2.2.2.2.2.2.2).bind fun QG => (bi.j0 k [] [] 0 [] [] [] [] 0 0 0 0 wg.1 QG.1 wg.2.1 wg.2.2.1 wg.2.2.2.1 wg.2.2.2.2.1 QG.2.1 QG.2.2.1 QG.2.2.2.1 QG.2.2.2.2))) else ((ez.f aE.1 aE.2.1 aE.2.2.1 aE.2.2.2.1 aE.2.2.2.2.1 aE.2.2.2.2.2.1 aE.2.2.2.2.2.2.1 aE.2.2.2.2.2.2.2.1 aE.2.2.2.2.2.2.2.2.1 aE.2.2.2.2.2.2.2.2.2).bind fun QF => (bi.j0 k [] [] 0 [] [] [] [] 0 0 0 0 aE.1 QF.1 aE.2.2.1 aE.2.2.2.1 aE.2.2.2.2.1 aE.2.2.2.2.2.1 QF.2.1 QF.2.2.1 QF.2.2.2.1 QF.2.2.2.2))))) else (if (aE.2.2.1.length : Int) > 0 then ((dS.f k aE.2.2.1).bind fun kc => (if 0 ≤ kc then (if kc < (aE.2.2.1.length : Int) then ((jU.f aE.2.2.1 kc).bind fun eJ => (if aE.2.2.2.2.1.length < 5864062014805 then ((fE.f ((aa aE.2.2.1 kc).f0) ((aa aE.2.2.1 kc).f1) ((aa aE.2.2.1 kc).f2)).bind fun Pp => (bi.j0 k [] [] 0 [] [] [] [] 0 0 0 0 aE.1 aE.2.1 eJ aE.2.2.2.1 (aE.2.2.2.2.1 ++ ([(⟨(aa aE.2.2.1 kc).f0,(aa aE.2.2.1 kc).f1,(aa aE.2.2.1 kc).f2⟩ : ah)] : List ah)) aE.2.2.2.2.2.1 aE.2.2.2.2.2.2.1 aE.2.2.2.2.2.2.2.1 aE.2.2.2.2.2.2.2.2.1 (wrap64 (aE.2.2.2.2.2.2.2.2.2 + Pp)))) else none)) else none) else none)) else (if (aE.2.2.2.2.1.length : Int) > 0 then ((gJ.f aE.1 aE.2.1 aE.2.2.1 aE.2.2.2.1 aE.2.2.2.2.1 aE.2.2.2.2.2.1 aE.2.2.2.2.2.2.1 aE.2.2.2.2.2.2.2.1 aE.2.2.2.2.2.2.2.2.1 aE.2.2.2.2.2.2.2.2.2).bind fun we => ((ez.f we.1 we.2.2.2.2.2.1 we.2.1 we.2.2.1 we.2.2.2.1 we.2.2.2.2.1 we.2.2.2.2.2.2.1 we.2.2.2.2.2.2.2.1 we.2.2.2.2.2.2.2.2.1 we.2.2.2.2.2.2.2.2.2).bind fun vA => (bi.j0 k [] [] 0 [] [] [] [] 0 0 0 0 we.1 vA.1 we.2.1 we.2.2.1 we.2.2.2.1 we.2.2.2.2.1 vA.2.1 vA.2.2.1 vA.2.2.2.1 vA.2.2.2.2))) else ((ez.f aE.1 aE.2.1 aE.2.2.1 aE.2.2.2.1 aE.2.2.2.2.1 aE.2.2.2.2.2.1 aE.2.2.2.2.2.2.1 aE.2.2.2.2.2.2.2.1 aE.2.2.2.2.2.2.2.2.1 aE.2.2.2.2.2.2.2.2.2).bind fun QE => (bi.j0 k [] [] 0 [] [] [] [] 0 0 0 0 aE.1 QE.1 aE.2.2.1 aE.2.2.2.1 aE.2.2.2.2.1 aE.2.2.2.2.2.1 QE.2.1 QE.2.2.1 QE.2.2.2.1 QE.2.2.2.2)))))))) else none) else (if (aE.2.2.1.length : Int) = 0 then (if (aE.2.2.2.1.length : Int) > 0 then ((gJ.f aE.1 aE.2.1 aE.2.2.1 aE.2.2.2.1 aE.2.2.2.2.1 aE.2.2.2.2.2.1 aE.2.2.2.2.2.2.1 aE.2.2.2.2.2.2.2.1 aE.2.2.2.2.2.2.2.2.1 aE.2.2.2.2.2.2.2.2.2).bind fun Gw => (bi.j0 k [] [] 0 [] [] [] [] 0 0 0 0 Gw.1 Gw.2.2.2.2.2.1 Gw.2.2.1 [] Gw.2.2.2.1 Gw.2.2.2.2.1 Gw.2.2.2.2.2.2.1 Gw.2.2.2.2.2.2.2.1 Gw.2.2.2.2.2.2.2.2.1 Gw.2.2.2.2.2.2.2.2.2)) else (if (aE.2.2.1.length : Int) > 0 then ((dS.f k aE.2.2.1).bind fun iS => (if 0 ≤ iS then (if iS < (aE.2.2.1.length : Int) then ((jU.f aE.2.2.1 iS).bind fun HA => (if aE.2.2.2.2.1.length < 5864062014805 then ((fE.f ((aa aE.2.2.1 iS).f0) ((aa aE.2.2.1 iS).f1) ((aa aE.2.2.1 iS).f2)).bind fun Xf => (bi.j0 k [] [] 0 [] [] [] [] 0 0 0 0 aE.1 aE.2.1 HA aE.2.2.2.1 (aE.2.2.2.2.1 ++ ([(⟨(aa aE.2.2.1 iS).f0,(aa aE.2.2.1 iS).f1,(aa aE.2.2.1 iS).f2⟩ : ah)] : List ah)) aE.2.2.2.2.2.1 aE.2.2.2.2.2.2.1 aE.2.2.2.2.2.2.2.1 aE.2.2.2.2.2.2.2.2.1 (wrap64 (aE.2.2.2.2.2.2.2.2.2 + Xf)))) else none)) else none) else none)) else (if (aE.2.2.2.2.1.length : Int) > 0 then ((gJ.f aE.1 aE.2.1 aE.2.2.1 aE.2.2.2.1 aE.2.2.2.2.1 aE.2.2.2.2.2.1 aE.2.2.2.2.2.2.1 aE.2.2.2.2.2.2.2.1 aE.2.2.2.2.2.2.2.2.1 aE.2.2.2.2.2.2.2.2.2).bind fun wd => ((ez.f wd.1 wd.2.2.2.2.2.1 wd.2.1 wd.2.2.1 wd.2.2.2.1 wd.2.2.2.2.1 wd.2.2.2.2.2.2.1 wd.2.2.2.2.2.2.2.1 wd.2.2.2.2.2.2.2.2.1 wd.2.2.2.2.2.2.2.2.2).bind fun QD => (bi.j0 k [] [] 0 [] [] [] [] 0 0 0 0 wd.1 QD.1 wd.2.1 wd.2.2.1 wd.2.2.2.1 wd.2.2.2.2.1 QD.2.1 QD.2.2.1 QD.2.2.2.1 QD.2.2.2.2))) else ((ez.f aE.1 aE.2.1 aE.2.2.1 aE.2.2.2.1 aE.2.2.2.2.1 aE.2.2.2.2.2.1 aE.2.2.2.2.2.2.1 aE.2.2.2.2.2.2.2.1 aE.2.2.2.2.2.2.2.2.1 aE.2.2.2.2.2.2.2.2.2).bind fun QC => (bi.j0 k [] [] 0 [] [] [] [] 0 0 0 0 aE.1 QC.1 aE.2.2.1 aE.2.2.2.1 aE.2.2.2.2.1 aE.2.2.2.2.2.1 QC.2.1 QC.2.2.1 QC.2.2.2.1 QC.2.2.2.2))))) else (if (aE.2.2.1.length : Int) > 0 then ((dS.f k aE.2.2.1).bind fun jq => (if 0 ≤ jq then (if jq < (aE.2.2.1.length : Int) then ((jU.f aE.2.2.1 jq).bind fun JI => (if aE.2.2.2.2.1.length < 5864062014805 then ((fE.f ((aa aE.2.2.1 jq).f0) ((aa aE.2.2.1 jq).f1) ((aa aE.2.2.1 jq).f2)).bind fun Po => (bi.j0 k [] [] 0 [] [] [] [] 0 0 0 0 aE.1 aE.2.1 JI aE.2.2.2.1 (aE.2.2.2.2.1 ++ ([(⟨(aa aE.2.2.1 jq).f0,(aa aE.2.2.1 jq).f1,(aa aE.2.2.1 jq).f2⟩ : ah)] : List ah)) aE.2.2.2.2.2.1 aE.2.2.2.2.2.2.1 aE.2.2.2.2.2.2.2.1 aE.2.2.2.2.2.2.2.2.1 (wrap64 (aE.2.2.2.2.2.2.2.2.2 + Po)))) else none)) else none) else none)) else (if (aE.2.2.2.2.1.length : Int) > 0 then ((gJ.f aE.1 aE.2.1 aE.2.2.1 aE.2.2.2.1 aE.2.2.2.2.1 aE.2.2.2.2.2.1 aE.2.2.2.2.2.2.1 aE.2.2.2.2.2.2.2.1 aE.2.2.2.2.2.2.2.2.1 aE.2.2.2.2.2.2.2.2.2).bind fun v5 => ((ez.f v5.1 v5.2.2.2.2.2.1 v5.2.1 v5.2.2.1 v5.2.2.2.1 v5.2.2.2.2.1 v5.2.2.2.2.2.2.1 v5.2.2.2.2.2.2.2.1 v5.2.2.2.2.2.2.2.2.1 v5.2.2.2.2.2.2.2.2.2).bind fun QB => (bi.j0 k [] [] 0 [] [] [] [] 0 0 0 0 v5.1 QB.1 v5.2.1 v5.2.2.1 v5.2.2.2.1 v5.2.2.2.2.1 QB.2.1 QB.2.2.1 QB.2.2.2.1 QB.2.2.2.2))) else ((ez.f aE.1 aE.2.1 aE.2.2.1 aE.2.2.2.1 aE.2.2.2.2.1 aE.2.2.2.2.2.1 aE.2.2.2.2.2.2.1 aE.2.2.2.2.2.2.2.1 aE.2.2.2.2.2.2.2.2.1 aE.2.2.2.2.2.2.2.2.2).bind fun QA => (bi.j0 k [] [] 0 [] [] [] [] 0 0 0 0 aE.1 QA.1 aE.2.2.1 aE.2.2.2.1 aE.2.2.2.2.1 aE.2.2.2.2.2.1 QA.2.1 QA.2.2.1 QA.2.2.2.1 QA.2.2.2.2)))))) else (if aE.2.2.2.2.2.2.2.2.1 = 2 then (if 0 < (aE.2.2.2.2.2.1.length : Int) then (if 1 < (aE.2.2.2.2.2.1.length : Int) then (if aE.2.2.2.2.2.2.1 = (((aC aE.2.2.2.2.2.1 0).f0).length : Int) then (if aE.2.2.2.2.2.2.2.1 = (((aC aE.2.2.2.2.2.1 1).f0).length : Int) then (if 2 ≤ (aE.2.2.2.2.2.1.length : Int) then ((gJ.f aE.1 aE.2.1 aE.2.2.1 aE.2.2.2.1 aE.2.2.2.2.1 (aE.2.2.2.2.2.1.drop (2 : Int).toNat) aE.2.2.2.2.2.2.1 aE.2.2.2.2.2.2.2.1 aE.2.2.2.2.2.2.2.2.1 aE.2.2.2.2.2.2.2.2.2).bind fun sV => ((ez.f sV.1 sV.2.2.2.2.2.1 sV.2.1 sV.2.2.1 sV.2.2.2.1 sV.2.2.2.2.1 sV.2.2.2.2.2.2.1 sV.2.2.2.2.2.2.2.1 sV.2.2.2.2.2.2.2.2.1 sV.2.2.2.2.2.2.2.2.2).bind fun Mi => (bi.j0 k [] [] 0 [] [] [] [] 0 0 0 0 sV.1 Mi.1 sV.2.1 sV.2.2.1 sV.2.2.2.1 sV.2.2.2.2.1 Mi.2.1 Mi.2.2.1 Mi.2.2.2.1 Mi.2.2.2.2))) else none) else (bi.j2 k [] ((aC aE.2.2.2.2.2.1 0).f0) ((aC aE.2.2.2.2.2.1 1).f0) [] 0 [] [] [] [] 0 0 0 0 aE.1 aE.2.1 aE.2.2.1 aE.2.2.2.1 aE.2.2.2.2.1 aE.2.2.2.2.2.1 aE.2.2.2.2.2.2.1 aE.2.2.2.2.2.2.2.1 aE.2.2.2.2.2.2.2.2.1 aE.2.2.2.2.2.2.2.2.2)) else (bi.j2 k [] ((aC aE.2.2.2.2.2.1 0).f0) ((aC aE.2.2.2.2.2.1 1).f0) [] 0 [] [] [] [] 0 0 0 0 aE.1 aE.2.1 aE.2.2.1 aE.2.2.2.1 aE.2.2.2.2.1 aE.2.2.2.2.2.1 aE.2.2.2.2.2.2.1 aE.2.2.2.2.2.2.2.1 aE.2.2.2.2.2.2.2.2.1 aE.2.2.2.2.2.2.2.2.2)) else none) else none) else (if aE.2.2.2.2.2.2.2.2.1 = 3 then (if 0 < (aE.2.2.2.2.2.1.length : Int) then (if 0 ≤ aE.2.2.2.2.2.2.1 then (if aE.2.2.2.2.2.2.1 < (((aC aE.2.2.2.2.2.1 0).f0).length : Int) then (if ([] : List ah).length < 5864062014805 then (if (wrap64 (aE.2.2.2.2.2.2.1 + 1)) = (aE.1.length : Int) then (bi.j0 k ([(⟨(aa ((aC aE.2.2.2.2.2.1 0).f0) aE.2.2.2.2.2.2.1).f0,(aa ((aC aE.2.2.2.2.2.1 0).f0) aE.2.2.2.2.2.2.1).f1,(aa ((aC aE.2.2.2.2.2.1 0).f0) aE.2.2.2.2.2.2.1).f2⟩ : ah)] : List ah) [] 0 [] [] [] [] 0 0 0 0 aE.1 aE.2.1 aE.2.2.1 aE.2.2.2.1 aE.2.2.2.2.1 aE.2.2.2.2.2.1 (wrap64 (aE.2.2.2.2.2.2.1 + 1)) aE.2.2.2.2.2.2.2.1 4 aE.2.2.2.2.2.2.2.2.2) else (bi.j0 k ([(⟨(aa ((aC aE.2.2.2.2.2.1 0).f0) aE.2.2.2.2.2.2.1).f0,(aa ((aC aE.2.2.2.2.2.1 0).f0) aE.2.2.2.2.2.2.1).f1,(aa ((aC aE.2.2.2.2.2.1 0).f0) aE.2.2.2.2.2.2.1).f2⟩ : ah)] : List ah) [] 0 [] [] [] [] 0 0 0 0 aE.1 aE.2.1 aE.2.2.1 aE.2.2.2.1 aE.2.2.2.2.1 aE.2.2.2.2.2.1 (wrap64 (aE.2.2.2.2.2.2.1 + 1)) aE.2.2.2.2.2.2.2.1 aE.2.2.2.2.2.2.2.2.1 aE.2.2.2.2.2.2.2.2.2)) else none) else none) else none) else none) else (bi.j0 k [] [] 0 [] [] [] [] 0 0 0 0 aE.1 aE.2.1 aE.2.2.1 aE.2.2.2.1 aE.2.2.2.2.1 aE.2.2.2.2.2.1 aE.2.2.2.2.2.2.1 aE.2.2.2.2.2.2.2.1 aE.2.2.2.2.2.2.2.2.1 aE.2.2.2.2.2.2.2.2.2))))) else (some (aE.1,aE.2.1,aE.2.2.1,aE.2.2.2.1,aE.2.2.2.2.1,aE.2.2.2.2.2.1,aE.2.2.2.2.2.2.1,aE.2.2.2.2.2.2.2.1,aE.2.2.2.2.2.2.2.2.1,aE.2.2.2.2.2.2.2.2.2,[],false)))) else (some (aE.1,aE.2.1,aE.2.2.1,aE.2.2.2.1,aE.2.2.2.2.1,aE.2.2.2.2.2.1,aE.2.2.2.2.2.2.1,aE.2.2.2.2.2.2.2.1,aE.2.2.2.2.2.2.2.2.1,aE.2.2.2.2.2.2.2.2.2,[],false))))
theorem bi.ok (k : Nat) (av : List ah) (aL : Option Addr) (aK : Nat) (aF : Int) (aP : List ah) (bB : Option Addr) (bA : Nat) (aW : List ah) (bm : Option Addr) (bk : Nat) (aO : List ah) (bo : Option Addr) (bn : Nat) (aH : List aT) (bl : Option Addr) (bj : Nat) (bD : Int) (bI : Int) (bK : Int) (bE : Int) (a1 : Int) (r0 : List ah) (r1 : Int) (r2 : List ah) (r3 : List ah) (r4 : List ah) (r5 : List aT) (r6 : Int) (r7 : Int) (r8 : Int) (r9 : Int) (my : List ah) (vp : Bool) (H : bi.f k av aF aP aW aO aH bD bI bK bE a1 = some (r0,r1,r2,r3,r4,r5,r6,r7,r8,r9,my,vp)) : Fn Tryz.prog 17 [.agg #[.slice aL av.length aK,.int .i64 aF,.slice bB aP.length bA,.slice bm aW.length bk,.slice bo aO.length bn,.slice bl aH.length bj,.int .i64 bD,.int .i64 bI,.int .i64 bK,.int .i64 bE],.int .i64 a1] [] [.sl 0 ai aL aK av 0 false,.sl 0 ai bB bA aP 0 false,.sl 0 ai bm bk aW 0 false,.sl 0 ai bo bn aO 0 false,.sl 0 aZ bl bj aH 0 false] (fun v bx en => ∃ A0 c0 A2 c2 A3 c3 A4 c4 A5 c5 mz lS,v = .tuple #[.agg #[.slice A0 r0.length c0,.int .i64 r1,.slice A2 r2.length c2,.slice A3 r3.length c3,.slice A4 r4.length c4,.slice A5 r5.length c5,.int .i64 r6,.int .i64 r7,.int .i64 r8,.int .i64 r9],.slice mz my.length lS,.bool vp] ∧ bx = [] ∧ en = [.sl 1 ai A0 c0 r0 1 true,.sl 1 ai A2 c2 r2 2 true,.sl 1 ai A3 c3 r3 3 true,.sl 2 ai A4 c4 r4 4 true,.sl 1 aZ A5 c5 r5 5 true,.sl 2 ai mz lS my 6 true]) := by
 refine eD 249 Tryz.func17 zZ zZ zZ (fun base T w0 => ?_)
 rw [bi.f] at H
 refine gs (rg (so zZ (gU (cs := [.slice aL av.length aK,.int .i64 aF,.slice bB aP.length bA,.slice bm aW.length bk,.slice bo aO.length bn,.slice bl aH.length bj,.int .i64 bD,.int .i64 bI,.int .i64 bK,.int .i64 bE]) ag fun b2 => (so zZ (dk (cs := [.slice none 0 0,.int .i64 0,.slice none 0 0,.slice none 0 0,.slice none 0 0,.slice none 0 0,.int .i64 0,.int .i64 0,.int .i64 0,.int .i64 0]) kK zZ fun b4 => (au ac (au ac (re (gs (rg (sv (am (v := .agg #[.slice aL av.length aK,.int .i64 aF,.slice bB aP.length bA,.slice bm aW.length bk,.slice bo aO.length bn,.slice bl aH.length bj,.int .i64 bD,.int .i64 bI,.int .i64 bK,.int .i64 bE]) 0 (some 10) ag) zZ ?_)))))))))))
 revert H; refine aS ?_; rintro ⟨bC,bX,bf,cX,cN,cd,du,d9,d8,dR⟩ A1 H
 refine so zZ (ax (mr.ok k av aL aK aF aP bB bA aW bm bk aO bo bn aH bl bj bD bI bK bE _ _ _ _ _ _ _ _ _ _ A1) [(aw 0),(aw 1),(aw 2),(aw 3),(aw 4)] 1 aG ?_)
 rintro _ _ _ ⟨ci,ch,cU,cT,cC,cB,dz,dy,cE,cA,rfl,rfl,rfl⟩
 refine so zZ (dk (cs := [.slice none 0 0,.int .i64 0,.slice none 0 0,.slice none 0 0,.slice none 0 0,.slice none 0 0,.int .i64 0,.int .i64 0,.int .i64 0,.int .i64 0]) kK zZ fun b7 => (so zZ (aD (cs' := [.slice ci bC.length ch,.int .i64 bX,.slice cU bf.length cT,.slice cC cX.length cB,.slice dz cN.length dy,.slice cE cd.length cA,.int .i64 du,.int .i64 d9,.int .i64 d8,.int .i64 dR]) 2 bh (re (gs (gs (rg (sv (am (v := .agg #[.slice aL av.length aK,.int .i64 aF,.slice bB aP.length bA,.slice bm aW.length bk,.slice bo aO.length bn,.slice bl aH.length bj,.int .i64 bD,.int .i64 bI,.int .i64 bK,.int .i64 bE]) 0 (some 10) ag) zZ ?_))))))))
 revert H; refine aS ?_; rintro t2 A2 H
 refine so zZ (ax (dc.ok k av aL aK aF aP bB bA aW bm bk aO bo bn aH bl bj bD bI bK bE _ A2) [(aw 0),(aw 1),(aw 2),(aw 3),(aw 4)] 7 aG ?_)
 rintro _ _ _ ⟨rfl,rfl,rfl⟩
 refine sv (eE zZ) zZ (al ac ?_)
 revert H; refine aJ ?_ ?_ <;> intro c3 H
 ·
  subst c3
  refine eq 20 ac (al ac ?_)
  revert H; refine aS ?_; rintro t4 A4 H
  refine so zZ (ax (oV.ok a1 _ A4) [] 7 aG ?_)
  rintro _ _ _ ⟨rfl,rfl,rfl⟩
  refine sv (eE zZ) zZ (sv (aI ag) zZ (al ac ?_))
  revert H; refine aJ ?_ ?_ <;> intro c5 H
  ·
   subst c5
   refine eq 25 ac (sv (aq 8 zZ) zZ (sv (am 0 none ag) zZ (sv (bZ ac) zZ (sv (aI ag) zZ (re (aB [1,4,7,29] [1,2] [5,6,7,8,9] ae ?_))))))
   revert H; refine aJ ?_ ?_ <;> intro c6 H
   ·
    refine gt zZ (dT c6) (gs (rg (sv (am (v := .agg #[.slice ci bC.length ch,.int .i64 bX,.slice cU bf.length cT,.slice cC cX.length cB,.slice dz cN.length dy,.slice cE cd.length cA,.int .i64 du,.int .i64 d9,.int .i64 d8,.int .i64 dR]) 1 (some 10) ag) zZ (so zZ (aD (cs' := [.slice ci bC.length ch,.int .i64 bX,.slice cU bf.length cT,.slice cC cX.length cB,.slice dz cN.length dy,.slice cE cd.length cA,.int .i64 du,.int .i64 d9,.int .i64 d8,.int .i64 dR]) 0 bh (au ac (au ac (re (aR ai 7 dq ?_)))))))))
    cases H
    exact rt Tryz.func17 zZ (.cell 0 (some 10) zZ zZ zZ (.tmp zZ (.tmp zZ .nil))) zZ [] [(aj 0 1 1),(aj 1 1 2),(aj 2 1 3),(aj 3 2 4),(aj 4 1 5),(aj 5 2 6)] zZ zZ zZ zZ zZ ⟨_,_,_,_,_,_,_,_,_,_,_,_,zZ,zZ,zZ⟩
   ·
    refine gf zZ (dF c6) (gk (gs (rg (so zZ (bH (s := 3) (by_ := 24) ai ([] : List ah) [] [] 7 [] dp dq zZ fun gQ gP => (au ac (re ?_)))))))
    refine jo (fun S => ∃ (m : Nat) (M1 : List ah) (Tj : Option Addr) (S5 : Nat) (Hr : List ah) (NQ : Option Addr) (Nq : Nat) (K9 : Int) (Hq : List ah) (NP : Option Addr) (Np : Nat) (Hp : List ah) (NO : Option Addr) (Nn : Nat) (Ho : List ah) (NN : Option Addr) (Nm : Nat) (Hn : List aT) (NM : Option Addr) (Nl : Nat) (K8 : Int) (K7 : Int) (K6 : Int) (K5 : Int) (zt : List ah) (Fl : Option Addr) (Ex : Nat) (BN : Int) (zs : List ah) (Fk : Option Addr) (Ew : Nat) (zr : List ah) (Fj : Option Addr) (Eu : Nat) (zq : List ah) (Fi : Option Addr) (Et : Nat) (zp : List aT) (Fh : Option Addr) (Es : Nat) (BM : Int) (BL : Int) (BK : Int) (BJ : Int),bi.j0 m M1 Hr K9 Hq Hp Ho Hn K8 K7 K6 K5 zt BN zs zr zq zp BM BL BK BJ = some (r0,r1,r2,r3,r4,r5,r6,r7,r8,r9,my,vp) ∧ S = ⟨[(4,.pointer (some ⟨b4,0,none⟩)),(7,.pointer (some ⟨b7,0,none⟩)),(8,.slice Tj M1.length S5)],[⟨b4,27,[.slice NQ Hr.length Nq,.int .i64 K9,.slice NP Hq.length Np,.slice NO Hp.length Nn,.slice NN Ho.length Nm,.slice NM Hn.length Nl,.int .i64 K8,.int .i64 K7,.int .i64 K6,.int .i64 K5]⟩,⟨b7,27,[.slice Fl zt.length Ex,.int .i64 BN,.slice Fk zs.length Ew,.slice Fj zr.length Eu,.slice Fi zq.length Et,.slice Fh zp.length Es,.int .i64 BM,.int .i64 BL,.int .i64 BK,.int .i64 BJ]⟩],[.sl 2 ai Tj S5 M1 1 true,.sl 2 ai NQ Nq Hr 2 true,.sl 2 ai NP Np Hq 3 true,.sl 2 ai NO Nn Hp 4 true,.sl 2 ai NN Nm Ho 5 true,.sl 2 aZ NM Nl Hn 6 true,.sl 1 ai Fl Ex zt 7 true,.sl 1 ai Fk Ew zs 8 true,.sl 1 ai Fj Eu zr 9 true,.sl 2 ai Fi Et zq 10 true,.sl 1 aZ Fh Es zp 11 true]⟩) (fun S hS => ?_) (fun gw => ?_)
    ·
     clear H
     obtain ⟨m8,M1,Tj,S5,Hr,NQ,Nq,K9,Hq,NP,Np,Hp,NO,Nn,Ho,NN,Nm,Hn,NM,Nl,K8,K7,K6,K5,zt,Fl,Ex,BN,zs,Fk,Ew,zr,Fj,Eu,zq,Fi,Et,zp,Fh,Es,BM,BL,BK,BJ,H,rfl⟩ := hS
     rcases m8 with _ | m8
     · rw [bi.j0] at H; cases H
     rw [bi.j0] at H
     refine gs (rg (sv (am (v := .agg #[.slice Fl zt.length Ex,.int .i64 BN,.slice Fk zs.length Ew,.slice Fj zr.length Eu,.slice Fi zq.length Et,.slice Fh zp.length Es,.int .i64 BM,.int .i64 BL,.int .i64 BK,.int .i64 BJ]) 1 (some 10) ag) zZ (al ac (so zZ (aD (cs' := [.slice Fl zt.length Ex,.int .i64 BN,.slice Fk zs.length Ew,.slice Fj zr.length Eu,.slice Fi zq.length Et,.slice Fh zp.length Es,.int .i64 BM,.int .i64 BL,.int .i64 BK,.int .i64 BJ]) 0 bh (au ac (au ac (re ?_))))))))
     cases H
     exact rt Tryz.func17 zZ (.cell 0 (some 10) zZ zZ zZ (.tmp zZ (.tmp zZ .nil))) zZ [] [(aj 6 1 1),(aj 7 1 2),(aj 8 1 3),(aj 9 2 4),(aj 10 1 5),(aj 0 2 6)] zZ zZ zZ zZ zZ ⟨_,_,_,_,_,_,_,_,_,_,_,_,zZ,zZ,zZ⟩
    ·
     refine gs (rg (sv (aq 8 zZ) zZ (sv (am 1 none ag) zZ (re (gb (gs (rg (sv (bZ ac) zZ (au ac (re ?_))))))))))
     revert H; refine aJ ?_ ?_ <;> intro c9 H
     ·
      refine gt zZ (dT c9) (gb (gs (fj [0,1] [0,1,2,3,4,5] [] 21 ae (ap 0 [0,1] [0,1,2,3,4,5] zZ (aq 1 zZ) ae (ap 1 [0,1] [0,1,2,3,4,5] zZ (am 1 none ag) ae (ap 2 [0,1] [0,1,2,3,4,5] zZ (aq 0 zZ) ae (ap 3 [0,1] [0,1,2,3,4,5] zZ (am 1 none ag) ae (ap 4 [0,1] [0,1,2,3,4,5] zZ (bG zZ) ae (ap 5 [0,1] [0,1,2,3,4,5] zZ (bS ac) ae (ap 6 [0,1] [0,1,2,3,4,5] zZ (aA zZ) ae ?_))))))))))
      revert H; refine aJ ?_ ?_ <;> intro lS H
      ·
       refine ts 49 zZ (dT lS) (ap 7 [0,1] [0,1,2,3,4,5] zZ (am (v := .agg #[.slice ci bC.length ch,.int .i64 bX,.slice cU bf.length cT,.slice cC cX.length cB,.slice dz cN.length dy,.slice cE cd.length cA,.int .i64 du,.int .i64 d9,.int .i64 d8,.int .i64 dR]) 1 (some 10) ag) ae (ap 9 [0,1] [0,1,2,3,4,5] zZ (aq 0 zZ) ae (ap 10 [0,1] [0,1,2,3,4,5] zZ (am 1 none ag) ae (ap 11 [0,1] [0,1,2,3,4,5] zZ (aq 1 zZ) ae (ap 12 [0,1] [0,1,2,3,4,5] zZ (am 1 none ag) ae ?_)))))
       revert H; refine aU ?_; intro lR H
       refine ap 13 [0,1] [0,1,2,3,4,5] zZ (aM 0 ag lR lS zZ) ae (ap 14 [0,1] [0,1,2,3,4,5] zZ (bg (v := .agg #[.int .i64 ((aa bC bX).f0),.int .i64 ((aa bC bX).f1),.int .i64 ((aa bC bX).f2)]) bX 0 (some 3) 0 cK zZ zZ zZ lR lS zZ zZ zZ) ae (ap 17 [0,1] [0,1,2,3,4,5] zZ (aA zZ) ae (ar 8 ac ?_)))
       revert H; refine aS ?_; rintro Au sE H
       refine ax (hJ.ok k bC ci ch bX bf cU cT cX cC cB cN dz dy cd cE cA du d9 d8 dR _ sE) [(aw 0),(aw 1),(aw 2),(aw 3),(aw 4)] 8 aG ?_
       rintro _ _ _ ⟨rfl,rfl,rfl⟩
       refine aN [0,1] [0,1,2,3,4,5] ag (ar 15 ac ?_)
       revert H; refine aS ?_; rintro vJ AI H
       refine ax (fE.ok ((aa bC bX).f0) ((aa bC bX).f1) ((aa bC bX).f2) _ AI) [] 8 aG ?_
       rintro _ _ _ ⟨rfl,rfl,rfl⟩
       refine aN [0,1] [0,1,2,3,4,5] ag (ap 16 [0,1] [0,1,2,3,4,5] zZ (ba ac) ae (ap 18 [0,1] [0,1,2,3,4,5] zZ (jv ac) ae (ap 19 [0,1] [0,1,2,3,4,5] zZ (aQ ag) ae (ap 20 [0,1] [0,1,2,3,4,5] zZ (gE zZ) ae (xd (aB [4,7,8,42] [0,1] [0,1,2,3,4,5] ae ?_))))))
       revert H; refine aJ ?_ ?_ <;> intro sC H
       ·
        refine gt zZ (dT sC) ?_
        refine jo (fun S => ∃ (m : Nat) (oJ : List ah) (Pf : Option Addr) (Pc : Nat) (BI : List ah) (Jk : Option Addr) (IX : Nat) (DF : Int) (BH : List ah) (Jj : Option Addr) (IW : Nat) (BG : List ah) (Ji : Option Addr) (IV : Nat) (BF : List ah) (Jh : Option Addr) (IU : Nat) (BE : List aT) (Jg : Option Addr) (IT : Nat) (DE : Int) (DD : Int) (DC : Int) (DB : Int) (zo : List ah) (Fg : Option Addr) (Er : Nat) (BD : Int) (zn : List ah) (Ff : Option Addr) (Eq : Nat) (zm : List ah) (Fe : Option Addr) (Ep : Nat) (zl : List ah) (Fd : Option Addr) (Eo : Nat) (zk : List aT) (Fc : Option Addr) (En : Nat) (BC : Int) (BB : Int) (BA : Int) (Bz : Int),bi.j1 m oJ BI DF BH BG BF BE DE DD DC DB zo BD zn zm zl zk BC BB BA Bz = some (r0,r1,r2,r3,r4,r5,r6,r7,r8,r9,my,vp) ∧ S = ⟨[(4,.pointer (some ⟨b4,0,none⟩)),(7,.pointer (some ⟨b7,0,none⟩)),(8,.slice Pf oJ.length Pc)],[⟨b4,27,[.slice Jk BI.length IX,.int .i64 DF,.slice Jj BH.length IW,.slice Ji BG.length IV,.slice Jh BF.length IU,.slice Jg BE.length IT,.int .i64 DE,.int .i64 DD,.int .i64 DC,.int .i64 DB]⟩,⟨b7,27,[.slice Fg zo.length Er,.int .i64 BD,.slice Ff zn.length Eq,.slice Fe zm.length Ep,.slice Fd zl.length Eo,.slice Fc zk.length En,.int .i64 BC,.int .i64 BB,.int .i64 BA,.int .i64 Bz]⟩],[.sl 2 ai Pf Pc oJ 1 true,.sl 2 ai Jk IX BI 2 true,.sl 2 ai Jj IW BH 3 true,.sl 2 ai Ji IV BG 4 true,.sl 2 ai Jh IU BF 5 true,.sl 2 aZ Jg IT BE 6 true,.sl 2 ai Fg Er zo 7 true,.sl 2 ai Ff Eq zn 8 true,.sl 2 ai Fe Ep zm 9 true,.sl 2 ai Fd Eo zl 10 true,.sl 2 aZ Fc En zk 11 true]⟩) (fun S hS => ?_) (fun xj => ?_)
        ·
         clear H
         obtain ⟨JL,oJ,Pf,Pc,BI,Jk,IX,DF,BH,Jj,IW,BG,Ji,IV,BF,Jh,IU,BE,Jg,IT,DE,DD,DC,DB,zo,Fg,Er,BD,zn,Ff,Eq,zm,Fe,Ep,zl,Fd,Eo,zk,Fc,En,BC,BB,BA,Bz,H,rfl⟩ := hS
         rcases JL with _ | JL
         · rw [bi.j1] at H; cases H
         rw [bi.j1] at H
         exact rg (sv (aq 1 zZ) zZ (sv (am 1 none ag) zZ (sv (ba ac) zZ (sv (aq 1 zZ) zZ (so zZ (aD (cs' := [.slice Fg zo.length Er,.int .i64 (wrap64 (BD + 1)),.slice Ff zn.length Eq,.slice Fe zm.length Ep,.slice Fd zl.length Eo,.slice Fc zk.length En,.int .i64 BC,.int .i64 BB,.int .i64 BA,.int .i64 Bz]) 1 bh (re (ge (ge (wk [4,7,8] [0,1] [(aj 0 2 1),(aj 1 2 2),(aj 2 2 3),(aj 3 2 4),(aj 4 2 5),(aj 5 2 6),(aj 6 1 7),(aj 7 1 8),(aj 8 1 9),(aj 9 2 10),(aj 10 1 11)] (gw _ ⟨_,oJ,Pf,Pc,BI,Jk,IX,DF,BH,Jj,IW,BG,Ji,IV,BF,Jh,IU,BE,Jg,IT,DE,DD,DC,DB,zo,Fg,Er,wrap64 (BD + 1),zn,Ff,Eq,zm,Fe,Ep,zl,Fd,Eo,zk,Fc,En,BC,BB,BA,Bz,H,zZ⟩)))))))))))
        ·
         refine gs (rg (sv (aq 0 zZ) zZ (sv (am 1 none ag) zZ (sv (aq 1 zZ) zZ (sv (am 1 none ag) zZ (sv (aM 0 ag lR lS zZ) zZ (sv (bg (v := .agg #[.int .i64 ((aa bC bX).f0),.int .i64 ((aa bC bX).f1),.int .i64 ((aa bC bX).f2)]) bX 0 (some 3) 0 cK zZ zZ zZ lR lS zZ zZ zZ) zZ (so zZ (dk (cs := [.int .i64 0,.int .i64 0,.int .i64 0]) kK zZ fun b9 => (so zZ (aD (cs' := [.int .i64 ((aa bC bX).f0),.int .i64 ((aa bC bX).f1),.int .i64 ((aa bC bX).f2)]) 2 bh (re (aB [4,7,8,9] [0,1,2] [0,1,2,3,4,5] ae (gs (rg (sv (am (v := .agg #[.int .i64 ((aa bC bX).f0),.int .i64 ((aa bC bX).f1),.int .i64 ((aa bC bX).f2)]) 2 (some 3) ag) zZ (sv (aq 4 zZ) zZ (sv (am 1 none ag) zZ ?_))))))))))))))))))
         revert H; refine aS ?_; rintro t16 Sa H
         refine so zZ (ax (ow.ok ((aa bC bX).f0) ((aa bC bX).f1) ((aa bC bX).f2) cN dz dy _ Sa) [(aw 3)] 8 aG ?_)
         rintro _ _ _ ⟨rfl,rfl,rfl⟩
         refine re ?_
         revert H; refine aJ ?_ ?_ <;> intro Dm H
         ·
          subst Dm
          refine gt zZ zZ (rg (sv (aq 3 zZ) zZ (sv (am 1 none ag) zZ (sv (am (v := .agg #[.int .i64 ((aa bC bX).f0),.int .i64 ((aa bC bX).f1),.int .i64 ((aa bC bX).f2)]) 2 (some 3) ag) zZ (so zZ (bH (s := 3) (by_ := 24) ai ([(⟨(aa bC bX).f0,(aa bC bX).f1,(aa bC bX).f2⟩ : ah)] : List ah) [[]] [] 8 [.tmp 75] dp dq zZ fun abd aap => ?_))))))
          revert H; refine aU ?_; intro tN H
          exact so zZ (di (k := ai) (s := 3) (by_ := 24) 2 6 ae (km tN dq) (iz tN dq) (.inl zZ) true (fun _ => .inl zZ) ac fun Ra Qy => (bR (en := [.sl 2 ai ci ch bC 2 true,.sl 2 ai cU cT bf 3 true,.sl 2 ai dz dy cN 5 true,.sl 2 aZ cE cA cd 6 true,.sl 2 ai gQ gP [] 7 true,.sl 2 ai abd aap ([(⟨(aa bC bX).f0,(aa bC bX).f1,(aa bC bX).f2⟩ : ah)] : List ah) 8 true,.sl 2 ai Ra Qy (cX ++ ([(⟨(aa bC bX).f0,(aa bC bX).f1,(aa bC bX).f2⟩ : ah)] : List ah)) 4 true]) kK (sv (aq 3 zZ) zZ (so zZ (aD (cs' := [.slice ci bC.length ch,.int .i64 bX,.slice cU bf.length cT,.slice Ra (cX ++ ([(⟨(aa bC bX).f0,(aa bC bX).f1,(aa bC bX).f2⟩ : ah)] : List ah)).length Qy,.slice dz cN.length dy,.slice cE cd.length cA,.int .i64 du,.int .i64 d9,.int .i64 d8,.int .i64 dR]) 1 bh (re (aB [4,7,8] [0,1] [0,1,2,3,4,6] ae (aR ai 8 dq (aR ai 9 dq (aR ai 10 dq (aR ai 11 dq (aR aZ 12 dq (wk [4,7,8] [0,1] [(aj 4 2 1),(aj 6 2 2),(aj 7 2 3),(aj 8 2 4),(aj 9 2 5),(aj 10 2 6),(aj 0 2 7),(aj 1 2 8),(aj 5 2 9),(aj 2 2 10),(aj 3 2 11)] (xj _ ⟨_,[],gQ,gP,[],none,0,0,[],none,0,[],none,0,[],none,0,[],none,0,0,0,0,0,bC,ci,ch,bX,bf,cU,cT,cX ++ ([(⟨(aa bC bX).f0,(aa bC bX).f1,(aa bC bX).f2⟩ : ah)] : List ah),Ra,Qy,cN,dz,dy,cd,cE,cA,du,d9,d8,dR,H,zZ⟩))))))))))))))
         ·
          have xc17 := bF Dm; subst xc17
          refine gf zZ zZ (rg (sv (aq 2 zZ) zZ (sv (am 1 none ag) zZ (sv (am (v := .agg #[.int .i64 ((aa bC bX).f0),.int .i64 ((aa bC bX).f1),.int .i64 ((aa bC bX).f2)]) 2 (some 3) ag) zZ (so zZ (bH (s := 3) (by_ := 24) ai ([(⟨(aa bC bX).f0,(aa bC bX).f1,(aa bC bX).f2⟩ : ah)] : List ah) [[]] [] 8 [.tmp 81] dp dq zZ fun abb aao => ?_))))))
          revert H; refine aU ?_; intro qy H
          exact so zZ (di (k := ai) (s := 3) (by_ := 24) 1 6 ae (km qy dq) (iz qy dq) (.inl zZ) true (fun _ => .inl zZ) ac fun Q8 Qw => (bR (en := [.sl 2 ai ci ch bC 2 true,.sl 2 ai cC cB cX 4 true,.sl 2 ai dz dy cN 5 true,.sl 2 aZ cE cA cd 6 true,.sl 2 ai gQ gP [] 7 true,.sl 2 ai abb aao ([(⟨(aa bC bX).f0,(aa bC bX).f1,(aa bC bX).f2⟩ : ah)] : List ah) 8 true,.sl 2 ai Q8 Qw (bf ++ ([(⟨(aa bC bX).f0,(aa bC bX).f1,(aa bC bX).f2⟩ : ah)] : List ah)) 3 true]) kK (sv (aq 2 zZ) zZ (so zZ (aD (cs' := [.slice ci bC.length ch,.int .i64 bX,.slice Q8 (bf ++ ([(⟨(aa bC bX).f0,(aa bC bX).f1,(aa bC bX).f2⟩ : ah)] : List ah)).length Qw,.slice cC cX.length cB,.slice dz cN.length dy,.slice cE cd.length cA,.int .i64 du,.int .i64 d9,.int .i64 d8,.int .i64 dR]) 1 bh (re (aB [4,7,8] [0,1] [0,1,2,3,4,6] ae (aR ai 8 dq (aR ai 9 dq (aR ai 10 dq (aR ai 11 dq (aR aZ 12 dq (wk [4,7,8] [0,1] [(aj 4 2 1),(aj 6 2 2),(aj 7 2 3),(aj 8 2 4),(aj 9 2 5),(aj 10 2 6),(aj 0 2 7),(aj 5 2 8),(aj 1 2 9),(aj 2 2 10),(aj 3 2 11)] (xj _ ⟨_,[],gQ,gP,[],none,0,0,[],none,0,[],none,0,[],none,0,[],none,0,0,0,0,0,bC,ci,ch,bX,bf ++ ([(⟨(aa bC bX).f0,(aa bC bX).f1,(aa bC bX).f2⟩ : ah)] : List ah),Q8,Qw,cX,cC,cB,cN,dz,dy,cd,cE,cA,du,d9,d8,dR,H,zZ⟩))))))))))))))
       ·
        refine gf zZ (dF sC) (gs (rg (sv (aq 2 zZ) zZ (sv (am 1 none ag) zZ (sv (bG zZ) zZ (sv (bZ ac) zZ (al ac ?_)))))))
        revert H; refine aJ ?_ ?_ <;> intro VA H
        ·
         refine ts 94 zZ (dT VA) (sv (aq 3 zZ) zZ (sv (am 1 none ag) zZ (sv (bG zZ) zZ (sv (dV ac) zZ (sv (aQ ag) zZ (au ac (re (aB [4,7,8,89] [0,1] [0,1,2,3,4,5] ae ?_))))))))
         revert H; refine aJ ?_ ?_ <;> intro Dl H
         ·
          refine gt zZ (dT Dl) (gs (rg ?_))
          revert H; refine aS ?_; rintro ⟨IC,Xn,IB,O4,O3,Ss,Sr,Sq,Sp,So⟩ FE H
          refine so zZ (bb (gJ.ok b7 bC ci ch bX bf cU cT cX cC cB cN dz dy cd cE cA du d9 d8 dR _ _ _ _ _ _ _ _ _ _ FE) [(aj 0 1 1),(aj 1 1 2),(aj 2 1 3),(aj 3 1 4),(aj 4 1 5)] [1] [0] 8 ep ?_)
          rintro _ _ _ ⟨MS,Mb,aa2,aai,If,HZ,MR,Ma,MQ,L9,rfl,rfl,rfl⟩
          exact bR (en := [.sl 2 ai gQ gP [] 7 true,.sl 1 ai MS Mb IC 9 true,.sl 1 ai aa2 aai Xn 10 true,.sl 1 ai If HZ IB 11 true,.sl 2 ai MR Ma O4 12 true,.sl 1 aZ MQ L9 O3 13 true]) kK (re (rg (sv (aq 3 zZ) zZ (sv (am 1 none ag) zZ (sv (aq 2 zZ) zZ (so zZ (aD (cs' := [.slice MS IC.length Mb,.int .i64 Ss,.slice If IB.length HZ,.slice If IB.length HZ,.slice MR O4.length Ma,.slice MQ O3.length L9,.int .i64 Sr,.int .i64 Sq,.int .i64 Sp,.int .i64 So]) 1 bh (sv (aq 3 zZ) zZ (so zZ (aD (cs' := [.slice MS IC.length Mb,.int .i64 Ss,.slice If IB.length HZ,.slice none 0 0,.slice MR O4.length Ma,.slice MQ O3.length L9,.int .i64 Sr,.int .i64 Sq,.int .i64 Sp,.int .i64 So]) 1 bh (re (aB [4,7,8] [0,1] [0,1,3,4,5] ae (ge (ge (aR ai 14 dq (aR ai 15 dq (aR ai 16 dq (aR ai 17 dq (aR aZ 18 dq (aR ai 19 dq (wk [4,7,8] [0,1] [(aj 0 2 1),(aj 5 2 2),(aj 6 2 3),(aj 7 2 4),(aj 8 2 5),(aj 9 2 6),(aj 1 1 7),(aj 2 1 8),(aj 10 1 9),(aj 3 2 10),(aj 4 1 11)] (gw _ ⟨_,[],gQ,gP,[],none,0,0,[],none,0,[],none,0,[],none,0,[],none,0,0,0,0,0,IC,MS,Mb,Ss,IB,If,HZ,[],none,0,O4,MR,Ma,O3,MQ,L9,Sr,Sq,Sp,So,H,zZ⟩))))))))))))))))))))))
         ·
          refine gf zZ (dF Dl) (gs (rg (sv (aq 2 zZ) zZ (sv (am 1 none ag) zZ (sv (bG zZ) zZ (sv (dV ac) zZ (au ac (re ?_))))))))
          revert H; refine aJ ?_ ?_ <;> intro zX H
          ·
           refine gt zZ (dT zX) (gs (rg (sv (aq 2 zZ) zZ (sv (am 1 none ag) zZ ?_))))
           revert H; refine aS ?_; rintro iT J3 H
           refine so zZ (ax (dS.ok k bf cU cT _ J3) [(aw 1)] 8 aG ?_)
           rintro _ _ _ ⟨rfl,rfl,rfl⟩
           refine au ac (re (aB [4,7,8,10] [0,1] [0,1,2,3,4,5] ae (gs (rg (sv (aq 2 zZ) zZ (sv (am 1 none ag) zZ (al ac ?_)))))))
           revert H; refine aU ?_; intro JR H
           revert H; refine aU ?_; intro xl H
           refine sv (aM 1 ag JR xl zZ) zZ (sv (bg (v := .agg #[.int .i64 ((aa bf iT).f0),.int .i64 ((aa bf iT).f1),.int .i64 ((aa bf iT).f2)]) iT 0 (some 3) 1 cK zZ zZ zZ JR xl zZ zZ zZ) zZ (so zZ (dk (cs := [.int .i64 0,.int .i64 0,.int .i64 0]) kK zZ fun VI => (so zZ (aD (cs' := [.int .i64 ((aa bf iT).f0),.int .i64 ((aa bf iT).f1),.int .i64 ((aa bf iT).f2)]) 2 bh (re (gs (rg (sv (aq 2 zZ) zZ (sv (am 1 none ag) zZ (al ac ?_)))))))))))
           revert H; refine aS ?_; rintro DQ JZ H
           refine so zZ (ax (jU.ok bf cU cT iT _ JZ) [(aw 1)] 8 aG ?_)
           rintro _ _ _ ⟨QO,Qc,rfl,rfl,rfl⟩
           refine sv (aq 2 zZ) zZ (so zZ (aD (cs' := [.slice ci bC.length ch,.int .i64 bX,.slice QO DQ.length Qc,.slice cC cX.length cB,.slice dz cN.length dy,.slice cE cd.length cA,.int .i64 du,.int .i64 d9,.int .i64 d8,.int .i64 dR]) 1 bh (re (aB [4,7,8,11] [0,1,2] [0,2,3,4,5,6] ae (gs (rg (sv (aq 4 zZ) zZ (sv (am 1 none ag) zZ (sv (am (v := .agg #[.int .i64 ((aa bf iT).f0),.int .i64 ((aa bf iT).f1),.int .i64 ((aa bf iT).f2)]) 2 (some 3) ag) zZ (so zZ (bH (s := 3) (by_ := 24) ai ([(⟨(aa bf iT).f0,(aa bf iT).f1,(aa bf iT).f2⟩ : ah)] : List ah) [[]] [] 10 [.tmp 125] dp dq zZ fun Y8 YV => ?_)))))))))))
           revert H; refine aU ?_; intro Ut H
           refine so zZ (di (k := ai) (s := 3) (by_ := 24) 2 6 ae (km Ut dq) (iz Ut dq) (.inl zZ) true (fun _ => .inl zZ) ac fun Jw I9 => (bR (en := [.sl 2 ai ci ch bC 2 true,.sl 2 ai cC cB cX 4 true,.sl 2 aZ cE cA cd 6 true,.sl 2 ai gQ gP [] 7 true,.sl 2 ai QO Qc DQ 9 true,.sl 2 ai Y8 YV ([(⟨(aa bf iT).f0,(aa bf iT).f1,(aa bf iT).f2⟩ : ah)] : List ah) 10 true,.sl 2 ai Jw I9 (cN ++ ([(⟨(aa bf iT).f0,(aa bf iT).f1,(aa bf iT).f2⟩ : ah)] : List ah)) 5 true]) kK (sv (aq 4 zZ) zZ (so zZ (aD (cs' := [.slice ci bC.length ch,.int .i64 bX,.slice QO DQ.length Qc,.slice cC cX.length cB,.slice Jw (cN ++ ([(⟨(aa bf iT).f0,(aa bf iT).f1,(aa bf iT).f2⟩ : ah)] : List ah)).length I9,.slice cE cd.length cA,.int .i64 du,.int .i64 d9,.int .i64 d8,.int .i64 dR]) 1 bh (re (aB [4,7,8,11] [0,1,2] [0,1,2,3,4,6] ae (fj [0,1,2] [0,1,2,3,4,5] [6] 7 ae (ap 0 [0,1,2] [0,1,2,3,4,5] zZ (aq 9 zZ) ae (ap 1 [0,1,2] [0,1,2,3,4,5] zZ (am 1 none ag) ae (ap 2 [0,1,2] [0,1,2,3,4,5] zZ (am (v := .agg #[.int .i64 ((aa bf iT).f0),.int .i64 ((aa bf iT).f1),.int .i64 ((aa bf iT).f2)]) 2 (some 3) ag) ae (ar 3 ac ?_))))))))))))
           revert H; refine aS ?_; rintro Pq A35 H
           refine ax (fE.ok ((aa bf iT).f0) ((aa bf iT).f1) ((aa bf iT).f2) _ A35) [] 10 aG ?_
           rintro _ _ _ ⟨rfl,rfl,rfl⟩
           exact aN [0,1,2] [0,1,2,3,4,5] ag (ap 4 [0,1,2] [0,1,2,3,4,5] zZ (ba ac) ae (ap 5 [0,1,2] [0,1,2,3,4,5] zZ (aq 9 zZ) ae (ar 6 ac (aD (cs' := [.slice ci bC.length ch,.int .i64 bX,.slice QO DQ.length Qc,.slice cC cX.length cB,.slice Jw (cN ++ ([(⟨(aa bf iT).f0,(aa bf iT).f1,(aa bf iT).f2⟩ : ah)] : List ah)).length I9,.slice cE cd.length cA,.int .i64 du,.int .i64 d9,.int .i64 d8,.int .i64 (wrap64 (dR + Pq))]) 1 bh (xn zZ (xd (aB [4,7,8] [0,1] [0,1,2,3,4,5] ae (ge (ge (aR ai 10 dq (aR ai 11 dq (aR ai 12 dq (aR ai 13 dq (aR aZ 14 dq (wk [4,7,8] [0,1] [(aj 3 2 1),(aj 6 2 2),(aj 7 2 3),(aj 8 2 4),(aj 9 2 5),(aj 10 2 6),(aj 0 1 7),(aj 4 1 8),(aj 1 1 9),(aj 5 2 10),(aj 2 1 11)] (gw _ ⟨_,[],gQ,gP,[],none,0,0,[],none,0,[],none,0,[],none,0,[],none,0,0,0,0,0,bC,ci,ch,bX,DQ,QO,Qc,cX,cC,cB,cN ++ ([(⟨(aa bf iT).f0,(aa bf iT).f1,(aa bf iT).f2⟩ : ah)] : List ah),Jw,I9,cd,cE,cA,du,d9,d8,wrap64 (dR + Pq),H,zZ⟩))))))))))))))))
          ·
           refine gf zZ (dF zX) (gs (gs (rg (sv (aq 4 zZ) zZ (sv (am 1 none ag) zZ (sv (bG zZ) zZ (sv (dV ac) zZ (re (aB [4,7,8,39] [0,1] [0,1,2,3,4,5] ae ?_)))))))))
           revert H; refine aJ ?_ ?_ <;> intro Vt H
           ·
            refine gt zZ (dT Vt) (rg ?_)
            revert H; refine aS ?_; rintro ⟨tH,IA,O1,O0,OZ,acV,acU,acT,acS,acR⟩ A37 H
            refine so zZ (bb (gJ.ok b7 bC ci ch bX bf cU cT cX cC cB cN dz dy cd cE cA du d9 d8 dR _ _ _ _ _ _ _ _ _ _ A37) [(aj 0 1 1),(aj 1 1 2),(aj 2 1 3),(aj 3 1 4),(aj 4 1 5)] [1] [0] 8 ep ?_)
            rintro _ _ _ ⟨MO,L7,MN,L6,MM,L5,ML,L4,MK,L3,rfl,rfl,rfl⟩
            refine bR (en := [.sl 2 ai gQ gP [] 7 true,.sl 1 ai MO L7 tH 9 true,.sl 1 ai MN L6 IA 10 true,.sl 1 ai MM L5 O1 11 true,.sl 2 ai ML L4 O0 12 true,.sl 1 aZ MK L3 OZ 13 true]) kK (re (rg ?_))
            revert H; refine aS ?_; rintro ⟨yN,Sn,acQ,acP,acO⟩ MU H
            refine so zZ (bb (ez.ok b7 tH MO L7 acV IA MN L6 O1 MM L5 O0 ML L4 OZ MK L3 acU acT acS acR _ _ _ _ _ MU) [(aw 1),(aw 2),(aw 3),(aw 4),(aw 5)] [1] [0] 14 ep ?_)
            rintro _ _ _ ⟨rfl,rfl,rfl⟩
            exact bR (en := [.sl 2 ai gQ gP [] 7 true,.sl 1 ai MO L7 tH 9 true,.sl 1 ai MN L6 IA 10 true,.sl 1 ai MM L5 O1 11 true,.sl 2 ai ML L4 O0 12 true,.sl 1 aZ MK L3 OZ 13 true]) kK (re (ge (ge (aR ai 14 dq (aR ai 15 dq (aR ai 16 dq (aR ai 17 dq (aR aZ 18 dq (wk [4,7,8] [0,1] [(aj 0 2 1),(aj 6 2 2),(aj 7 2 3),(aj 8 2 4),(aj 9 2 5),(aj 10 2 6),(aj 1 1 7),(aj 2 1 8),(aj 3 1 9),(aj 4 2 10),(aj 5 1 11)] (gw _ ⟨_,[],gQ,gP,[],none,0,0,[],none,0,[],none,0,[],none,0,[],none,0,0,0,0,0,tH,MO,L7,yN,IA,MN,L6,O1,MM,L5,O0,ML,L4,OZ,MK,L3,Sn,acQ,acP,acO,H,zZ⟩))))))))))
           ·
            refine gf zZ (dF Vt) (gk (rg ?_))
            revert H; refine aS ?_; rintro ⟨AR,Xm,acN,acM,acL⟩ A39 H
            refine so zZ (bb (ez.ok b7 bC ci ch bX bf cU cT cX cC cB cN dz dy cd cE cA du d9 d8 dR _ _ _ _ _ A39) [(aw 0),(aw 1),(aw 2),(aw 3),(aw 4)] [1] [0] 8 ep ?_)
            rintro _ _ _ ⟨rfl,rfl,rfl⟩
            exact bR (en := [.sl 2 ai ci ch bC 2 true,.sl 2 ai cU cT bf 3 true,.sl 2 ai cC cB cX 4 true,.sl 2 ai dz dy cN 5 true,.sl 2 aZ cE cA cd 6 true,.sl 2 ai gQ gP [] 7 true]) kK (re (ge (ge (aR ai 8 dq (aR ai 9 dq (aR ai 10 dq (aR ai 11 dq (aR aZ 12 dq (wk [4,7,8] [0,1] [(aj 5 2 1),(aj 6 2 2),(aj 7 2 3),(aj 8 2 4),(aj 9 2 5),(aj 10 2 6),(aj 0 1 7),(aj 1 1 8),(aj 2 1 9),(aj 3 2 10),(aj 4 1 11)] (gw _ ⟨_,[],gQ,gP,[],none,0,0,[],none,0,[],none,0,[],none,0,[],none,0,0,0,0,0,bC,ci,ch,AR,bf,cU,cT,cX,cC,cB,cN,dz,dy,cd,cE,cA,Xm,acN,acM,acL,H,zZ⟩))))))))))
        ·
         refine ts 94 zZ (dF VA) (sk zZ (sk zZ (sk zZ (sk zZ (sv (aI ag) zZ (au ac (re (aB [4,7,8,89] [0,1] [0,1,2,3,4,5] ae (gf zZ zZ (gs (rg (sv (aq 2 zZ) zZ (sv (am 1 none ag) zZ (sv (bG zZ) zZ (sv (dV ac) zZ (au ac (re ?_)))))))))))))))))
         revert H; refine aJ ?_ ?_ <;> intro zW H
         ·
          refine gt zZ (dT zW) (gs (rg (sv (aq 2 zZ) zZ (sv (am 1 none ag) zZ ?_))))
          revert H; refine aS ?_; rintro kc A41 H
          refine so zZ (ax (dS.ok k bf cU cT _ A41) [(aw 1)] 8 aG ?_)
          rintro _ _ _ ⟨rfl,rfl,rfl⟩
          refine au ac (re (aB [4,7,8,10] [0,1] [0,1,2,3,4,5] ae (gs (rg (sv (aq 2 zZ) zZ (sv (am 1 none ag) zZ (al ac ?_)))))))
          revert H; refine aU ?_; intro CG H
          revert H; refine aU ?_; intro oW H
          refine sv (aM 1 ag CG oW zZ) zZ (sv (bg (v := .agg #[.int .i64 ((aa bf kc).f0),.int .i64 ((aa bf kc).f1),.int .i64 ((aa bf kc).f2)]) kc 0 (some 3) 1 cK zZ zZ zZ CG oW zZ zZ zZ) zZ (so zZ (dk (cs := [.int .i64 0,.int .i64 0,.int .i64 0]) kK zZ fun VI => (so zZ (aD (cs' := [.int .i64 ((aa bf kc).f0),.int .i64 ((aa bf kc).f1),.int .i64 ((aa bf kc).f2)]) 2 bh (re (gs (rg (sv (aq 2 zZ) zZ (sv (am 1 none ag) zZ (al ac ?_)))))))))))
          revert H; refine aS ?_; rintro eJ Rb H
          refine so zZ (ax (jU.ok bf cU cT kc _ Rb) [(aw 1)] 8 aG ?_)
          rintro _ _ _ ⟨xD,xp,rfl,rfl,rfl⟩
          refine sv (aq 2 zZ) zZ (so zZ (aD (cs' := [.slice ci bC.length ch,.int .i64 bX,.slice xD eJ.length xp,.slice cC cX.length cB,.slice dz cN.length dy,.slice cE cd.length cA,.int .i64 du,.int .i64 d9,.int .i64 d8,.int .i64 dR]) 1 bh (re (aB [4,7,8,11] [0,1,2] [0,2,3,4,5,6] ae (gs (rg (sv (aq 4 zZ) zZ (sv (am 1 none ag) zZ (sv (am (v := .agg #[.int .i64 ((aa bf kc).f0),.int .i64 ((aa bf kc).f1),.int .i64 ((aa bf kc).f2)]) 2 (some 3) ag) zZ (so zZ (bH (s := 3) (by_ := 24) ai ([(⟨(aa bf kc).f0,(aa bf kc).f1,(aa bf kc).f2⟩ : ah)] : List ah) [[]] [] 10 [.tmp 125] dp dq zZ fun Y7 YU => ?_)))))))))))
          revert H; refine aU ?_; intro JQ H
          refine so zZ (di (k := ai) (s := 3) (by_ := 24) 2 6 ae (km JQ dq) (iz JQ dq) (.inl zZ) true (fun _ => .inl zZ) ac fun Jv I8 => (bR (en := [.sl 2 ai ci ch bC 2 true,.sl 2 ai cC cB cX 4 true,.sl 2 aZ cE cA cd 6 true,.sl 2 ai gQ gP [] 7 true,.sl 2 ai xD xp eJ 9 true,.sl 2 ai Y7 YU ([(⟨(aa bf kc).f0,(aa bf kc).f1,(aa bf kc).f2⟩ : ah)] : List ah) 10 true,.sl 2 ai Jv I8 (cN ++ ([(⟨(aa bf kc).f0,(aa bf kc).f1,(aa bf kc).f2⟩ : ah)] : List ah)) 5 true]) kK (sv (aq 4 zZ) zZ (so zZ (aD (cs' := [.slice ci bC.length ch,.int .i64 bX,.slice xD eJ.length xp,.slice cC cX.length cB,.slice Jv (cN ++ ([(⟨(aa bf kc).f0,(aa bf kc).f1,(aa bf kc).f2⟩ : ah)] : List ah)).length I8,.slice cE cd.length cA,.int .i64 du,.int .i64 d9,.int .i64 d8,.int .i64 dR]) 1 bh (re (aB [4,7,8,11] [0,1,2] [0,1,2,3,4,6] ae (fj [0,1,2] [0,1,2,3,4,5] [6] 7 ae (ap 0 [0,1,2] [0,1,2,3,4,5] zZ (aq 9 zZ) ae (ap 1 [0,1,2] [0,1,2,3,4,5] zZ (am 1 none ag) ae (ap 2 [0,1,2] [0,1,2,3,4,5] zZ (am (v := .agg #[.int .i64 ((aa bf kc).f0),.int .i64 ((aa bf kc).f1),.int .i64 ((aa bf kc).f2)]) 2 (some 3) ag) ae (ar 3 ac ?_))))))))))))
          revert H; refine aS ?_; rintro Pp R5 H
          refine ax (fE.ok ((aa bf kc).f0) ((aa bf kc).f1) ((aa bf kc).f2) _ R5) [] 10 aG ?_
          rintro _ _ _ ⟨rfl,rfl,rfl⟩
          exact aN [0,1,2] [0,1,2,3,4,5] ag (ap 4 [0,1,2] [0,1,2,3,4,5] zZ (ba ac) ae (ap 5 [0,1,2] [0,1,2,3,4,5] zZ (aq 9 zZ) ae (ar 6 ac (aD (cs' := [.slice ci bC.length ch,.int .i64 bX,.slice xD eJ.length xp,.slice cC cX.length cB,.slice Jv (cN ++ ([(⟨(aa bf kc).f0,(aa bf kc).f1,(aa bf kc).f2⟩ : ah)] : List ah)).length I8,.slice cE cd.length cA,.int .i64 du,.int .i64 d9,.int .i64 d8,.int .i64 (wrap64 (dR + Pp))]) 1 bh (xn zZ (xd (aB [4,7,8] [0,1] [0,1,2,3,4,5] ae (ge (ge (aR ai 10 dq (aR ai 11 dq (aR ai 12 dq (aR ai 13 dq (aR aZ 14 dq (wk [4,7,8] [0,1] [(aj 3 2 1),(aj 6 2 2),(aj 7 2 3),(aj 8 2 4),(aj 9 2 5),(aj 10 2 6),(aj 0 1 7),(aj 4 1 8),(aj 1 1 9),(aj 5 2 10),(aj 2 1 11)] (gw _ ⟨_,[],gQ,gP,[],none,0,0,[],none,0,[],none,0,[],none,0,[],none,0,0,0,0,0,bC,ci,ch,bX,eJ,xD,xp,cX,cC,cB,cN ++ ([(⟨(aa bf kc).f0,(aa bf kc).f1,(aa bf kc).f2⟩ : ah)] : List ah),Jv,I8,cd,cE,cA,du,d9,d8,wrap64 (dR + Pp),H,zZ⟩))))))))))))))))
         ·
          refine gf zZ (dF zW) (gs (gs (rg (sv (aq 4 zZ) zZ (sv (am 1 none ag) zZ (sv (bG zZ) zZ (sv (dV ac) zZ (re (aB [4,7,8,39] [0,1] [0,1,2,3,4,5] ae ?_)))))))))
          revert H; refine aJ ?_ ?_ <;> intro Vg H
          ·
           refine gt zZ (dT Vg) (rg ?_)
           revert H; refine aS ?_; rintro ⟨OY,OX,OW,OV,OU,acI,acH,acG,acF,acE⟩ R0 H
           refine so zZ (bb (gJ.ok b7 bC ci ch bX bf cU cT cX cC cB cN dz dy cd cE cA du d9 d8 dR _ _ _ _ _ _ _ _ _ _ R0) [(aj 0 1 1),(aj 1 1 2),(aj 2 1 3),(aj 3 1 4),(aj 4 1 5)] [1] [0] 8 ep ?_)
           rintro _ _ _ ⟨MJ,L2,MI,L1,MH,LZ,MG,LY,MF,LX,rfl,rfl,rfl⟩
           refine bR (en := [.sl 2 ai gQ gP [] 7 true,.sl 1 ai MJ L2 OY 9 true,.sl 1 ai MI L1 OX 10 true,.sl 1 ai MH LZ OW 11 true,.sl 2 ai MG LY OV 12 true,.sl 1 aZ MF LX OU 13 true]) kK (re (rg ?_))
           revert H; refine aS ?_; rintro ⟨OT,Sl,OS,OR,OQ⟩ RZ H
           refine so zZ (bb (ez.ok b7 OY MJ L2 acI OX MI L1 OW MH LZ OV MG LY OU MF LX acH acG acF acE _ _ _ _ _ RZ) [(aw 1),(aw 2),(aw 3),(aw 4),(aw 5)] [1] [0] 14 ep ?_)
           rintro _ _ _ ⟨rfl,rfl,rfl⟩
           exact bR (en := [.sl 2 ai gQ gP [] 7 true,.sl 1 ai MJ L2 OY 9 true,.sl 1 ai MI L1 OX 10 true,.sl 1 ai MH LZ OW 11 true,.sl 2 ai MG LY OV 12 true,.sl 1 aZ MF LX OU 13 true]) kK (re (ge (ge (aR ai 14 dq (aR ai 15 dq (aR ai 16 dq (aR ai 17 dq (aR aZ 18 dq (wk [4,7,8] [0,1] [(aj 0 2 1),(aj 6 2 2),(aj 7 2 3),(aj 8 2 4),(aj 9 2 5),(aj 10 2 6),(aj 1 1 7),(aj 2 1 8),(aj 3 1 9),(aj 4 2 10),(aj 5 1 11)] (gw _ ⟨_,[],gQ,gP,[],none,0,0,[],none,0,[],none,0,[],none,0,[],none,0,0,0,0,0,OY,MJ,L2,OT,OX,MI,L1,OW,MH,LZ,OV,MG,LY,OU,MF,LX,Sl,OS,OR,OQ,H,zZ⟩))))))))))
          ·
           refine gf zZ (dF Vg) (gk (rg ?_))
           revert H; refine aS ?_; rintro ⟨acz,acy,acx,acw,acv⟩ A52 H
           refine so zZ (bb (ez.ok b7 bC ci ch bX bf cU cT cX cC cB cN dz dy cd cE cA du d9 d8 dR _ _ _ _ _ A52) [(aw 0),(aw 1),(aw 2),(aw 3),(aw 4)] [1] [0] 8 ep ?_)
           rintro _ _ _ ⟨rfl,rfl,rfl⟩
           exact bR (en := [.sl 2 ai ci ch bC 2 true,.sl 2 ai cU cT bf 3 true,.sl 2 ai cC cB cX 4 true,.sl 2 ai dz dy cN 5 true,.sl 2 aZ cE cA cd 6 true,.sl 2 ai gQ gP [] 7 true]) kK (re (ge (ge (aR ai 8 dq (aR ai 9 dq (aR ai 10 dq (aR ai 11 dq (aR aZ 12 dq (wk [4,7,8] [0,1] [(aj 5 2 1),(aj 6 2 2),(aj 7 2 3),(aj 8 2 4),(aj 9 2 5),(aj 10 2 6),(aj 0 1 7),(aj 1 1 8),(aj 2 1 9),(aj 3 2 10),(aj 4 1 11)] (gw _ ⟨_,[],gQ,gP,[],none,0,0,[],none,0,[],none,0,[],none,0,[],none,0,0,0,0,0,bC,ci,ch,acz,bf,cU,cT,cX,cC,cB,cN,dz,dy,cd,cE,cA,acy,acx,acw,acv,H,zZ⟩))))))))))
      ·
       refine ts 49 zZ (dF lS) (bv 7 [0,1] [0,1,2,3,4,5] aG (bv 9 [0,1] [0,1,2,3,4,5] aG (bv 10 [0,1] [0,1,2,3,4,5] aG (bv 11 [0,1] [0,1,2,3,4,5] aG (bv 12 [0,1] [0,1,2,3,4,5] aG (bv 13 [0,1] [0,1,2,3,4,5] aG (bv 14 [0,1] [0,1,2,3,4,5] aG (bv 17 [0,1] [0,1,2,3,4,5] aG (bv 8 [0,1] [0,1,2,3,4,5] aG (bv 15 [0,1] [0,1,2,3,4,5] aG (bv 16 [0,1] [0,1,2,3,4,5] aG (bv 18 [0,1] [0,1,2,3,4,5] aG (ap 19 [0,1] [0,1,2,3,4,5] zZ (aI ag) ae (ap 20 [0,1] [0,1,2,3,4,5] zZ (gE zZ) ae (xd (aB [4,7,8,42] [0,1] [0,1,2,3,4,5] ae (gf zZ zZ (gs (rg (sv (aq 2 zZ) zZ (sv (am 1 none ag) zZ (sv (bG zZ) zZ (sv (bZ ac) zZ (al ac ?_))))))))))))))))))))))))
       revert H; refine aJ ?_ ?_ <;> intro Vf H
       ·
        refine ts 94 zZ (dT Vf) (sv (aq 3 zZ) zZ (sv (am 1 none ag) zZ (sv (bG zZ) zZ (sv (dV ac) zZ (sv (aQ ag) zZ (au ac (re (aB [4,7,8,89] [0,1] [0,1,2,3,4,5] ae ?_))))))))
        revert H; refine aJ ?_ ?_ <;> intro c54 H
        ·
         refine gt zZ (dT c54) (gs (rg ?_))
         revert H; refine aS ?_; rintro ⟨tG,Sk,Lg,OP,OO,Sj,Si,Sh,Sg,Sf⟩ Wf H
         refine so zZ (bb (gJ.ok b7 bC ci ch bX bf cU cT cX cC cB cN dz dy cd cE cA du d9 d8 dR _ _ _ _ _ _ _ _ _ _ Wf) [(aj 0 1 1),(aj 1 1 2),(aj 2 1 3),(aj 3 1 4),(aj 4 1 5)] [1] [0] 8 ep ?_)
         rintro _ _ _ ⟨ME,LW,aa1,aah,Id,HX,MD,LV,MC,LU,rfl,rfl,rfl⟩
         exact bR (en := [.sl 2 ai gQ gP [] 7 true,.sl 1 ai ME LW tG 9 true,.sl 1 ai aa1 aah Sk 10 true,.sl 1 ai Id HX Lg 11 true,.sl 2 ai MD LV OP 12 true,.sl 1 aZ MC LU OO 13 true]) kK (re (rg (sv (aq 3 zZ) zZ (sv (am 1 none ag) zZ (sv (aq 2 zZ) zZ (so zZ (aD (cs' := [.slice ME tG.length LW,.int .i64 Sj,.slice Id Lg.length HX,.slice Id Lg.length HX,.slice MD OP.length LV,.slice MC OO.length LU,.int .i64 Si,.int .i64 Sh,.int .i64 Sg,.int .i64 Sf]) 1 bh (sv (aq 3 zZ) zZ (so zZ (aD (cs' := [.slice ME tG.length LW,.int .i64 Sj,.slice Id Lg.length HX,.slice none 0 0,.slice MD OP.length LV,.slice MC OO.length LU,.int .i64 Si,.int .i64 Sh,.int .i64 Sg,.int .i64 Sf]) 1 bh (re (aB [4,7,8] [0,1] [0,1,3,4,5] ae (ge (ge (aR ai 14 dq (aR ai 15 dq (aR ai 16 dq (aR ai 17 dq (aR aZ 18 dq (aR ai 19 dq (wk [4,7,8] [0,1] [(aj 0 2 1),(aj 5 2 2),(aj 6 2 3),(aj 7 2 4),(aj 8 2 5),(aj 9 2 6),(aj 1 1 7),(aj 2 1 8),(aj 10 1 9),(aj 3 2 10),(aj 4 1 11)] (gw _ ⟨_,[],gQ,gP,[],none,0,0,[],none,0,[],none,0,[],none,0,[],none,0,0,0,0,0,tG,ME,LW,Sj,Lg,Id,HX,[],none,0,OP,MD,LV,OO,MC,LU,Si,Sh,Sg,Sf,H,zZ⟩))))))))))))))))))))))
        ·
         refine gf zZ (dF c54) (gs (rg (sv (aq 2 zZ) zZ (sv (am 1 none ag) zZ (sv (bG zZ) zZ (sv (dV ac) zZ (au ac (re ?_))))))))
         revert H; refine aJ ?_ ?_ <;> intro Ve H
         ·
          refine gt zZ (dT Ve) (gs (rg (sv (aq 2 zZ) zZ (sv (am 1 none ag) zZ ?_))))
          revert H; refine aS ?_; rintro iS G3 H
          refine so zZ (ax (dS.ok k bf cU cT _ G3) [(aw 1)] 8 aG ?_)
          rintro _ _ _ ⟨rfl,rfl,rfl⟩
          refine au ac (re (aB [4,7,8,10] [0,1] [0,1,2,3,4,5] ae (gs (rg (sv (aq 2 zZ) zZ (sv (am 1 none ag) zZ (al ac ?_)))))))
          revert H; refine aU ?_; intro Of H
          revert H; refine aU ?_; intro Um H
          refine sv (aM 1 ag Of Um zZ) zZ (sv (bg (v := .agg #[.int .i64 ((aa bf iS).f0),.int .i64 ((aa bf iS).f1),.int .i64 ((aa bf iS).f2)]) iS 0 (some 3) 1 cK zZ zZ zZ Of Um zZ zZ zZ) zZ (so zZ (dk (cs := [.int .i64 0,.int .i64 0,.int .i64 0]) kK zZ fun VI => (so zZ (aD (cs' := [.int .i64 ((aa bf iS).f0),.int .i64 ((aa bf iS).f1),.int .i64 ((aa bf iS).f2)]) 2 bh (re (gs (rg (sv (aq 2 zZ) zZ (sv (am 1 none ag) zZ (al ac ?_)))))))))))
          revert H; refine aS ?_; rintro HA Oz H
          refine so zZ (ax (jU.ok bf cU cT iS _ Oz) [(aw 1)] 8 aG ?_)
          rintro _ _ _ ⟨QN,Qb,rfl,rfl,rfl⟩
          refine sv (aq 2 zZ) zZ (so zZ (aD (cs' := [.slice ci bC.length ch,.int .i64 bX,.slice QN HA.length Qb,.slice cC cX.length cB,.slice dz cN.length dy,.slice cE cd.length cA,.int .i64 du,.int .i64 d9,.int .i64 d8,.int .i64 dR]) 1 bh (re (aB [4,7,8,11] [0,1,2] [0,2,3,4,5,6] ae (gs (rg (sv (aq 4 zZ) zZ (sv (am 1 none ag) zZ (sv (am (v := .agg #[.int .i64 ((aa bf iS).f0),.int .i64 ((aa bf iS).f1),.int .i64 ((aa bf iS).f2)]) 2 (some 3) ag) zZ (so zZ (bH (s := 3) (by_ := 24) ai ([(⟨(aa bf iS).f0,(aa bf iS).f1,(aa bf iS).f2⟩ : ah)] : List ah) [[]] [] 10 [.tmp 125] dp dq zZ fun Y6 YT => ?_)))))))))))
          revert H; refine aU ?_; intro JP H
          refine so zZ (di (k := ai) (s := 3) (by_ := 24) 2 6 ae (km JP dq) (iz JP dq) (.inl zZ) true (fun _ => .inl zZ) ac fun Ju I7 => (bR (en := [.sl 2 ai ci ch bC 2 true,.sl 2 ai cC cB cX 4 true,.sl 2 aZ cE cA cd 6 true,.sl 2 ai gQ gP [] 7 true,.sl 2 ai QN Qb HA 9 true,.sl 2 ai Y6 YT ([(⟨(aa bf iS).f0,(aa bf iS).f1,(aa bf iS).f2⟩ : ah)] : List ah) 10 true,.sl 2 ai Ju I7 (cN ++ ([(⟨(aa bf iS).f0,(aa bf iS).f1,(aa bf iS).f2⟩ : ah)] : List ah)) 5 true]) kK (sv (aq 4 zZ) zZ (so zZ (aD (cs' := [.slice ci bC.length ch,.int .i64 bX,.slice QN HA.length Qb,.slice cC cX.length cB,.slice Ju (cN ++ ([(⟨(aa bf iS).f0,(aa bf iS).f1,(aa bf iS).f2⟩ : ah)] : List ah)).length I7,.slice cE cd.length cA,.int .i64 du,.int .i64 d9,.int .i64 d8,.int .i64 dR]) 1 bh (re (aB [4,7,8,11] [0,1,2] [0,1,2,3,4,6] ae (fj [0,1,2] [0,1,2,3,4,5] [6] 7 ae (ap 0 [0,1,2] [0,1,2,3,4,5] zZ (aq 9 zZ) ae (ap 1 [0,1,2] [0,1,2,3,4,5] zZ (am 1 none ag) ae (ap 2 [0,1,2] [0,1,2,3,4,5] zZ (am (v := .agg #[.int .i64 ((aa bf iS).f0),.int .i64 ((aa bf iS).f1),.int .i64 ((aa bf iS).f2)]) 2 (some 3) ag) ae (ar 3 ac ?_))))))))))))
          revert H; refine aS ?_; rintro Xf A64 H
          refine ax (fE.ok ((aa bf iS).f0) ((aa bf iS).f1) ((aa bf iS).f2) _ A64) [] 10 aG ?_
          rintro _ _ _ ⟨rfl,rfl,rfl⟩
          exact aN [0,1,2] [0,1,2,3,4,5] ag (ap 4 [0,1,2] [0,1,2,3,4,5] zZ (ba ac) ae (ap 5 [0,1,2] [0,1,2,3,4,5] zZ (aq 9 zZ) ae (ar 6 ac (aD (cs' := [.slice ci bC.length ch,.int .i64 bX,.slice QN HA.length Qb,.slice cC cX.length cB,.slice Ju (cN ++ ([(⟨(aa bf iS).f0,(aa bf iS).f1,(aa bf iS).f2⟩ : ah)] : List ah)).length I7,.slice cE cd.length cA,.int .i64 du,.int .i64 d9,.int .i64 d8,.int .i64 (wrap64 (dR + Xf))]) 1 bh (xn zZ (xd (aB [4,7,8] [0,1] [0,1,2,3,4,5] ae (ge (ge (aR ai 10 dq (aR ai 11 dq (aR ai 12 dq (aR ai 13 dq (aR aZ 14 dq (wk [4,7,8] [0,1] [(aj 3 2 1),(aj 6 2 2),(aj 7 2 3),(aj 8 2 4),(aj 9 2 5),(aj 10 2 6),(aj 0 1 7),(aj 4 1 8),(aj 1 1 9),(aj 5 2 10),(aj 2 1 11)] (gw _ ⟨_,[],gQ,gP,[],none,0,0,[],none,0,[],none,0,[],none,0,[],none,0,0,0,0,0,bC,ci,ch,bX,HA,QN,Qb,cX,cC,cB,cN ++ ([(⟨(aa bf iS).f0,(aa bf iS).f1,(aa bf iS).f2⟩ : ah)] : List ah),Ju,I7,cd,cE,cA,du,d9,d8,wrap64 (dR + Xf),H,zZ⟩))))))))))))))))
         ·
          refine gf zZ (dF Ve) (gs (gs (rg (sv (aq 4 zZ) zZ (sv (am 1 none ag) zZ (sv (bG zZ) zZ (sv (dV ac) zZ (re (aB [4,7,8,39] [0,1] [0,1,2,3,4,5] ae ?_)))))))))
          revert H; refine aJ ?_ ?_ <;> intro Vb H
          ·
           refine gt zZ (dT Vb) (rg ?_)
           revert H; refine aS ?_; rintro ⟨lX,Iz,ON,OM,OL,acm,acl,ack,acj,aci⟩ Wc H
           refine so zZ (bb (gJ.ok b7 bC ci ch bX bf cU cT cX cC cB cN dz dy cd cE cA du d9 d8 dR _ _ _ _ _ _ _ _ _ _ Wc) [(aj 0 1 1),(aj 1 1 2),(aj 2 1 3),(aj 3 1 4),(aj 4 1 5)] [1] [0] 8 ep ?_)
           rintro _ _ _ ⟨kg,kf,MB,LT,MA,LS,Mz,LR,My,LQ,rfl,rfl,rfl⟩
           refine bR (en := [.sl 2 ai gQ gP [] 7 true,.sl 1 ai kg kf lX 9 true,.sl 1 ai MB LT Iz 10 true,.sl 1 ai MA LS ON 11 true,.sl 2 ai Mz LR OM 12 true,.sl 1 aZ My LQ OL 13 true]) kK (re (rg ?_))
           revert H; refine aS ?_; rintro ⟨ach,acg,acf,ace,acd⟩ A67 H
           refine so zZ (bb (ez.ok b7 lX kg kf acm Iz MB LT ON MA LS OM Mz LR OL My LQ acl ack acj aci _ _ _ _ _ A67) [(aw 1),(aw 2),(aw 3),(aw 4),(aw 5)] [1] [0] 14 ep ?_)
           rintro _ _ _ ⟨rfl,rfl,rfl⟩
           exact bR (en := [.sl 2 ai gQ gP [] 7 true,.sl 1 ai kg kf lX 9 true,.sl 1 ai MB LT Iz 10 true,.sl 1 ai MA LS ON 11 true,.sl 2 ai Mz LR OM 12 true,.sl 1 aZ My LQ OL 13 true]) kK (re (ge (ge (aR ai 14 dq (aR ai 15 dq (aR ai 16 dq (aR ai 17 dq (aR aZ 18 dq (wk [4,7,8] [0,1] [(aj 0 2 1),(aj 6 2 2),(aj 7 2 3),(aj 8 2 4),(aj 9 2 5),(aj 10 2 6),(aj 1 1 7),(aj 2 1 8),(aj 3 1 9),(aj 4 2 10),(aj 5 1 11)] (gw _ ⟨_,[],gQ,gP,[],none,0,0,[],none,0,[],none,0,[],none,0,[],none,0,0,0,0,0,lX,kg,kf,ach,Iz,MB,LT,ON,MA,LS,OM,Mz,LR,OL,My,LQ,acg,acf,ace,acd,H,zZ⟩))))))))))
          ·
           refine gf zZ (dF Vb) (gk (rg ?_))
           revert H; refine aS ?_; rintro ⟨qm,Xe,acb,aca,ab9⟩ Wb H
           refine so zZ (bb (ez.ok b7 bC ci ch bX bf cU cT cX cC cB cN dz dy cd cE cA du d9 d8 dR _ _ _ _ _ Wb) [(aw 0),(aw 1),(aw 2),(aw 3),(aw 4)] [1] [0] 8 ep ?_)
           rintro _ _ _ ⟨rfl,rfl,rfl⟩
           exact bR (en := [.sl 2 ai ci ch bC 2 true,.sl 2 ai cU cT bf 3 true,.sl 2 ai cC cB cX 4 true,.sl 2 ai dz dy cN 5 true,.sl 2 aZ cE cA cd 6 true,.sl 2 ai gQ gP [] 7 true]) kK (re (ge (ge (aR ai 8 dq (aR ai 9 dq (aR ai 10 dq (aR ai 11 dq (aR aZ 12 dq (wk [4,7,8] [0,1] [(aj 5 2 1),(aj 6 2 2),(aj 7 2 3),(aj 8 2 4),(aj 9 2 5),(aj 10 2 6),(aj 0 1 7),(aj 1 1 8),(aj 2 1 9),(aj 3 2 10),(aj 4 1 11)] (gw _ ⟨_,[],gQ,gP,[],none,0,0,[],none,0,[],none,0,[],none,0,[],none,0,0,0,0,0,bC,ci,ch,qm,bf,cU,cT,cX,cC,cB,cN,dz,dy,cd,cE,cA,Xe,acb,aca,ab9,H,zZ⟩))))))))))
       ·
        refine ts 94 zZ (dF Vf) (sk zZ (sk zZ (sk zZ (sk zZ (sv (aI ag) zZ (au ac (re (aB [4,7,8,89] [0,1] [0,1,2,3,4,5] ae (gf zZ zZ (gs (rg (sv (aq 2 zZ) zZ (sv (am 1 none ag) zZ (sv (bG zZ) zZ (sv (dV ac) zZ (au ac (re ?_)))))))))))))))))
        revert H; refine aJ ?_ ?_ <;> intro JX H
        ·
         refine gt zZ (dT JX) (gs (rg (sv (aq 2 zZ) zZ (sv (am 1 none ag) zZ ?_))))
         revert H; refine aS ?_; rintro jq A70 H
         refine so zZ (ax (dS.ok k bf cU cT _ A70) [(aw 1)] 8 aG ?_)
         rintro _ _ _ ⟨rfl,rfl,rfl⟩
         refine au ac (re (aB [4,7,8,10] [0,1] [0,1,2,3,4,5] ae (gs (rg (sv (aq 2 zZ) zZ (sv (am 1 none ag) zZ (al ac ?_)))))))
         revert H; refine aU ?_; intro Uk H
         revert H; refine aU ?_; intro Oe H
         refine sv (aM 1 ag Uk Oe zZ) zZ (sv (bg (v := .agg #[.int .i64 ((aa bf jq).f0),.int .i64 ((aa bf jq).f1),.int .i64 ((aa bf jq).f2)]) jq 0 (some 3) 1 cK zZ zZ zZ Uk Oe zZ zZ zZ) zZ (so zZ (dk (cs := [.int .i64 0,.int .i64 0,.int .i64 0]) kK zZ fun VI => (so zZ (aD (cs' := [.int .i64 ((aa bf jq).f0),.int .i64 ((aa bf jq).f1),.int .i64 ((aa bf jq).f2)]) 2 bh (re (gs (rg (sv (aq 2 zZ) zZ (sv (am 1 none ag) zZ (al ac ?_)))))))))))
         revert H; refine aS ?_; rintro JI Wa H
         refine so zZ (ax (jU.ok bf cU cT jq _ Wa) [(aw 1)] 8 aG ?_)
         rintro _ _ _ ⟨QM,Qa,rfl,rfl,rfl⟩
         refine sv (aq 2 zZ) zZ (so zZ (aD (cs' := [.slice ci bC.length ch,.int .i64 bX,.slice QM JI.length Qa,.slice cC cX.length cB,.slice dz cN.length dy,.slice cE cd.length cA,.int .i64 du,.int .i64 d9,.int .i64 d8,.int .i64 dR]) 1 bh (re (aB [4,7,8,11] [0,1,2] [0,2,3,4,5,6] ae (gs (rg (sv (aq 4 zZ) zZ (sv (am 1 none ag) zZ (sv (am (v := .agg #[.int .i64 ((aa bf jq).f0),.int .i64 ((aa bf jq).f1),.int .i64 ((aa bf jq).f2)]) 2 (some 3) ag) zZ (so zZ (bH (s := 3) (by_ := 24) ai ([(⟨(aa bf jq).f0,(aa bf jq).f1,(aa bf jq).f2⟩ : ah)] : List ah) [[]] [] 10 [.tmp 125] dp dq zZ fun Y5 YS => ?_)))))))))))
         revert H; refine aU ?_; intro g75 H
         refine so zZ (di (k := ai) (s := 3) (by_ := 24) 2 6 ae (km g75 dq) (iz g75 dq) (.inl zZ) true (fun _ => .inl zZ) ac fun Jt I6 => (bR (en := [.sl 2 ai ci ch bC 2 true,.sl 2 ai cC cB cX 4 true,.sl 2 aZ cE cA cd 6 true,.sl 2 ai gQ gP [] 7 true,.sl 2 ai QM Qa JI 9 true,.sl 2 ai Y5 YS ([(⟨(aa bf jq).f0,(aa bf jq).f1,(aa bf jq).f2⟩ : ah)] : List ah) 10 true,.sl 2 ai Jt I6 (cN ++ ([(⟨(aa bf jq).f0,(aa bf jq).f1,(aa bf jq).f2⟩ : ah)] : List ah)) 5 true]) kK (sv (aq 4 zZ) zZ (so zZ (aD (cs' := [.slice ci bC.length ch,.int .i64 bX,.slice QM JI.length Qa,.slice cC cX.length cB,.slice Jt (cN ++ ([(⟨(aa bf jq).f0,(aa bf jq).f1,(aa bf jq).f2⟩ : ah)] : List ah)).length I6,.slice cE cd.length cA,.int .i64 du,.int .i64 d9,.int .i64 d8,.int .i64 dR]) 1 bh (re (aB [4,7,8,11] [0,1,2] [0,1,2,3,4,6] ae (fj [0,1,2] [0,1,2,3,4,5] [6] 7 ae (ap 0 [0,1,2] [0,1,2,3,4,5] zZ (aq 9 zZ) ae (ap 1 [0,1,2] [0,1,2,3,4,5] zZ (am 1 none ag) ae (ap 2 [0,1,2] [0,1,2,3,4,5] zZ (am (v := .agg #[.int .i64 ((aa bf jq).f0),.int .i64 ((aa bf jq).f1),.int .i64 ((aa bf jq).f2)]) 2 (some 3) ag) ae (ar 3 ac ?_))))))))))))
         revert H; refine aS ?_; rintro Po A77 H
         refine ax (fE.ok ((aa bf jq).f0) ((aa bf jq).f1) ((aa bf jq).f2) _ A77) [] 10 aG ?_
         rintro _ _ _ ⟨rfl,rfl,rfl⟩
         exact aN [0,1,2] [0,1,2,3,4,5] ag (ap 4 [0,1,2] [0,1,2,3,4,5] zZ (ba ac) ae (ap 5 [0,1,2] [0,1,2,3,4,5] zZ (aq 9 zZ) ae (ar 6 ac (aD (cs' := [.slice ci bC.length ch,.int .i64 bX,.slice QM JI.length Qa,.slice cC cX.length cB,.slice Jt (cN ++ ([(⟨(aa bf jq).f0,(aa bf jq).f1,(aa bf jq).f2⟩ : ah)] : List ah)).length I6,.slice cE cd.length cA,.int .i64 du,.int .i64 d9,.int .i64 d8,.int .i64 (wrap64 (dR + Po))]) 1 bh (xn zZ (xd (aB [4,7,8] [0,1] [0,1,2,3,4,5] ae (ge (ge (aR ai 10 dq (aR ai 11 dq (aR ai 12 dq (aR ai 13 dq (aR aZ 14 dq (wk [4,7,8] [0,1] [(aj 3 2 1),(aj 6 2 2),(aj 7 2 3),(aj 8 2 4),(aj 9 2 5),(aj 10 2 6),(aj 0 1 7),(aj 4 1 8),(aj 1 1 9),(aj 5 2 10),(aj 2 1 11)] (gw _ ⟨_,[],gQ,gP,[],none,0,0,[],none,0,[],none,0,[],none,0,[],none,0,0,0,0,0,bC,ci,ch,bX,JI,QM,Qa,cX,cC,cB,cN ++ ([(⟨(aa bf jq).f0,(aa bf jq).f1,(aa bf jq).f2⟩ : ah)] : List ah),Jt,I6,cd,cE,cA,du,d9,d8,wrap64 (dR + Po),H,zZ⟩))))))))))))))))
        ·
         refine gf zZ (dF JX) (gs (gs (rg (sv (aq 4 zZ) zZ (sv (am 1 none ag) zZ (sv (bG zZ) zZ (sv (dV ac) zZ (re (aB [4,7,8,39] [0,1] [0,1,2,3,4,5] ae ?_)))))))))
         revert H; refine aJ ?_ ?_ <;> intro Oq H
         ·
          refine gt zZ (dT Oq) (rg ?_)
          revert H; refine aS ?_; rintro ⟨OK,OJ,OI,OH,OG,ab5,ab4,ab3,ab2,ab1⟩ V8 H
          refine so zZ (bb (gJ.ok b7 bC ci ch bX bf cU cT cX cC cB cN dz dy cd cE cA du d9 d8 dR _ _ _ _ _ _ _ _ _ _ V8) [(aj 0 1 1),(aj 1 1 2),(aj 2 1 3),(aj 3 1 4),(aj 4 1 5)] [1] [0] 8 ep ?_)
          rintro _ _ _ ⟨Mx,LP,Mw,LO,Mv,LN,Mu,LM,Mt,LL,rfl,rfl,rfl⟩
          refine bR (en := [.sl 2 ai gQ gP [] 7 true,.sl 1 ai Mx LP OK 9 true,.sl 1 ai Mw LO OJ 10 true,.sl 1 ai Mv LN OI 11 true,.sl 2 ai Mu LM OH 12 true,.sl 1 aZ Mt LL OG 13 true]) kK (re (rg ?_))
          revert H; refine aS ?_; rintro ⟨abZ,abY,abX,abW,abV⟩ A80 H
          refine so zZ (bb (ez.ok b7 OK Mx LP ab5 OJ Mw LO OI Mv LN OH Mu LM OG Mt LL ab4 ab3 ab2 ab1 _ _ _ _ _ A80) [(aw 1),(aw 2),(aw 3),(aw 4),(aw 5)] [1] [0] 14 ep ?_)
          rintro _ _ _ ⟨rfl,rfl,rfl⟩
          exact bR (en := [.sl 2 ai gQ gP [] 7 true,.sl 1 ai Mx LP OK 9 true,.sl 1 ai Mw LO OJ 10 true,.sl 1 ai Mv LN OI 11 true,.sl 2 ai Mu LM OH 12 true,.sl 1 aZ Mt LL OG 13 true]) kK (re (ge (ge (aR ai 14 dq (aR ai 15 dq (aR ai 16 dq (aR ai 17 dq (aR aZ 18 dq (wk [4,7,8] [0,1] [(aj 0 2 1),(aj 6 2 2),(aj 7 2 3),(aj 8 2 4),(aj 9 2 5),(aj 10 2 6),(aj 1 1 7),(aj 2 1 8),(aj 3 1 9),(aj 4 2 10),(aj 5 1 11)] (gw _ ⟨_,[],gQ,gP,[],none,0,0,[],none,0,[],none,0,[],none,0,[],none,0,0,0,0,0,OK,Mx,LP,abZ,OJ,Mw,LO,OI,Mv,LN,OH,Mu,LM,OG,Mt,LL,abY,abX,abW,abV,H,zZ⟩))))))))))
         ·
          refine gf zZ (dF Oq) (gk (rg ?_))
          revert H; refine aS ?_; rintro ⟨abU,abT,abS,abR,abQ⟩ V7 H
          refine so zZ (bb (ez.ok b7 bC ci ch bX bf cU cT cX cC cB cN dz dy cd cE cA du d9 d8 dR _ _ _ _ _ V7) [(aw 0),(aw 1),(aw 2),(aw 3),(aw 4)] [1] [0] 8 ep ?_)
          rintro _ _ _ ⟨rfl,rfl,rfl⟩
          exact bR (en := [.sl 2 ai ci ch bC 2 true,.sl 2 ai cU cT bf 3 true,.sl 2 ai cC cB cX 4 true,.sl 2 ai dz dy cN 5 true,.sl 2 aZ cE cA cd 6 true,.sl 2 ai gQ gP [] 7 true]) kK (re (ge (ge (aR ai 8 dq (aR ai 9 dq (aR ai 10 dq (aR ai 11 dq (aR aZ 12 dq (wk [4,7,8] [0,1] [(aj 5 2 1),(aj 6 2 2),(aj 7 2 3),(aj 8 2 4),(aj 9 2 5),(aj 10 2 6),(aj 0 1 7),(aj 1 1 8),(aj 2 1 9),(aj 3 2 10),(aj 4 1 11)] (gw _ ⟨_,[],gQ,gP,[],none,0,0,[],none,0,[],none,0,[],none,0,[],none,0,0,0,0,0,bC,ci,ch,abU,bf,cU,cT,cX,cC,cB,cN,dz,dy,cd,cE,cA,abT,abS,abR,abQ,H,zZ⟩))))))))))
     ·
      refine gf zZ (dF c9) (gs (rg (sv (bZ ac) zZ (au ac (re (aB [4,7,8,33,135] [0,1] [0,1,2,3,4,5] ae ?_))))))
      revert H; refine aJ ?_ ?_ <;> intro Oo H
      ·
       refine gt zZ (dT Oo) (gs ?_)
       revert H; refine aU ?_; intro g83 H
       refine qt (i := 0) 4 n5 zZ dq g83 fun W6 WV => ?_
       revert H; refine aU ?_; intro g85 H
       refine qt (i := 1) 4 n5 zZ dq g85 fun W5 WU => (fj [0,1] [0,1,2,3,4,5,6,7,8,9] [] 12 ae (ap 0 [0,1] [0,1,2,3,4,5,6,7,8,9] zZ (aq 5 zZ) ae (ap 1 [0,1] [0,1,2,3,4,5,6,7,8,9] zZ (am 1 none ag) ae (ap 2 [0,1] [0,1,2,3,4,5,6,7,8,9] zZ (aM 4 ag dq g83 zZ) ae (ap 3 [0,1] [0,1,2,3,4,5,6,7,8,9] zZ (aq 0 zZ) ae (ap 4 [0,1] [0,1,2,3,4,5,6,7,8,9] zZ (ig (v := .slice W6 ((aC cd 0).f0).length WV) 0 none 6 ae) ae (ap 5 [0,1] [0,1,2,3,4,5,6,7,8,9] zZ (aq 5 zZ) ae (ap 6 [0,1] [0,1,2,3,4,5,6,7,8,9] zZ (am 1 none ag) ae (ap 7 [0,1] [0,1,2,3,4,5,6,7,8,9] zZ (aM 4 ag dq g85 zZ) ae (ap 8 [0,1] [0,1,2,3,4,5,6,7,8,9] zZ (aq 0 zZ) ae (ap 9 [0,1] [0,1,2,3,4,5,6,7,8,9] zZ (ig (v := .slice W5 ((aC cd 1).f0).length WU) 0 none 8 ae) ae (ap 10 [0,1] [0,1,2,3,4,5,6,7,8,9] zZ (gE zZ) ae (ap 11 [0,1] [0,1,2,3,4,5,6,7,8,9] zZ (gE zZ) ae (xd (aB [4,7,8,12,13] [0,1] [0,1,2,3,4,5,6,7,8,9] ae ?_)))))))))))))))
       refine jo (fun S => ∃ (m : Nat) (xQ : List ah) (GF : Option Addr) (Gk : Nat) (gZ : List ah) (QJ : Option Addr) (P6 : Nat) (gS : List ah) (QI : Option Addr) (P5 : Nat) (rD : List ah) (yz : Option Addr) (yk : Nat) (s5 : Int) (rC : List ah) (yy : Option Addr) (yj : Nat) (rB : List ah) (yx : Option Addr) (yi : Nat) (rA : List ah) (yw : Option Addr) (yh : Nat) (rz : List aT) (yv : Option Addr) (yg : Nat) (sZ : Int) (sY : Int) (sX : Int) (sW : Int) (mO : List ah) (sn : Option Addr) (rX : Nat) (n8 : Int) (mN : List ah) (sm : Option Addr) (rW : Nat) (mM : List ah) (sj : Option Addr) (rV : Nat) (mL : List ah) (si : Option Addr) (rU : Nat) (mK : List aT) (sg : Option Addr) (rT : Nat) (ek : Int) (eh : Int) (n7 : Int) (n6 : Int),bi.j2 m xQ gZ gS rD s5 rC rB rA rz sZ sY sX sW mO n8 mN mM mL mK ek eh n7 n6 = some (r0,r1,r2,r3,r4,r5,r6,r7,r8,r9,my,vp) ∧ S = ⟨[(4,.pointer (some ⟨b4,0,none⟩)),(7,.pointer (some ⟨b7,0,none⟩)),(8,.slice GF xQ.length Gk),(12,.slice QJ gZ.length P6),(13,.slice QI gS.length P5)],[⟨b4,27,[.slice yz rD.length yk,.int .i64 s5,.slice yy rC.length yj,.slice yx rB.length yi,.slice yw rA.length yh,.slice yv rz.length yg,.int .i64 sZ,.int .i64 sY,.int .i64 sX,.int .i64 sW]⟩,⟨b7,27,[.slice sn mO.length rX,.int .i64 n8,.slice sm mN.length rW,.slice sj mM.length rV,.slice si mL.length rU,.slice sg mK.length rT,.int .i64 ek,.int .i64 eh,.int .i64 n7,.int .i64 n6]⟩],[.sl 2 ai GF Gk xQ 1 true,.sl 1 ai QJ P6 gZ 2 true,.sl 1 ai QI P5 gS 2 true,.sl 2 ai yz yk rD 3 true,.sl 2 ai yy yj rC 4 true,.sl 2 ai yx yi rB 5 true,.sl 2 ai yw yh rA 6 true,.sl 2 aZ yv yg rz 7 true,.sl 2 ai sn rX mO 8 true,.sl 2 ai sm rW mN 9 true,.sl 2 ai sj rV mM 10 true,.sl 2 ai si rU mL 11 true,.sl 2 aZ sg rT mK 2 true]⟩) (fun S hS => ?_) (fun JO => ?_)
       ·
        clear H
        obtain ⟨ZU,xQ,GF,Gk,gZ,QJ,P6,gS,QI,P5,rD,yz,yk,s5,rC,yy,yj,rB,yx,yi,rA,yw,yh,rz,yv,yg,sZ,sY,sX,sW,mO,sn,rX,n8,mN,sm,rW,mM,sj,rV,mL,si,rU,mK,sg,rT,ek,eh,n7,n6,H,rfl⟩ := hS
        rcases ZU with _ | ZU
        · rw [bi.j2] at H; cases H
        rw [bi.j2] at H
        refine gs (rg (sv (gu (v := .agg #[.int .i64 0,.int .i64 0,.int .i64 0]) zZ kK) zZ (so zZ (dk (cs := [.int .i64 0,.int .i64 0,.int .i64 0]) kK zZ fun b14 => (so zZ (aD (cs' := [.int .i64 0,.int .i64 0,.int .i64 0]) 2 bh (re ?_)))))))
        refine jo (fun S => ∃ (m : Nat) (Hm : List ah) (Mp : Option Addr) (LG : Nat) (ku : List ah) (nK : Option Addr) (nC : Nat) (oI : Int) (kt : List ah) (nJ : Option Addr) (nB : Nat) (ks : List ah) (nI : Option Addr) (nA : Nat) (kr : List ah) (nH : Option Addr) (nz : Nat) (kq : List aT) (nG : Option Addr) (ny : Nat) (oH : Int) (oG : Int) (oF : Int) (oE : Int) (iP : List ah) (j6 : Option Addr) (jY : Nat) (kb : Int) (iO : List ah) (j5 : Option Addr) (jX : Nat) (iN : List ah) (jZ : Option Addr) (jW : Nat) (gR : List ah) (mx : Option Addr) (mt : Nat) (iD : List aT) (mw : Option Addr) (ms : Nat) (ka : Int) (j9 : Int) (j8 : Int) (j7 : Int) (ma : Int) (l9 : Int) (l8 : Int),m ≤ ZU ∧ bi.j3 m Hm ku oI kt ks kr kq oH oG oF oE iP kb iO iN gR iD ka j9 j8 j7 ma l9 l8 = some (r0,r1,r2,r3,r4,r5,r6,r7,r8,r9,my,vp) ∧ S = ⟨[(4,.pointer (some ⟨b4,0,none⟩)),(7,.pointer (some ⟨b7,0,none⟩)),(8,.slice Mp Hm.length LG),(14,.pointer (some ⟨b14,0,none⟩))],[⟨b4,27,[.slice nK ku.length nC,.int .i64 oI,.slice nJ kt.length nB,.slice nI ks.length nA,.slice nH kr.length nz,.slice nG kq.length ny,.int .i64 oH,.int .i64 oG,.int .i64 oF,.int .i64 oE]⟩,⟨b7,27,[.slice j6 iP.length jY,.int .i64 kb,.slice j5 iO.length jX,.slice jZ iN.length jW,.slice mx gR.length mt,.slice mw iD.length ms,.int .i64 ka,.int .i64 j9,.int .i64 j8,.int .i64 j7]⟩,⟨b14,73,[.int .i64 ma,.int .i64 l9,.int .i64 l8]⟩],[.sl 2 ai Mp LG Hm 1 true,.sl 2 ai nK nC ku 2 true,.sl 2 ai nJ nB kt 3 true,.sl 2 ai nI nA ks 4 true,.sl 2 ai nH nz kr 5 true,.sl 2 aZ nG ny kq 6 true,.sl 2 ai j6 jY iP 7 true,.sl 2 ai j5 jX iO 8 true,.sl 2 ai jZ jW iN 9 true,.sl 2 ai mx mt gR 10 true,.sl 2 aZ mw ms iD 11 true]⟩) (fun S hS => ?_) (fun Ly => ?_)
        ·
         clear H
         obtain ⟨m88,Hm,Mp,LG,ku,nK,nC,oI,kt,nJ,nB,ks,nI,nA,kr,nH,nz,kq,nG,ny,oH,oG,oF,oE,iP,j6,jY,kb,iO,j5,jX,iN,jZ,jW,gR,mx,mt,iD,mw,ms,ka,j9,j8,j7,ma,l9,l8,lm88,H,rfl⟩ := hS
         rcases m88 with _ | m88
         · rw [bi.j3] at H; cases H
         rw [bi.j3] at H
         refine gs (rg (sv (aq 4 zZ) zZ (sv (am 1 none ag) zZ (sv (am (v := .agg #[.int .i64 ma,.int .i64 l9,.int .i64 l8]) 2 (some 3) ag) zZ (so zZ (bH (s := 3) (by_ := 24) ai ([(⟨ma,l9,l8⟩ : ah)] : List ah) [[]] [] 12 [.tmp 212] dp dq zZ fun Y0 YN => ?_))))))
         revert H; refine aU ?_; intro Ui H
         refine so zZ (di (k := ai) (s := 3) (by_ := 24) 9 11 ae (km Ui dq) (iz Ui dq) (.inl zZ) true (fun _ => .inl zZ) ac fun Js I5 => (bR (en := [.sl 2 ai Mp LG Hm 1 true,.sl 2 ai nK nC ku 2 true,.sl 2 ai nJ nB kt 3 true,.sl 2 ai nI nA ks 4 true,.sl 2 ai nH nz kr 5 true,.sl 2 aZ nG ny kq 6 true,.sl 2 ai j6 jY iP 7 true,.sl 2 ai j5 jX iO 8 true,.sl 2 ai jZ jW iN 9 true,.sl 2 aZ mw ms iD 11 true,.sl 2 ai Y0 YN ([(⟨ma,l9,l8⟩ : ah)] : List ah) 12 true,.sl 2 ai Js I5 (gR ++ ([(⟨ma,l9,l8⟩ : ah)] : List ah)) 10 true]) kK (sv (aq 4 zZ) zZ (so zZ (aD (cs' := [.slice j6 iP.length jY,.int .i64 kb,.slice j5 iO.length jX,.slice jZ iN.length jW,.slice Js (gR ++ ([(⟨ma,l9,l8⟩ : ah)] : List ah)).length I5,.slice mw iD.length ms,.int .i64 ka,.int .i64 j9,.int .i64 j8,.int .i64 j7]) 1 bh (re (aB [4,7,8,14] [0,1,2] [0,1,2,3,4,5,6,7,8,9,11] ae (fj [0,1,2] [0,1,2,3,4,5,6,7,8,9,10] [6] 7 ae (ap 0 [0,1,2] [0,1,2,3,4,5,6,7,8,9,10] zZ (aq 9 zZ) ae (ap 1 [0,1,2] [0,1,2,3,4,5,6,7,8,9,10] zZ (am 1 none ag) ae (ap 2 [0,1,2] [0,1,2,3,4,5,6,7,8,9,10] zZ (am (v := .agg #[.int .i64 ma,.int .i64 l9,.int .i64 l8]) 2 (some 3) ag) ae (ar 3 ac ?_))))))))))))
         revert H; refine aS ?_; rintro Xc A92 H
         refine ax (fE.ok ma l9 l8 _ A92) [] 12 aG ?_
         rintro _ _ _ ⟨rfl,rfl,rfl⟩
         exact aN [0,1,2] [0,1,2,3,4,5,6,7,8,9,10] ag (ap 4 [0,1,2] [0,1,2,3,4,5,6,7,8,9,10] zZ (ba ac) ae (ap 5 [0,1,2] [0,1,2,3,4,5,6,7,8,9,10] zZ (aq 9 zZ) ae (ar 6 ac (aD (cs' := [.slice j6 iP.length jY,.int .i64 kb,.slice j5 iO.length jX,.slice jZ iN.length jW,.slice Js (gR ++ ([(⟨ma,l9,l8⟩ : ah)] : List ah)).length I5,.slice mw iD.length ms,.int .i64 ka,.int .i64 j9,.int .i64 j8,.int .i64 (wrap64 (j7 + Xc))]) 1 bh (xn zZ (xd (aB [4,7,8] [0,1] [0,1,2,3,4,5,6,7,8,9,10] ae (ge (wk [4,7,8] [0,1] [(aj 0 2 1),(aj 1 2 2),(aj 2 2 3),(aj 3 2 4),(aj 4 2 5),(aj 5 2 6),(aj 6 1 7),(aj 7 1 8),(aj 8 1 9),(aj 10 2 10),(aj 9 1 11)] (gw _ ⟨_,Hm,Mp,LG,ku,nK,nC,oI,kt,nJ,nB,ks,nI,nA,kr,nH,nz,kq,nG,ny,oH,oG,oF,oE,iP,j6,jY,kb,iO,j5,jX,iN,jZ,jW,gR ++ ([(⟨ma,l9,l8⟩ : ah)] : List ah),Js,I5,iD,mw,ms,ka,j9,j8,wrap64 (j7 + Xc),H,zZ⟩))))))))))
        ·
         refine gs (fj [0,1,2] [0,1,2,3,4,5,6,7,8,9,10,11,12] [] 26 ae (ap 0 [0,1,2] [0,1,2,3,4,5,6,7,8,9,10,11,12] zZ (aq 7 zZ) ae (ap 1 [0,1,2] [0,1,2,3,4,5,6,7,8,9,10,11,12] zZ (am 1 none ag) ae (ap 2 [0,1,2] [0,1,2,3,4,5,6,7,8,9,10,11,12] zZ (aA zZ) ae (ap 3 [0,1,2] [0,1,2,3,4,5,6,7,8,9,10,11,12] zZ (bG zZ) ae (ap 4 [0,1,2] [0,1,2,3,4,5,6,7,8,9,10,11,12] zZ (bZ ac) ae (ap 5 [0,1,2] [0,1,2,3,4,5,6,7,8,9,10,11,12] zZ (aA zZ) ae ?_)))))))
         revert H; refine aJ ?_ ?_ <;> intro c93 H
         ·
          refine ts 171 zZ (dT c93) (bv 6 [0,1,2] [0,1,2,3,4,5,6,7,8,9,10,11,12] aG (bv 7 [0,1,2] [0,1,2,3,4,5,6,7,8,9,10,11,12] aG (bv 8 [0,1,2] [0,1,2,3,4,5,6,7,8,9,10,11,12] aG (bv 9 [0,1,2] [0,1,2,3,4,5,6,7,8,9,10,11,12] aG (bv 10 [0,1,2] [0,1,2,3,4,5,6,7,8,9,10,11,12] aG (bv 11 [0,1,2] [0,1,2,3,4,5,6,7,8,9,10,11,12] aG (bv 12 [0,1,2] [0,1,2,3,4,5,6,7,8,9,10,11,12] aG (bv 13 [0,1,2] [0,1,2,3,4,5,6,7,8,9,10,11,12] aG (bv 14 [0,1,2] [0,1,2,3,4,5,6,7,8,9,10,11,12] aG (bv 15 [0,1,2] [0,1,2,3,4,5,6,7,8,9,10,11,12] aG (bv 16 [0,1,2] [0,1,2,3,4,5,6,7,8,9,10,11,12] aG (bv 17 [0,1,2] [0,1,2,3,4,5,6,7,8,9,10,11,12] aG (bv 18 [0,1,2] [0,1,2,3,4,5,6,7,8,9,10,11,12] aG (bv 19 [0,1,2] [0,1,2,3,4,5,6,7,8,9,10,11,12] aG (bv 20 [0,1,2] [0,1,2,3,4,5,6,7,8,9,10,11,12] aG (bv 21 [0,1,2] [0,1,2,3,4,5,6,7,8,9,10,11,12] aG (bv 22 [0,1,2] [0,1,2,3,4,5,6,7,8,9,10,11,12] aG (bv 23 [0,1,2] [0,1,2,3,4,5,6,7,8,9,10,11,12] aG (bv 24 [0,1,2] [0,1,2,3,4,5,6,7,8,9,10,11,12] aG (ap 25 [0,1,2] [0,1,2,3,4,5,6,7,8,9,10,11,12] zZ (aQ ag) ae (xd (aB [4,7,8,12,13,14,191] [0,1,2] [0,1,2,3,4,5,6,7,8,9,10,11,12] ae (gt zZ zZ (gs (rg (al ac (sv (aq 6 zZ) zZ (sv (am 1 none ag) zZ ?_))))))))))))))))))))))))))))
          revert H; refine aU ?_; intro g94 H
          revert H; refine aU ?_; intro g95 H
          exact sv (aM 1 ag g94 g95 zZ) zZ (sv (bg (v := .agg #[.int .i64 ((aa gZ ek).f0),.int .i64 ((aa gZ ek).f1),.int .i64 ((aa gZ ek).f2)]) ek 0 (some 3) 1 cK zZ zZ zZ g94 g95 zZ zZ zZ) zZ (so zZ (aD (cs' := [.int .i64 ((aa gZ ek).f0),.int .i64 ((aa gZ ek).f1),.int .i64 ((aa gZ ek).f2)]) 2 bh (re (aB [4,7,8,14] [0,1,2] [0,3,4,5,6,7,8,9,10,11,12] ae (rg (sv (aq 6 zZ) zZ (sv (am 1 none ag) zZ (sv (ba ac) zZ (sv (aq 6 zZ) zZ (so zZ (aD (cs' := [.slice sn mO.length rX,.int .i64 n8,.slice sm mN.length rW,.slice sj mM.length rV,.slice si mL.length rU,.slice sg mK.length rT,.int .i64 (wrap64 (ek + 1)),.int .i64 eh,.int .i64 n7,.int .i64 n6]) 1 bh (re (wk [4,7,8,14] [0,1,2] [(aj 0 2 1),(aj 1 2 2),(aj 2 2 3),(aj 3 2 4),(aj 4 2 5),(aj 5 2 6),(aj 6 2 7),(aj 7 2 8),(aj 8 2 9),(aj 9 2 10),(aj 10 2 11)] (Ly _ ⟨_,xQ,GF,Gk,rD,yz,yk,s5,rC,yy,yj,rB,yx,yi,rA,yw,yh,rz,yv,yg,sZ,sY,sX,sW,mO,sn,rX,n8,mN,sm,rW,mM,sj,rV,mL,si,rU,mK,sg,rT,wrap64 (ek + 1),eh,n7,n6,(aa gZ ek).f0,(aa gZ ek).f1,(aa gZ ek).f2,by omega,H,zZ⟩)))))))))))))))
         ·
          refine ts 171 zZ (dF c93) (ap 6 [0,1,2] [0,1,2,3,4,5,6,7,8,9,10,11,12] zZ (aq 6 zZ) ae (ap 7 [0,1,2] [0,1,2,3,4,5,6,7,8,9,10,11,12] zZ (am 1 none ag) ae (ap 8 [0,1,2] [0,1,2,3,4,5,6,7,8,9,10,11,12] zZ (aA zZ) ae (ap 9 [0,1,2] [0,1,2,3,4,5,6,7,8,9,10,11,12] zZ (bG zZ) ae (ap 10 [0,1,2] [0,1,2,3,4,5,6,7,8,9,10,11,12] zZ (bS ac) ae (ap 11 [0,1,2] [0,1,2,3,4,5,6,7,8,9,10,11,12] zZ (aA zZ) ae ?_))))))
          revert H; refine aJ ?_ ?_ <;> intro RN H
          ·
           refine ts 177 zZ (dT RN) (ap 12 [0,1,2] [0,1,2,3,4,5,6,7,8,9,10,11,12] zZ (aA zZ) ae (ap 13 [0,1,2] [0,1,2,3,4,5,6,7,8,9,10,11,12] zZ (aq 6 zZ) ae (ap 14 [0,1,2] [0,1,2,3,4,5,6,7,8,9,10,11,12] zZ (am 1 none ag) ae ?_)))
           revert H; refine aU ?_; intro XO H
           refine ap 15 [0,1,2] [0,1,2,3,4,5,6,7,8,9,10,11,12] zZ (aM 1 ag XO RN zZ) ae (ap 16 [0,1,2] [0,1,2,3,4,5,6,7,8,9,10,11,12] zZ (bg (v := .agg #[.int .i64 ((aa gZ ek).f0),.int .i64 ((aa gZ ek).f1),.int .i64 ((aa gZ ek).f2)]) ek 0 (some 3) 1 cK zZ zZ zZ XO RN zZ zZ zZ) ae (ap 17 [0,1,2] [0,1,2,3,4,5,6,7,8,9,10,11,12] zZ (aA zZ) ae (ap 18 [0,1,2] [0,1,2,3,4,5,6,7,8,9,10,11,12] zZ (aq 7 zZ) ae (ap 19 [0,1,2] [0,1,2,3,4,5,6,7,8,9,10,11,12] zZ (am 1 none ag) ae ?_))))
           revert H; refine aU ?_; intro XN H
           revert H; refine aU ?_; intro XM H
           refine ap 20 [0,1,2] [0,1,2,3,4,5,6,7,8,9,10,11,12] zZ (aM 2 ag XN XM zZ) ae (ap 21 [0,1,2] [0,1,2,3,4,5,6,7,8,9,10,11,12] zZ (bg (v := .agg #[.int .i64 ((aa gS eh).f0),.int .i64 ((aa gS eh).f1),.int .i64 ((aa gS eh).f2)]) eh 0 (some 3) 2 cK zZ zZ zZ XN XM zZ zZ zZ) ae (ar 22 ac ?_))
           revert H; refine aS ?_; rintro Zw afY H
           refine ax (dB.ok ((aa gZ ek).f0) ((aa gZ ek).f1) ((aa gZ ek).f2) ((aa gS eh).f0) ((aa gS eh).f1) ((aa gS eh).f2) _ afY) [] 12 aG ?_
           rintro _ _ _ ⟨rfl,rfl,rfl⟩
           refine aN [0,1,2] [0,1,2,3,4,5,6,7,8,9,10,11,12] ag (ap 23 [0,1,2] [0,1,2,3,4,5,6,7,8,9,10,11,12] zZ (jv ac) ae (ap 24 [0,1,2] [0,1,2,3,4,5,6,7,8,9,10,11,12] zZ (aQ ag) ae (ap 25 [0,1,2] [0,1,2,3,4,5,6,7,8,9,10,11,12] zZ (aI ag) ae (xd (aB [4,7,8,12,13,14,191] [0,1,2] [0,1,2,3,4,5,6,7,8,9,10,11,12] ae ?_)))))
           revert H; refine aJ ?_ ?_ <;> intro aaM H
           ·
            exact gt zZ (dT aaM) (gs (rg (al ac (sv (aq 6 zZ) zZ (sv (am 1 none ag) zZ (sv (aM 1 ag XO RN zZ) zZ (sv (bg (v := .agg #[.int .i64 ((aa gZ ek).f0),.int .i64 ((aa gZ ek).f1),.int .i64 ((aa gZ ek).f2)]) ek 0 (some 3) 1 cK zZ zZ zZ XO RN zZ zZ zZ) zZ (so zZ (aD (cs' := [.int .i64 ((aa gZ ek).f0),.int .i64 ((aa gZ ek).f1),.int .i64 ((aa gZ ek).f2)]) 2 bh (re (aB [4,7,8,14] [0,1,2] [0,3,4,5,6,7,8,9,10,11,12] ae (rg (sv (aq 6 zZ) zZ (sv (am 1 none ag) zZ (sv (ba ac) zZ (sv (aq 6 zZ) zZ (so zZ (aD (cs' := [.slice sn mO.length rX,.int .i64 n8,.slice sm mN.length rW,.slice sj mM.length rV,.slice si mL.length rU,.slice sg mK.length rT,.int .i64 (wrap64 (ek + 1)),.int .i64 eh,.int .i64 n7,.int .i64 n6]) 1 bh (re (wk [4,7,8,14] [0,1,2] [(aj 0 2 1),(aj 1 2 2),(aj 2 2 3),(aj 3 2 4),(aj 4 2 5),(aj 5 2 6),(aj 6 2 7),(aj 7 2 8),(aj 8 2 9),(aj 9 2 10),(aj 10 2 11)] (Ly _ ⟨_,xQ,GF,Gk,rD,yz,yk,s5,rC,yy,yj,rB,yx,yi,rA,yw,yh,rz,yv,yg,sZ,sY,sX,sW,mO,sn,rX,n8,mN,sm,rW,mM,sj,rV,mL,si,rU,mK,sg,rT,wrap64 (ek + 1),eh,n7,n6,(aa gZ ek).f0,(aa gZ ek).f1,(aa gZ ek).f2,by omega,H,zZ⟩)))))))))))))))))))))
           ·
            exact gf zZ (dF aaM) (gs (rg (al ac (sv (aq 7 zZ) zZ (sv (am 1 none ag) zZ (sv (aM 2 ag XN XM zZ) zZ (sv (bg (v := .agg #[.int .i64 ((aa gS eh).f0),.int .i64 ((aa gS eh).f1),.int .i64 ((aa gS eh).f2)]) eh 0 (some 3) 2 cK zZ zZ zZ XN XM zZ zZ zZ) zZ (so zZ (aD (cs' := [.int .i64 ((aa gS eh).f0),.int .i64 ((aa gS eh).f1),.int .i64 ((aa gS eh).f2)]) 2 bh (re (aB [4,7,8,14] [0,1,2] [0,3,4,5,6,7,8,9,10,11,12] ae (rg (sv (aq 7 zZ) zZ (sv (am 1 none ag) zZ (sv (ba ac) zZ (sv (aq 7 zZ) zZ (so zZ (aD (cs' := [.slice sn mO.length rX,.int .i64 n8,.slice sm mN.length rW,.slice sj mM.length rV,.slice si mL.length rU,.slice sg mK.length rT,.int .i64 ek,.int .i64 (wrap64 (eh + 1)),.int .i64 n7,.int .i64 n6]) 1 bh (re (wk [4,7,8,14] [0,1,2] [(aj 0 2 1),(aj 1 2 2),(aj 2 2 3),(aj 3 2 4),(aj 4 2 5),(aj 5 2 6),(aj 6 2 7),(aj 7 2 8),(aj 8 2 9),(aj 9 2 10),(aj 10 2 11)] (Ly _ ⟨_,xQ,GF,Gk,rD,yz,yk,s5,rC,yy,yj,rB,yx,yi,rA,yw,yh,rz,yv,yg,sZ,sY,sX,sW,mO,sn,rX,n8,mN,sm,rW,mM,sj,rV,mL,si,rU,mK,sg,rT,ek,wrap64 (eh + 1),n7,n6,(aa gS eh).f0,(aa gS eh).f1,(aa gS eh).f2,by omega,H,zZ⟩)))))))))))))))))))))
          ·
           refine ts 177 zZ (dF RN) (bv 12 [0,1,2] [0,1,2,3,4,5,6,7,8,9,10,11,12] aG (bv 13 [0,1,2] [0,1,2,3,4,5,6,7,8,9,10,11,12] aG (bv 14 [0,1,2] [0,1,2,3,4,5,6,7,8,9,10,11,12] aG (bv 15 [0,1,2] [0,1,2,3,4,5,6,7,8,9,10,11,12] aG (bv 16 [0,1,2] [0,1,2,3,4,5,6,7,8,9,10,11,12] aG (bv 17 [0,1,2] [0,1,2,3,4,5,6,7,8,9,10,11,12] aG (bv 18 [0,1,2] [0,1,2,3,4,5,6,7,8,9,10,11,12] aG (bv 19 [0,1,2] [0,1,2,3,4,5,6,7,8,9,10,11,12] aG (bv 20 [0,1,2] [0,1,2,3,4,5,6,7,8,9,10,11,12] aG (bv 21 [0,1,2] [0,1,2,3,4,5,6,7,8,9,10,11,12] aG (bv 22 [0,1,2] [0,1,2,3,4,5,6,7,8,9,10,11,12] aG (bv 23 [0,1,2] [0,1,2,3,4,5,6,7,8,9,10,11,12] aG (ap 24 [0,1,2] [0,1,2,3,4,5,6,7,8,9,10,11,12] zZ (aI ag) ae (ap 25 [0,1,2] [0,1,2,3,4,5,6,7,8,9,10,11,12] zZ (aI ag) ae (xd (aB [4,7,8,12,13,14,191] [0,1,2] [0,1,2,3,4,5,6,7,8,9,10,11,12] ae (gf zZ zZ (gs (rg (al ac (sv (aq 7 zZ) zZ (sv (am 1 none ag) zZ ?_))))))))))))))))))))))
           revert H; refine aU ?_; intro Z9 H
           revert H; refine aU ?_; intro Z8 H
           exact sv (aM 2 ag Z9 Z8 zZ) zZ (sv (bg (v := .agg #[.int .i64 ((aa gS eh).f0),.int .i64 ((aa gS eh).f1),.int .i64 ((aa gS eh).f2)]) eh 0 (some 3) 2 cK zZ zZ zZ Z9 Z8 zZ zZ zZ) zZ (so zZ (aD (cs' := [.int .i64 ((aa gS eh).f0),.int .i64 ((aa gS eh).f1),.int .i64 ((aa gS eh).f2)]) 2 bh (re (aB [4,7,8,14] [0,1,2] [0,3,4,5,6,7,8,9,10,11,12] ae (rg (sv (aq 7 zZ) zZ (sv (am 1 none ag) zZ (sv (ba ac) zZ (sv (aq 7 zZ) zZ (so zZ (aD (cs' := [.slice sn mO.length rX,.int .i64 n8,.slice sm mN.length rW,.slice sj mM.length rV,.slice si mL.length rU,.slice sg mK.length rT,.int .i64 ek,.int .i64 (wrap64 (eh + 1)),.int .i64 n7,.int .i64 n6]) 1 bh (re (wk [4,7,8,14] [0,1,2] [(aj 0 2 1),(aj 1 2 2),(aj 2 2 3),(aj 3 2 4),(aj 4 2 5),(aj 5 2 6),(aj 6 2 7),(aj 7 2 8),(aj 8 2 9),(aj 9 2 10),(aj 10 2 11)] (Ly _ ⟨_,xQ,GF,Gk,rD,yz,yk,s5,rC,yy,yj,rB,yx,yi,rA,yw,yh,rz,yv,yg,sZ,sY,sX,sW,mO,sn,rX,n8,mN,sm,rW,mM,sj,rV,mL,si,rU,mK,sg,rT,ek,wrap64 (eh + 1),n7,n6,(aa gS eh).f0,(aa gS eh).f1,(aa gS eh).f2,by omega,H,zZ⟩)))))))))))))))
       ·
        refine gs (rg (sv (aq 6 zZ) zZ (sv (am 1 none ag) zZ (al ac (sv (bG zZ) zZ (sv (bZ ac) zZ (al ac ?_)))))))
        revert H; refine aJ ?_ ?_ <;> intro aaK H
        ·
         refine ts 152 zZ (dT aaK) (sv (aq 7 zZ) zZ (sv (am 1 none ag) zZ (al ac (sv (bG zZ) zZ (sv (bZ ac) zZ (sv (aQ ag) zZ (re (aB [4,7,8,12,13,158] [0,1] [0,1,2,3,4,5,6,7,8,9] ae ?_))))))))
         revert H; refine aJ ?_ ?_ <;> intro aaJ H
         ·
          refine gt zZ (dT aaJ) (gs (rg (sv (aq 5 zZ) zZ (sv (am 1 none ag) zZ ?_))))
          revert H; refine aU ?_; intro Z7 H
          refine oY (l' := cd.drop (2 : Int).toNat) 2 (cd.length : Int) 4 zZ dq Z7 (Int.le_refl _) zZ 1 dq (.inl dq) JW (sv (lL 2 (cd.length : Int) 4 zZ zZ zZ zZ dq Z7 (Int.le_refl _) zZ zZ Ds) zZ (sv (aq 5 zZ) zZ (so zZ (aD (cs' := [.slice ci bC.length ch,.int .i64 bX,.slice cU bf.length cT,.slice cC cX.length cB,.slice dz cN.length dy,.slice (je cE cA (2 : Int).toNat 1) (cd.drop (2 : Int).toNat).length (cA - (2 : Int).toNat),.int .i64 du,.int .i64 d9,.int .i64 d8,.int .i64 dR]) 1 bh (re (aB [4,7,8] [0,1] [0,1,2,3,5,10] ae (gs (rg ?_))))))))
          revert H; refine aS ?_; rintro ⟨Ln,Lm,Ll,Lk,Lj,Zv,Zu,Zt,Zs,Zr⟩ afW H
          refine so zZ (bb (gJ.ok b7 bC ci ch bX bf cU cT cX cC cB cN dz dy (cd.drop (2 : Int).toNat) (je cE cA (2 : Int).toNat 1) (cA - (2 : Int).toNat) du d9 d8 dR _ _ _ _ _ _ _ _ _ _ afW) [(aj 0 1 1),(aj 1 1 2),(aj 2 1 3),(aj 3 1 4),(aj 5 1 5)] [1] [0] 8 ep ?_)
          rintro _ _ _ ⟨Jr,I4,Jq,I3,Jp,I2,Jo,I1,Jn,I0,rfl,rfl,rfl⟩
          refine bR (en := [.sl 2 ai gQ gP [] 7 true,.sl 1 ai Jr I4 Ln 9 true,.sl 1 ai Jq I3 Lm 10 true,.sl 1 ai Jp I2 Ll 11 true,.sl 2 ai Jo I1 Lk 12 true,.sl 1 aZ Jn I0 Lj 13 true]) kK (re (gs (rg ?_)))
          revert H; refine aS ?_; rintro ⟨Zq,Zp,Zo,Zn,Zm⟩ afV H
          refine so zZ (bb (ez.ok b7 Ln Jr I4 Zv Lm Jq I3 Ll Jp I2 Lk Jo I1 Lj Jn I0 Zu Zt Zs Zr _ _ _ _ _ afV) [(aw 1),(aw 2),(aw 3),(aw 4),(aw 5)] [1] [0] 14 ep ?_)
          rintro _ _ _ ⟨rfl,rfl,rfl⟩
          exact bR (en := [.sl 2 ai gQ gP [] 7 true,.sl 1 ai Jr I4 Ln 9 true,.sl 1 ai Jq I3 Lm 10 true,.sl 1 ai Jp I2 Ll 11 true,.sl 2 ai Jo I1 Lk 12 true,.sl 1 aZ Jn I0 Lj 13 true]) kK (re (gx zZ (aR ai 14 dq (aR ai 15 dq (aR ai 16 dq (aR ai 17 dq (aR aZ 18 dq (wk [4,7,8] [0,1] [(aj 0 2 1),(aj 6 2 2),(aj 7 2 3),(aj 8 2 4),(aj 9 2 5),(aj 10 2 6),(aj 1 1 7),(aj 2 1 8),(aj 3 1 9),(aj 4 2 10),(aj 5 1 11)] (gw _ ⟨_,[],gQ,gP,[],none,0,0,[],none,0,[],none,0,[],none,0,[],none,0,0,0,0,0,Ln,Jr,I4,Zq,Lm,Jq,I3,Ll,Jp,I2,Lk,Jo,I1,Lj,Jn,I0,Zp,Zo,Zn,Zm,H,zZ⟩)))))))))
         ·
          exact gf zZ (dF aaJ) (gk (aR ai 8 dq (aR ai 9 dq (aR ai 10 dq (aR ai 11 dq (aR aZ 12 dq (wk [4,7,8,12,13] [0,1] [(aj 5 2 1),(aj 7 1 2),(aj 9 1 2),(aj 10 2 3),(aj 11 2 4),(aj 12 2 5),(aj 13 2 6),(aj 14 2 7),(aj 0 2 8),(aj 1 2 9),(aj 2 2 10),(aj 3 2 11),(aj 4 2 2)] (JO _ ⟨_,[],gQ,gP,(aC cd 0).f0,W6,WV,(aC cd 1).f0,W5,WU,[],none,0,0,[],none,0,[],none,0,[],none,0,[],none,0,0,0,0,0,bC,ci,ch,bX,bf,cU,cT,cX,cC,cB,cN,dz,dy,cd,cE,cA,du,d9,d8,dR,H,zZ⟩))))))))
        ·
         exact ts 152 zZ (dF aaK) (sk zZ (sk zZ (sk zZ (sk zZ (sk zZ (sv (aI ag) zZ (re (aB [4,7,8,12,13,158] [0,1] [0,1,2,3,4,5,6,7,8,9] ae (gf zZ zZ (gk (aR ai 8 dq (aR ai 9 dq (aR ai 10 dq (aR ai 11 dq (aR aZ 12 dq (wk [4,7,8,12,13] [0,1] [(aj 5 2 1),(aj 7 1 2),(aj 9 1 2),(aj 10 2 3),(aj 11 2 4),(aj 12 2 5),(aj 13 2 6),(aj 14 2 7),(aj 0 2 8),(aj 1 2 9),(aj 2 2 10),(aj 3 2 11),(aj 4 2 2)] (JO _ ⟨_,[],gQ,gP,(aC cd 0).f0,W6,WV,(aC cd 1).f0,W5,WU,[],none,0,0,[],none,0,[],none,0,[],none,0,[],none,0,0,0,0,0,bC,ci,ch,bX,bf,cU,cT,cX,cC,cB,cN,dz,dy,cd,cE,cA,du,d9,d8,dR,H,zZ⟩)))))))))))))))))
      ·
       refine gf zZ (dF Oo) (gs (rg (sv (bZ ac) zZ (au ac (re ?_)))))
       revert H; refine aJ ?_ ?_ <;> intro aaI H
       ·
        refine gt zZ (dT aaI) (gs ?_)
        revert H; refine aU ?_; intro Z6 H
        refine qt (i := 0) 4 n5 zZ dq Z6 fun Tk S9 => ?_
        revert H; refine aU ?_; intro Z5 H
        revert H; refine aU ?_; intro Z4 H
        refine fj [0,1] [0,1,2,3,4,6,7] [12] 13 ae (ap 0 [0,1] [0,1,2,3,4,6,7] zZ (aA zZ) ae (ap 1 [0,1] [0,1,2,3,4,6,7] zZ (aq 5 zZ) ae (ap 2 [0,1] [0,1,2,3,4,6,7] zZ (am 1 none ag) ae (ap 3 [0,1] [0,1,2,3,4,6,7] zZ (aM 4 ag dq Z6 zZ) ae (ap 4 [0,1] [0,1,2,3,4,6,7] zZ (aq 0 zZ) ae (ap 5 [0,1] [0,1,2,3,4,6,7] zZ (ig (v := .slice Tk ((aC cd 0).f0).length S9) 0 none 5 ae) ae (ap 6 [0,1] [0,1,2,3,4,6,7] zZ (aq 6 zZ) ae (ap 7 [0,1] [0,1,2,3,4,6,7] zZ (am 1 none ag) ae (ap 8 [0,1] [0,1,2,3,4,6,7] zZ (aM 6 ag Z5 Z4 zZ) ae (ap 9 [0,1] [0,1,2,3,4,6,7] zZ (bg (v := .agg #[.int .i64 ((aa ((aC cd 0).f0) du).f0),.int .i64 ((aa ((aC cd 0).f0) du).f1),.int .i64 ((aa ((aC cd 0).f0) du).f2)]) du 0 (some 3) 6 cK zZ zZ zZ Z5 Z4 zZ zZ zZ) ae (ar 10 ac (bH (s := 3) (by_ := 24) ai ([(⟨(aa ((aC cd 0).f0) du).f0,(aa ((aC cd 0).f0) du).f1,(aa ((aC cd 0).f0) du).f2⟩ : ah)] : List ah) [[]] [] 8 [.tmp 233] dp dq zZ fun W9 WZ => (aN [0,1] [0,1,2,3,4,6,7] ag (ar 11 ac ?_))))))))))))))
        revert H; refine aU ?_; intro Z3 H
        refine di (k := ai) (s := 3) (by_ := 24) 5 8 ae (km Z3 dq) (iz Z3 dq) (.inl zZ) true (fun _ => .inl zZ) ac fun KL KE => (bR (en := [.sl 2 ai ci ch bC 2 true,.sl 2 ai cU cT bf 3 true,.sl 2 ai cC cB cX 4 true,.sl 2 ai dz dy cN 5 true,.sl 2 aZ cE cA cd 6 true,yu cE ((0 : Int).toNat * 1) [.slice Tk ((aC cd 0).f0).length S9] 6,.sl 1 ai Tk S9 ((aC cd 0).f0) 6 true,.sl 2 ai W9 WZ ([(⟨(aa ((aC cd 0).f0) du).f0,(aa ((aC cd 0).f0) du).f1,(aa ((aC cd 0).f0) du).f2⟩ : ah)] : List ah) 8 true,.sl 2 ai KL KE ([(⟨(aa ((aC cd 0).f0) du).f0,(aa ((aC cd 0).f0) du).f1,(aa ((aC cd 0).f0) du).f2⟩ : ah)] : List ah) 7 true]) kK (aN [0,1] [0,1,2,3,4,5,6] ag (ar 12 ac (ov (gE zZ) zZ (xn zZ (xd (aB [4,7,8] [0,1] [0,1,2,3,4,8] ae (gs (rg (sv (aq 6 zZ) zZ (sv (am 1 none ag) zZ (sv (ba ac) zZ (sv (aq 6 zZ) zZ (so zZ (aD (cs' := [.slice ci bC.length ch,.int .i64 bX,.slice cU bf.length cT,.slice cC cX.length cB,.slice dz cN.length dy,.slice cE cd.length cA,.int .i64 (wrap64 (du + 1)),.int .i64 d9,.int .i64 d8,.int .i64 dR]) 1 bh (re (gs (rg (sv (aq 6 zZ) zZ (sv (am 1 none ag) zZ (sv (aq 0 zZ) zZ (sv (am 1 none ag) zZ (sv (bG zZ) zZ (sv (bZ ac) zZ (re (aB [4,7,8,245] [0,1] [0,1,2,3,4,5] ae ?_))))))))))))))))))))))))))
        revert H; refine aJ ?_ ?_ <;> intro aaH H
        ·
         exact gt zZ (dT aaH) (rg (sv (aq 8 zZ) zZ (so zZ (aD (cs' := [.slice ci bC.length ch,.int .i64 bX,.slice cU bf.length cT,.slice cC cX.length cB,.slice dz cN.length dy,.slice cE cd.length cA,.int .i64 (wrap64 (du + 1)),.int .i64 d9,.int .i64 4,.int .i64 dR]) 1 bh (re (ge (aR ai 8 dq (aR ai 9 dq (aR ai 10 dq (aR ai 11 dq (aR aZ 12 dq (wk [4,7,8] [0,1] [(aj 5 2 1),(aj 6 2 2),(aj 7 2 3),(aj 8 2 4),(aj 9 2 5),(aj 10 2 6),(aj 0 1 7),(aj 1 1 8),(aj 2 1 9),(aj 3 2 10),(aj 4 1 11)] (gw _ ⟨_,([(⟨(aa ((aC cd 0).f0) du).f0,(aa ((aC cd 0).f0) du).f1,(aa ((aC cd 0).f0) du).f2⟩ : ah)] : List ah),KL,KE,[],none,0,0,[],none,0,[],none,0,[],none,0,[],none,0,0,0,0,0,bC,ci,ch,bX,bf,cU,cT,cX,cC,cB,cN,dz,dy,cd,cE,cA,wrap64 (du + 1),d9,4,dR,H,zZ⟩)))))))))))))
        ·
         exact gf zZ (dF aaH) (gk (ge (aR ai 8 dq (aR ai 9 dq (aR ai 10 dq (aR ai 11 dq (aR aZ 12 dq (wk [4,7,8] [0,1] [(aj 5 2 1),(aj 6 2 2),(aj 7 2 3),(aj 8 2 4),(aj 9 2 5),(aj 10 2 6),(aj 0 1 7),(aj 1 1 8),(aj 2 1 9),(aj 3 2 10),(aj 4 1 11)] (gw _ ⟨_,([(⟨(aa ((aC cd 0).f0) du).f0,(aa ((aC cd 0).f0) du).f1,(aa ((aC cd 0).f0) du).f2⟩ : ah)] : List ah),KL,KE,[],none,0,0,[],none,0,[],none,0,[],none,0,[],none,0,0,0,0,0,bC,ci,ch,bX,bf,cU,cT,cX,cC,cB,cN,dz,dy,cd,cE,cA,wrap64 (du + 1),d9,d8,dR,H,zZ⟩)))))))))
       ·
        exact gf zZ (dF aaI) (gk (ge (aR ai 8 dq (aR ai 9 dq (aR ai 10 dq (aR ai 11 dq (aR aZ 12 dq (wk [4,7,8] [0,1] [(aj 5 2 1),(aj 6 2 2),(aj 7 2 3),(aj 8 2 4),(aj 9 2 5),(aj 10 2 6),(aj 0 1 7),(aj 1 1 8),(aj 2 1 9),(aj 3 2 10),(aj 4 1 11)] (gw _ ⟨_,[],gQ,gP,[],none,0,0,[],none,0,[],none,0,[],none,0,[],none,0,0,0,0,0,bC,ci,ch,bX,bf,cU,cT,cX,cC,cB,cN,dz,dy,cd,cE,cA,du,d9,d8,dR,H,zZ⟩)))))))))
  ·
   have xc5 := bF c5; subst xc5
   refine eq 25 ac (sk zZ (sk zZ (sk zZ (sv (aQ ag) zZ (re (aB [1,4,7,29] [1,2] [5,6,7,8,9] ae (gt zZ zZ (gs (rg (sv (am (v := .agg #[.slice ci bC.length ch,.int .i64 bX,.slice cU bf.length cT,.slice cC cX.length cB,.slice dz cN.length dy,.slice cE cd.length cA,.int .i64 du,.int .i64 d9,.int .i64 d8,.int .i64 dR]) 1 (some 10) ag) zZ (so zZ (aD (cs' := [.slice ci bC.length ch,.int .i64 bX,.slice cU bf.length cT,.slice cC cX.length cB,.slice dz cN.length dy,.slice cE cd.length cA,.int .i64 du,.int .i64 d9,.int .i64 d8,.int .i64 dR]) 0 bh (au ac (au ac (re (aR ai 7 dq ?_))))))))))))))))
   cases H
   exact rt Tryz.func17 zZ (.cell 0 (some 10) zZ zZ zZ (.tmp zZ (.tmp zZ .nil))) zZ [] [(aj 0 1 1),(aj 1 1 2),(aj 2 1 3),(aj 3 2 4),(aj 4 1 5),(aj 5 2 6)] zZ zZ zZ zZ zZ ⟨_,_,_,_,_,_,_,_,_,_,_,_,zZ,zZ,zZ⟩
 ·
  have xc3 := bF c3; subst xc3
  refine eq 20 ac (sk zZ (sk zZ (sk zZ (sv (aQ ag) zZ (al ac (sk zZ (sk zZ (sk zZ (sv (aQ ag) zZ (re (aB [1,4,7,29] [1,2] [5,6,7,8,9] ae (gt zZ zZ (gs (rg (sv (am (v := .agg #[.slice ci bC.length ch,.int .i64 bX,.slice cU bf.length cT,.slice cC cX.length cB,.slice dz cN.length dy,.slice cE cd.length cA,.int .i64 du,.int .i64 d9,.int .i64 d8,.int .i64 dR]) 1 (some 10) ag) zZ (so zZ (aD (cs' := [.slice ci bC.length ch,.int .i64 bX,.slice cU bf.length cT,.slice cC cX.length cB,.slice dz cN.length dy,.slice cE cd.length cA,.int .i64 du,.int .i64 d9,.int .i64 d8,.int .i64 dR]) 0 bh (au ac (au ac (re (aR ai 7 dq ?_)))))))))))))))))))))
  cases H
  exact rt Tryz.func17 zZ (.cell 0 (some 10) zZ zZ zZ (.tmp zZ (.tmp zZ .nil))) zZ [] [(aj 0 1 1),(aj 1 1 2),(aj 2 1 3),(aj 3 2 4),(aj 4 1 5),(aj 5 2 6)] zZ zZ zZ zZ zZ ⟨_,_,_,_,_,_,_,_,_,_,_,_,zZ,zZ,zZ⟩
def gX.l0 : Nat → Int → (List ah) → (List ah) → Option (Bool)
 | 0,_,_,_ => none
 | k + 1,bW,l0,l1 => if bW < (l0.length : Int) then (if 0 ≤ bW then (if bW < (l1.length : Int) then (if (((aa l0 bW).f0) == ((aa l1 bW).f0) && (((aa l0 bW).f1) == ((aa l1 bW).f1) && (((aa l0 bW).f2) == ((aa l1 bW).f2)))) = true then (gX.l0 k (wrap64 (bW + 1)) l0 l1) else (some false)) else none) else none) else (some true)
def gX.f (k : Nat) (l0 : List ah) (l1 : List ah) : Option (Bool) := if (l0.length : Int) = (l1.length : Int) then (gX.l0 k 0 l0 l1) else (some false)
theorem gX.ok (k : Nat) (l0 : List ah) (ay : Option Addr) (az : Nat) (l1 : List ah) (i9 : Option Addr) (i7 : Nat) (r0 : Bool) (H : gX.f k l0 l1 = some r0) : Fn Tryz.prog 19 [.slice ay l0.length az,.slice i9 l1.length i7] [] [.sl 0 ai ay az l0 0 false,.sl 0 ai i9 i7 l1 0 false] (fun v bx en => v = .bool r0 ∧ bx = [] ∧ en = []) := by
 refine eD 26 Tryz.func19 zZ zZ zZ (fun base T w0 => ?_)
 rw [gX.f] at H
 refine gs (rg (au ac (re (gs (gs (rg (al ac (sv (bG zZ) zZ (al ac (sv (bG zZ) zZ (sv (lK zZ zZ) zZ (re ?_))))))))))))
 revert H; refine aJ ?_ ?_ <;> intro c1 H
 ·
  refine gf zZ (nF c1) (gk (gs (gs (rg (au ac (re (aB [0,1,5] [] [0,1] ae (gb ?_))))))))
  refine lo (fun kk S => ∃ (bW : Int),gX.l0 kk bW l0 l1 = some r0 ∧ S = ⟨[(0,.slice ay l0.length az),(1,.slice i9 l1.length i7),(5,.int .i64 bW)],[],[.sl 0 ai ay az l0 0 false,.sl 0 ai i9 i7 l1 0 false]⟩) (fun S hS => ?_) (fun n0 cZ S hS => ?_) ⟨0,H,zZ⟩ (fun h => wk [0,1,5] [] [(aw 0),(aw 1)] h)
  · clear H; obtain ⟨_,H,_⟩ := hS; rw [gX.l0] at H; cases H
  clear H
  obtain ⟨bW,H,rfl⟩ := hS
  rw [gX.l0] at H
  refine gs (gs (rg (al ac (al ac (sv (bG zZ) zZ (sv (bS ac) zZ (re ?_)))))))
  revert H; refine aJ ?_ ?_ <;> intro c2 H
  ·
   refine gt zZ (dT c2) (gk (gs (gb (gs ?_))))
   revert H; refine aU ?_; intro g3 H
   revert H; refine aU ?_; intro g4 H
   refine fj [] [0,1] [] 9 ae (ap 0 [] [0,1] zZ (aA zZ) ae (ap 1 [] [0,1] zZ (aA zZ) ae (ap 2 [] [0,1] zZ (aM 0 ag g3 c2 zZ) ae (ap 3 [] [0,1] zZ (bg (v := .agg #[.int .i64 ((aa l0 bW).f0),.int .i64 ((aa l0 bW).f1),.int .i64 ((aa l0 bW).f2)]) bW 0 (some 3) 0 cK zZ zZ zZ g3 c2 zZ zZ zZ) ae (ap 4 [] [0,1] zZ (aA zZ) ae (ap 5 [] [0,1] zZ (aA zZ) ae (ap 6 [] [0,1] zZ (aM 1 ag g3 g4 zZ) ae (ap 7 [] [0,1] zZ (bg (v := .agg #[.int .i64 ((aa l1 bW).f0),.int .i64 ((aa l1 bW).f1),.int .i64 ((aa l1 bW).f2)]) bW 0 (some 3) 1 cK zZ zZ zZ g3 g4 zZ zZ zZ) ae (ap 8 [] [0,1] zZ (Mo zZ zZ (fun d w => S2 d w ((aa l0 bW).f0) ((aa l1 bW).f0) ((aa l0 bW).f1) ((aa l1 bW).f1) ((aa l0 bW).f2) ((aa l1 bW).f2))) ae (xd (aB [0,1,5,25] [] [0,1] ae ?_)))))))))))
   revert H; refine aJ ?_ ?_ <;> intro c5 H
   ·
    exact gf zZ (bN c5) (gk (ge (rg (al ac (sv (ba ac) zZ (au ac (re (wk [0,1,5] [] [(aw 0),(aw 1)] (cZ _ (by omega) _ ⟨wrap64 (bW + 1),H,zZ⟩)))))))))
   ·
    refine gt zZ (bM c5) (gs (rg (au ac (re ?_))))
    cases H
    exact rt Tryz.func19 zZ (.tmp zZ .nil) zZ [] [] zZ zZ zZ zZ zZ ⟨zZ,zZ,zZ⟩
  ·
   refine gf zZ (dF c2) (gx zZ (gs (rg (au ac (re (aB [4] [] [] ae ?_))))))
   cases H
   exact rt Tryz.func19 zZ (.tmp zZ .nil) zZ [] [] zZ zZ zZ zZ zZ ⟨zZ,zZ,zZ⟩
 ·
  refine gt zZ (nT c1) (gs (rg (au ac (re (aB [4] [] [] ae ?_)))))
  cases H
  exact rt Tryz.func19 zZ (.tmp zZ .nil) zZ [] [] zZ zZ zZ zZ zZ ⟨zZ,zZ,zZ⟩
def ye.f (l0 : List Int) : Option (Bool) := some (decide ((l0.length : Int) > 1048576))
theorem ye.ok (l0 : List Int) (ay : Option Addr) (az : Nat) (r0 : Bool) (H : ye.f l0 = some r0) : Fn Tryz.prog 4 [.slice ay l0.length az] [] [.sl 0 (.int .u8) ay az l0 0 false] (fun v bx en => v = .bool r0 ∧ bx = [] ∧ en = []) := by
 refine eD 6 Tryz.func4 zZ zZ zZ (fun base T w0 => ?_)
 rw [ye.f] at H
 refine gs (rg (au ac (re (gs (rg (al ac (sv (bG zZ) zZ (sv (dV ac) zZ (au ac (re ?_))))))))))
 cases H
 exact rt Tryz.func4 zZ (.tmp zZ .nil) zZ [] [] zZ zZ zZ zZ zZ ⟨zZ,zZ,zZ⟩
def jt.f (k : Nat) (l0 : List Int) : Option ((List ah) × Int × (List ah) × (List ah) × (List ah) × (List aT) × Int × Int × Int × Int) := (eL.f k l0).bind fun aE => ((et.f k l0 aE.1 aE.2).bind fun gr => (some (gr.1,gr.2.1,gr.2.2.1,gr.2.2.2.1,gr.2.2.2.2.1,gr.2.2.2.2.2.1,gr.2.2.2.2.2.2.1,gr.2.2.2.2.2.2.2.1,gr.2.2.2.2.2.2.2.2.1,gr.2.2.2.2.2.2.2.2.2.1)))
theorem jt.ok (k : Nat) (l0 : List Int) (ay : Option Addr) (az : Nat) (r0 : List ah) (r1 : Int) (r2 : List ah) (r3 : List ah) (r4 : List ah) (r5 : List aT) (r6 : Int) (r7 : Int) (r8 : Int) (r9 : Int) (H : jt.f k l0 = some (r0,r1,r2,r3,r4,r5,r6,r7,r8,r9)) : Fn Tryz.prog 5 [.slice ay l0.length az] [] [.sl 0 (.int .u8) ay az l0 0 false] (fun v bx en => ∃ A0 c0 A2 c2 A3 c3 A4 c4 A5 c5,v = .agg #[.slice A0 r0.length c0,.int .i64 r1,.slice A2 r2.length c2,.slice A3 r3.length c3,.slice A4 r4.length c4,.slice A5 r5.length c5,.int .i64 r6,.int .i64 r7,.int .i64 r8,.int .i64 r9] ∧ bx = [] ∧ en = [.sl 1 ai A0 c0 r0 1 true,.sl 1 ai A2 c2 r2 2 true,.sl 1 ai A3 c3 r3 3 true,.sl 1 ai A4 c4 r4 4 true,.sl 1 aZ A5 c5 r5 5 true]) := by
 refine eD 6 Tryz.func5 zZ zZ zZ (fun base T w0 => ?_)
 rw [jt.f] at H
 refine gs (rg (so zZ (dk (cs := [.slice none 0 0,.int .i64 0,.slice none 0 0,.slice none 0 0,.slice none 0 0,.slice none 0 0,.int .i64 0,.int .i64 0,.int .i64 0,.int .i64 0]) kK zZ fun b2 => (re (gs (rg (al ac ?_)))))))
 revert H; refine aS ?_; rintro ⟨bC,bX⟩ A1 H
 refine so zZ (bb (eL.ok k l0 ay az _ _ A1) [(aw 0)] [] [0] 1 ep ?_)
 rintro _ _ _ ⟨vV,rfl,rfl,rfl⟩
 refine bR (en := [.sl 0 (.int .u8) ay az l0 0 false]) kK ?_
 revert H; refine aS ?_; rintro ⟨oQ,uw,pq,uv,uu,ut,Ak,Aj,Ai,Ah,Lh,O2⟩ A2 H
 refine so zZ (bb (et.ok k vV l0 ay az bC bX _ _ _ _ _ _ _ _ _ _ _ _ A2) [(aw 0)] [1] [0] 1 ep ?_)
 rintro _ _ _ ⟨rk,qQ,rj,qP,ri,qO,rh,qN,rf,qM,rfl,rfl,rfl⟩
 refine bR (en := [.sl 0 (.int .u8) ay az l0 0 false,.sl 1 ai rk qQ oQ 2 true,.sl 1 ai rj qP pq 3 true,.sl 1 ai ri qO uv 4 true,.sl 1 ai rh qN uu 5 true,.sl 1 aZ rf qM ut 6 true]) kK (so zZ (aD (cs' := [.slice rk oQ.length qQ,.int .i64 uw,.slice rj pq.length qP,.slice ri uv.length qO,.slice rh uu.length qN,.slice rf ut.length qM,.int .i64 Ak,.int .i64 Aj,.int .i64 Ai,.int .i64 Ah]) 0 bh (re ?_)))
 cases H
 exact rt Tryz.func5 zZ (.cell 0 (some 10) zZ zZ zZ .nil) zZ [] [(aj 1 1 1),(aj 2 1 2),(aj 3 1 3),(aj 4 1 4),(aj 5 1 5)] zZ zZ zZ zZ zZ ⟨_,_,_,_,_,_,_,_,_,_,zZ,zZ,zZ⟩
def jh.f : Nat → Int → Option (ByteArray)
 | 0,_ => none
 | k + 1,a0 => if a0 < 10 then (some (strOfNums ([IntKind.u8.wrap (IntKind.u64.wrap (48 + a0))] : List Int))) else ((jh.f k (IntKind.u64.wrap (Int.tdiv a0 10))).bind fun t3 => (if t3.size + (strOfNums ([IntKind.u8.wrap (IntKind.u64.wrap (48 + (Int.tmod a0 10)))] : List Int)).size ≤ 9223372036854775807 then (some (t3 ++ (strOfNums ([IntKind.u8.wrap (IntKind.u64.wrap (48 + (Int.tmod a0 10)))] : List Int)))) else none))
theorem jh.ok : ∀ (k : Nat) (a0 : Int) (r0 : ByteArray) (h : jh.f k a0 = some r0),Fn Tryz.prog 82 [.int .u64 a0] [] [] (fun v bx en => v = .string r0 ∧ bx = [] ∧ en = []) := by
 intro k
 induction k with
 | zero => intro a0 r0 h; rw [jh.f] at h; cases h
 | succ k ih =>
 intro a0 r0 H
 refine eD 20 Tryz.func82 zZ zZ zZ (fun base T w0 => ?_)
 rw [jh.f] at H
 refine gs (rg (au ac (re (gs (gs (rg (al ac (sv (bS ac) zZ (re ?_)))))))))
 revert H; refine aJ ?_ ?_ <;> intro c1 H
 ·
  refine gt zZ (dT c1) (gs (rg (al ac (sv (RX zZ zZ) zZ (sv (mJ (k' := .u8) zZ) zZ (so zZ (bH (s := 1) (by_ := 1) (.int .u8) ([IntKind.u8.wrap (IntKind.u64.wrap (48 + a0))] : List Int) [[]] [] 1 [.tmp 7] dp dq zZ fun Tl Ta => (sv (Dn 0 zZ zZ) zZ (au ac (re (aB [2] [] [] ae ?_)))))))))))
  cases H
  exact rt Tryz.func82 zZ (.tmp zZ .nil) zZ [] [] zZ zZ zZ zZ zZ ⟨zZ,zZ,zZ⟩
 ·
  refine gf zZ (dF c1) (gk (gs (fj [] [] [] 11 ae (ap 0 [] [] zZ (aA zZ) ae (ap 1 [] [] zZ (YW zZ zZ dq) ae (ap 3 [] [] zZ (aA zZ) ae (ap 4 [] [] zZ (EZ zZ zZ dq) ae (ap 5 [] [] zZ (RX zZ zZ) ae (ap 6 [] [] zZ (mJ (k' := .u8) zZ) ae ?_)))))))))
  refine gW 2 7 zZ zZ zZ zZ ?_ ?_
  ·
   revert H; refine aS ?_; rintro t3 A3 H
   refine ax (ih (IntKind.u64.wrap (Int.tdiv a0 10)) _ A3) [] 1 aG ?_
   rintro _ _ _ ⟨rfl,rfl,rfl⟩
   refine aN [] [] ag (ar 7 ac (bH (s := 1) (by_ := 1) (.int .u8) ([IntKind.u8.wrap (IntKind.u64.wrap (48 + (Int.tmod a0 10)))] : List Int) [[]] [] 1 [.tmp 16] dp dq zZ fun ahI ahx => (aN [] [] ag (ar 8 ac (ov (Dn 0 zZ zZ) zZ (aN [] [] ag ?_))))))
   revert H; refine aU ?_; intro g5 H
   refine ap 9 [] [] zZ (fK zZ zZ g5) ae (ap 10 [] [] zZ (gE zZ) ae (xd (aB [2] [] [] ae ?_)))
   cases H
   exact rt Tryz.func82 zZ (.tmp zZ .nil) zZ [] [] zZ zZ zZ zZ zZ ⟨zZ,zZ,zZ⟩
  ·
   refine bH (s := 1) (by_ := 1) (.int .u8) ([IntKind.u8.wrap (IntKind.u64.wrap (48 + (Int.tmod a0 10)))] : List Int) [[]] [] 1 [.tmp 16] dp dq zZ fun Tn Tc => (aN [] [] ag ?_)
   refine gW 2 8 zZ zZ zZ zZ ?_ ?_
   ·
    revert H; refine aS ?_; rintro t7 A7 H
    refine ax (ih (IntKind.u64.wrap (Int.tdiv a0 10)) _ A7) [] 2 aG ?_
    rintro _ _ _ ⟨rfl,rfl,rfl⟩
    refine aN [] [] ag (ar 8 ac (ov (Dn 0 zZ zZ) zZ (aN [] [] ag ?_)))
    revert H; refine aU ?_; intro g8 H
    refine ap 9 [] [] zZ (fK zZ zZ g8) ae (ap 10 [] [] zZ (gE zZ) ae (xd (aB [2] [] [] ae ?_)))
    cases H
    exact rt Tryz.func82 zZ (.tmp zZ .nil) zZ [] [] zZ zZ zZ zZ zZ ⟨zZ,zZ,zZ⟩
   ·
    refine ov (Dn 0 zZ zZ) zZ (aN [] [] ag (ar 2 ac ?_))
    revert H; refine aS ?_; rintro t9 A9 H
    refine ax (ih (IntKind.u64.wrap (Int.tdiv a0 10)) _ A9) [] 2 aG ?_
    rintro _ _ _ ⟨rfl,rfl,rfl⟩
    refine aN [] [] ag ?_
    revert H; refine aU ?_; intro iU H
    refine ap 9 [] [] zZ (fK zZ zZ iU) ae (ap 10 [] [] zZ (gE zZ) ae (xd (aB [2] [] [] ae ?_)))
    cases H
    exact rt Tryz.func82 zZ (.tmp zZ .nil) zZ [] [] zZ zZ zZ zZ zZ ⟨zZ,zZ,zZ⟩
def eI.f (k : Nat) (a0 : Int) : Option (ByteArray) := if a0 < 0 then ((jh.f k (IntKind.u64.wrap (-(IntKind.u64.wrap a0)))).bind fun t2 => (if (⟨#[45]⟩ : ByteArray).size + t2.size ≤ 9223372036854775807 then (some ((⟨#[45]⟩ : ByteArray) ++ t2)) else none)) else ((jh.f k (IntKind.u64.wrap a0)).bind fun t4 => (some t4))
theorem eI.ok (k : Nat) (a0 : Int) (r0 : ByteArray) (H : eI.f k a0 = some r0) : Fn Tryz.prog 31 [.int .i64 a0] [] [] (fun v bx en => v = .string r0 ∧ bx = [] ∧ en = []) := by
 refine eD 13 Tryz.func31 zZ zZ zZ (fun base T w0 => ?_)
 rw [eI.f] at H
 refine gs (rg (au ac (re (gs (gs (rg (al ac (sv (bS ac) zZ (re ?_)))))))))
 revert H; refine aJ ?_ ?_ <;> intro c1 H
 ·
  refine gt zZ (dT c1) (gs (rg (al ac (sv (mJ (k' := .u64) zZ) zZ (sv (aaT zZ) zZ ?_)))))
  revert H; refine aS ?_; rintro t2 A2 H
  refine so zZ (ax (jh.ok k (IntKind.u64.wrap (-(IntKind.u64.wrap a0))) _ A2) [] 1 aG ?_)
  rintro _ _ _ ⟨rfl,rfl,rfl⟩
  revert H; refine aU ?_; intro g3 H
  refine sv (fK zZ zZ g3) zZ (au ac (re (aB [2] [] [] ae ?_)))
  cases H
  exact rt Tryz.func31 zZ (.tmp zZ .nil) zZ [] [] zZ zZ zZ zZ zZ ⟨zZ,zZ,zZ⟩
 ·
  refine gf zZ (dF c1) (gk (gs (rg (al ac (sv (mJ (k' := .u64) zZ) zZ ?_)))))
  revert H; refine aS ?_; rintro t4 A4 H
  refine so zZ (ax (jh.ok k (IntKind.u64.wrap a0) _ A4) [] 1 aG ?_)
  rintro _ _ _ ⟨rfl,rfl,rfl⟩
  refine au ac (re (aB [2] [] [] ae ?_))
  cases H
  exact rt Tryz.func31 zZ (.tmp zZ .nil) zZ [] [] zZ zZ zZ zZ zZ ⟨zZ,zZ,zZ⟩
mutual
def cO.j1 : Nat → ByteArray → Int → Option (Int × Bool)
 | 0,_,_ => none
 | k + 1,Pj,J4 => (eI.f k J4).bind fun oa => (if oa.toList = Pj.toList then (some (J4,true)) else (some (0,false)))
def cO.l0 : Nat → ByteArray → ByteArray → Int → Int → Int → Option (Int × Bool)
 | 0,_,_,_,_,_ => none
 | k + 1,jl,fC,kZ,FP,uL => if uL < FP then (if 0 ≤ uL then (if uL < (fC.size : Int) then (if (bt fC uL) < 48 then (some (0,false)) else (if (bt fC uL) > 57 then (some (0,false)) else (cO.l0 k jl fC (wrap64 ((wrap64 (10 * kZ)) + (IntKind.i64.wrap (IntKind.u8.wrap ((bt fC uL) - 48))))) FP (wrap64 (uL + 1))))) else none) else none) else (if (fC.size : Int) < (jl.size : Int) then (cO.j1 k jl (wrap64 (-kZ))) else (cO.j1 k jl kZ))
def cO.j0 : Nat → ByteArray → ByteArray → Option (Int × Bool)
 | 0,_,_ => none
 | k + 1,M2,Dq => if (Dq.size : Int) < 1 then (some (0,false)) else (if (Dq.size : Int) > 9 then (some (0,false)) else (cO.l0 k M2 Dq 0 (Dq.size : Int) 0))
end
def cO.f (k : Nat) (a0 : ByteArray) : Option (Int × Bool) := if (a0.size : Int) > 0 then (if 0 < (a0.size : Int) then (if (bt a0 0) = 45 then (if 1 ≤ (a0.size : Int) then (cO.j0 k a0 (a0.extract (1 : Int).toNat a0.size)) else none) else (cO.j0 k a0 a0)) else none) else (cO.j0 k a0 a0)
theorem cO.ok (k : Nat) (a0 : ByteArray) (r0 : Int) (r1 : Bool) (H : cO.f k a0 = some (r0,r1)) : Fn Tryz.prog 26 [.string a0] [] [] (fun v bx en => v = .tuple #[.int .i64 r0,.bool r1] ∧ bx = [] ∧ en = []) := by
 refine eD 62 Tryz.func26 zZ zZ zZ (fun base T w0 => ?_)
 rw [cO.f] at H
 refine gs (rg (au ac (au ac (re (gs (rg (al ac (au ac (re ?_)))))))))
 refine jo (fun S => ∃ (m : Nat) (M2 : ByteArray) (Dq : ByteArray),cO.j0 m M2 Dq = some (r0,r1) ∧ S = ⟨[(0,.string M2),(4,.string Dq)],[],[]⟩) (fun S hS => ?_) (fun gw => ?_)
 ·
  clear H
  obtain ⟨m1,M2,Dq,H,rfl⟩ := hS
  rcases m1 with _ | m1
  · rw [cO.j0] at H; cases H
  rw [cO.j0] at H
  refine gs (gs (rg (al ac (sv (sf zZ) zZ (sv (bS ac) zZ (al ac ?_))))))
  revert H; refine aJ ?_ ?_ <;> intro c2 H
  ·
   refine ts 21 zZ (dT c2) (sk zZ (sk zZ (sk zZ (sv (aQ ag) zZ (re (aB [0,4,25] [] [] ae (gt zZ zZ (gs (rg (au ac (au ac (re ?_))))))))))))
   cases H
   exact rt Tryz.func26 zZ (.tmp zZ (.tmp zZ .nil)) zZ [] [] zZ zZ zZ zZ zZ ⟨zZ,zZ,zZ⟩
  ·
   refine ts 21 zZ (dF c2) (al ac (sv (sf zZ) zZ (sv (dV ac) zZ (sv (aI ag) zZ (re (aB [0,4,25] [] [] ae ?_))))))
   revert H; refine aJ ?_ ?_ <;> intro c3 H
   ·
    refine gt zZ (dT c3) (gs (rg (au ac (au ac (re ?_)))))
    cases H
    exact rt Tryz.func26 zZ (.tmp zZ (.tmp zZ .nil)) zZ [] [] zZ zZ zZ zZ zZ ⟨zZ,zZ,zZ⟩
   ·
    refine gf zZ (dF c3) (gk (gs (rg (au ac (re (gs (gs (rg (al ac (sv (sf zZ) zZ (al ac (re (gb ?_)))))))))))))
    refine lo (fun kk S => ∃ (jl : ByteArray) (fC : ByteArray) (kZ : Int) (FP : Int) (uL : Int),kk ≤ m1 ∧ cO.l0 kk jl fC kZ FP uL = some (r0,r1) ∧ S = ⟨[(0,.string jl),(4,.string fC),(5,.int .i64 kZ),(27,.int .i64 FP),(28,.int .i64 uL)],[],[]⟩) (fun S hS => ?_) (fun n0 cZ S hS => ?_) ⟨M2,Dq,0,(Dq.size : Int),0,by omega,H,zZ⟩ (fun h => wk [0,4,5,27,28] [] [] h)
    · clear H; obtain ⟨_,_,_,_,_,_,H,_⟩ := hS; rw [cO.l0] at H; cases H
    clear H
    obtain ⟨jl,fC,kZ,FP,uL,lk0,H,rfl⟩ := hS
    rw [cO.l0] at H
    refine gs (rg (sv (bS ac) zZ (re (gs ?_))))
    revert H; refine aJ ?_ ?_ <;> intro c4 H
    ·
     refine gt zZ (dT c4) (gk (gs (gb (gs (rg (al ac (au ac (re (gs (gs (rg (al ac (al ac ?_)))))))))))))
     revert H; refine aU ?_; intro g5 H
     revert H; refine aU ?_; intro g6 H
     refine sv (xB zZ zZ g5 g6) zZ (sv (bS ac) zZ (al ac ?_))
     revert H; refine aJ ?_ ?_ <;> intro c7 H
     ·
      refine ts 35 zZ (dT c7) (sk zZ (sk zZ (sk zZ (sk zZ (sv (aQ ag) zZ (re (aB [0,4,5,6,27,28,40] [] [] ae (gt zZ zZ (gs (rg (au ac (au ac (re (aB [2,3] [] [] ae ?_))))))))))))))
      cases H
      exact rt Tryz.func26 zZ (.tmp zZ (.tmp zZ .nil)) zZ [] [] zZ zZ zZ zZ zZ ⟨zZ,zZ,zZ⟩
     ·
      refine ts 35 zZ (dF c7) (al ac (al ac (sv (xB zZ zZ g5 g6) zZ (sv (dV ac) zZ (sv (aI ag) zZ (re (aB [0,4,5,6,27,28,36,37,38,39,40] [] [] ae ?_)))))))
      revert H; refine aJ ?_ ?_ <;> intro c8 H
      ·
       refine gt zZ (dT c8) (gs (rg (au ac (au ac (re (aB [2,3] [] [] ae ?_))))))
       cases H
       exact rt Tryz.func26 zZ (.tmp zZ (.tmp zZ .nil)) zZ [] [] zZ zZ zZ zZ zZ ⟨zZ,zZ,zZ⟩
      ·
       exact gf zZ (dF c8) (gk (rg (al ac (sv (uI zZ zZ) zZ (al ac (al ac (sv (xB zZ zZ g5 g6) zZ (sv (RW zZ zZ) zZ (sv (mJ (k' := .i64) zZ) zZ (sv (ba ac) zZ (au ac (re (aB [0,4,5,27,28,36,37,38,39] [] [] ae (ge (rg (sv (ba ac) zZ (al ac (re (wk [0,4,5,27,28] [] [] (cZ _ (by omega) _ ⟨jl,fC,wrap64 ((wrap64 (10 * kZ)) + (IntKind.i64.wrap (IntKind.u8.wrap ((bt fC uL) - 48)))),FP,wrap64 (uL + 1),by omega,H,zZ⟩))))))))))))))))))))
    ·
     refine gf zZ (dF c4) (gx zZ ?_)
     refine jo (fun S => ∃ (m : Nat) (Pj : ByteArray) (J4 : Int),m ≤ n0 ∧ cO.j1 m Pj J4 = some (r0,r1) ∧ S = ⟨[(0,.string Pj),(5,.int .i64 J4)],[],[]⟩) (fun S hS => ?_) (fun xj => ?_)
     ·
      clear H
      obtain ⟨m9,Pj,J4,lm9,H,rfl⟩ := hS
      rcases m9 with _ | m9
      · rw [cO.j1] at H; cases H
      rw [cO.j1] at H
      refine gs (gs (rg (al ac ?_)))
      revert H; refine aS ?_; rintro oa mz H
      refine so zZ (ax (eI.ok m9 J4 _ mz) [] 1 aG ?_)
      rintro _ _ _ ⟨rfl,rfl,rfl⟩
      refine al ac (sv (nh zZ zZ) zZ (re ?_))
      revert H; refine aJ ?_ ?_ <;> intro qR H
      ·
       refine gf zZ (nF qR) (gk (gs (rg (al ac (au ac (au ac (re (aB [2,3] [] [] ae ?_))))))))
       cases H
       exact rt Tryz.func26 zZ (.tmp zZ (.tmp zZ .nil)) zZ [] [] zZ zZ zZ zZ zZ ⟨zZ,zZ,zZ⟩
      ·
       refine gt zZ (nT qR) (gs (rg (au ac (au ac (re (aB [2,3] [] [] ae ?_))))))
       cases H
       exact rt Tryz.func26 zZ (.tmp zZ (.tmp zZ .nil)) zZ [] [] zZ zZ zZ zZ zZ ⟨zZ,zZ,zZ⟩
     ·
      refine gs (rg (al ac (sv (sf zZ) zZ (al ac (sv (sf zZ) zZ (sv (bS ac) zZ (re (aB [0,5,54] [] [] ae ?_))))))))
      revert H; refine aJ ?_ ?_ <;> intro Aa H
      ·
       exact gt zZ (dT Aa) (rg (al ac (sv (Th zZ) zZ (au ac (re (wk [0,5] [] [] (xj _ ⟨_,jl,wrap64 (-kZ),by omega,H,zZ⟩)))))))
      ·
       exact gf zZ (dF Aa) (gk (wk [0,5] [] [] (xj _ ⟨_,jl,kZ,by omega,H,zZ⟩)))
 ·
  refine gs (rg (al ac (sv (sf zZ) zZ (sv (dV ac) zZ (al ac ?_)))))
  revert H; refine aJ ?_ ?_ <;> intro wJ H
  ·
   refine ts 11 zZ (dT wJ) (al ac ?_)
   revert H; refine aU ?_; intro JU H
   refine sv (xB zZ zZ dq JU) zZ (sv (bZ ac) zZ (sv (aQ ag) zZ (re (aB [0,4,15] [] [] ae ?_))))
   revert H; refine aJ ?_ ?_ <;> intro VG H
   ·
    refine gt zZ (dT VG) (rg (al ac ?_))
    revert H; refine aU ?_; intro wv H
    exact sv (EY zZ zZ dq wv) zZ (au ac (re (wk [0,4] [] [] (gw _ ⟨_,a0,a0.extract (1 : Int).toNat a0.size,H,zZ⟩))))
   ·
    exact gf zZ (dF VG) (gk (wk [0,4] [] [] (gw _ ⟨_,a0,a0,H,zZ⟩)))
  ·
   exact ts 11 zZ (dF wJ) (sk zZ (sk zZ (sk zZ (sv (aI ag) zZ (re (aB [0,4,15] [] [] ae (gf zZ zZ (gk (wk [0,4] [] [] (gw _ ⟨_,a0,a0,H,zZ⟩))))))))))
def pD.f (k : Nat) (a0 : ByteArray) : Option (Int × Int × Int × Bool) := (hO.f k a0 46).bind fun t1 => (if (t1.length : Int) = 3 then (if 0 < (t1.length : Int) then ((cO.f k (bu ByteArray.empty t1 0)).bind fun nD => (if 1 < (t1.length : Int) then ((cO.f k (bu ByteArray.empty t1 1)).bind fun sD => (if 2 < (t1.length : Int) then ((cO.f k (bu ByteArray.empty t1 2)).bind fun vq => (if nD.2 = true then (if sD.2 = true then (if vq.2 = true then ((gV.f nD.1 sD.1 vq.1).bind fun Au => (if Au = true then (some (nD.1,sD.1,vq.1,true)) else (some (0,0,0,false)))) else (some (0,0,0,false))) else (some (0,0,0,false))) else (some (0,0,0,false)))) else none)) else none)) else none) else (some (0,0,0,false)))
theorem pD.ok (k : Nat) (a0 : ByteArray) (r0 : Int) (r1 : Int) (r2 : Int) (r3 : Bool) (H : pD.f k a0 = some (r0,r1,r2,r3)) : Fn Tryz.prog 74 [.string a0] [] [] (fun v bx en => v = .tuple #[.agg #[.int .i64 r0,.int .i64 r1,.int .i64 r2],.bool r3] ∧ bx = [] ∧ en = []) := by
 refine eD 60 Tryz.func74 zZ zZ zZ (fun base T w0 => ?_)
 rw [pD.f] at H
 refine gs (rg (so zZ (dk (cs := [.int .i64 0,.int .i64 0,.int .i64 0]) kK zZ fun b2 => (au ac (re (gs (rg (al ac ?_))))))))
 revert H; refine aS ?_; rintro t1 A1 H
 refine so zZ (ax (hO.ok k a0 46 _ A1) [] 1 aG ?_)
 rintro _ _ _ ⟨iF,iE,rfl,rfl,rfl⟩
 refine au ac (re (gs (gs (rg (al ac (sv (bG zZ) zZ (sv (lK zZ zZ) zZ (re (aB [2,4,16] [0] [0] ae ?_)))))))))
 revert H; refine aJ ?_ ?_ <;> intro c2 H
 ·
  refine gf zZ (nF c2) (gk (gs (rg (al ac ?_))))
  revert H; refine aU ?_; intro g3 H
  refine sv (aM 0 ag dq g3 zZ) zZ (sv (bg (v := .string (bu ByteArray.empty t1 0)) 0 0 none 0 ByteArray.empty zZ zZ zZ dq g3 zZ zZ zZ) zZ ?_)
  revert H; refine aS ?_; rintro ⟨k8,Ci⟩ A4 H
  refine so zZ (ax (cO.ok k (bu ByteArray.empty t1 0) _ _ A4) [] 3 aG ?_)
  rintro _ _ _ ⟨rfl,rfl,rfl⟩
  refine al ac (sv (bp ac) zZ (sv (bp ac) zZ (au ac (au ac (re (aB [2,4,5,6] [0] [0] ae (gs (rg (al ac ?_)))))))))
  revert H; refine aU ?_; intro g5 H
  refine sv (aM 0 ag dq g5 zZ) zZ (sv (bg (v := .string (bu ByteArray.empty t1 1)) 1 0 none 0 ByteArray.empty zZ zZ zZ dq g5 zZ zZ zZ) zZ ?_)
  revert H; refine aS ?_; rintro ⟨kN,ol⟩ A6 H
  refine so zZ (ax (cO.ok k (bu ByteArray.empty t1 1) _ _ A6) [] 3 aG ?_)
  rintro _ _ _ ⟨rfl,rfl,rfl⟩
  refine al ac (sv (bp ac) zZ (sv (bp ac) zZ (au ac (au ac (re (aB [2,4,5,6,7,8] [0] [0] ae (gs (rg (al ac ?_)))))))))
  revert H; refine aU ?_; intro g7 H
  refine sv (aM 0 ag dq g7 zZ) zZ (sv (bg (v := .string (bu ByteArray.empty t1 2)) 2 0 none 0 ByteArray.empty zZ zZ zZ dq g7 zZ zZ zZ) zZ ?_)
  revert H; refine aS ?_; rintro ⟨cH,F1⟩ A8 H
  refine so zZ (ax (cO.ok k (bu ByteArray.empty t1 2) _ _ A8) [] 3 aG ?_)
  rintro _ _ _ ⟨rfl,rfl,rfl⟩
  refine al ac (sv (bp ac) zZ (sv (bp ac) zZ (au ac (au ac (re (aB [2,5,6,7,8,9,10] [0] [] ae (gs (rg (al ac (al ac (al ac (sv (gu (v := .agg #[.int .i64 k8,.int .i64 kN,.int .i64 cH]) zZ kK) zZ (so zZ (dk (cs := [.int .i64 0,.int .i64 0,.int .i64 0]) kK zZ fun VI => (so zZ (aD (cs' := [.int .i64 k8,.int .i64 kN,.int .i64 cH]) 1 bh (re (aB [2,6,8,10,11] [0,1] [] ae (gs (gs (rg (al ac (sv (eE zZ) zZ (al ac ?_))))))))))))))))))))))))
  revert H; refine aJ ?_ ?_ <;> intro c9 H
  ·
   subst c9
   refine eq 45 ac (al ac (sv (eE zZ) zZ (sv (aI ag) zZ (al ac ?_))))
   revert H; refine aJ ?_ ?_ <;> intro lS H
   ·
    subst lS
    refine eq 49 ac (al ac (sv (eE zZ) zZ (sv (aI ag) zZ (al ac ?_))))
    revert H; refine aJ ?_ ?_ <;> intro qR H
    ·
     subst qR
     refine eq 53 ac (sv (am (v := .agg #[.int .i64 k8,.int .i64 kN,.int .i64 cH]) 1 (some 3) ag) zZ ?_)
     revert H; refine aS ?_; rintro Au sE H
     refine so zZ (ax (gV.ok k8 kN cH _ sE) [] 1 aG ?_)
     rintro _ _ _ ⟨rfl,rfl,rfl⟩
     refine sv (eE zZ) zZ (sv (aI ag) zZ (re (aB [2,11,57] [0,1] [] ae ?_)))
     revert H; refine aJ ?_ ?_ <;> intro wJ H
     ·
      subst wJ
      refine gf zZ zZ (gk (gs (rg (sv (am (v := .agg #[.int .i64 k8,.int .i64 kN,.int .i64 cH]) 1 (some 3) ag) zZ (so zZ (aD (cs' := [.int .i64 k8,.int .i64 kN,.int .i64 cH]) 0 bh (au ac (re ?_))))))))
      cases H
      exact rt Tryz.func74 zZ (.cell 0 (some 3) zZ zZ zZ (.tmp zZ .nil)) zZ [] [] zZ zZ zZ zZ zZ ⟨zZ,zZ,zZ⟩
     ·
      have xc13 := bF wJ; subst xc13
      refine gt zZ zZ (gs (rg (sv (gu (v := .agg #[.int .i64 0,.int .i64 0,.int .i64 0]) zZ kK) zZ (so zZ (aD (cs' := [.int .i64 0,.int .i64 0,.int .i64 0]) 0 bh (au ac (re ?_)))))))
      cases H
      exact rt Tryz.func74 zZ (.cell 0 (some 3) zZ zZ zZ (.tmp zZ .nil)) zZ [] [] zZ zZ zZ zZ zZ ⟨zZ,zZ,zZ⟩
    ·
     have xc11 := bF qR; subst xc11
     refine eq 53 ac (sk zZ (sk zZ (sk zZ (sv (aQ ag) zZ (re (aB [2,11,57] [0,1] [] ae (gt zZ zZ (gs (rg (sv (gu (v := .agg #[.int .i64 0,.int .i64 0,.int .i64 0]) zZ kK) zZ (so zZ (aD (cs' := [.int .i64 0,.int .i64 0,.int .i64 0]) 0 bh (au ac (re ?_))))))))))))))
     cases H
     exact rt Tryz.func74 zZ (.cell 0 (some 3) zZ zZ zZ (.tmp zZ .nil)) zZ [] [] zZ zZ zZ zZ zZ ⟨zZ,zZ,zZ⟩
   ·
    have xc10 := bF lS; subst xc10
    refine eq 49 ac (sk zZ (sk zZ (sv (aQ ag) zZ (al ac (sk zZ (sk zZ (sk zZ (sv (aQ ag) zZ (re (aB [2,11,57] [0,1] [] ae (gt zZ zZ (gs (rg (sv (gu (v := .agg #[.int .i64 0,.int .i64 0,.int .i64 0]) zZ kK) zZ (so zZ (aD (cs' := [.int .i64 0,.int .i64 0,.int .i64 0]) 0 bh (au ac (re ?_))))))))))))))))))
    cases H
    exact rt Tryz.func74 zZ (.cell 0 (some 3) zZ zZ zZ (.tmp zZ .nil)) zZ [] [] zZ zZ zZ zZ zZ ⟨zZ,zZ,zZ⟩
  ·
   have xc9 := bF c9; subst xc9
   refine eq 45 ac (sk zZ (sk zZ (sv (aQ ag) zZ (al ac (sk zZ (sk zZ (sv (aQ ag) zZ (al ac (sk zZ (sk zZ (sk zZ (sv (aQ ag) zZ (re (aB [2,11,57] [0,1] [] ae (gt zZ zZ (gs (rg (sv (gu (v := .agg #[.int .i64 0,.int .i64 0,.int .i64 0]) zZ kK) zZ (so zZ (aD (cs' := [.int .i64 0,.int .i64 0,.int .i64 0]) 0 bh (au ac (re ?_))))))))))))))))))))))
   cases H
   exact rt Tryz.func74 zZ (.cell 0 (some 3) zZ zZ zZ (.tmp zZ .nil)) zZ [] [] zZ zZ zZ zZ zZ ⟨zZ,zZ,zZ⟩
 ·
  refine gt zZ (nT c2) (gs (rg (sv (gu (v := .agg #[.int .i64 0,.int .i64 0,.int .i64 0]) zZ kK) zZ (so zZ (aD (cs' := [.int .i64 0,.int .i64 0,.int .i64 0]) 0 bh (au ac (re ?_)))))))
  cases H
  exact rt Tryz.func74 zZ (.cell 0 (some 3) zZ zZ zZ (.tmp zZ .nil)) zZ [] [] zZ zZ zZ zZ zZ ⟨zZ,zZ,zZ⟩
def ga.l0 : Nat → (List ah) → (List ByteArray) → Int → Int → Option ((List ah) × Bool)
 | 0,_,_,_,_ => none
 | k + 1,bL,fc,sF,it => if it < sF then (if 0 ≤ it then (if it < (fc.length : Int) then ((pD.f k (bu ByteArray.empty fc it)).bind fun iA => (if iA.2.2.2 = true then (if bL.length < 5864062014805 then (ga.l0 k (bL ++ ([(⟨iA.1,iA.2.1,iA.2.2.1⟩ : ah)] : List ah)) fc sF (wrap64 (it + 1))) else none) else (some ([],false)))) else none) else none) else ((gG.f k bL).bind fun Au => (if Au = true then (some (bL,true)) else (some ([],false))))
def ga.f (k : Nat) (a0 : ByteArray) : Option ((List ah) × Bool) := if a0.toList = (⟨#[]⟩ : ByteArray).toList then (some ([],true)) else ((hO.f k a0 32).bind fun t3 => (ga.l0 k [] t3 (t3.length : Int) 0))
theorem ga.ok (k : Nat) (a0 : ByteArray) (r0 : List ah) (r1 : Bool) (H : ga.f k a0 = some (r0,r1)) : Fn Tryz.prog 24 [.string a0] [] [] (fun v bx en => ∃ A0 c0,v = .tuple #[.slice A0 r0.length c0,.bool r1] ∧ bx = [] ∧ en = [.sl 2 ai A0 c0 r0 1 true]) := by
 refine eD 35 Tryz.func24 zZ zZ zZ (fun base T w0 => ?_)
 rw [ga.f] at H
 refine gs (rg (au ac (au ac (re (gs (gs (rg (al ac (sv (VL zZ zZ) zZ (re ?_))))))))))
 revert H; refine aJ ?_ ?_ <;> intro c1 H
 ·
  refine gt zZ (dT c1) (gs (rg (au ac (au ac (re (aR ai 1 dq ?_))))))
  cases H
  exact rt Tryz.func24 zZ (.tmp zZ (.tmp zZ .nil)) zZ [] [(aj 0 2 1)] zZ zZ zZ zZ zZ ⟨_,_,zZ,zZ,zZ⟩
 ·
  refine gf zZ (dF c1) (gk (gs (rg (so zZ (bH (s := 3) (by_ := 24) ai ([] : List ah) [] [] 1 [] dp dq zZ fun To Td => (au ac (re (gs (gs (rg (al ac ?_)))))))))))
  revert H; refine aS ?_; rintro t3 A3 H
  refine so zZ (ax (hO.ok k a0 32 _ A3) [] 2 aG ?_)
  rintro _ _ _ ⟨G1,GW,rfl,rfl,rfl⟩
  refine sv (bG zZ) zZ (al ac (re (aB [4,13,14,15] [] [0,1] ae (gb ?_))))
  refine lo (fun kk S => ∃ (bL : List ah) (pg : Option Addr) (pe : Nat) (fc : List ByteArray) (tx : Option Addr) (tv : Nat) (sF : Int) (it : Int),ga.l0 kk bL fc sF it = some (r0,r1) ∧ S = ⟨[(4,.slice pg bL.length pe),(13,.slice tx fc.length tv),(14,.int .i64 sF),(15,.int .i64 it)],[],[.sl 2 ai pg pe bL 1 true,.sl 2 .str tx tv fc 2 true]⟩) (fun S hS => ?_) (fun n0 cZ S hS => ?_) ⟨[],To,Td,t3,G1,GW,(t3.length : Int),0,H,zZ⟩ (fun h => wk [4,13,14,15] [] [(aj 0 2 1),(aj 1 2 2)] h)
  · clear H; obtain ⟨_,_,_,_,_,_,_,_,H,_⟩ := hS; rw [ga.l0] at H; cases H
  clear H
  obtain ⟨bL,pg,pe,fc,tx,tv,sF,it,H,rfl⟩ := hS
  rw [ga.l0] at H
  refine gs (rg (sv (bS ac) zZ (re (gs ?_))))
  revert H; refine aJ ?_ ?_ <;> intro c4 H
  ·
   refine gt zZ (dT c4) (gk (gs (gb (gs (rg ?_)))))
   revert H; refine aU ?_; intro g5 H
   revert H; refine aU ?_; intro g6 H
   refine sv (aM 1 ag g5 g6 zZ) zZ (sv (bg (v := .string (bu ByteArray.empty fc it)) it 0 none 1 ByteArray.empty zZ zZ zZ g5 g6 zZ zZ zZ) zZ (au ac (re (gs (rg (al ac ?_))))))
   revert H; refine aS ?_; rintro ⟨hM,iG,iR,ki⟩ A7 H
   refine so zZ (ax (pD.ok n0 (bu ByteArray.empty fc it) _ _ _ _ A7) [] 3 aG ?_)
   rintro _ _ _ ⟨rfl,rfl,rfl⟩
   refine al ac (sv (bp ac) zZ (sv (bp ac) zZ (so zZ (dk (cs := [.int .i64 0,.int .i64 0,.int .i64 0]) kK zZ fun b7 => (so zZ (aD (cs' := [.int .i64 hM,.int .i64 iG,.int .i64 iR]) 0 bh (au ac (re (aB [4,7,8,13,14,15] [0] [0,1] ae (gs (gs (rg (al ac (sv (eE zZ) zZ (re ?_)))))))))))))))
   revert H; refine aJ ?_ ?_ <;> intro c8 H
   ·
    subst c8
    refine gf zZ zZ (gk (rg (al ac (sv (am (v := .agg #[.int .i64 hM,.int .i64 iG,.int .i64 iR]) 0 (some 3) ag) zZ (so zZ (bH (s := 3) (by_ := 24) ai ([(⟨hM,iG,iR⟩ : ah)] : List ah) [[]] [] 3 [.tmp 27] dp dq zZ fun adV adz => ?_))))))
    revert H; refine aU ?_; intro iU H
    exact so zZ (di (k := ai) (s := 3) (by_ := 24) 0 2 ae (km iU dq) (iz iU dq) (.inl zZ) true (fun _ => .inl zZ) ac fun Wq Vx => (bR (en := [.sl 2 .str tx tv fc 2 true,.sl 2 ai adV adz ([(⟨hM,iG,iR⟩ : ah)] : List ah) 3 true,.sl 2 ai Wq Vx (bL ++ ([(⟨hM,iG,iR⟩ : ah)] : List ah)) 1 true]) kK (au ac (re (aB [4,13,14,15] [] [0,2] ae (ge (rg (sv (ba ac) zZ (al ac (re (wk [4,13,14,15] [] [(aj 1 2 1),(aj 0 2 2)] (cZ _ (by omega) _ ⟨bL ++ ([(⟨hM,iG,iR⟩ : ah)] : List ah),Wq,Vx,fc,tx,tv,sF,wrap64 (it + 1),H,zZ⟩))))))))))))
   ·
    have xc8 := bF c8; subst xc8
    refine gt zZ zZ (gs (rg (au ac (au ac (re (aB [2,3] [] [] ae (aR ai 1 dq ?_)))))))
    cases H
    exact rt Tryz.func24 zZ (.tmp zZ (.tmp zZ .nil)) zZ [] [(aj 0 2 1)] zZ zZ zZ zZ zZ ⟨_,_,zZ,zZ,zZ⟩
  ·
   refine gf zZ (dF c4) (gx zZ (gs (gs (rg (al ac ?_)))))
   revert H; refine aS ?_; rintro Au sE H
   refine so zZ (ax (gG.ok n0 bL pg pe _ sE) [(aw 0)] 3 aG ?_)
   rintro _ _ _ ⟨rfl,rfl,rfl⟩
   refine sv (eE zZ) zZ (re (aB [4,33] [] [0] ae ?_))
   revert H; refine aJ ?_ ?_ <;> intro wJ H
   ·
    subst wJ
    refine gf zZ zZ (gk (gs (rg (al ac (au ac (au ac (re ?_)))))))
    cases H
    exact rt Tryz.func24 zZ (.tmp zZ (.tmp zZ .nil)) zZ [] [(aj 0 2 1)] zZ zZ zZ zZ zZ ⟨_,_,zZ,zZ,zZ⟩
   ·
    have xc13 := bF wJ; subst xc13
    refine gt zZ zZ (gs (rg (au ac (au ac (re (aR ai 2 dq ?_))))))
    cases H
    exact rt Tryz.func24 zZ (.tmp zZ (.tmp zZ .nil)) zZ [] [(aj 1 2 1)] zZ zZ zZ zZ zZ ⟨_,_,zZ,zZ,zZ⟩
def dD.f (k : Nat) (a0 : ByteArray) (oz : Bool) : Option ((List ah) × Bool) := (ga.f k a0).bind fun aE => (if oz = true then (some (aE.1,aE.2)) else (some (aE.1,false)))
theorem dD.ok (k : Nat) (a0 : ByteArray) (Gz : Nat) (oz : Bool) (r0 : List ah) (r1 : Bool) (H : dD.f k a0 oz = some (r0,r1)) : Fn Tryz.prog 23 [.string a0,.pointer (some ⟨Gz,0,none⟩)] [⟨Gz,4,[.bool oz]⟩] [] (fun v bx en => ∃ A0 c0,v = .slice A0 r0.length c0 ∧ bx = [⟨Gz,4,[.bool r1]⟩] ∧ en = [.sl 2 ai A0 c0 r0 1 true]) := by
 refine eD 16 Tryz.func23 zZ zZ zZ (fun base T w0 => ?_)
 rw [dD.f] at H
 refine gs (rg (au ac (re (gs (rg (al ac ?_))))))
 revert H; refine aS ?_; rintro ⟨bC,bX⟩ A1 H
 refine so zZ (ax (ga.ok k a0 _ _ A1) [] 1 aG ?_)
 rintro _ _ _ ⟨ci,ch,rfl,rfl,rfl⟩
 refine al ac (sv (bp ac) zZ (sv (bp ac) zZ (au ac (au ac (re (aB [1,4,5] [0] [0] ae (gs (rg (sv (am 0 none ag) zZ (al ac ?_))))))))))
 revert H; refine aJ ?_ ?_ <;> intro c2 H
 ·
  subst c2
  refine eq 12 ac (al ac (sv (aQ ag) zZ (so zZ (aD (cs' := [.bool bX]) 0 bh (re (aB [4] [0] [0] ae (gs (rg (al ac (au ac (re ?_)))))))))))
  cases H
  exact rt Tryz.func23 zZ (.tmp zZ .nil) zZ [0] [(aj 0 2 1)] zZ zZ zZ zZ zZ ⟨_,_,zZ,zZ,zZ⟩
 ·
  have xc2 := bF c2; subst xc2
  refine eq 12 ac (sk zZ (sv (aI ag) zZ (so zZ (aD (cs' := [.bool false]) 0 bh (re (aB [4] [0] [0] ae (gs (rg (al ac (au ac (re ?_)))))))))))
  cases H
  exact rt Tryz.func23 zZ (.tmp zZ .nil) zZ [0] [(aj 0 2 1)] zZ zZ zZ zZ zZ ⟨_,_,zZ,zZ,zZ⟩
def cx.f (k : Nat) (a0 : ByteArray) (oz : Bool) : Option (Int × Bool) := (cO.f k a0).bind fun aE => (if oz = true then (some (aE.1,aE.2)) else (some (aE.1,false)))
theorem cx.ok (k : Nat) (a0 : ByteArray) (Gz : Nat) (oz : Bool) (r0 : Int) (r1 : Bool) (H : cx.f k a0 oz = some (r0,r1)) : Fn Tryz.prog 25 [.string a0,.pointer (some ⟨Gz,0,none⟩)] [⟨Gz,4,[.bool oz]⟩] [] (fun v bx en => v = .int .i64 r0 ∧ bx = [⟨Gz,4,[.bool r1]⟩] ∧ en = []) := by
 refine eD 16 Tryz.func25 zZ zZ zZ (fun base T w0 => ?_)
 rw [cx.f] at H
 refine gs (rg (au ac (re (gs (rg (al ac ?_))))))
 revert H; refine aS ?_; rintro ⟨bC,bX⟩ A1 H
 refine so zZ (ax (cO.ok k a0 _ _ A1) [] 1 aG ?_)
 rintro _ _ _ ⟨rfl,rfl,rfl⟩
 refine al ac (sv (bp ac) zZ (sv (bp ac) zZ (au ac (au ac (re (aB [1,4,5] [0] [] ae (gs (rg (sv (am 0 none ag) zZ (al ac ?_))))))))))
 revert H; refine aJ ?_ ?_ <;> intro c2 H
 ·
  subst c2
  refine eq 12 ac (al ac (sv (aQ ag) zZ (so zZ (aD (cs' := [.bool bX]) 0 bh (re (aB [4] [0] [] ae (gs (rg (al ac (au ac (re ?_)))))))))))
  cases H
  exact rt Tryz.func25 zZ (.tmp zZ .nil) zZ [0] [] zZ zZ zZ zZ zZ ⟨zZ,zZ,zZ⟩
 ·
  have xc2 := bF c2; subst xc2
  refine eq 12 ac (sk zZ (sv (aI ag) zZ (so zZ (aD (cs' := [.bool false]) 0 bh (re (aB [4] [0] [] ae (gs (rg (al ac (au ac (re ?_)))))))))))
  cases H
  exact rt Tryz.func25 zZ (.tmp zZ .nil) zZ [0] [] zZ zZ zZ zZ zZ ⟨zZ,zZ,zZ⟩
def eY.l0 : Nat → (List aT) → (List ByteArray) → Int → Int → Option ((List aT) × Bool)
 | 0,_,_,_,_ => none
 | k + 1,bL,fc,sF,it => if it < sF then (if 0 ≤ it then (if it < (fc.length : Int) then ((ga.f k (bu ByteArray.empty fc it)).bind fun iA => (if iA.2 = true then (if bL.length < 5864062014805 then (eY.l0 k (bL ++ ([(⟨iA.1⟩ : aT)] : List aT)) fc sF (wrap64 (it + 1))) else none) else (some ([],false)))) else none) else none) else (some (bL,true))
def eY.f (k : Nat) (a0 : ByteArray) : Option ((List aT) × Bool) := if a0.toList = (⟨#[]⟩ : ByteArray).toList then (some ([],true)) else ((hO.f k a0 124).bind fun t3 => (eY.l0 k [] t3 (t3.length : Int) 0))
theorem eY.ok (k : Nat) (a0 : ByteArray) (r0 : List aT) (r1 : Bool) (H : eY.f k a0 = some (r0,r1)) : Fn Tryz.prog 27 [.string a0] [] [] (fun v bx en => ∃ A0 c0,v = .tuple #[.slice A0 r0.length c0,.bool r1] ∧ bx = [] ∧ en = [.sl 2 aZ A0 c0 r0 1 true]) := by
 refine eD 33 Tryz.func27 zZ zZ zZ (fun base T w0 => ?_)
 rw [eY.f] at H
 refine gs (rg (au ac (au ac (re (gs (gs (rg (al ac (sv (VL zZ zZ) zZ (re ?_))))))))))
 revert H; refine aJ ?_ ?_ <;> intro c1 H
 ·
  refine gt zZ (dT c1) (gs (rg (au ac (au ac (re (aR aZ 1 dq ?_))))))
  cases H
  exact rt Tryz.func27 zZ (.tmp zZ (.tmp zZ .nil)) zZ [] [(aj 0 2 1)] zZ zZ zZ zZ zZ ⟨_,_,zZ,zZ,zZ⟩
 ·
  refine gf zZ (dF c1) (gk (gs (rg (so zZ (bH (s := 1) (by_ := 24) aZ ([] : List aT) [] [] 1 [] dp dq zZ fun To Td => (au ac (re (gs (gs (rg (al ac ?_)))))))))))
  revert H; refine aS ?_; rintro t3 A3 H
  refine so zZ (ax (hO.ok k a0 124 _ A3) [] 2 aG ?_)
  rintro _ _ _ ⟨G1,GW,rfl,rfl,rfl⟩
  refine sv (bG zZ) zZ (al ac (re (aB [4,13,14,15] [] [0,1] ae (gb ?_))))
  refine lo (fun kk S => ∃ (bL : List aT) (pg : Option Addr) (pe : Nat) (fc : List ByteArray) (tx : Option Addr) (tv : Nat) (sF : Int) (it : Int),eY.l0 kk bL fc sF it = some (r0,r1) ∧ S = ⟨[(4,.slice pg bL.length pe),(13,.slice tx fc.length tv),(14,.int .i64 sF),(15,.int .i64 it)],[],[.sl 2 aZ pg pe bL 1 true,.sl 2 .str tx tv fc 2 true]⟩) (fun S hS => ?_) (fun n0 cZ S hS => ?_) ⟨[],To,Td,t3,G1,GW,(t3.length : Int),0,H,zZ⟩ (fun h => wk [4,13,14,15] [] [(aj 0 2 1),(aj 1 2 2)] h)
  · clear H; obtain ⟨_,_,_,_,_,_,_,_,H,_⟩ := hS; rw [eY.l0] at H; cases H
  clear H
  obtain ⟨bL,pg,pe,fc,tx,tv,sF,it,H,rfl⟩ := hS
  rw [eY.l0] at H
  refine gs (rg (sv (bS ac) zZ (re (gs ?_))))
  revert H; refine aJ ?_ ?_ <;> intro c4 H
  ·
   refine gt zZ (dT c4) (gk (gs (gb (gs (rg ?_)))))
   revert H; refine aU ?_; intro g5 H
   revert H; refine aU ?_; intro g6 H
   refine sv (aM 1 ag g5 g6 zZ) zZ (sv (bg (v := .string (bu ByteArray.empty fc it)) it 0 none 1 ByteArray.empty zZ zZ zZ g5 g6 zZ zZ zZ) zZ (au ac (re (gs (rg (al ac ?_))))))
   revert H; refine aS ?_; rintro ⟨hM,iG⟩ A7 H
   refine so zZ (ax (ga.ok n0 (bu ByteArray.empty fc it) _ _ A7) [] 3 aG ?_)
   rintro _ _ _ ⟨il,ik,rfl,rfl,rfl⟩
   refine al ac (sv (bp ac) zZ (sv (bp ac) zZ (au ac (au ac (re (aB [4,7,8,13,14,15] [] [0,1,2] ae (gs (gs (rg (al ac (sv (eE zZ) zZ (re ?_))))))))))))
   revert H; refine aJ ?_ ?_ <;> intro c8 H
   ·
    subst c8
    refine gf zZ zZ (gk (rg (al ac (al ac (sv (gu (v := .agg #[.slice il hM.length ik]) zZ kK) zZ (so zZ (bH (s := 1) (by_ := 24) aZ ([(⟨hM⟩ : aT)] : List aT) [[(il,ik)]] [2] 5 [.tmp 28] dp dq zZ fun Yk X0 => (bR (en := [.sl 2 aZ pg pe bL 1 true,.sl 2 .str tx tv fc 2 true,.sl 2 ai il ik hM 5 true,.sl 2 aZ Yk X0 ([(⟨hM⟩ : aT)] : List aT) 5 true]) kK ?_))))))))
    revert H; refine aU ?_; intro iU H
    exact so zZ (di (k := aZ) (s := 1) (by_ := 24) 0 3 ae (km iU dq) (iz iU dq) (.inr ⟨dq,dq,zZ,dq⟩) true (fun _ => .inr ⟨zZ,zZ,dq⟩) ac fun Wo Vw => (bR (en := [.sl 2 .str tx tv fc 2 true,.sl 2 ai il ik hM 1 true,.sl 2 aZ Yk X0 ([(⟨hM⟩ : aT)] : List aT) 1 true,.sl 2 aZ Wo Vw (bL ++ ([(⟨hM⟩ : aT)] : List aT)) 1 true]) kK (au ac (re (aB [4,13,14,15] [] [0,3] ae (ge (rg (sv (ba ac) zZ (al ac (re (wk [4,13,14,15] [] [(aj 1 2 1),(aj 0 2 2)] (cZ _ (by omega) _ ⟨bL ++ ([(⟨hM⟩ : aT)] : List aT),Wo,Vw,fc,tx,tv,sF,wrap64 (it + 1),H,zZ⟩))))))))))))
   ·
    have xc8 := bF c8; subst xc8
    refine gt zZ zZ (gs (rg (au ac (au ac (re (aB [2,3] [] [] ae (aR aZ 1 dq ?_)))))))
    cases H
    exact rt Tryz.func27 zZ (.tmp zZ (.tmp zZ .nil)) zZ [] [(aj 0 2 1)] zZ zZ zZ zZ zZ ⟨_,_,zZ,zZ,zZ⟩
  ·
   refine gf zZ (dF c4) (gx zZ (gs (rg (al ac (au ac (au ac (re (aB [2,3] [] [0] ae ?_))))))))
   cases H
   exact rt Tryz.func27 zZ (.tmp zZ (.tmp zZ .nil)) zZ [] [(aj 0 2 1)] zZ zZ zZ zZ zZ ⟨_,_,zZ,zZ,zZ⟩
mutual
def em.j0 : Nat → ByteArray → ByteArray → ByteArray → Int → Int → (List ByteArray) → Option (ByteArray)
 | 0,_,_,_,_,_,_ => none
 | k + 1,Ix,og,pW,Ir,DP,l0 => if og.size + pW.size ≤ 9223372036854775807 then (em.l0 k Ix (og ++ pW) Ir (wrap64 (DP + 1)) l0) else none
def em.l0 : Nat → ByteArray → ByteArray → Int → Int → (List ByteArray) → Option (ByteArray)
 | 0,_,_,_,_,_ => none
 | k + 1,By,iQ,FN,pb,l0 => if pb < FN then (if 0 ≤ pb then (if pb < (l0.length : Int) then (if pb > 0 then (if iQ.size + By.size ≤ 9223372036854775807 then (em.j0 k By (iQ ++ By) (bu ByteArray.empty l0 pb) FN pb l0) else none) else (em.j0 k By iQ (bu ByteArray.empty l0 pb) FN pb l0)) else none) else none) else (some iQ)
end
def em.f (k : Nat) (l0 : List ByteArray) (a1 : ByteArray) : Option (ByteArray) := em.l0 k a1 (⟨#[]⟩ : ByteArray) (l0.length : Int) 0 l0
theorem em.ok (k : Nat) (l0 : List ByteArray) (ay : Option Addr) (az : Nat) (a1 : ByteArray) (r0 : ByteArray) (H : em.f k l0 a1 = some r0) : Fn Tryz.prog 29 [.slice ay l0.length az,.string a1] [] [.sl 0 .str ay az l0 0 false] (fun v bx en => v = .string r0 ∧ bx = [] ∧ en = []) := by
 refine eD 25 Tryz.func29 zZ zZ zZ (fun base T w0 => ?_)
 rw [em.f] at H
 refine gs (rg (au ac (re (gs (rg (au ac (re (gs (gs (rg (al ac (sv (bG zZ) zZ (al ac (re (gb ?_)))))))))))))))
 refine lo (fun kk S => ∃ (By : ByteArray) (iQ : ByteArray) (FN : Int) (pb : Int),em.l0 kk By iQ FN pb l0 = some r0 ∧ S = ⟨[(1,.string By),(5,.string iQ),(8,.slice ay l0.length az),(9,.int .i64 FN),(10,.int .i64 pb)],[],[.sl 0 .str ay az l0 0 false]⟩) (fun S hS => ?_) (fun n0 cZ S hS => ?_) ⟨a1,(⟨#[]⟩ : ByteArray),(l0.length : Int),0,H,zZ⟩ (fun h => wk [1,5,8,9,10] [] [(aw 0)] h)
 · clear H; obtain ⟨_,_,_,_,H,_⟩ := hS; rw [em.l0] at H; cases H
 clear H
 obtain ⟨By,iQ,FN,pb,H,rfl⟩ := hS
 rw [em.l0] at H
 refine gs (rg (sv (bS ac) zZ (re (gs ?_))))
 revert H; refine aJ ?_ ?_ <;> intro c1 H
 ·
  refine gt zZ (dT c1) (gk (gs (gb (gs (rg (al ac ?_))))))
  revert H; refine aU ?_; intro g2 H
  revert H; refine aU ?_; intro g3 H
  refine sv (aM 0 ag g2 g3 zZ) zZ (sv (bg (v := .string (bu ByteArray.empty l0 pb)) pb 0 none 0 ByteArray.empty zZ zZ zZ g2 g3 zZ zZ zZ) zZ (au ac (au ac (re ?_))))
  refine jo (fun S => ∃ (m : Nat) (Ix : ByteArray) (og : ByteArray) (pW : ByteArray) (Ir : Int) (DP : Int),m ≤ n0 ∧ em.j0 m Ix og pW Ir DP l0 = some r0 ∧ S = ⟨[(1,.string Ix),(5,.string og),(7,.string pW),(8,.slice ay l0.length az),(9,.int .i64 Ir),(10,.int .i64 DP)],[],[.sl 0 .str ay az l0 0 false]⟩) (fun S hS => ?_) (fun gw => ?_)
  ·
   clear H
   obtain ⟨m4,Ix,og,pW,Ir,DP,lm4,H,rfl⟩ := hS
   rcases m4 with _ | m4
   · rw [em.j0] at H; cases H
   rw [em.j0] at H
   refine rg (al ac (al ac ?_))
   revert H; refine aU ?_; intro g5 H
   exact sv (fK zZ zZ g5) zZ (au ac (re (ge (rg (sv (ba ac) zZ (al ac (re (wk [1,5,8,9,10] [] [(aw 0)] (cZ _ (by omega) _ ⟨Ix,og ++ pW,Ir,wrap64 (DP + 1),H,zZ⟩)))))))))
  ·
   refine gs (rg (al ac (sv (dV ac) zZ (re (aB [1,5,7,8,9,10,16] [] [0] ae ?_)))))
   revert H; refine aJ ?_ ?_ <;> intro c6 H
   ·
    refine gt zZ (dT c6) (rg (al ac (al ac ?_)))
    revert H; refine aU ?_; intro g7 H
    exact sv (fK zZ zZ g7) zZ (au ac (re (wk [1,5,7,8,9,10] [] [(aw 0)] (gw _ ⟨_,By,iQ ++ By,bu ByteArray.empty l0 pb,FN,pb,by omega,H,zZ⟩))))
   ·
    exact gf zZ (dF c6) (gk (wk [1,5,7,8,9,10] [] [(aw 0)] (gw _ ⟨_,By,iQ,bu ByteArray.empty l0 pb,FN,pb,by omega,H,zZ⟩)))
 ·
  refine gf zZ (dF c1) (gx zZ (gs (rg (al ac (au ac (re (aB [4] [] [] ae ?_)))))))
  cases H
  exact rt Tryz.func29 zZ (.tmp zZ .nil) zZ [] [] zZ zZ zZ zZ zZ ⟨zZ,zZ,zZ⟩
def oD.f (k : Nat) (fb : Int) (aF : Int) (cw : Int) : Option (ByteArray) := (gV.f fb aF cw).bind fun t1 => (if t1 = true then ((eI.f k fb).bind fun t3 => (if t3.size + (⟨#[46]⟩ : ByteArray).size ≤ 9223372036854775807 then ((eI.f k aF).bind fun t5 => (if (t3 ++ (⟨#[46]⟩ : ByteArray)).size + t5.size ≤ 9223372036854775807 then (if ((t3 ++ (⟨#[46]⟩ : ByteArray)) ++ t5).size + (⟨#[46]⟩ : ByteArray).size ≤ 9223372036854775807 then ((eI.f k cw).bind fun t8 => (if (((t3 ++ (⟨#[46]⟩ : ByteArray)) ++ t5) ++ (⟨#[46]⟩ : ByteArray)).size + t8.size ≤ 9223372036854775807 then (some ((((t3 ++ (⟨#[46]⟩ : ByteArray)) ++ t5) ++ (⟨#[46]⟩ : ByteArray)) ++ t8)) else none)) else none) else none)) else none)) else (some (⟨#[]⟩ : ByteArray)))
theorem oD.ok (k : Nat) (fb : Int) (aF : Int) (cw : Int) (r0 : ByteArray) (H : oD.f k fb aF cw = some r0) : Fn Tryz.prog 83 [.agg #[.int .i64 fb,.int .i64 aF,.int .i64 cw]] [] [] (fun v bx en => v = .string r0 ∧ bx = [] ∧ en = []) := by
 refine eD 19 Tryz.func83 zZ zZ zZ (fun base T w0 => ?_)
 rw [oD.f] at H
 refine gs (rg (so zZ (gU (cs := [.int .i64 fb,.int .i64 aF,.int .i64 cw]) ag fun b1 => (au ac (re (gs (gs (rg (sv (am (v := .agg #[.int .i64 fb,.int .i64 aF,.int .i64 cw]) 0 (some 3) ag) zZ ?_)))))))))
 revert H; refine aS ?_; rintro t1 A1 H
 refine so zZ (ax (gV.ok fb aF cw _ A1) [] 1 aG ?_)
 rintro _ _ _ ⟨rfl,rfl,rfl⟩
 refine sv (eE zZ) zZ (re ?_)
 revert H; refine aJ ?_ ?_ <;> intro c2 H
 ·
  subst c2
  refine gf zZ zZ (gk (gs (fj [0] [] [] 14 ae (ap 0 [0] [] zZ (aq 0 zZ) ae (ap 1 [0] [] zZ (am 0 none ag) ae (ap 4 [0] [] zZ (aq 1 zZ) ae (ap 5 [0] [] zZ (am 0 none ag) ae (ap 9 [0] [] zZ (aq 2 zZ) ae (ap 10 [0] [] zZ (am 0 none ag) ae (ar 2 ac ?_))))))))))
  revert H; refine aS ?_; rintro t3 A3 H
  refine ax (eI.ok k fb _ A3) [] 1 aG ?_
  rintro _ _ _ ⟨rfl,rfl,rfl⟩
  refine aN [0] [] ag ?_
  revert H; refine aU ?_; intro g4 H
  refine ap 3 [0] [] zZ (fK zZ zZ g4) ae (ar 6 ac ?_)
  revert H; refine aS ?_; rintro t5 A5 H
  refine ax (eI.ok k aF _ A5) [] 1 aG ?_
  rintro _ _ _ ⟨rfl,rfl,rfl⟩
  refine aN [0] [] ag ?_
  revert H; refine aU ?_; intro g6 H
  refine ap 7 [0] [] zZ (fK zZ zZ g6) ae ?_
  revert H; refine aU ?_; intro g7 H
  refine ap 8 [0] [] zZ (fK zZ zZ g7) ae (ar 11 ac ?_)
  revert H; refine aS ?_; rintro t8 A8 H
  refine ax (eI.ok k cw _ A8) [] 1 aG ?_
  rintro _ _ _ ⟨rfl,rfl,rfl⟩
  refine aN [0] [] ag ?_
  revert H; refine aU ?_; intro g9 H
  refine ap 12 [0] [] zZ (fK zZ zZ g9) ae (ap 13 [0] [] zZ (gE zZ) ae (xd (aB [2] [] [] ae ?_)))
  cases H
  exact rt Tryz.func83 zZ (.tmp zZ .nil) zZ [] [] zZ zZ zZ zZ zZ ⟨zZ,zZ,zZ⟩
 ·
  have xc2 := bF c2; subst xc2
  refine gt zZ zZ (gs (rg (au ac (re ?_))))
  cases H
  exact rt Tryz.func83 zZ (.tmp zZ .nil) zZ [] [] zZ zZ zZ zZ zZ ⟨zZ,zZ,zZ⟩
def ft.l0 : Nat → (List ByteArray) → Int → Int → (List ah) → Option (ByteArray)
 | 0,_,_,_,_ => none
 | k + 1,aY,cQ,eB,l0 => if eB < cQ then (if 0 ≤ eB then (if eB < (l0.length : Int) then ((oD.f k ((aa l0 eB).f0) ((aa l0 eB).f1) ((aa l0 eB).f2)).bind fun t5 => (if aY.length < 8796093022208 then (ft.l0 k (aY ++ ([t5] : List ByteArray)) cQ (wrap64 (eB + 1)) l0) else none)) else none) else none) else ((em.f k aY (⟨#[32]⟩ : ByteArray)).bind fun t9 => (some t9))
def ft.f (k : Nat) (l0 : List ah) : Option (ByteArray) := ft.l0 k [] (l0.length : Int) 0 l0
theorem ft.ok (k : Nat) (l0 : List ah) (ay : Option Addr) (az : Nat) (r0 : ByteArray) (H : ft.f k l0 = some r0) : Fn Tryz.prog 32 [.slice ay l0.length az] [] [.sl 0 ai ay az l0 0 false] (fun v bx en => v = .string r0 ∧ bx = [] ∧ en = []) := by
 refine eD 21 Tryz.func32 zZ zZ zZ (fun base T w0 => ?_)
 rw [ft.f] at H
 refine gs (rg (au ac (re (gs (rg (so zZ (bH (s := 1) (by_ := 16) .str ([] : List ByteArray) [] [] 1 [] dp dq zZ fun GM Gs => (au ac (re (gs (gs (rg (al ac (sv (bG zZ) zZ (al ac (re (gb ?_)))))))))))))))))
 refine lo (fun kk S => ∃ (aY : List ByteArray) (i0 : Option Addr) (iV : Nat) (cQ : Int) (eB : Int),ft.l0 kk aY cQ eB l0 = some r0 ∧ S = ⟨[(3,.slice i0 aY.length iV),(7,.slice ay l0.length az),(8,.int .i64 cQ),(9,.int .i64 eB)],[],[.sl 2 .str i0 iV aY 1 true,.sl 0 ai ay az l0 0 false]⟩) (fun S hS => ?_) (fun n0 cZ S hS => ?_) ⟨[],GM,Gs,(l0.length : Int),0,H,zZ⟩ (fun h => wk [3,7,8,9] [] [(aj 1 2 1),(aw 0)] h)
 · clear H; obtain ⟨_,_,_,_,_,H,_⟩ := hS; rw [ft.l0] at H; cases H
 clear H
 obtain ⟨aY,i0,iV,cQ,eB,H,rfl⟩ := hS
 rw [ft.l0] at H
 refine gs (rg (sv (bS ac) zZ (re (gs ?_))))
 revert H; refine aJ ?_ ?_ <;> intro c2 H
 ·
  refine gt zZ (dT c2) (gk (gs (gb (gs (rg ?_)))))
  revert H; refine aU ?_; intro g3 H
  revert H; refine aU ?_; intro g4 H
  refine sv (aM 1 ag g3 g4 zZ) zZ (sv (bg (v := .agg #[.int .i64 ((aa l0 eB).f0),.int .i64 ((aa l0 eB).f1),.int .i64 ((aa l0 eB).f2)]) eB 0 (some 3) 1 cK zZ zZ zZ g3 g4 zZ zZ zZ) zZ (so zZ (dk (cs := [.int .i64 0,.int .i64 0,.int .i64 0]) kK zZ fun b5 => (so zZ (aD (cs' := [.int .i64 ((aa l0 eB).f0),.int .i64 ((aa l0 eB).f1),.int .i64 ((aa l0 eB).f2)]) 0 bh (re (rg (al ac (sv (am (v := .agg #[.int .i64 ((aa l0 eB).f0),.int .i64 ((aa l0 eB).f1),.int .i64 ((aa l0 eB).f2)]) 0 (some 3) ag) zZ ?_)))))))))
  revert H; refine aS ?_; rintro t5 A5 H
  refine so zZ (ax (oD.ok n0 ((aa l0 eB).f0) ((aa l0 eB).f1) ((aa l0 eB).f2) _ A5) [] 2 aG ?_)
  rintro _ _ _ ⟨rfl,rfl,rfl⟩
  refine so zZ (bH (s := 1) (by_ := 16) .str ([t5] : List ByteArray) [[]] [] 2 [.tmp 15] dp dq zZ fun ad1 adF => ?_)
  revert H; refine aU ?_; intro g7 H
  exact so zZ (di (k := .str) (s := 1) (by_ := 16) 0 2 ae (km g7 dq) (iz g7 dq) (.inl zZ) true (fun _ => .inl zZ) ac fun Yp X5 => (bR (en := [.sl 0 ai ay az l0 0 false,.sl 2 .str ad1 adF ([t5] : List ByteArray) 2 true,.sl 2 .str Yp X5 (aY ++ ([t5] : List ByteArray)) 1 true]) kK (au ac (re (aB [3,7,8,9] [] [0,2] ae (ge (rg (sv (ba ac) zZ (al ac (re (wk [3,7,8,9] [] [(aj 1 2 1),(aw 0)] (cZ _ (by omega) _ ⟨aY ++ ([t5] : List ByteArray),Yp,X5,cQ,wrap64 (eB + 1),H,zZ⟩))))))))))))
 ·
  refine gf zZ (dF c2) (gx zZ (gs (rg (al ac ?_))))
  revert H; refine aS ?_; rintro t9 A9 H
  refine so zZ (ax (em.ok n0 aY i0 iV (⟨#[32]⟩ : ByteArray) _ A9) [(aw 0)] 2 aG ?_)
  rintro _ _ _ ⟨rfl,rfl,rfl⟩
  refine au ac (re (aB [2] [] [] ae ?_))
  cases H
  exact rt Tryz.func32 zZ (.tmp zZ .nil) zZ [] [] zZ zZ zZ zZ zZ ⟨zZ,zZ,zZ⟩
def kj.f (k : Nat) (l0 : List ah) : Option (ByteArray) := (gG.f k l0).bind fun t1 => (if t1 = true then ((ft.f k l0).bind fun t3 => (some t3)) else (some (⟨#[]⟩ : ByteArray)))
theorem kj.ok (k : Nat) (l0 : List ah) (ay : Option Addr) (az : Nat) (r0 : ByteArray) (H : kj.f k l0 = some r0) : Fn Tryz.prog 30 [.slice ay l0.length az] [] [.sl 0 ai ay az l0 0 false] (fun v bx en => v = .string r0 ∧ bx = [] ∧ en = []) := by
 refine eD 8 Tryz.func30 zZ zZ zZ (fun base T w0 => ?_)
 rw [kj.f] at H
 refine gs (rg (au ac (re (gs (gs (rg (al ac ?_)))))))
 revert H; refine aS ?_; rintro t1 A1 H
 refine so zZ (ax (gG.ok k l0 ay az _ A1) [(aw 0)] 1 aG ?_)
 rintro _ _ _ ⟨rfl,rfl,rfl⟩
 refine sv (eE zZ) zZ (re ?_)
 revert H; refine aJ ?_ ?_ <;> intro c2 H
 ·
  subst c2
  refine gf zZ zZ (gk (gs (rg (al ac ?_))))
  revert H; refine aS ?_; rintro t3 A3 H
  refine so zZ (ax (ft.ok k l0 ay az _ A3) [(aw 0)] 1 aG ?_)
  rintro _ _ _ ⟨rfl,rfl,rfl⟩
  refine au ac (re (aB [2] [] [] ae ?_))
  cases H
  exact rt Tryz.func30 zZ (.tmp zZ .nil) zZ [] [] zZ zZ zZ zZ zZ ⟨zZ,zZ,zZ⟩
 ·
  have xc2 := bF c2; subst xc2
  refine gt zZ zZ (gs (rg (au ac (re ?_))))
  cases H
  exact rt Tryz.func30 zZ (.tmp zZ .nil) zZ [] [] zZ zZ zZ zZ zZ ⟨zZ,zZ,zZ⟩
def gq.l0 : Nat → (List ByteArray) → Int → Int → (List aT) → Option (ByteArray)
 | 0,_,_,_,_ => none
 | k + 1,aY,cQ,eB,l0 => if eB < cQ then (if 0 ≤ eB then (if eB < (l0.length : Int) then ((kj.f k ((aC l0 eB).f0)).bind fun t6 => (if aY.length < 8796093022208 then (gq.l0 k (aY ++ ([t6] : List ByteArray)) cQ (wrap64 (eB + 1)) l0) else none)) else none) else none) else ((em.f k aY (⟨#[124]⟩ : ByteArray)).bind fun oa => (some oa))
def gq.f (k : Nat) (l0 : List aT) : Option (ByteArray) := gq.l0 k [] (l0.length : Int) 0 l0
theorem gq.ok (k : Nat) (l0 : List aT) (ay : Option Addr) (az : Nat) (r0 : ByteArray) (H : gq.f k l0 = some r0) : Fn Tryz.prog 33 [.slice ay l0.length az] [] [.sl 0 aZ ay az l0 0 false] (fun v bx en => v = .string r0 ∧ bx = [] ∧ en = []) := by
 refine eD 22 Tryz.func33 zZ zZ zZ (fun base T w0 => ?_)
 rw [gq.f] at H
 refine gs (rg (au ac (re (gs (rg (so zZ (bH (s := 1) (by_ := 16) .str ([] : List ByteArray) [] [] 1 [] dp dq zZ fun GM Gs => (au ac (re (gs (gs (rg (al ac (sv (bG zZ) zZ (al ac (re (gb ?_)))))))))))))))))
 refine lo (fun kk S => ∃ (aY : List ByteArray) (i0 : Option Addr) (iV : Nat) (cQ : Int) (eB : Int),gq.l0 kk aY cQ eB l0 = some r0 ∧ S = ⟨[(3,.slice i0 aY.length iV),(7,.slice ay l0.length az),(8,.int .i64 cQ),(9,.int .i64 eB)],[],[.sl 2 .str i0 iV aY 1 true,.sl 0 aZ ay az l0 0 false]⟩) (fun S hS => ?_) (fun n0 cZ S hS => ?_) ⟨[],GM,Gs,(l0.length : Int),0,H,zZ⟩ (fun h => wk [3,7,8,9] [] [(aj 1 2 1),(aw 0)] h)
 · clear H; obtain ⟨_,_,_,_,_,H,_⟩ := hS; rw [gq.l0] at H; cases H
 clear H
 obtain ⟨aY,i0,iV,cQ,eB,H,rfl⟩ := hS
 rw [gq.l0] at H
 refine gs (rg (sv (bS ac) zZ (re (gs ?_))))
 revert H; refine aJ ?_ ?_ <;> intro c2 H
 ·
  refine gt zZ (dT c2) (gk (gs (gb (gs (rg ?_)))))
  revert H; refine aU ?_; intro g3 H
  revert H; refine aU ?_; intro g4 H
  refine sv (aM 1 ag g3 g4 zZ) zZ (qt (i := eB) 1 n5 zZ g3 g4 fun oB oA => (sv (ig (v := .agg #[.slice oB ((aC l0 eB).f0).length oA]) 0 (some 1) 2 ae) zZ (so zZ (dk (cs := [.slice none 0 0]) kK zZ fun b5 => (so zZ (aD (cs' := [.slice oB ((aC l0 eB).f0).length oA]) 0 bh (re (rg (al ac (sv (aq 0 zZ) zZ (sv (am 0 none ag) zZ ?_)))))))))))
  revert H; refine aS ?_; rintro t6 A6 H
  refine so zZ (ax (kj.ok n0 ((aC l0 eB).f0) oB oA _ A6) [(aw 3)] 2 aG ?_)
  rintro _ _ _ ⟨rfl,rfl,rfl⟩
  refine so zZ (bH (s := 1) (by_ := 16) .str ([t6] : List ByteArray) [[]] [] 2 [.tmp 16] dp dq zZ fun ad0 adE => ?_)
  revert H; refine aU ?_; intro g8 H
  exact so zZ (di (k := .str) (s := 1) (by_ := 16) 0 4 ae (km g8 dq) (iz g8 dq) (.inl zZ) true (fun _ => .inl zZ) ac fun yW yU => (bR (en := [.sl 0 aZ ay az l0 0 false,yu ay (eB.toNat * 1) [.slice oB ((aC l0 eB).f0).length oA] 0,.sl 0 ai oB oA ((aC l0 eB).f0) 0 false,.sl 2 .str ad0 adE ([t6] : List ByteArray) 2 true,.sl 2 .str yW yU (aY ++ ([t6] : List ByteArray)) 1 true]) kK (au ac (re (aB [3,7,8,9] [] [0,4] ae (ge (rg (sv (ba ac) zZ (al ac (re (wk [3,7,8,9] [] [(aj 1 2 1),(aw 0)] (cZ _ (by omega) _ ⟨aY ++ ([t6] : List ByteArray),yW,yU,cQ,wrap64 (eB + 1),H,zZ⟩))))))))))))
 ·
  refine gf zZ (dF c2) (gx zZ (gs (rg (al ac ?_))))
  revert H; refine aS ?_; rintro oa mz H
  refine so zZ (ax (em.ok n0 aY i0 iV (⟨#[124]⟩ : ByteArray) _ mz) [(aw 0)] 2 aG ?_)
  rintro _ _ _ ⟨rfl,rfl,rfl⟩
  refine au ac (re (aB [2] [] [] ae ?_))
  cases H
  exact rt Tryz.func33 zZ (.tmp zZ .nil) zZ [] [] zZ zZ zZ zZ zZ ⟨zZ,zZ,zZ⟩
def fe.f (k : Nat) (av : List ah) (aF : Int) (aP : List ah) (aW : List ah) (aO : List ah) (aH : List aT) (bD : Int) (bI : Int) (bK : Int) (bE : Int) : Option (ByteArray) := (dc.f k av aF aP aW aO aH bD bI bK bE).bind fun t1 => (if t1 = true then ((kj.f k av).bind fun t3 => ((eI.f k aF).bind fun t4 => ((ft.f k aP).bind fun t5 => ((ft.f k aW).bind fun t6 => ((ft.f k aO).bind fun t7 => ((gq.f k aH).bind fun t8 => ((eI.f k bD).bind fun t9 => ((eI.f k bI).bind fun oa => ((eI.f k bK).bind fun wu => ((eI.f k bE).bind fun Au => ((em.f k ([t3,t4,t5,t6,t7,t8,t9,oa,wu,Au] : List ByteArray) (⟨#[47]⟩ : ByteArray)).bind fun qp => (some qp)))))))))))) else (some (⟨#[]⟩ : ByteArray)))
theorem fe.ok (k : Nat) (av : List ah) (aL : Option Addr) (aK : Nat) (aF : Int) (aP : List ah) (bB : Option Addr) (bA : Nat) (aW : List ah) (bm : Option Addr) (bk : Nat) (aO : List ah) (bo : Option Addr) (bn : Nat) (aH : List aT) (bl : Option Addr) (bj : Nat) (bD : Int) (bI : Int) (bK : Int) (bE : Int) (r0 : ByteArray) (H : fe.f k av aF aP aW aO aH bD bI bK bE = some r0) : Fn Tryz.prog 7 [.agg #[.slice aL av.length aK,.int .i64 aF,.slice bB aP.length bA,.slice bm aW.length bk,.slice bo aO.length bn,.slice bl aH.length bj,.int .i64 bD,.int .i64 bI,.int .i64 bK,.int .i64 bE]] [] [.sl 0 ai aL aK av 0 false,.sl 0 ai bB bA aP 0 false,.sl 0 ai bm bk aW 0 false,.sl 0 ai bo bn aO 0 false,.sl 0 aZ bl bj aH 0 false] (fun v bx en => v = .string r0 ∧ bx = [] ∧ en = []) := by
 refine eD 40 Tryz.func7 zZ zZ zZ (fun base T w0 => ?_)
 rw [fe.f] at H
 refine gs (rg (so zZ (gU (cs := [.slice aL av.length aK,.int .i64 aF,.slice bB aP.length bA,.slice bm aW.length bk,.slice bo aO.length bn,.slice bl aH.length bj,.int .i64 bD,.int .i64 bI,.int .i64 bK,.int .i64 bE]) ag fun b1 => (au ac (re (gs (rg (sv (am (v := .agg #[.slice aL av.length aK,.int .i64 aF,.slice bB aP.length bA,.slice bm aW.length bk,.slice bo aO.length bn,.slice bl aH.length bj,.int .i64 bD,.int .i64 bI,.int .i64 bK,.int .i64 bE]) 0 (some 10) ag) zZ (so zZ (dk (cs := [.slice none 0 0,.int .i64 0,.slice none 0 0,.slice none 0 0,.slice none 0 0,.slice none 0 0,.int .i64 0,.int .i64 0,.int .i64 0,.int .i64 0]) kK zZ fun b3 => (so zZ (aD (cs' := [.slice aL av.length aK,.int .i64 aF,.slice bB aP.length bA,.slice bm aW.length bk,.slice bo aO.length bn,.slice bl aH.length bj,.int .i64 bD,.int .i64 bI,.int .i64 bK,.int .i64 bE]) 1 bh (re (gs (gs (rg (sv (am (v := .agg #[.slice aL av.length aK,.int .i64 aF,.slice bB aP.length bA,.slice bm aW.length bk,.slice bo aO.length bn,.slice bl aH.length bj,.int .i64 bD,.int .i64 bI,.int .i64 bK,.int .i64 bE]) 1 (some 10) ag) zZ ?_)))))))))))))))))
 revert H; refine aS ?_; rintro t1 A1 H
 refine so zZ (ax (dc.ok k av aL aK aF aP bB bA aW bm bk aO bo bn aH bl bj bD bI bK bE _ A1) [(aw 0),(aw 1),(aw 2),(aw 3),(aw 4)] 1 aG ?_)
 rintro _ _ _ ⟨rfl,rfl,rfl⟩
 refine sv (eE zZ) zZ (re (aB [3,7] [1] [0,1,2,3,4] ae ?_))
 revert H; refine aJ ?_ ?_ <;> intro c2 H
 ·
  subst c2
  refine gf zZ zZ (gk (gs (fj [0] [0,1,2,3,4] [] 33 ae (ap 0 [0] [0,1,2,3,4] zZ (aq 0 zZ) ae (ap 1 [0] [0,1,2,3,4] zZ (am 0 none ag) ae (ap 3 [0] [0,1,2,3,4] zZ (aq 1 zZ) ae (ap 4 [0] [0,1,2,3,4] zZ (am 0 none ag) ae (ap 6 [0] [0,1,2,3,4] zZ (aq 2 zZ) ae (ap 7 [0] [0,1,2,3,4] zZ (am 0 none ag) ae (ap 9 [0] [0,1,2,3,4] zZ (aq 3 zZ) ae (ap 10 [0] [0,1,2,3,4] zZ (am 0 none ag) ae (ap 12 [0] [0,1,2,3,4] zZ (aq 4 zZ) ae (ap 13 [0] [0,1,2,3,4] zZ (am 0 none ag) ae (ap 15 [0] [0,1,2,3,4] zZ (aq 5 zZ) ae (ap 16 [0] [0,1,2,3,4] zZ (am 0 none ag) ae (ap 18 [0] [0,1,2,3,4] zZ (aq 6 zZ) ae (ap 19 [0] [0,1,2,3,4] zZ (am 0 none ag) ae (ap 21 [0] [0,1,2,3,4] zZ (aq 7 zZ) ae (ap 22 [0] [0,1,2,3,4] zZ (am 0 none ag) ae (ap 24 [0] [0,1,2,3,4] zZ (aq 8 zZ) ae (ap 25 [0] [0,1,2,3,4] zZ (am 0 none ag) ae (ap 27 [0] [0,1,2,3,4] zZ (aq 9 zZ) ae (ap 28 [0] [0,1,2,3,4] zZ (am 0 none ag) ae (ar 2 ac ?_))))))))))))))))))))))))
  revert H; refine aS ?_; rintro t3 A3 H
  refine ax (kj.ok k av aL aK _ A3) [(aw 0)] 1 aG ?_
  rintro _ _ _ ⟨rfl,rfl,rfl⟩
  refine aN [0] [0,1,2,3,4] ag (ar 5 ac ?_)
  revert H; refine aS ?_; rintro t4 A4 H
  refine ax (eI.ok k aF _ A4) [] 1 aG ?_
  rintro _ _ _ ⟨rfl,rfl,rfl⟩
  refine aN [0] [0,1,2,3,4] ag (ar 8 ac ?_)
  revert H; refine aS ?_; rintro t5 A5 H
  refine ax (ft.ok k aP bB bA _ A5) [(aw 1)] 1 aG ?_
  rintro _ _ _ ⟨rfl,rfl,rfl⟩
  refine aN [0] [0,1,2,3,4] ag (ar 11 ac ?_)
  revert H; refine aS ?_; rintro t6 A6 H
  refine ax (ft.ok k aW bm bk _ A6) [(aw 2)] 1 aG ?_
  rintro _ _ _ ⟨rfl,rfl,rfl⟩
  refine aN [0] [0,1,2,3,4] ag (ar 14 ac ?_)
  revert H; refine aS ?_; rintro t7 A7 H
  refine ax (ft.ok k aO bo bn _ A7) [(aw 3)] 1 aG ?_
  rintro _ _ _ ⟨rfl,rfl,rfl⟩
  refine aN [0] [0,1,2,3,4] ag (ar 17 ac ?_)
  revert H; refine aS ?_; rintro t8 A8 H
  refine ax (gq.ok k aH bl bj _ A8) [(aw 4)] 1 aG ?_
  rintro _ _ _ ⟨rfl,rfl,rfl⟩
  refine aN [0] [0,1,2,3,4] ag (ar 20 ac ?_)
  revert H; refine aS ?_; rintro t9 A9 H
  refine ax (eI.ok k bD _ A9) [] 1 aG ?_
  rintro _ _ _ ⟨rfl,rfl,rfl⟩
  refine aN [0] [0,1,2,3,4] ag (ar 23 ac ?_)
  revert H; refine aS ?_; rintro oa mz H
  refine ax (eI.ok k bI _ mz) [] 1 aG ?_
  rintro _ _ _ ⟨rfl,rfl,rfl⟩
  refine aN [0] [0,1,2,3,4] ag (ar 26 ac ?_)
  revert H; refine aS ?_; rintro wu Ad H
  refine ax (eI.ok k bK _ Ad) [] 1 aG ?_
  rintro _ _ _ ⟨rfl,rfl,rfl⟩
  refine aN [0] [0,1,2,3,4] ag (ar 29 ac ?_)
  revert H; refine aS ?_; rintro Au sE H
  refine ax (eI.ok k bE _ sE) [] 1 aG ?_
  rintro _ _ _ ⟨rfl,rfl,rfl⟩
  refine aN [0] [0,1,2,3,4] ag (ar 30 ac (bH (s := 1) (by_ := 16) .str ([t3,t4,t5,t6,t7,t8,t9,oa,wu,Au] : List ByteArray) [[],[],[],[],[],[],[],[],[],[]] [] 1 [.tmp 10,.tmp 13,.tmp 16,.tmp 19,.tmp 22,.tmp 25,.tmp 28,.tmp 31,.tmp 34,.tmp 37] dp dq zZ fun abx aaA => (aN [0] [0,1,2,3,4] ag (ar 31 ac ?_))))
  revert H; refine aS ?_; rintro qp sA H
  refine ax (em.ok k ([t3,t4,t5,t6,t7,t8,t9,oa,wu,Au] : List ByteArray) abx aaA (⟨#[47]⟩ : ByteArray) _ sA) [(aw 5)] 2 aG ?_
  rintro _ _ _ ⟨rfl,rfl,rfl⟩
  refine aN [0] [0,1,2,3,4] ag (ap 32 [0] [0,1,2,3,4] zZ (gE zZ) ae (xd (aB [2] [] [] ae ?_)))
  cases H
  exact rt Tryz.func7 zZ (.tmp zZ .nil) zZ [] [] zZ zZ zZ zZ zZ ⟨zZ,zZ,zZ⟩
 ·
  have xc2 := bF c2; subst xc2
  refine gt zZ zZ (gs (rg (au ac (re ?_))))
  cases H
  exact rt Tryz.func7 zZ (.tmp zZ .nil) zZ [] [] zZ zZ zZ zZ zZ ⟨zZ,zZ,zZ⟩
end Go.Proofs.YtfoblaonklkaoaaGreat.K
