/- Walks: what the functions compute. Printed by gen.py; no condition. -/
import Derived.Test.YtfoblaonklkaoaaGreatVFnSorterRoundTripc
namespace Go.Proofs.YtfoblaonklkaoaaGreat.K
open Go Go.RowKit
set_option linter.unusedVariables false
set_option linter.unusedSimpArgs false
set_option maxHeartbeats 4000000
set_option maxRecDepth 100000
mutual
def ak.l1 : Nat → (List ah) → Int → Int → Option ((List ah))
 | 0,_,_,_ => none
 | k + 1,bQ,tr,bP => if bP < (wrap64 (tr - 1)) then (if 0 ≤ (wrap64 (bP + 1)) then (if (wrap64 (bP + 1)) < (bQ.length : Int) then (if 0 ≤ bP then (if bP < (bQ.length : Int) then ((some (bQ.set bP.toNat (⟨(aa bQ (wrap64 (bP + 1))).f0,(aa bQ (wrap64 (bP + 1))).f1,(aa bQ (wrap64 (bP + 1))).f2⟩ : ah))).bind fun rN => (if (wrap64 (bP + 1)) < (rN.length : Int) then ((some (rN.set (wrap64 (bP + 1)).toNat (⟨(aa bQ bP).f0,(aa bQ bP).f1,(aa bQ bP).f2⟩ : ah))).bind fun Lt => (ak.l1 k Lt tr (wrap64 (bP + 1)))) else none)) else none) else none) else none) else none) else (some bQ)
def ak.l0 : Nat → (List ah) → Int → Int → Int → Option ((List ah))
 | 0,_,_,_,_ => none
 | k + 1,fW,kV,kH,kY => if kH < kY then (if 0 ≤ (IntKind.i64.wrap (eo (IntKind.u64.wrap (wrap64 (kH + kY))) 1)) then (if (IntKind.i64.wrap (eo (IntKind.u64.wrap (wrap64 (kH + kY))) 1)) < (fW.length : Int) then (if 0 ≤ kV then (if kV < (fW.length : Int) then ((dB.f ((aa fW (IntKind.i64.wrap (eo (IntKind.u64.wrap (wrap64 (kH + kY))) 1))).f0) ((aa fW (IntKind.i64.wrap (eo (IntKind.u64.wrap (wrap64 (kH + kY))) 1))).f1) ((aa fW (IntKind.i64.wrap (eo (IntKind.u64.wrap (wrap64 (kH + kY))) 1))).f2) ((aa fW kV).f0) ((aa fW kV).f1) ((aa fW kV).f2)).bind fun t7 => (if t7 < 0 then (ak.l0 k fW kV (wrap64 ((IntKind.i64.wrap (eo (IntKind.u64.wrap (wrap64 (kH + kY))) 1)) + 1)) kY) else (ak.l0 k fW kV kH (IntKind.i64.wrap (eo (IntKind.u64.wrap (wrap64 (kH + kY))) 1))))) else none) else none) else none) else none) else (ak.l1 k fW kH kV)
def ak.l3 : Nat → (List ah) → Int → Int → Option ((List ah))
 | 0,_,_,_ => none
 | k + 1,cf,tf,bO => if bO > tf then (if 0 ≤ (wrap64 (bO - 1)) then (if (wrap64 (bO - 1)) < (cf.length : Int) then (if 0 ≤ bO then (if bO < (cf.length : Int) then ((some (cf.set bO.toNat (⟨(aa cf (wrap64 (bO - 1))).f0,(aa cf (wrap64 (bO - 1))).f1,(aa cf (wrap64 (bO - 1))).f2⟩ : ah))).bind fun Ls => (if (wrap64 (bO - 1)) < (Ls.length : Int) then ((some (Ls.set (wrap64 (bO - 1)).toNat (⟨(aa cf bO).f0,(aa cf bO).f1,(aa cf bO).f2⟩ : ah))).bind fun Lr => (ak.l3 k Lr tf (wrap64 (bO - 1)))) else none)) else none) else none) else none) else none) else (some cf)
def ak.l2 : Nat → (List ah) → Int → Int → Int → Option ((List ah))
 | 0,_,_,_,_ => none
 | k + 1,gA,lW,jg,jy => if jg < jy then (if 0 ≤ lW then (if lW < (gA.length : Int) then (if 0 ≤ (IntKind.i64.wrap (eo (IntKind.u64.wrap (wrap64 (jg + jy))) 1)) then (if (IntKind.i64.wrap (eo (IntKind.u64.wrap (wrap64 (jg + jy))) 1)) < (gA.length : Int) then ((dB.f ((aa gA lW).f0) ((aa gA lW).f1) ((aa gA lW).f2) ((aa gA (IntKind.i64.wrap (eo (IntKind.u64.wrap (wrap64 (jg + jy))) 1))).f0) ((aa gA (IntKind.i64.wrap (eo (IntKind.u64.wrap (wrap64 (jg + jy))) 1))).f1) ((aa gA (IntKind.i64.wrap (eo (IntKind.u64.wrap (wrap64 (jg + jy))) 1))).f2)).bind fun N3 => (if N3 < 0 then (ak.l2 k gA lW jg (IntKind.i64.wrap (eo (IntKind.u64.wrap (wrap64 (jg + jy))) 1))) else (ak.l2 k gA lW (wrap64 ((IntKind.i64.wrap (eo (IntKind.u64.wrap (wrap64 (jg + jy))) 1)) + 1)) jy))) else none) else none) else none) else none) else (ak.l3 k gA jg lW)
def ak.j2 : Nat → (List ah) → Int → Int → Int → Option ((List ah))
 | 0,_,_,_,_ => none
 | k + 1,tA,FQ,BP,zu => if BP < zu then (if zu < FQ then ((ak.f k tA BP zu FQ).bind fun Hz => (some Hz)) else (some tA)) else (some tA)
def ak.j1 : Nat → (List ah) → Int → Int → Int → Int → Int → Option ((List ah))
 | 0,_,_,_,_,_,_ => none
 | k + 1,pu,FR,yF,rJ,zv,vI => if FR < zv then (if zv < rJ then ((ak.f k pu FR zv rJ).bind fun Rm => (ak.j2 k Rm yF rJ vI)) else (ak.j2 k pu yF rJ vI)) else (ak.j2 k pu yF rJ vI)
def ak.l4 : Nat → (List ah) → Int → Int → Int → Int → Int → Int → Int → Int → Option ((List ah))
 | 0,_,_,_,_,_,_,_,_,_ => none
 | k + 1,fV,tE,vT,tD,pL,mQ,eF,gM,kQ => if eF < gM then (if 0 ≤ (wrap64 (kQ - (IntKind.i64.wrap (eo (IntKind.u64.wrap (wrap64 (eF + gM))) 1)))) then (if (wrap64 (kQ - (IntKind.i64.wrap (eo (IntKind.u64.wrap (wrap64 (eF + gM))) 1)))) < (fV.length : Int) then (if 0 ≤ (IntKind.i64.wrap (eo (IntKind.u64.wrap (wrap64 (eF + gM))) 1)) then (if (IntKind.i64.wrap (eo (IntKind.u64.wrap (wrap64 (eF + gM))) 1)) < (fV.length : Int) then ((dB.f ((aa fV (wrap64 (kQ - (IntKind.i64.wrap (eo (IntKind.u64.wrap (wrap64 (eF + gM))) 1))))).f0) ((aa fV (wrap64 (kQ - (IntKind.i64.wrap (eo (IntKind.u64.wrap (wrap64 (eF + gM))) 1))))).f1) ((aa fV (wrap64 (kQ - (IntKind.i64.wrap (eo (IntKind.u64.wrap (wrap64 (eF + gM))) 1))))).f2) ((aa fV (IntKind.i64.wrap (eo (IntKind.u64.wrap (wrap64 (eF + gM))) 1))).f0) ((aa fV (IntKind.i64.wrap (eo (IntKind.u64.wrap (wrap64 (eF + gM))) 1))).f1) ((aa fV (IntKind.i64.wrap (eo (IntKind.u64.wrap (wrap64 (eF + gM))) 1))).f2)).bind fun t69 => (if t69 < 0 then (ak.l4 k fV tE vT tD pL mQ eF (IntKind.i64.wrap (eo (IntKind.u64.wrap (wrap64 (eF + gM))) 1)) kQ) else (ak.l4 k fV tE vT tD pL mQ (wrap64 ((IntKind.i64.wrap (eo (IntKind.u64.wrap (wrap64 (eF + gM))) 1)) + 1)) gM kQ))) else none) else none) else none) else none) else (if eF < vT then (if vT < (wrap64 (mQ - eF)) then ((cm.f k fV eF vT (wrap64 (mQ - eF))).bind fun Lf => (ak.j1 k Lf tE tD pL eF (wrap64 (mQ - eF)))) else (ak.j1 k fV tE tD pL eF (wrap64 (mQ - eF)))) else (ak.j1 k fV tE tD pL eF (wrap64 (mQ - eF))))
def ak.j0 : Nat → (List ah) → Int → Int → Int → Int → Int → Int → Int → Option ((List ah))
 | 0,_,_,_,_,_,_,_,_ => none
 | k + 1,wj,Ij,Ii,ii,DJ,zw,DI,DH => ak.l4 k wj Ij Ii ii DJ zw DI DH (wrap64 (zw - 1))
def ak.f : Nat → (List ah) → Int → Int → Int → Option ((List ah))
 | 0,_,_,_,_ => none
 | k + 1,l0,a1,a2,a3 => if (wrap64 (a2 - a1)) = 1 then (ak.l0 k l0 a1 a2 a3) else (if (wrap64 (a3 - a2)) = 1 then (ak.l2 k l0 a2 a1 a2) else (if a2 > (IntKind.i64.wrap (eo (IntKind.u64.wrap (wrap64 (a1 + a3))) 1)) then (ak.j0 k l0 a1 a2 a3 (IntKind.i64.wrap (eo (IntKind.u64.wrap (wrap64 (a1 + a3))) 1)) (wrap64 ((IntKind.i64.wrap (eo (IntKind.u64.wrap (wrap64 (a1 + a3))) 1)) + a2)) (wrap64 ((wrap64 ((IntKind.i64.wrap (eo (IntKind.u64.wrap (wrap64 (a1 + a3))) 1)) + a2)) - a3)) (IntKind.i64.wrap (eo (IntKind.u64.wrap (wrap64 (a1 + a3))) 1))) else (ak.j0 k l0 a1 a2 a3 (IntKind.i64.wrap (eo (IntKind.u64.wrap (wrap64 (a1 + a3))) 1)) (wrap64 ((IntKind.i64.wrap (eo (IntKind.u64.wrap (wrap64 (a1 + a3))) 1)) + a2)) a1 a2)))
end
theorem ak.ok_ : ∀ (N k : Nat) (hk : k ≤ N) (l0 : List ah) (ay : Option Addr) (az : Nat) (a1 : Int) (a2 : Int) (a3 : Int) (r0 : List ah) (h : ak.f k l0 a1 a2 a3 = some r0),Fn Tryz.prog 108 [.slice ay l0.length az,.int .i64 a1,.int .i64 a2,.int .i64 a3,.func (.func 65) #[] #[]] [] [.sl 1 ai ay az l0 1 false] (fun v bx en => v = .tuple #[] ∧ bx = [] ∧ en = [.sl 1 ai ay az r0 1 false] ∧ r0.length = l0.length) := by
 intro N
 induction N with
 | zero => intro k hk l0 ay az a1 a2 a3 r0 h; obtain rfl : k = 0 := by omega
           rw [ak.f] at h; cases h
 | succ N ih =>
 intro k hk l0 ay az a1 a2 a3 r0 H
 rcases k with _ | k
 · rw [ak.f] at H; cases H
 refine eD 220 Tryz.func108 zZ zZ zZ (fun base T w0 => ?_)
 rw [ak.f] at H
 refine gs (gs (rg (al ac (al ac (sv (co ac) zZ (sv (bZ ac) zZ (re ?_)))))))
 revert H; refine aJ ?_ ?_ <;> intro c1 H
 ·
  refine gt zZ (dT c1) (gs (rg (al ac (au ac (re (aB [0,1,3,4,10] [] [0] ae (gs (rg (al ac (au ac (re (gs (gb ?_)))))))))))))
  refine lo (fun kk S => ∃ (fW : List ah) (kV : Int) (kH : Int) (kY : Int),kk ≤ k ∧ ak.l0 kk fW kV kH kY = some r0 ∧ fW.length = l0.length ∧ S = ⟨[(0,.slice ay fW.length az),(1,.int .i64 kV),(4,.func (.func 65) #[] #[]),(10,.int .i64 kH),(11,.int .i64 kY)],[],[.sl 1 ai ay az fW 1 false]⟩) (fun S hS => ?_) (fun n0 cZ S hS => ?_) ⟨l0,a1,a2,a3,by omega,H,(by first | rfl | assumption | omega | (simp only [List.length_set]; first | done | assumption | omega)),zZ⟩ (fun h => wk [0,1,4,10,11] [] [(gh 0 1 1)] h)
  · clear H; obtain ⟨_,_,_,_,_,H,_⟩ := hS; rw [ak.l0] at H; cases H
  clear H
  obtain ⟨fW,kV,kH,kY,lk0,H,ex8_ml0,rfl⟩ := hS
  rw [ak.l0] at H
  refine gs (gs (rg (al ac (al ac (sv (bS ac) zZ (re ?_))))))
  revert H; refine aJ ?_ ?_ <;> intro c2 H
  ·
   refine gt zZ (dT c2) (gk (gb (gs (rg (al ac (al ac (sv (ba ac) zZ (sv (mJ (k' := .u64) zZ) zZ (sv (GE zZ zZ dq) zZ (sv (mJ (k' := .i64) zZ) zZ (au ac (re (aB [0,1,4,10,11,12] [] [0] ae (gs ?_))))))))))))))
   revert H; refine aU ?_; intro g3 H
   revert H; refine aU ?_; intro g4 H
   revert H; refine aU ?_; intro g5 H
   revert H; refine aU ?_; intro g6 H
   refine fj [] [0] [] 11 ae (ap 0 [] [0] zZ (aA zZ) ae (ap 1 [] [0] zZ (aA zZ) ae (ap 2 [] [0] zZ (aA zZ) ae (ap 3 [] [0] zZ (aM 0 ag g3 g4 zZ) ae (ap 4 [] [0] zZ (bg (v := .agg #[.int .i64 ((aa fW (IntKind.i64.wrap (eo (IntKind.u64.wrap (wrap64 (kH + kY))) 1))).f0),.int .i64 ((aa fW (IntKind.i64.wrap (eo (IntKind.u64.wrap (wrap64 (kH + kY))) 1))).f1),.int .i64 ((aa fW (IntKind.i64.wrap (eo (IntKind.u64.wrap (wrap64 (kH + kY))) 1))).f2)]) (IntKind.i64.wrap (eo (IntKind.u64.wrap (wrap64 (kH + kY))) 1)) 0 (some 3) 0 cK zZ zZ zZ g3 g4 zZ zZ zZ) ae (ap 5 [] [0] zZ (aA zZ) ae (ap 6 [] [0] zZ (aA zZ) ae (ap 7 [] [0] zZ (aM 0 ag g5 g6 zZ) ae (ap 8 [] [0] zZ (bg (v := .agg #[.int .i64 ((aa fW kV).f0),.int .i64 ((aa fW kV).f1),.int .i64 ((aa fW kV).f2)]) kV 0 (some 3) 0 cK zZ zZ zZ g5 g6 zZ zZ zZ) ae (ar 9 ac ?_))))))))))
   revert H; refine aS ?_; rintro t7 A7 H
   refine XT (f := 65) zZ (ax (dB.ok ((aa fW (IntKind.i64.wrap (eo (IntKind.u64.wrap (wrap64 (kH + kY))) 1))).f0) ((aa fW (IntKind.i64.wrap (eo (IntKind.u64.wrap (wrap64 (kH + kY))) 1))).f1) ((aa fW (IntKind.i64.wrap (eo (IntKind.u64.wrap (wrap64 (kH + kY))) 1))).f2) ((aa fW kV).f0) ((aa fW kV).f1) ((aa fW kV).f2) _ A7) [] 2 aG ?_)
   rintro _ _ _ ⟨rfl,rfl,rfl⟩
   refine aN [] [0] ag (ap 10 [] [0] zZ (bS ac) ae (xd (aB [0,1,4,10,11,12,50] [] [0] ae ?_)))
   revert H; refine aJ ?_ ?_ <;> intro c8 H
   ·
    exact gt zZ (dT c8) (rg (al ac (sv (ba ac) zZ (au ac (re (ge (wk [0,1,4,10,11] [] [(gh 0 1 1)] (cZ _ (by omega) _ ⟨fW,kV,wrap64 ((IntKind.i64.wrap (eo (IntKind.u64.wrap (wrap64 (kH + kY))) 1)) + 1),kY,by omega,H,(by first | rfl | assumption | omega | (simp only [List.length_set]; first | done | assumption | omega)),zZ⟩))))))))
   ·
    exact gf zZ (dF c8) (rg (al ac (au ac (re (ge (wk [0,1,4,10,11] [] [(gh 0 1 1)] (cZ _ (by omega) _ ⟨fW,kV,kH,IntKind.i64.wrap (eo (IntKind.u64.wrap (wrap64 (kH + kY))) 1),by omega,H,(by first | rfl | assumption | omega | (simp only [List.length_set]; first | done | assumption | omega)),zZ⟩)))))))
  ·
   refine gf zZ (dF c2) (gx zZ (gs (gs (rg (al ac (au ac (re (aB [0,10,13] [] [0] ae (gb ?_)))))))))
   refine lo (fun kk S => ∃ (bQ : List ah) (tr : Int) (bP : Int),kk ≤ n0 ∧ ak.l1 kk bQ tr bP = some r0 ∧ bQ.length = l0.length ∧ S = ⟨[(0,.slice ay bQ.length az),(10,.int .i64 tr),(13,.int .i64 bP)],[],[.sl 1 ai ay az bQ 1 false]⟩) (fun S hS => ?_) (fun n1 xO S hS => ?_) ⟨fW,kH,kV,by omega,H,(by first | rfl | assumption | omega | (simp only [List.length_set]; first | done | assumption | omega)),zZ⟩ (fun h => wk [0,10,13] [] [(gh 0 1 1)] h)
   · clear H; obtain ⟨_,_,_,_,H,_⟩ := hS; rw [ak.l1] at H; cases H
   clear H
   obtain ⟨bQ,tr,bP,ZX,H,ex12_ml0,rfl⟩ := hS
   rw [ak.l1] at H
   refine gs (gs (rg (al ac (al ac (sv (co ac) zZ (sv (bS ac) zZ (re ?_)))))))
   revert H; refine aJ ?_ ?_ <;> intro c9 H
   ·
    refine gt zZ (dT c9) (gk (gs (gb ?_)))
    revert H; refine aU ?_; intro iU H
    revert H; refine aU ?_; intro lR H
    revert H; refine aU ?_; intro ju H
    revert H; refine aU ?_; intro jQ H
    refine fj [] [] [16,17] 18 ae (ap 0 [] [] zZ (aA zZ) ae (ap 1 [] [] zZ (aA zZ) ae (ap 2 [] [] zZ (aA zZ) ae (ap 3 [] [] zZ (aA zZ) ae (ap 4 [] [] zZ (ba ac) ae (ap 5 [] [] zZ (aA zZ) ae (ap 6 [] [] zZ (aA zZ) ae (ap 7 [] [] zZ (ba ac) ae (ap 10 [] [] zZ (aA zZ) ae (ap 11 [] [] zZ (aA zZ) ae ?_))))))))))
    refine gW 8 12 zZ zZ zZ zZ ?_ ?_
    ·
     refine ov (aM 0 ag iU lR zZ) zZ (aN [] [] ag ?_)
     refine gW 9 12 zZ zZ zZ zZ ?_ ?_
     ·
      refine ov (bg (v := .agg #[.int .i64 ((aa bQ (wrap64 (bP + 1))).f0),.int .i64 ((aa bQ (wrap64 (bP + 1))).f1),.int .i64 ((aa bQ (wrap64 (bP + 1))).f2)]) (wrap64 (bP + 1)) 0 (some 3) 0 cK zZ zZ zZ iU lR zZ zZ zZ) zZ (aN [] [] ag (ar 12 ac (ov (aM 0 ag ju jQ zZ) zZ (aN [] [] ag (ar 13 ac (ov (bg (v := .agg #[.int .i64 ((aa bQ bP).f0),.int .i64 ((aa bQ bP).f1),.int .i64 ((aa bQ bP).f2)]) bP 0 (some 3) 0 cK zZ zZ zZ ju jQ zZ zZ zZ) zZ (aN [] [] ag (ar 14 ac (ov (aM 0 ag ju jQ zZ) zZ (aN [] [] ag (ar 15 ac ?_)))))))))))
      revert H; refine aS ?_; intro rN sA H; have xg := jr (Option.some.inj sA)
      refine eX bP 0 0 cK (⟨(aa bQ (wrap64 (bP + 1))).f0,(aa bQ (wrap64 (bP + 1))).f1,(aa bQ (wrap64 (bP + 1))).f2⟩ : ah) (Option.some.inj sA) zZ zZ zZ zZ ju jQ zZ zZ zZ zZ dq zZ (br 0 (v' := .slice ay rN.length az) zZ (bq _ _ xg) (br 61 (v' := .slice ay rN.length az) zZ (bq _ _ xg) (br 63 (v' := .slice ay rN.length az) zZ (bq _ _ xg) (br 66 (v' := .slice ay rN.length az) zZ (bq _ _ xg) (br 71 (v' := .slice ay rN.length az) zZ (bq _ _ xg) (bR (en := [.sl 1 ai ay az rN 1 true]) kK (aN [] [] ag (ar 16 ac ?_))))))))
      revert H; refine aU ?_; intro D8 H
      refine ov (aM 0 ag iU D8 zZ) zZ (xn zZ (ar 17 ac ?_))
      revert H; refine aS ?_; intro Lt Sa H; have T3 := jr (Option.some.inj Sa)
      exact eX (wrap64 (bP + 1)) 0 0 cK (⟨(aa bQ bP).f0,(aa bQ bP).f1,(aa bQ bP).f2⟩ : ah) (Option.some.inj Sa) zZ zZ zZ zZ iU D8 zZ zZ zZ zZ dq zZ (br 0 (v' := .slice ay Lt.length az) zZ (bq _ _ T3) (br 61 (v' := .slice ay Lt.length az) zZ (bq _ _ T3) (br 63 (v' := .slice ay Lt.length az) zZ (bq _ _ T3) (br 66 (v' := .slice ay Lt.length az) zZ (bq _ _ T3) (br 71 (v' := .slice ay Lt.length az) zZ (bq _ _ T3) (bR (en := [.sl 1 ai ay az Lt 1 true]) kK (xn zZ (xd (aB [0,10,13] [] [0] ae (ge (rg (al ac (sv (ba ac) zZ (au ac (re (wk [0,10,13] [] [(gh 0 1 1)] (xO _ (by omega) _ ⟨Lt,tr,wrap64 (bP + 1),by omega,H,(by first | rfl | assumption | omega | (simp only [List.length_set]; first | done | assumption | omega)),zZ⟩)))))))))))))))))
     ·
      refine ov (aM 0 ag ju jQ zZ) zZ (aN [] [] ag ?_)
      refine gW 9 13 zZ zZ zZ zZ ?_ ?_
      ·
       refine ov (bg (v := .agg #[.int .i64 ((aa bQ (wrap64 (bP + 1))).f0),.int .i64 ((aa bQ (wrap64 (bP + 1))).f1),.int .i64 ((aa bQ (wrap64 (bP + 1))).f2)]) (wrap64 (bP + 1)) 0 (some 3) 0 cK zZ zZ zZ iU lR zZ zZ zZ) zZ (aN [] [] ag (ar 13 ac (ov (bg (v := .agg #[.int .i64 ((aa bQ bP).f0),.int .i64 ((aa bQ bP).f1),.int .i64 ((aa bQ bP).f2)]) bP 0 (some 3) 0 cK zZ zZ zZ ju jQ zZ zZ zZ) zZ (aN [] [] ag (ar 14 ac (ov (aM 0 ag ju jQ zZ) zZ (aN [] [] ag (ar 15 ac ?_))))))))
       revert H; refine aS ?_; intro tL AH H; have xe := jr (Option.some.inj AH)
       refine eX bP 0 0 cK (⟨(aa bQ (wrap64 (bP + 1))).f0,(aa bQ (wrap64 (bP + 1))).f1,(aa bQ (wrap64 (bP + 1))).f2⟩ : ah) (Option.some.inj AH) zZ zZ zZ zZ ju jQ zZ zZ zZ zZ dq zZ (br 0 (v' := .slice ay tL.length az) zZ (bq _ _ xe) (br 61 (v' := .slice ay tL.length az) zZ (bq _ _ xe) (br 63 (v' := .slice ay tL.length az) zZ (bq _ _ xe) (br 66 (v' := .slice ay tL.length az) zZ (bq _ _ xe) (br 71 (v' := .slice ay tL.length az) zZ (bq _ _ xe) (bR (en := [.sl 1 ai ay az tL 1 true]) kK (aN [] [] ag (ar 16 ac ?_))))))))
       revert H; refine aU ?_; intro AE H
       refine ov (aM 0 ag iU AE zZ) zZ (xn zZ (ar 17 ac ?_))
       revert H; refine aS ?_; intro PC OB H; have T2 := jr (Option.some.inj OB)
       exact eX (wrap64 (bP + 1)) 0 0 cK (⟨(aa bQ bP).f0,(aa bQ bP).f1,(aa bQ bP).f2⟩ : ah) (Option.some.inj OB) zZ zZ zZ zZ iU AE zZ zZ zZ zZ dq zZ (br 0 (v' := .slice ay PC.length az) zZ (bq _ _ T2) (br 61 (v' := .slice ay PC.length az) zZ (bq _ _ T2) (br 63 (v' := .slice ay PC.length az) zZ (bq _ _ T2) (br 66 (v' := .slice ay PC.length az) zZ (bq _ _ T2) (br 71 (v' := .slice ay PC.length az) zZ (bq _ _ T2) (bR (en := [.sl 1 ai ay az PC 1 true]) kK (xn zZ (xd (aB [0,10,13] [] [0] ae (ge (rg (al ac (sv (ba ac) zZ (au ac (re (wk [0,10,13] [] [(gh 0 1 1)] (xO _ (by omega) _ ⟨PC,tr,wrap64 (bP + 1),by omega,H,(by first | rfl | assumption | omega | (simp only [List.length_set]; first | done | assumption | omega)),zZ⟩)))))))))))))))))
      ·
       refine ov (bg (v := .agg #[.int .i64 ((aa bQ bP).f0),.int .i64 ((aa bQ bP).f1),.int .i64 ((aa bQ bP).f2)]) bP 0 (some 3) 0 cK zZ zZ zZ ju jQ zZ zZ zZ) zZ (aN [] [] ag (ar 9 ac (ov (bg (v := .agg #[.int .i64 ((aa bQ (wrap64 (bP + 1))).f0),.int .i64 ((aa bQ (wrap64 (bP + 1))).f1),.int .i64 ((aa bQ (wrap64 (bP + 1))).f2)]) (wrap64 (bP + 1)) 0 (some 3) 0 cK zZ zZ zZ iU lR zZ zZ zZ) zZ (aN [] [] ag (ar 14 ac (ov (aM 0 ag ju jQ zZ) zZ (aN [] [] ag (ar 15 ac ?_))))))))
       revert H; refine aS ?_; intro tK AG H; have xc := jr (Option.some.inj AG)
       refine eX bP 0 0 cK (⟨(aa bQ (wrap64 (bP + 1))).f0,(aa bQ (wrap64 (bP + 1))).f1,(aa bQ (wrap64 (bP + 1))).f2⟩ : ah) (Option.some.inj AG) zZ zZ zZ zZ ju jQ zZ zZ zZ zZ dq zZ (br 0 (v' := .slice ay tK.length az) zZ (bq _ _ xc) (br 61 (v' := .slice ay tK.length az) zZ (bq _ _ xc) (br 63 (v' := .slice ay tK.length az) zZ (bq _ _ xc) (br 66 (v' := .slice ay tK.length az) zZ (bq _ _ xc) (br 71 (v' := .slice ay tK.length az) zZ (bq _ _ xc) (bR (en := [.sl 1 ai ay az tK 1 true]) kK (aN [] [] ag (ar 16 ac ?_))))))))
       revert H; refine aU ?_; intro xm H
       refine ov (aM 0 ag iU xm zZ) zZ (xn zZ (ar 17 ac ?_))
       revert H; refine aS ?_; intro PB R9 H; have T1 := jr (Option.some.inj R9)
       exact eX (wrap64 (bP + 1)) 0 0 cK (⟨(aa bQ bP).f0,(aa bQ bP).f1,(aa bQ bP).f2⟩ : ah) (Option.some.inj R9) zZ zZ zZ zZ iU xm zZ zZ zZ zZ dq zZ (br 0 (v' := .slice ay PB.length az) zZ (bq _ _ T1) (br 61 (v' := .slice ay PB.length az) zZ (bq _ _ T1) (br 63 (v' := .slice ay PB.length az) zZ (bq _ _ T1) (br 66 (v' := .slice ay PB.length az) zZ (bq _ _ T1) (br 71 (v' := .slice ay PB.length az) zZ (bq _ _ T1) (bR (en := [.sl 1 ai ay az PB 1 true]) kK (xn zZ (xd (aB [0,10,13] [] [0] ae (ge (rg (al ac (sv (ba ac) zZ (au ac (re (wk [0,10,13] [] [(gh 0 1 1)] (xO _ (by omega) _ ⟨PB,tr,wrap64 (bP + 1),by omega,H,(by first | rfl | assumption | omega | (simp only [List.length_set]; first | done | assumption | omega)),zZ⟩)))))))))))))))))
    ·
     refine ov (aM 0 ag ju jQ zZ) zZ (aN [] [] ag ?_)
     refine gW 8 13 zZ zZ zZ zZ ?_ ?_
     ·
      refine ov (aM 0 ag iU lR zZ) zZ (aN [] [] ag ?_)
      refine gW 9 13 zZ zZ zZ zZ ?_ ?_
      ·
       refine ov (bg (v := .agg #[.int .i64 ((aa bQ (wrap64 (bP + 1))).f0),.int .i64 ((aa bQ (wrap64 (bP + 1))).f1),.int .i64 ((aa bQ (wrap64 (bP + 1))).f2)]) (wrap64 (bP + 1)) 0 (some 3) 0 cK zZ zZ zZ iU lR zZ zZ zZ) zZ (aN [] [] ag (ar 13 ac (ov (bg (v := .agg #[.int .i64 ((aa bQ bP).f0),.int .i64 ((aa bQ bP).f1),.int .i64 ((aa bQ bP).f2)]) bP 0 (some 3) 0 cK zZ zZ zZ ju jQ zZ zZ zZ) zZ (aN [] [] ag (ar 14 ac (ov (aM 0 ag ju jQ zZ) zZ (aN [] [] ag (ar 15 ac ?_))))))))
       revert H; refine aS ?_; intro tJ Do H; have xb := jr (Option.some.inj Do)
       refine eX bP 0 0 cK (⟨(aa bQ (wrap64 (bP + 1))).f0,(aa bQ (wrap64 (bP + 1))).f1,(aa bQ (wrap64 (bP + 1))).f2⟩ : ah) (Option.some.inj Do) zZ zZ zZ zZ ju jQ zZ zZ zZ zZ dq zZ (br 0 (v' := .slice ay tJ.length az) zZ (bq _ _ xb) (br 61 (v' := .slice ay tJ.length az) zZ (bq _ _ xb) (br 63 (v' := .slice ay tJ.length az) zZ (bq _ _ xb) (br 66 (v' := .slice ay tJ.length az) zZ (bq _ _ xb) (br 71 (v' := .slice ay tJ.length az) zZ (bq _ _ xb) (bR (en := [.sl 1 ai ay az tJ 1 true]) kK (aN [] [] ag (ar 16 ac ?_))))))))
       revert H; refine aU ?_; intro GV H
       refine ov (aM 0 ag iU GV zZ) zZ (xn zZ (ar 17 ac ?_))
       revert H; refine aS ?_; intro PA R8 H; have T0 := jr (Option.some.inj R8)
       exact eX (wrap64 (bP + 1)) 0 0 cK (⟨(aa bQ bP).f0,(aa bQ bP).f1,(aa bQ bP).f2⟩ : ah) (Option.some.inj R8) zZ zZ zZ zZ iU GV zZ zZ zZ zZ dq zZ (br 0 (v' := .slice ay PA.length az) zZ (bq _ _ T0) (br 61 (v' := .slice ay PA.length az) zZ (bq _ _ T0) (br 63 (v' := .slice ay PA.length az) zZ (bq _ _ T0) (br 66 (v' := .slice ay PA.length az) zZ (bq _ _ T0) (br 71 (v' := .slice ay PA.length az) zZ (bq _ _ T0) (bR (en := [.sl 1 ai ay az PA 1 true]) kK (xn zZ (xd (aB [0,10,13] [] [0] ae (ge (rg (al ac (sv (ba ac) zZ (au ac (re (wk [0,10,13] [] [(gh 0 1 1)] (xO _ (by omega) _ ⟨PA,tr,wrap64 (bP + 1),by omega,H,(by first | rfl | assumption | omega | (simp only [List.length_set]; first | done | assumption | omega)),zZ⟩)))))))))))))))))
      ·
       refine ov (bg (v := .agg #[.int .i64 ((aa bQ bP).f0),.int .i64 ((aa bQ bP).f1),.int .i64 ((aa bQ bP).f2)]) bP 0 (some 3) 0 cK zZ zZ zZ ju jQ zZ zZ zZ) zZ (aN [] [] ag (ar 9 ac (ov (bg (v := .agg #[.int .i64 ((aa bQ (wrap64 (bP + 1))).f0),.int .i64 ((aa bQ (wrap64 (bP + 1))).f1),.int .i64 ((aa bQ (wrap64 (bP + 1))).f2)]) (wrap64 (bP + 1)) 0 (some 3) 0 cK zZ zZ zZ iU lR zZ zZ zZ) zZ (aN [] [] ag (ar 14 ac (ov (aM 0 ag ju jQ zZ) zZ (aN [] [] ag (ar 15 ac ?_))))))))
       revert H; refine aS ?_; intro AA FE H; have DT := jr (Option.some.inj FE)
       refine eX bP 0 0 cK (⟨(aa bQ (wrap64 (bP + 1))).f0,(aa bQ (wrap64 (bP + 1))).f1,(aa bQ (wrap64 (bP + 1))).f2⟩ : ah) (Option.some.inj FE) zZ zZ zZ zZ ju jQ zZ zZ zZ zZ dq zZ (br 0 (v' := .slice ay AA.length az) zZ (bq _ _ DT) (br 61 (v' := .slice ay AA.length az) zZ (bq _ _ DT) (br 63 (v' := .slice ay AA.length az) zZ (bq _ _ DT) (br 66 (v' := .slice ay AA.length az) zZ (bq _ _ DT) (br 71 (v' := .slice ay AA.length az) zZ (bq _ _ DT) (bR (en := [.sl 1 ai ay az AA 1 true]) kK (aN [] [] ag (ar 16 ac ?_))))))))
       revert H; refine aU ?_; intro PV H
       refine ov (aM 0 ag iU PV zZ) zZ (xn zZ (ar 17 ac ?_))
       revert H; refine aS ?_; intro Pz J3 H; have TZ := jr (Option.some.inj J3)
       exact eX (wrap64 (bP + 1)) 0 0 cK (⟨(aa bQ bP).f0,(aa bQ bP).f1,(aa bQ bP).f2⟩ : ah) (Option.some.inj J3) zZ zZ zZ zZ iU PV zZ zZ zZ zZ dq zZ (br 0 (v' := .slice ay Pz.length az) zZ (bq _ _ TZ) (br 61 (v' := .slice ay Pz.length az) zZ (bq _ _ TZ) (br 63 (v' := .slice ay Pz.length az) zZ (bq _ _ TZ) (br 66 (v' := .slice ay Pz.length az) zZ (bq _ _ TZ) (br 71 (v' := .slice ay Pz.length az) zZ (bq _ _ TZ) (bR (en := [.sl 1 ai ay az Pz 1 true]) kK (xn zZ (xd (aB [0,10,13] [] [0] ae (ge (rg (al ac (sv (ba ac) zZ (au ac (re (wk [0,10,13] [] [(gh 0 1 1)] (xO _ (by omega) _ ⟨Pz,tr,wrap64 (bP + 1),by omega,H,(by first | rfl | assumption | omega | (simp only [List.length_set]; first | done | assumption | omega)),zZ⟩)))))))))))))))))
     ·
      refine ov (bg (v := .agg #[.int .i64 ((aa bQ bP).f0),.int .i64 ((aa bQ bP).f1),.int .i64 ((aa bQ bP).f2)]) bP 0 (some 3) 0 cK zZ zZ zZ ju jQ zZ zZ zZ) zZ (aN [] [] ag (ar 8 ac (ov (aM 0 ag iU lR zZ) zZ (aN [] [] ag (ar 9 ac (ov (bg (v := .agg #[.int .i64 ((aa bQ (wrap64 (bP + 1))).f0),.int .i64 ((aa bQ (wrap64 (bP + 1))).f1),.int .i64 ((aa bQ (wrap64 (bP + 1))).f2)]) (wrap64 (bP + 1)) 0 (some 3) 0 cK zZ zZ zZ iU lR zZ zZ zZ) zZ (aN [] [] ag (ar 14 ac (ov (aM 0 ag ju jQ zZ) zZ (aN [] [] ag (ar 15 ac ?_)))))))))))
      revert H; refine aS ?_; intro Rw R7 H; have TY := jr (Option.some.inj R7)
      refine eX bP 0 0 cK (⟨(aa bQ (wrap64 (bP + 1))).f0,(aa bQ (wrap64 (bP + 1))).f1,(aa bQ (wrap64 (bP + 1))).f2⟩ : ah) (Option.some.inj R7) zZ zZ zZ zZ ju jQ zZ zZ zZ zZ dq zZ (br 0 (v' := .slice ay Rw.length az) zZ (bq _ _ TY) (br 61 (v' := .slice ay Rw.length az) zZ (bq _ _ TY) (br 63 (v' := .slice ay Rw.length az) zZ (bq _ _ TY) (br 66 (v' := .slice ay Rw.length az) zZ (bq _ _ TY) (br 71 (v' := .slice ay Rw.length az) zZ (bq _ _ TY) (bR (en := [.sl 1 ai ay az Rw 1 true]) kK (aN [] [] ag (ar 16 ac ?_))))))))
      revert H; refine aU ?_; intro xl H
      refine ov (aM 0 ag iU xl zZ) zZ (xn zZ (ar 17 ac ?_))
      revert H; refine aS ?_; intro Py JZ H; have TX := jr (Option.some.inj JZ)
      exact eX (wrap64 (bP + 1)) 0 0 cK (⟨(aa bQ bP).f0,(aa bQ bP).f1,(aa bQ bP).f2⟩ : ah) (Option.some.inj JZ) zZ zZ zZ zZ iU xl zZ zZ zZ zZ dq zZ (br 0 (v' := .slice ay Py.length az) zZ (bq _ _ TX) (br 61 (v' := .slice ay Py.length az) zZ (bq _ _ TX) (br 63 (v' := .slice ay Py.length az) zZ (bq _ _ TX) (br 66 (v' := .slice ay Py.length az) zZ (bq _ _ TX) (br 71 (v' := .slice ay Py.length az) zZ (bq _ _ TX) (bR (en := [.sl 1 ai ay az Py 1 true]) kK (xn zZ (xd (aB [0,10,13] [] [0] ae (ge (rg (al ac (sv (ba ac) zZ (au ac (re (wk [0,10,13] [] [(gh 0 1 1)] (xO _ (by omega) _ ⟨Py,tr,wrap64 (bP + 1),by omega,H,(by first | rfl | assumption | omega | (simp only [List.length_set]; first | done | assumption | omega)),zZ⟩)))))))))))))))))
   ·
    refine gf zZ (dF c9) (gx zZ ?_)
    cases H
    exact rt Tryz.func108 zZ .nil zZ [] [(gh 0 1 1)] zZ zZ zZ zZ zZ ⟨zZ,zZ,zZ,by first | rfl | assumption | omega | (simp only [List.length_set]; first | done | assumption | omega)⟩
 ·
  refine gf zZ (dF c1) (gk (gs (gs (rg (al ac (al ac (sv (co ac) zZ (sv (bZ ac) zZ (re (aB [0,1,2,3,4,80] [] [0] ae ?_))))))))))
  revert H; refine aJ ?_ ?_ <;> intro Ow H
  ·
   refine gt zZ (dT Ow) (gs (rg (al ac (au ac (re (gs (rg (al ac (au ac (re (gs (gb ?_))))))))))))
   refine lo (fun kk S => ∃ (gA : List ah) (lW : Int) (jg : Int) (jy : Int),kk ≤ k ∧ ak.l2 kk gA lW jg jy = some r0 ∧ gA.length = l0.length ∧ S = ⟨[(0,.slice ay gA.length az),(2,.int .i64 lW),(4,.func (.func 65) #[] #[]),(14,.int .i64 jg),(15,.int .i64 jy)],[],[.sl 1 ai ay az gA 1 false]⟩) (fun S hS => ?_) (fun n2 XK S hS => ?_) ⟨l0,a2,a1,a2,by omega,H,(by first | rfl | assumption | omega | (simp only [List.length_set]; first | done | assumption | omega)),zZ⟩ (fun h => wk [0,2,4,14,15] [] [(gh 0 1 1)] h)
   · clear H; obtain ⟨_,_,_,_,_,H,_⟩ := hS; rw [ak.l2] at H; cases H
   clear H
   obtain ⟨gA,lW,jg,jy,lk2,H,ex20_ml0,rfl⟩ := hS
   rw [ak.l2] at H
   refine gs (gs (rg (al ac (al ac (sv (bS ac) zZ (re ?_))))))
   revert H; refine aJ ?_ ?_ <;> intro Ov H
   ·
    refine gt zZ (dT Ov) (gk (gb (gs (rg (al ac (al ac (sv (ba ac) zZ (sv (mJ (k' := .u64) zZ) zZ (sv (GE zZ zZ dq) zZ (sv (mJ (k' := .i64) zZ) zZ (au ac (re (aB [0,2,4,14,15,16] [] [0] ae (gs ?_))))))))))))))
    revert H; refine aU ?_; intro Oi H
    revert H; refine aU ?_; intro Us H
    revert H; refine aU ?_; intro Ur H
    revert H; refine aU ?_; intro Oh H
    refine fj [] [0] [] 12 ae (ap 0 [] [0] zZ (aA zZ) ae (ap 1 [] [0] zZ (aA zZ) ae (ap 2 [] [0] zZ (aA zZ) ae (ap 3 [] [0] zZ (aM 0 ag Oi Us zZ) ae (ap 4 [] [0] zZ (bg (v := .agg #[.int .i64 ((aa gA lW).f0),.int .i64 ((aa gA lW).f1),.int .i64 ((aa gA lW).f2)]) lW 0 (some 3) 0 cK zZ zZ zZ Oi Us zZ zZ zZ) ae (ap 5 [] [0] zZ (aA zZ) ae (ap 6 [] [0] zZ (aA zZ) ae (ap 7 [] [0] zZ (aM 0 ag Ur Oh zZ) ae (ap 8 [] [0] zZ (bg (v := .agg #[.int .i64 ((aa gA (IntKind.i64.wrap (eo (IntKind.u64.wrap (wrap64 (jg + jy))) 1))).f0),.int .i64 ((aa gA (IntKind.i64.wrap (eo (IntKind.u64.wrap (wrap64 (jg + jy))) 1))).f1),.int .i64 ((aa gA (IntKind.i64.wrap (eo (IntKind.u64.wrap (wrap64 (jg + jy))) 1))).f2)]) (IntKind.i64.wrap (eo (IntKind.u64.wrap (wrap64 (jg + jy))) 1)) 0 (some 3) 0 cK zZ zZ zZ Ur Oh zZ zZ zZ) ae (ar 9 ac ?_))))))))))
    revert H; refine aS ?_; rintro N3 MU H
    refine XT (f := 65) zZ (ax (dB.ok ((aa gA lW).f0) ((aa gA lW).f1) ((aa gA lW).f2) ((aa gA (IntKind.i64.wrap (eo (IntKind.u64.wrap (wrap64 (jg + jy))) 1))).f0) ((aa gA (IntKind.i64.wrap (eo (IntKind.u64.wrap (wrap64 (jg + jy))) 1))).f1) ((aa gA (IntKind.i64.wrap (eo (IntKind.u64.wrap (wrap64 (jg + jy))) 1))).f2) _ MU) [] 2 aG ?_)
    rintro _ _ _ ⟨rfl,rfl,rfl⟩
    refine aN [] [0] ag (ap 10 [] [0] zZ (bS ac) ae (ap 11 [] [0] zZ (eE zZ) ae (xd (aB [0,2,4,14,15,16,103] [] [0] ae ?_))))
    revert H; refine aJ ?_ ?_ <;> intro H2 H
    ·
     exact gf zZ (nF H2) (rg (al ac (au ac (re (ge (wk [0,2,4,14,15] [] [(gh 0 1 1)] (XK _ (by omega) _ ⟨gA,lW,jg,IntKind.i64.wrap (eo (IntKind.u64.wrap (wrap64 (jg + jy))) 1),by omega,H,(by first | rfl | assumption | omega | (simp only [List.length_set]; first | done | assumption | omega)),zZ⟩)))))))
    ·
     exact gt zZ (nT H2) (rg (al ac (sv (ba ac) zZ (au ac (re (ge (wk [0,2,4,14,15] [] [(gh 0 1 1)] (XK _ (by omega) _ ⟨gA,lW,wrap64 ((IntKind.i64.wrap (eo (IntKind.u64.wrap (wrap64 (jg + jy))) 1)) + 1),jy,by omega,H,(by first | rfl | assumption | omega | (simp only [List.length_set]; first | done | assumption | omega)),zZ⟩))))))))
   ·
    refine gf zZ (dF Ov) (gx zZ (gs (gs (rg (al ac (au ac (re (aB [0,14,17] [] [0] ae (gb ?_)))))))))
    refine lo (fun kk S => ∃ (cf : List ah) (tf : Int) (bO : Int),kk ≤ n2 ∧ ak.l3 kk cf tf bO = some r0 ∧ cf.length = l0.length ∧ S = ⟨[(0,.slice ay cf.length az),(14,.int .i64 tf),(17,.int .i64 bO)],[],[.sl 1 ai ay az cf 1 false]⟩) (fun S hS => ?_) (fun n3 RG S hS => ?_) ⟨gA,jg,lW,by omega,H,(by first | rfl | assumption | omega | (simp only [List.length_set]; first | done | assumption | omega)),zZ⟩ (fun h => wk [0,14,17] [] [(gh 0 1 1)] h)
    · clear H; obtain ⟨_,_,_,_,H,_⟩ := hS; rw [ak.l3] at H; cases H
    clear H
    obtain ⟨cf,tf,bO,lk3,H,ex24_ml0,rfl⟩ := hS
    rw [ak.l3] at H
    refine gs (gs (rg (al ac (al ac (sv (dV ac) zZ (re ?_))))))
    revert H; refine aJ ?_ ?_ <;> intro zW H
    ·
     refine gt zZ (dT zW) (gk (gs (gb ?_)))
     revert H; refine aU ?_; intro vO H
     revert H; refine aU ?_; intro CG H
     revert H; refine aU ?_; intro oW H
     revert H; refine aU ?_; intro tM H
     refine fj [] [] [16,17] 18 ae (ap 0 [] [] zZ (aA zZ) ae (ap 1 [] [] zZ (aA zZ) ae (ap 2 [] [] zZ (aA zZ) ae (ap 3 [] [] zZ (aA zZ) ae (ap 4 [] [] zZ (co ac) ae (ap 5 [] [] zZ (aA zZ) ae (ap 6 [] [] zZ (aA zZ) ae (ap 7 [] [] zZ (co ac) ae (ap 10 [] [] zZ (aA zZ) ae (ap 11 [] [] zZ (aA zZ) ae ?_))))))))))
     refine gW 8 12 zZ zZ zZ zZ ?_ ?_
     ·
      refine ov (aM 0 ag vO CG zZ) zZ (aN [] [] ag ?_)
      refine gW 9 12 zZ zZ zZ zZ ?_ ?_
      ·
       refine ov (bg (v := .agg #[.int .i64 ((aa cf (wrap64 (bO - 1))).f0),.int .i64 ((aa cf (wrap64 (bO - 1))).f1),.int .i64 ((aa cf (wrap64 (bO - 1))).f2)]) (wrap64 (bO - 1)) 0 (some 3) 0 cK zZ zZ zZ vO CG zZ zZ zZ) zZ (aN [] [] ag (ar 12 ac (ov (aM 0 ag oW tM zZ) zZ (aN [] [] ag (ar 13 ac (ov (bg (v := .agg #[.int .i64 ((aa cf bO).f0),.int .i64 ((aa cf bO).f1),.int .i64 ((aa cf bO).f2)]) bO 0 (some 3) 0 cK zZ zZ zZ oW tM zZ zZ zZ) zZ (aN [] [] ag (ar 14 ac (ov (aM 0 ag oW tM zZ) zZ (aN [] [] ag (ar 15 ac ?_)))))))))))
       revert H; refine aS ?_; intro Ls Yi H; have TW := jr (Option.some.inj Yi)
       refine eX bO 0 0 cK (⟨(aa cf (wrap64 (bO - 1))).f0,(aa cf (wrap64 (bO - 1))).f1,(aa cf (wrap64 (bO - 1))).f2⟩ : ah) (Option.some.inj Yi) zZ zZ zZ zZ oW tM zZ zZ zZ zZ dq zZ (br 0 (v' := .slice ay Ls.length az) zZ (bq _ _ TW) (br 113 (v' := .slice ay Ls.length az) zZ (bq _ _ TW) (br 115 (v' := .slice ay Ls.length az) zZ (bq _ _ TW) (br 118 (v' := .slice ay Ls.length az) zZ (bq _ _ TW) (br 123 (v' := .slice ay Ls.length az) zZ (bq _ _ TW) (bR (en := [.sl 1 ai ay az Ls 1 true]) kK (aN [] [] ag (ar 16 ac ?_))))))))
       revert H; refine aU ?_; intro JQ H
       refine ov (aM 0 ag vO JQ zZ) zZ (xn zZ (ar 17 ac ?_))
       revert H; refine aS ?_; intro Lr R6 H; have TV := jr (Option.some.inj R6)
       exact eX (wrap64 (bO - 1)) 0 0 cK (⟨(aa cf bO).f0,(aa cf bO).f1,(aa cf bO).f2⟩ : ah) (Option.some.inj R6) zZ zZ zZ zZ vO JQ zZ zZ zZ zZ dq zZ (br 0 (v' := .slice ay Lr.length az) zZ (bq _ _ TV) (br 113 (v' := .slice ay Lr.length az) zZ (bq _ _ TV) (br 115 (v' := .slice ay Lr.length az) zZ (bq _ _ TV) (br 118 (v' := .slice ay Lr.length az) zZ (bq _ _ TV) (br 123 (v' := .slice ay Lr.length az) zZ (bq _ _ TV) (bR (en := [.sl 1 ai ay az Lr 1 true]) kK (xn zZ (xd (aB [0,14,17] [] [0] ae (ge (rg (al ac (sv (co ac) zZ (au ac (re (wk [0,14,17] [] [(gh 0 1 1)] (RG _ (by omega) _ ⟨Lr,tf,wrap64 (bO - 1),by omega,H,(by first | rfl | assumption | omega | (simp only [List.length_set]; first | done | assumption | omega)),zZ⟩)))))))))))))))))
      ·
       refine ov (aM 0 ag oW tM zZ) zZ (aN [] [] ag ?_)
       refine gW 9 13 zZ zZ zZ zZ ?_ ?_
       ·
        refine ov (bg (v := .agg #[.int .i64 ((aa cf (wrap64 (bO - 1))).f0),.int .i64 ((aa cf (wrap64 (bO - 1))).f1),.int .i64 ((aa cf (wrap64 (bO - 1))).f2)]) (wrap64 (bO - 1)) 0 (some 3) 0 cK zZ zZ zZ vO CG zZ zZ zZ) zZ (aN [] [] ag (ar 13 ac (ov (bg (v := .agg #[.int .i64 ((aa cf bO).f0),.int .i64 ((aa cf bO).f1),.int .i64 ((aa cf bO).f2)]) bO 0 (some 3) 0 cK zZ zZ zZ oW tM zZ zZ zZ) zZ (aN [] [] ag (ar 14 ac (ov (aM 0 ag oW tM zZ) zZ (aN [] [] ag (ar 15 ac ?_))))))))
        revert H; refine aS ?_; intro Rv R5 H; have TU := jr (Option.some.inj R5)
        refine eX bO 0 0 cK (⟨(aa cf (wrap64 (bO - 1))).f0,(aa cf (wrap64 (bO - 1))).f1,(aa cf (wrap64 (bO - 1))).f2⟩ : ah) (Option.some.inj R5) zZ zZ zZ zZ oW tM zZ zZ zZ zZ dq zZ (br 0 (v' := .slice ay Rv.length az) zZ (bq _ _ TU) (br 113 (v' := .slice ay Rv.length az) zZ (bq _ _ TU) (br 115 (v' := .slice ay Rv.length az) zZ (bq _ _ TU) (br 118 (v' := .slice ay Rv.length az) zZ (bq _ _ TU) (br 123 (v' := .slice ay Rv.length az) zZ (bq _ _ TU) (bR (en := [.sl 1 ai ay az Rv 1 true]) kK (aN [] [] ag (ar 16 ac ?_))))))))
        revert H; refine aU ?_; intro g49 H
        refine ov (aM 0 ag vO g49 zZ) zZ (xn zZ (ar 17 ac ?_))
        revert H; refine aS ?_; intro Px R0 H; have TT := jr (Option.some.inj R0)
        exact eX (wrap64 (bO - 1)) 0 0 cK (⟨(aa cf bO).f0,(aa cf bO).f1,(aa cf bO).f2⟩ : ah) (Option.some.inj R0) zZ zZ zZ zZ vO g49 zZ zZ zZ zZ dq zZ (br 0 (v' := .slice ay Px.length az) zZ (bq _ _ TT) (br 113 (v' := .slice ay Px.length az) zZ (bq _ _ TT) (br 115 (v' := .slice ay Px.length az) zZ (bq _ _ TT) (br 118 (v' := .slice ay Px.length az) zZ (bq _ _ TT) (br 123 (v' := .slice ay Px.length az) zZ (bq _ _ TT) (bR (en := [.sl 1 ai ay az Px 1 true]) kK (xn zZ (xd (aB [0,14,17] [] [0] ae (ge (rg (al ac (sv (co ac) zZ (au ac (re (wk [0,14,17] [] [(gh 0 1 1)] (RG _ (by omega) _ ⟨Px,tf,wrap64 (bO - 1),by omega,H,(by first | rfl | assumption | omega | (simp only [List.length_set]; first | done | assumption | omega)),zZ⟩)))))))))))))))))
       ·
        refine ov (bg (v := .agg #[.int .i64 ((aa cf bO).f0),.int .i64 ((aa cf bO).f1),.int .i64 ((aa cf bO).f2)]) bO 0 (some 3) 0 cK zZ zZ zZ oW tM zZ zZ zZ) zZ (aN [] [] ag (ar 9 ac (ov (bg (v := .agg #[.int .i64 ((aa cf (wrap64 (bO - 1))).f0),.int .i64 ((aa cf (wrap64 (bO - 1))).f1),.int .i64 ((aa cf (wrap64 (bO - 1))).f2)]) (wrap64 (bO - 1)) 0 (some 3) 0 cK zZ zZ zZ vO CG zZ zZ zZ) zZ (aN [] [] ag (ar 14 ac (ov (aM 0 ag oW tM zZ) zZ (aN [] [] ag (ar 15 ac ?_))))))))
        revert H; refine aS ?_; intro Ru RZ H; have TS := jr (Option.some.inj RZ)
        refine eX bO 0 0 cK (⟨(aa cf (wrap64 (bO - 1))).f0,(aa cf (wrap64 (bO - 1))).f1,(aa cf (wrap64 (bO - 1))).f2⟩ : ah) (Option.some.inj RZ) zZ zZ zZ zZ oW tM zZ zZ zZ zZ dq zZ (br 0 (v' := .slice ay Ru.length az) zZ (bq _ _ TS) (br 113 (v' := .slice ay Ru.length az) zZ (bq _ _ TS) (br 115 (v' := .slice ay Ru.length az) zZ (bq _ _ TS) (br 118 (v' := .slice ay Ru.length az) zZ (bq _ _ TS) (br 123 (v' := .slice ay Ru.length az) zZ (bq _ _ TS) (bR (en := [.sl 1 ai ay az Ru 1 true]) kK (aN [] [] ag (ar 16 ac ?_))))))))
        revert H; refine aU ?_; intro HP H
        refine ov (aM 0 ag vO HP zZ) zZ (xn zZ (ar 17 ac ?_))
        revert H; refine aS ?_; intro Pw A53 H; have TR := jr (Option.some.inj A53)
        exact eX (wrap64 (bO - 1)) 0 0 cK (⟨(aa cf bO).f0,(aa cf bO).f1,(aa cf bO).f2⟩ : ah) (Option.some.inj A53) zZ zZ zZ zZ vO HP zZ zZ zZ zZ dq zZ (br 0 (v' := .slice ay Pw.length az) zZ (bq _ _ TR) (br 113 (v' := .slice ay Pw.length az) zZ (bq _ _ TR) (br 115 (v' := .slice ay Pw.length az) zZ (bq _ _ TR) (br 118 (v' := .slice ay Pw.length az) zZ (bq _ _ TR) (br 123 (v' := .slice ay Pw.length az) zZ (bq _ _ TR) (bR (en := [.sl 1 ai ay az Pw 1 true]) kK (xn zZ (xd (aB [0,14,17] [] [0] ae (ge (rg (al ac (sv (co ac) zZ (au ac (re (wk [0,14,17] [] [(gh 0 1 1)] (RG _ (by omega) _ ⟨Pw,tf,wrap64 (bO - 1),by omega,H,(by first | rfl | assumption | omega | (simp only [List.length_set]; first | done | assumption | omega)),zZ⟩)))))))))))))))))
     ·
      refine ov (aM 0 ag oW tM zZ) zZ (aN [] [] ag ?_)
      refine gW 8 13 zZ zZ zZ zZ ?_ ?_
      ·
       refine ov (aM 0 ag vO CG zZ) zZ (aN [] [] ag ?_)
       refine gW 9 13 zZ zZ zZ zZ ?_ ?_
       ·
        refine ov (bg (v := .agg #[.int .i64 ((aa cf (wrap64 (bO - 1))).f0),.int .i64 ((aa cf (wrap64 (bO - 1))).f1),.int .i64 ((aa cf (wrap64 (bO - 1))).f2)]) (wrap64 (bO - 1)) 0 (some 3) 0 cK zZ zZ zZ vO CG zZ zZ zZ) zZ (aN [] [] ag (ar 13 ac (ov (bg (v := .agg #[.int .i64 ((aa cf bO).f0),.int .i64 ((aa cf bO).f1),.int .i64 ((aa cf bO).f2)]) bO 0 (some 3) 0 cK zZ zZ zZ oW tM zZ zZ zZ) zZ (aN [] [] ag (ar 14 ac (ov (aM 0 ag oW tM zZ) zZ (aN [] [] ag (ar 15 ac ?_))))))))
        revert H; refine aS ?_; intro Rt RY H; have TQ := jr (Option.some.inj RY)
        refine eX bO 0 0 cK (⟨(aa cf (wrap64 (bO - 1))).f0,(aa cf (wrap64 (bO - 1))).f1,(aa cf (wrap64 (bO - 1))).f2⟩ : ah) (Option.some.inj RY) zZ zZ zZ zZ oW tM zZ zZ zZ zZ dq zZ (br 0 (v' := .slice ay Rt.length az) zZ (bq _ _ TQ) (br 113 (v' := .slice ay Rt.length az) zZ (bq _ _ TQ) (br 115 (v' := .slice ay Rt.length az) zZ (bq _ _ TQ) (br 118 (v' := .slice ay Rt.length az) zZ (bq _ _ TQ) (br 123 (v' := .slice ay Rt.length az) zZ (bq _ _ TQ) (bR (en := [.sl 1 ai ay az Rt 1 true]) kK (aN [] [] ag (ar 16 ac ?_))))))))
        revert H; refine aU ?_; intro Un H
        refine ov (aM 0 ag vO Un zZ) zZ (xn zZ (ar 17 ac ?_))
        revert H; refine aS ?_; intro Pv Yg H; have TP := jr (Option.some.inj Yg)
        exact eX (wrap64 (bO - 1)) 0 0 cK (⟨(aa cf bO).f0,(aa cf bO).f1,(aa cf bO).f2⟩ : ah) (Option.some.inj Yg) zZ zZ zZ zZ vO Un zZ zZ zZ zZ dq zZ (br 0 (v' := .slice ay Pv.length az) zZ (bq _ _ TP) (br 113 (v' := .slice ay Pv.length az) zZ (bq _ _ TP) (br 115 (v' := .slice ay Pv.length az) zZ (bq _ _ TP) (br 118 (v' := .slice ay Pv.length az) zZ (bq _ _ TP) (br 123 (v' := .slice ay Pv.length az) zZ (bq _ _ TP) (bR (en := [.sl 1 ai ay az Pv 1 true]) kK (xn zZ (xd (aB [0,14,17] [] [0] ae (ge (rg (al ac (sv (co ac) zZ (au ac (re (wk [0,14,17] [] [(gh 0 1 1)] (RG _ (by omega) _ ⟨Pv,tf,wrap64 (bO - 1),by omega,H,(by first | rfl | assumption | omega | (simp only [List.length_set]; first | done | assumption | omega)),zZ⟩)))))))))))))))))
       ·
        refine ov (bg (v := .agg #[.int .i64 ((aa cf bO).f0),.int .i64 ((aa cf bO).f1),.int .i64 ((aa cf bO).f2)]) bO 0 (some 3) 0 cK zZ zZ zZ oW tM zZ zZ zZ) zZ (aN [] [] ag (ar 9 ac (ov (bg (v := .agg #[.int .i64 ((aa cf (wrap64 (bO - 1))).f0),.int .i64 ((aa cf (wrap64 (bO - 1))).f1),.int .i64 ((aa cf (wrap64 (bO - 1))).f2)]) (wrap64 (bO - 1)) 0 (some 3) 0 cK zZ zZ zZ vO CG zZ zZ zZ) zZ (aN [] [] ag (ar 14 ac (ov (aM 0 ag oW tM zZ) zZ (aN [] [] ag (ar 15 ac ?_))))))))
        revert H; refine aS ?_; intro Rs G3 H; have TO := jr (Option.some.inj G3)
        refine eX bO 0 0 cK (⟨(aa cf (wrap64 (bO - 1))).f0,(aa cf (wrap64 (bO - 1))).f1,(aa cf (wrap64 (bO - 1))).f2⟩ : ah) (Option.some.inj G3) zZ zZ zZ zZ oW tM zZ zZ zZ zZ dq zZ (br 0 (v' := .slice ay Rs.length az) zZ (bq _ _ TO) (br 113 (v' := .slice ay Rs.length az) zZ (bq _ _ TO) (br 115 (v' := .slice ay Rs.length az) zZ (bq _ _ TO) (br 118 (v' := .slice ay Rs.length az) zZ (bq _ _ TO) (br 123 (v' := .slice ay Rs.length az) zZ (bq _ _ TO) (bR (en := [.sl 1 ai ay az Rs 1 true]) kK (aN [] [] ag (ar 16 ac ?_))))))))
        revert H; refine aU ?_; intro Of H
        refine ov (aM 0 ag vO Of zZ) zZ (xn zZ (ar 17 ac ?_))
        revert H; refine aS ?_; intro Pu A59 H; have TN := jr (Option.some.inj A59)
        exact eX (wrap64 (bO - 1)) 0 0 cK (⟨(aa cf bO).f0,(aa cf bO).f1,(aa cf bO).f2⟩ : ah) (Option.some.inj A59) zZ zZ zZ zZ vO Of zZ zZ zZ zZ dq zZ (br 0 (v' := .slice ay Pu.length az) zZ (bq _ _ TN) (br 113 (v' := .slice ay Pu.length az) zZ (bq _ _ TN) (br 115 (v' := .slice ay Pu.length az) zZ (bq _ _ TN) (br 118 (v' := .slice ay Pu.length az) zZ (bq _ _ TN) (br 123 (v' := .slice ay Pu.length az) zZ (bq _ _ TN) (bR (en := [.sl 1 ai ay az Pu 1 true]) kK (xn zZ (xd (aB [0,14,17] [] [0] ae (ge (rg (al ac (sv (co ac) zZ (au ac (re (wk [0,14,17] [] [(gh 0 1 1)] (RG _ (by omega) _ ⟨Pu,tf,wrap64 (bO - 1),by omega,H,(by first | rfl | assumption | omega | (simp only [List.length_set]; first | done | assumption | omega)),zZ⟩)))))))))))))))))
      ·
       refine ov (bg (v := .agg #[.int .i64 ((aa cf bO).f0),.int .i64 ((aa cf bO).f1),.int .i64 ((aa cf bO).f2)]) bO 0 (some 3) 0 cK zZ zZ zZ oW tM zZ zZ zZ) zZ (aN [] [] ag (ar 8 ac (ov (aM 0 ag vO CG zZ) zZ (aN [] [] ag (ar 9 ac (ov (bg (v := .agg #[.int .i64 ((aa cf (wrap64 (bO - 1))).f0),.int .i64 ((aa cf (wrap64 (bO - 1))).f1),.int .i64 ((aa cf (wrap64 (bO - 1))).f2)]) (wrap64 (bO - 1)) 0 (some 3) 0 cK zZ zZ zZ vO CG zZ zZ zZ) zZ (aN [] [] ag (ar 14 ac (ov (aM 0 ag oW tM zZ) zZ (aN [] [] ag (ar 15 ac ?_)))))))))))
       revert H; refine aS ?_; intro Rr Oz H; have TM := jr (Option.some.inj Oz)
       refine eX bO 0 0 cK (⟨(aa cf (wrap64 (bO - 1))).f0,(aa cf (wrap64 (bO - 1))).f1,(aa cf (wrap64 (bO - 1))).f2⟩ : ah) (Option.some.inj Oz) zZ zZ zZ zZ oW tM zZ zZ zZ zZ dq zZ (br 0 (v' := .slice ay Rr.length az) zZ (bq _ _ TM) (br 113 (v' := .slice ay Rr.length az) zZ (bq _ _ TM) (br 115 (v' := .slice ay Rr.length az) zZ (bq _ _ TM) (br 118 (v' := .slice ay Rr.length az) zZ (bq _ _ TM) (br 123 (v' := .slice ay Rr.length az) zZ (bq _ _ TM) (bR (en := [.sl 1 ai ay az Rr 1 true]) kK (aN [] [] ag (ar 16 ac ?_))))))))
       revert H; refine aU ?_; intro g61 H
       refine ov (aM 0 ag vO g61 zZ) zZ (xn zZ (ar 17 ac ?_))
       revert H; refine aS ?_; intro Pt Yf H; have TL := jr (Option.some.inj Yf)
       exact eX (wrap64 (bO - 1)) 0 0 cK (⟨(aa cf bO).f0,(aa cf bO).f1,(aa cf bO).f2⟩ : ah) (Option.some.inj Yf) zZ zZ zZ zZ vO g61 zZ zZ zZ zZ dq zZ (br 0 (v' := .slice ay Pt.length az) zZ (bq _ _ TL) (br 113 (v' := .slice ay Pt.length az) zZ (bq _ _ TL) (br 115 (v' := .slice ay Pt.length az) zZ (bq _ _ TL) (br 118 (v' := .slice ay Pt.length az) zZ (bq _ _ TL) (br 123 (v' := .slice ay Pt.length az) zZ (bq _ _ TL) (bR (en := [.sl 1 ai ay az Pt 1 true]) kK (xn zZ (xd (aB [0,14,17] [] [0] ae (ge (rg (al ac (sv (co ac) zZ (au ac (re (wk [0,14,17] [] [(gh 0 1 1)] (RG _ (by omega) _ ⟨Pt,tf,wrap64 (bO - 1),by omega,H,(by first | rfl | assumption | omega | (simp only [List.length_set]; first | done | assumption | omega)),zZ⟩)))))))))))))))))
    ·
     refine gf zZ (dF zW) (gx zZ ?_)
     cases H
     exact rt Tryz.func108 zZ .nil zZ [] [(gh 0 1 1)] zZ zZ zZ zZ zZ ⟨zZ,zZ,zZ,by first | rfl | assumption | omega | (simp only [List.length_set]; first | done | assumption | omega)⟩
  ·
   refine gf zZ (dF Ow) (gk (gs (rg (al ac (al ac (sv (ba ac) zZ (sv (mJ (k' := .u64) zZ) zZ (sv (GE zZ zZ dq) zZ (sv (mJ (k' := .i64) zZ) zZ (au ac (re (aB [0,1,2,3,4,18] [] [0] ae (gs (rg (al ac (al ac (sv (ba ac) zZ (au ac (re (gs (rg (au ac (au ac (re ?_))))))))))))))))))))))))
   refine jo (fun S => ∃ (m : Nat) (wj : List ah) (Ij : Int) (Ii : Int) (ii : Int) (DJ : Int) (zw : Int) (DI : Int) (DH : Int),m ≤ k ∧ ak.j0 m wj Ij Ii ii DJ zw DI DH = some r0 ∧ wj.length = l0.length ∧ S = ⟨[(0,.slice ay wj.length az),(1,.int .i64 Ij),(2,.int .i64 Ii),(3,.int .i64 ii),(4,.func (.func 65) #[] #[]),(18,.int .i64 DJ),(19,.int .i64 zw),(20,.int .i64 DI),(21,.int .i64 DH)],[],[.sl 1 ai ay az wj 1 false]⟩) (fun S hS => ?_) (fun gw => ?_)
   ·
    clear H
    obtain ⟨ZW,wj,Ij,Ii,ii,DJ,zw,DI,DH,lm63,H,ex25_ml0,rfl⟩ := hS
    rcases ZW with _ | ZW
    · rw [ak.j0] at H; cases H
    rw [ak.j0] at H
    refine gs (rg (al ac (sv (co ac) zZ (au ac (re (gs (gb ?_)))))))
    refine lo (fun kk S => ∃ (fV : List ah) (tE : Int) (vT : Int) (tD : Int) (pL : Int) (mQ : Int) (eF : Int) (gM : Int) (kQ : Int),kk ≤ ZW ∧ ak.l4 kk fV tE vT tD pL mQ eF gM kQ = some r0 ∧ fV.length = l0.length ∧ S = ⟨[(0,.slice ay fV.length az),(1,.int .i64 tE),(2,.int .i64 vT),(3,.int .i64 tD),(4,.func (.func 65) #[] #[]),(18,.int .i64 pL),(19,.int .i64 mQ),(20,.int .i64 eF),(21,.int .i64 gM),(22,.int .i64 kQ)],[],[.sl 1 ai ay az fV 1 false]⟩) (fun S hS => ?_) (fun n4 ih4 S hS => ?_) ⟨wj,Ij,Ii,ii,DJ,zw,DI,DH,wrap64 (zw - 1),by omega,H,(by first | rfl | assumption | omega | (simp only [List.length_set]; first | done | assumption | omega)),zZ⟩ (fun h => wk [0,1,2,3,4,18,19,20,21,22] [] [(gh 0 1 1)] h)
    · clear H; obtain ⟨_,_,_,_,_,_,_,_,_,_,H,_⟩ := hS; rw [ak.l4] at H; cases H
    clear H
    obtain ⟨fV,tE,vT,tD,pL,mQ,eF,gM,kQ,lk4,H,ex27_ml0,rfl⟩ := hS
    rw [ak.l4] at H
    refine gs (gs (rg (al ac (al ac (sv (bS ac) zZ (re ?_))))))
    revert H; refine aJ ?_ ?_ <;> intro Ot H
    ·
     refine gt zZ (dT Ot) (gk (gb (gs (rg (al ac (al ac (sv (ba ac) zZ (sv (mJ (k' := .u64) zZ) zZ (sv (GE zZ zZ dq) zZ (sv (mJ (k' := .i64) zZ) zZ (au ac (re (aB [0,1,2,3,4,18,19,20,21,22,23] [] [0] ae (gs ?_))))))))))))))
     revert H; refine aU ?_; intro g65 H
     revert H; refine aU ?_; intro g66 H
     revert H; refine aU ?_; intro Ul H
     revert H; refine aU ?_; intro LC H
     refine fj [] [0] [] 14 ae (ap 0 [] [0] zZ (aA zZ) ae (ap 1 [] [0] zZ (aA zZ) ae (ap 2 [] [0] zZ (aA zZ) ae (ap 3 [] [0] zZ (aA zZ) ae (ap 4 [] [0] zZ (co ac) ae (ap 5 [] [0] zZ (aM 0 ag g65 g66 zZ) ae (ap 6 [] [0] zZ (bg (v := .agg #[.int .i64 ((aa fV (wrap64 (kQ - (IntKind.i64.wrap (eo (IntKind.u64.wrap (wrap64 (eF + gM))) 1))))).f0),.int .i64 ((aa fV (wrap64 (kQ - (IntKind.i64.wrap (eo (IntKind.u64.wrap (wrap64 (eF + gM))) 1))))).f1),.int .i64 ((aa fV (wrap64 (kQ - (IntKind.i64.wrap (eo (IntKind.u64.wrap (wrap64 (eF + gM))) 1))))).f2)]) (wrap64 (kQ - (IntKind.i64.wrap (eo (IntKind.u64.wrap (wrap64 (eF + gM))) 1)))) 0 (some 3) 0 cK zZ zZ zZ g65 g66 zZ zZ zZ) ae (ap 7 [] [0] zZ (aA zZ) ae (ap 8 [] [0] zZ (aA zZ) ae (ap 9 [] [0] zZ (aM 0 ag Ul LC zZ) ae (ap 10 [] [0] zZ (bg (v := .agg #[.int .i64 ((aa fV (IntKind.i64.wrap (eo (IntKind.u64.wrap (wrap64 (eF + gM))) 1))).f0),.int .i64 ((aa fV (IntKind.i64.wrap (eo (IntKind.u64.wrap (wrap64 (eF + gM))) 1))).f1),.int .i64 ((aa fV (IntKind.i64.wrap (eo (IntKind.u64.wrap (wrap64 (eF + gM))) 1))).f2)]) (IntKind.i64.wrap (eo (IntKind.u64.wrap (wrap64 (eF + gM))) 1)) 0 (some 3) 0 cK zZ zZ zZ Ul LC zZ zZ zZ) ae (ar 11 ac ?_))))))))))))
     revert H; refine aS ?_; rintro t69 A69 H
     refine XT (f := 65) zZ (ax (dB.ok ((aa fV (wrap64 (kQ - (IntKind.i64.wrap (eo (IntKind.u64.wrap (wrap64 (eF + gM))) 1))))).f0) ((aa fV (wrap64 (kQ - (IntKind.i64.wrap (eo (IntKind.u64.wrap (wrap64 (eF + gM))) 1))))).f1) ((aa fV (wrap64 (kQ - (IntKind.i64.wrap (eo (IntKind.u64.wrap (wrap64 (eF + gM))) 1))))).f2) ((aa fV (IntKind.i64.wrap (eo (IntKind.u64.wrap (wrap64 (eF + gM))) 1))).f0) ((aa fV (IntKind.i64.wrap (eo (IntKind.u64.wrap (wrap64 (eF + gM))) 1))).f1) ((aa fV (IntKind.i64.wrap (eo (IntKind.u64.wrap (wrap64 (eF + gM))) 1))).f2) _ A69) [] 2 aG ?_)
     rintro _ _ _ ⟨rfl,rfl,rfl⟩
     refine aN [] [0] ag (ap 12 [] [0] zZ (bS ac) ae (ap 13 [] [0] zZ (eE zZ) ae (xd (aB [0,1,2,3,4,18,19,20,21,22,23,171] [] [0] ae ?_))))
     revert H; refine aJ ?_ ?_ <;> intro RO H
     ·
      exact gf zZ (nF RO) (rg (al ac (au ac (re (ge (wk [0,1,2,3,4,18,19,20,21,22] [] [(gh 0 1 1)] (ih4 _ (by omega) _ ⟨fV,tE,vT,tD,pL,mQ,eF,IntKind.i64.wrap (eo (IntKind.u64.wrap (wrap64 (eF + gM))) 1),kQ,by omega,H,(by first | rfl | assumption | omega | (simp only [List.length_set]; first | done | assumption | omega)),zZ⟩)))))))
     ·
      exact gt zZ (nT RO) (rg (al ac (sv (ba ac) zZ (au ac (re (ge (wk [0,1,2,3,4,18,19,20,21,22] [] [(gh 0 1 1)] (ih4 _ (by omega) _ ⟨fV,tE,vT,tD,pL,mQ,wrap64 ((IntKind.i64.wrap (eo (IntKind.u64.wrap (wrap64 (eF + gM))) 1)) + 1),gM,kQ,by omega,H,(by first | rfl | assumption | omega | (simp only [List.length_set]; first | done | assumption | omega)),zZ⟩))))))))
    ·
     refine gf zZ (dF Ot) (gx zZ (gs (rg (al ac (al ac (sv (co ac) zZ (au ac (re (aB [0,1,2,3,4,18,20,24] [] [0] ae ?_)))))))))
     refine jo (fun S => ∃ (m : Nat) (pu : List ah) (FR : Int) (yF : Int) (rJ : Int) (zv : Int) (vI : Int),m ≤ n4 ∧ ak.j1 m pu FR yF rJ zv vI = some r0 ∧ pu.length = l0.length ∧ S = ⟨[(0,.slice ay pu.length az),(1,.int .i64 FR),(3,.int .i64 yF),(4,.func (.func 65) #[] #[]),(18,.int .i64 rJ),(20,.int .i64 zv),(24,.int .i64 vI)],[],[.sl 1 ai ay az pu 1 false]⟩) (fun S hS => ?_) (fun xj => ?_)
     ·
      clear H
      obtain ⟨XI,pu,FR,yF,rJ,zv,vI,lm71,H,ex30_ml0,rfl⟩ := hS
      rcases XI with _ | XI
      · rw [ak.j1] at H; cases H
      rw [ak.j1] at H
      refine jo (fun S => ∃ (m : Nat) (tA : List ah) (FQ : Int) (BP : Int) (zu : Int),m ≤ XI ∧ ak.j2 m tA FQ BP zu = some r0 ∧ tA.length = l0.length ∧ S = ⟨[(0,.slice ay tA.length az),(3,.int .i64 FQ),(4,.func (.func 65) #[] #[]),(18,.int .i64 BP),(24,.int .i64 zu)],[],[.sl 1 ai ay az tA 1 false]⟩) (fun S hS => ?_) (fun JO => ?_)
      ·
       clear H
       obtain ⟨ZV,tA,FQ,BP,zu,lm72,H,ex31_ml0,rfl⟩ := hS
       rcases ZV with _ | ZV
       · rw [ak.j2] at H; cases H
       rw [ak.j2] at H
       refine gs (rg (al ac (al ac (sv (bS ac) zZ (al ac ?_)))))
       revert H; refine aJ ?_ ?_ <;> intro c73 H
       ·
        refine ts 209 zZ (dT c73) (al ac (al ac (sv (bS ac) zZ (sv (aQ ag) zZ (re (aB [0,3,4,18,24,213] [] [0] ae ?_))))))
        revert H; refine aJ ?_ ?_ <;> intro U7 H
        ·
         refine gt zZ (dT U7) (rg (al ac (al ac (al ac (al ac (al ac ?_))))))
         revert H; refine aS ?_; rintro Hz V9 H
         refine so zZ (bb ((ih ZV (by omega)) tA ay az BP zu FQ _ V9) [(gh 0 1 1)] [] [] 2 ep ?_)
         rintro _ _ _ ⟨rfl,rfl,rfl,XF⟩
         refine br 0 (v' := .slice ay Hz.length az) zZ (bq _ _ XF) (br 214 (v' := .slice ay Hz.length az) zZ (bq _ _ XF) (bR (en := [.sl 1 ai ay az Hz 3 false]) kK (re (aB [] [] [0] ae ?_))))
         cases H
         exact GS Tryz.func108 zZ .nil zZ [] [(gh 0 1 1)] zZ zZ zZ zZ zZ ⟨zZ,zZ,zZ,by first | rfl | assumption | omega | (simp only [List.length_set]; first | done | assumption | omega)⟩
        ·
         refine gf zZ (dF U7) (gk ?_)
         cases H
         exact GS Tryz.func108 zZ .nil zZ [] [(gh 0 1 1)] zZ zZ zZ zZ zZ ⟨zZ,zZ,zZ,by first | rfl | assumption | omega | (simp only [List.length_set]; first | done | assumption | omega)⟩
       ·
        refine ts 209 zZ (dF c73) (sk zZ (sk zZ (sk zZ (sv (aI ag) zZ (re (aB [0,3,4,18,24,213] [] [0] ae (gf zZ zZ (gk ?_))))))))
        cases H
        exact GS Tryz.func108 zZ .nil zZ [] [(gh 0 1 1)] zZ zZ zZ zZ zZ ⟨zZ,zZ,zZ,by first | rfl | assumption | omega | (simp only [List.length_set]; first | done | assumption | omega)⟩
      ·
       refine gs (rg (al ac (al ac (sv (bS ac) zZ (al ac ?_)))))
       revert H; refine aJ ?_ ?_ <;> intro U6 H
       ·
        refine ts 195 zZ (dT U6) (al ac (al ac (sv (bS ac) zZ (sv (aQ ag) zZ (re (aB [0,1,3,4,18,20,24,199] [] [0] ae ?_))))))
        revert H; refine aJ ?_ ?_ <;> intro U5 H
        ·
         refine gt zZ (dT U5) (rg (al ac (al ac (al ac (al ac (al ac ?_))))))
         revert H; refine aS ?_; rintro Rm A78 H
         refine so zZ (bb ((ih XI (by omega)) pu ay az FR zv rJ _ A78) [(gh 0 1 1)] [] [] 2 ep ?_)
         rintro _ _ _ ⟨rfl,rfl,rfl,XE⟩
         exact br 0 (v' := .slice ay Rm.length az) zZ (bq _ _ XE) (br 200 (v' := .slice ay Rm.length az) zZ (bq _ _ XE) (bR (en := [.sl 1 ai ay az Rm 3 false]) kK (re (aB [0,3,4,18,24] [] [0] ae (wk [0,3,4,18,24] [] [(gh 0 1 1)] (JO _ ⟨_,Rm,yF,rJ,vI,by omega,H,(by first | rfl | assumption | omega | (simp only [List.length_set]; first | done | assumption | omega)),zZ⟩))))))
        ·
         exact gf zZ (dF U5) (gk (wk [0,3,4,18,24] [] [(gh 0 1 1)] (JO _ ⟨_,pu,yF,rJ,vI,by omega,H,(by first | rfl | assumption | omega | (simp only [List.length_set]; first | done | assumption | omega)),zZ⟩)))
       ·
        exact ts 195 zZ (dF U6) (sk zZ (sk zZ (sk zZ (sv (aI ag) zZ (re (aB [0,1,3,4,18,20,24,199] [] [0] ae (gf zZ zZ (gk (wk [0,3,4,18,24] [] [(gh 0 1 1)] (JO _ ⟨_,pu,yF,rJ,vI,by omega,H,(by first | rfl | assumption | omega | (simp only [List.length_set]; first | done | assumption | omega)),zZ⟩))))))))))
     ·
      refine gs (rg (al ac (al ac (sv (bS ac) zZ (al ac ?_)))))
      revert H; refine aJ ?_ ?_ <;> intro c79 H
      ·
       refine ts 181 zZ (dT c79) (al ac (al ac (sv (bS ac) zZ (sv (aQ ag) zZ (re (aB [0,1,2,3,4,18,20,24,185] [] [0] ae ?_))))))
       revert H; refine aJ ?_ ?_ <;> intro U4 H
       ·
        refine gt zZ (dT U4) (rg (al ac (al ac (al ac (al ac (al ac ?_))))))
        revert H; refine aS ?_; rintro Lf V7 H
        refine so zZ (bb (cm.ok n4 fV ay az eF vT (wrap64 (mQ - eF)) _ V7) [(gh 0 1 1)] [] [] 2 ep ?_)
        rintro _ _ _ ⟨rfl,rfl,rfl,XD⟩
        exact br 0 (v' := .slice ay Lf.length az) zZ (bq _ _ XD) (br 186 (v' := .slice ay Lf.length az) zZ (bq _ _ XD) (bR (en := [.sl 1 ai ay az Lf 3 false]) kK (re (aB [0,1,3,4,18,20,24] [] [0] ae (wk [0,1,3,4,18,20,24] [] [(gh 0 1 1)] (xj _ ⟨_,Lf,tE,tD,pL,eF,wrap64 (mQ - eF),by omega,H,(by first | rfl | assumption | omega | (simp only [List.length_set]; first | done | assumption | omega)),zZ⟩))))))
       ·
        exact gf zZ (dF U4) (gk (wk [0,1,3,4,18,20,24] [] [(gh 0 1 1)] (xj _ ⟨_,fV,tE,tD,pL,eF,wrap64 (mQ - eF),by omega,H,(by first | rfl | assumption | omega | (simp only [List.length_set]; first | done | assumption | omega)),zZ⟩)))
      ·
       exact ts 181 zZ (dF c79) (sk zZ (sk zZ (sk zZ (sv (aI ag) zZ (re (aB [0,1,2,3,4,18,20,24,185] [] [0] ae (gf zZ zZ (gk (wk [0,1,3,4,18,20,24] [] [(gh 0 1 1)] (xj _ ⟨_,fV,tE,tD,pL,eF,wrap64 (mQ - eF),by omega,H,(by first | rfl | assumption | omega | (simp only [List.length_set]; first | done | assumption | omega)),zZ⟩))))))))))
   ·
    refine gs (rg (al ac (al ac (sv (dV ac) zZ (re (aB [0,1,2,3,4,18,19,140] [] [0] ae ?_))))))
    revert H; refine aJ ?_ ?_ <;> intro Oo H
    ·
     exact gt zZ (dT Oo) (gs (rg (al ac (al ac (sv (co ac) zZ (au ac (re (rg (al ac (au ac (re (wk [0,1,2,3,4,18,19,20,21] [] [(gh 0 1 1)] (gw _ ⟨_,l0,a1,a2,a3,IntKind.i64.wrap (eo (IntKind.u64.wrap (wrap64 (a1 + a3))) 1),wrap64 ((IntKind.i64.wrap (eo (IntKind.u64.wrap (wrap64 (a1 + a3))) 1)) + a2),wrap64 ((wrap64 ((IntKind.i64.wrap (eo (IntKind.u64.wrap (wrap64 (a1 + a3))) 1)) + a2)) - a3),IntKind.i64.wrap (eo (IntKind.u64.wrap (wrap64 (a1 + a3))) 1),by omega,H,(by first | rfl | assumption | omega | (simp only [List.length_set]; first | done | assumption | omega)),zZ⟩)))))))))))))
    ·
     exact gf zZ (dF Oo) (gs (rg (al ac (au ac (re (rg (al ac (au ac (re (wk [0,1,2,3,4,18,19,20,21] [] [(gh 0 1 1)] (gw _ ⟨_,l0,a1,a2,a3,IntKind.i64.wrap (eo (IntKind.u64.wrap (wrap64 (a1 + a3))) 1),wrap64 ((IntKind.i64.wrap (eo (IntKind.u64.wrap (wrap64 (a1 + a3))) 1)) + a2),a1,a2,by omega,H,(by first | rfl | assumption | omega | (simp only [List.length_set]; first | done | assumption | omega)),zZ⟩)))))))))))
theorem ak.ok (k : Nat) (l0 : List ah) (ay : Option Addr) (az : Nat) (a1 : Int) (a2 : Int) (a3 : Int) (r0 : List ah) (h : ak.f k l0 a1 a2 a3 = some r0) : Fn Tryz.prog 108 [.slice ay l0.length az,.int .i64 a1,.int .i64 a2,.int .i64 a3,.func (.func 65) #[] #[]] [] [.sl 1 ai ay az l0 1 false] (fun v bx en => v = .tuple #[] ∧ bx = [] ∧ en = [.sl 1 ai ay az r0 1 false] ∧ r0.length = l0.length) := ak.ok_ k k (Nat.le_refl k) l0 ay az a1 a2 a3 r0 h
mutual
def aX.l2 : Nat → (List ah) → Int → Int → Int → Int → Option ((List ah))
 | 0,_,_,_,_,_ => none
 | k + 1,bQ,kJ,pV,uO,w5 => if w5 ≤ kJ then ((ak.f k bQ uO (wrap64 (uO + pV)) w5).bind fun t6 => (aX.l2 k t6 kJ pV w5 (wrap64 (w5 + (wrap64 (2 * pV)))))) else (if (wrap64 (uO + pV)) < kJ then ((ak.f k bQ uO (wrap64 (uO + pV)) kJ).bind fun t8 => (aX.l1 k t8 kJ (wrap64 (pV * 2)))) else (aX.l1 k bQ kJ (wrap64 (pV * 2))))
def aX.l1 : Nat → (List ah) → Int → Int → Option ((List ah))
 | 0,_,_,_ => none
 | k + 1,fW,kV,FM => if FM < kV then (aX.l2 k fW kV FM 0 (wrap64 (2 * FM))) else (some fW)
def aX.l0 : Nat → (List ah) → Int → Int → Int → Int → Option ((List ah))
 | 0,_,_,_,_,_ => none
 | k + 1,jx,kM,dt,bV,cQ => if cQ ≤ kM then ((aV.f k jx bV cQ).bind fun t2 => (aX.l0 k t2 kM dt cQ (wrap64 (cQ + dt)))) else ((aV.f k jx bV kM).bind fun t3 => (aX.l1 k t3 kM dt))
end
def aX.f (k : Nat) (l0 : List ah) (a1 : Int) : Option ((List ah)) := aX.l0 k l0 a1 20 0 20
theorem aX.ok (k : Nat) (l0 : List ah) (ay : Option Addr) (az : Nat) (a1 : Int) (r0 : List ah) (H : aX.f k l0 a1 = some r0) : Fn Tryz.prog 106 [.slice ay l0.length az,.int .i64 a1,.func (.func 65) #[] #[]] [] [.sl 1 ai ay az l0 1 false] (fun v bx en => v = .tuple #[] ∧ bx = [] ∧ en = [.sl 1 ai ay az r0 1 false] ∧ r0.length = l0.length) := by
 refine eD 63 Tryz.func106 zZ zZ zZ (fun base T w0 => ?_)
 rw [aX.f] at H
 refine gs (rg (au ac (re (gs (rg (al ac (au ac (au ac (re (gs (gb ?_)))))))))))
 refine lo (fun kk S => ∃ (jx : List ah) (kM : Int) (dt : Int) (bV : Int) (cQ : Int),aX.l0 kk jx kM dt bV cQ = some r0 ∧ jx.length = l0.length ∧ S = ⟨[(0,.slice ay jx.length az),(1,.int .i64 kM),(2,.func (.func 65) #[] #[]),(6,.int .i64 dt),(7,.int .i64 bV),(8,.int .i64 cQ)],[],[.sl 1 ai ay az jx 1 false]⟩) (fun S hS => ?_) (fun n0 cZ S hS => ?_) ⟨l0,a1,20,0,20,H,(by first | rfl | assumption | omega | (simp only [List.length_set]; first | done | assumption | omega)),zZ⟩ (fun h => wk [0,1,2,6,7,8] [] [(gh 0 1 1)] h)
 · clear H; obtain ⟨_,_,_,_,_,H,_⟩ := hS; rw [aX.l0] at H; cases H
 clear H
 obtain ⟨jx,kM,dt,bV,cQ,H,ex2_ml0,rfl⟩ := hS
 rw [aX.l0] at H
 refine gs (gs (rg (al ac (al ac (sv (jv ac) zZ (re ?_))))))
 revert H; refine aJ ?_ ?_ <;> intro c1 H
 ·
  refine gt zZ (dT c1) (gk (gb (gs (rg (al ac (al ac (al ac (al ac ?_))))))))
  revert H; refine aS ?_; rintro t2 A2 H
  refine so zZ (bb (aV.ok n0 jx ay az bV cQ _ A2) [(gh 0 1 1)] [] [] 2 ep ?_)
  rintro _ _ _ ⟨rfl,rfl,rfl,Ga⟩
  exact br 0 (v' := .slice ay t2.length az) zZ (bq _ _ Ga) (br 14 (v' := .slice ay t2.length az) zZ (bq _ _ Ga) (bR (en := [.sl 1 ai ay az t2 3 false]) kK (re (aB [0,1,2,6,8] [] [0] ae (gs (rg (al ac (au ac (re (rg (al ac (al ac (sv (ba ac) zZ (au ac (re (ge (wk [0,1,2,6,7,8] [] [(gh 0 1 1)] (cZ _ (by omega) _ ⟨t2,kM,dt,cQ,wrap64 (cQ + dt),H,(by first | rfl | assumption | omega | (simp only [List.length_set]; first | done | assumption | omega)),zZ⟩))))))))))))))))))
 ·
  refine gf zZ (dF c1) (gx zZ (gs (rg (al ac (al ac (al ac (al ac ?_)))))))
  revert H; refine aS ?_; rintro t3 A3 H
  refine so zZ (bb (aV.ok n0 jx ay az bV kM _ A3) [(gh 0 1 1)] [] [] 2 ep ?_)
  rintro _ _ _ ⟨rfl,rfl,rfl,ZL⟩
  refine br 0 (v' := .slice ay t3.length az) zZ (bq _ _ ZL) (br 23 (v' := .slice ay t3.length az) zZ (bq _ _ ZL) (bR (en := [.sl 1 ai ay az t3 3 false]) kK (re (aB [0,1,2,6] [] [0] ae (gb ?_)))))
  refine lo (fun kk S => ∃ (fW : List ah) (kV : Int) (FM : Int),kk ≤ n0 ∧ aX.l1 kk fW kV FM = some r0 ∧ fW.length = l0.length ∧ S = ⟨[(0,.slice ay fW.length az),(1,.int .i64 kV),(2,.func (.func 65) #[] #[]),(6,.int .i64 FM)],[],[.sl 1 ai ay az fW 1 false]⟩) (fun S hS => ?_) (fun n1 xO S hS => ?_) ⟨t3,kM,dt,by omega,H,(by first | rfl | assumption | omega | (simp only [List.length_set]; first | done | assumption | omega)),zZ⟩ (fun h => wk [0,1,2,6] [] [(gh 0 1 1)] h)
  · clear H; obtain ⟨_,_,_,_,H,_⟩ := hS; rw [aX.l1] at H; cases H
  clear H
  obtain ⟨fW,kV,FM,ZX,H,ex8_ml0,rfl⟩ := hS
  rw [aX.l1] at H
  refine gs (gs (rg (al ac (al ac (sv (bS ac) zZ (re ?_))))))
  revert H; refine aJ ?_ ?_ <;> intro c4 H
  ·
   refine gt zZ (dT c4) (gk (gb (gs (rg (al ac (sv (uI zZ zZ) zZ (au ac (au ac (re (gs (gb ?_)))))))))))
   refine lo (fun kk S => ∃ (bQ : List ah) (kJ : Int) (pV : Int) (uO : Int) (w5 : Int),kk ≤ n1 ∧ aX.l2 kk bQ kJ pV uO w5 = some r0 ∧ bQ.length = l0.length ∧ S = ⟨[(0,.slice ay bQ.length az),(1,.int .i64 kJ),(2,.func (.func 65) #[] #[]),(6,.int .i64 pV),(7,.int .i64 uO),(8,.int .i64 w5)],[],[.sl 1 ai ay az bQ 1 false]⟩) (fun S hS => ?_) (fun n2 XK S hS => ?_) ⟨fW,kV,FM,0,wrap64 (2 * FM),by omega,H,(by first | rfl | assumption | omega | (simp only [List.length_set]; first | done | assumption | omega)),zZ⟩ (fun h => wk [0,1,2,6,7,8] [] [(gh 0 1 1)] h)
   · clear H; obtain ⟨_,_,_,_,_,_,H,_⟩ := hS; rw [aX.l2] at H; cases H
   clear H
   obtain ⟨bQ,kJ,pV,uO,w5,lk2,H,ex12_ml0,rfl⟩ := hS
   rw [aX.l2] at H
   refine gs (gs (rg (al ac (al ac (sv (jv ac) zZ (re ?_))))))
   revert H; refine aJ ?_ ?_ <;> intro c5 H
   ·
    refine gt zZ (dT c5) (gk (gb (gs (rg (al ac (al ac (al ac (al ac (sv (ba ac) zZ (al ac (al ac ?_)))))))))))
    revert H; refine aS ?_; rintro t6 A6 H
    refine so zZ (bb (ak.ok n2 bQ ay az uO (wrap64 (uO + pV)) w5 _ A6) [(gh 0 1 1)] [] [] 2 ep ?_)
    rintro _ _ _ ⟨rfl,rfl,rfl,ZI⟩
    exact br 0 (v' := .slice ay t6.length az) zZ (bq _ _ ZI) (br 36 (v' := .slice ay t6.length az) zZ (bq _ _ ZI) (bR (en := [.sl 1 ai ay az t6 3 false]) kK (re (aB [0,1,2,6,8] [] [0] ae (gs (rg (al ac (au ac (re (rg (al ac (al ac (sv (uI zZ zZ) zZ (sv (ba ac) zZ (au ac (re (ge (wk [0,1,2,6,7,8] [] [(gh 0 1 1)] (XK _ (by omega) _ ⟨t6,kJ,pV,w5,wrap64 (w5 + (wrap64 (2 * pV))),by omega,H,(by first | rfl | assumption | omega | (simp only [List.length_set]; first | done | assumption | omega)),zZ⟩)))))))))))))))))))
   ·
    refine gf zZ (dF c5) (gx zZ (gs (gs (rg (al ac (al ac (sv (ba ac) zZ (au ac (re (aB [0,1,2,6,7,9] [] [0] ae (gs (rg (al ac (al ac (sv (bS ac) zZ (re ?_))))))))))))))))
    revert H; refine aJ ?_ ?_ <;> intro c7 H
    ·
     refine gt zZ (dT c7) (rg (al ac (al ac (al ac (al ac (al ac ?_))))))
     revert H; refine aS ?_; rintro t8 A8 H
     refine so zZ (bb (ak.ok n2 bQ ay az uO (wrap64 (uO + pV)) kJ _ A8) [(gh 0 1 1)] [] [] 2 ep ?_)
     rintro _ _ _ ⟨rfl,rfl,rfl,ZH⟩
     exact br 0 (v' := .slice ay t8.length az) zZ (bq _ _ ZH) (br 55 (v' := .slice ay t8.length az) zZ (bq _ _ ZH) (bR (en := [.sl 1 ai ay az t8 3 false]) kK (re (aB [0,1,2,6] [] [0] ae (rg (al ac (sv (uI zZ zZ) zZ (au ac (re (ge (wk [0,1,2,6] [] [(gh 0 1 1)] (xO _ (by omega) _ ⟨t8,kJ,wrap64 (pV * 2),by omega,H,(by first | rfl | assumption | omega | (simp only [List.length_set]; first | done | assumption | omega)),zZ⟩))))))))))))
    ·
     exact gf zZ (dF c7) (gk (rg (al ac (sv (uI zZ zZ) zZ (au ac (re (aB [0,1,2,6] [] [0] ae (ge (wk [0,1,2,6] [] [(gh 0 1 1)] (xO _ (by omega) _ ⟨bQ,kJ,wrap64 (pV * 2),by omega,H,(by first | rfl | assumption | omega | (simp only [List.length_set]; first | done | assumption | omega)),zZ⟩))))))))))
  ·
   refine gf zZ (dF c4) (gx zZ ?_)
   cases H
   exact GS Tryz.func106 zZ .nil zZ [] [(gh 0 1 1)] zZ zZ zZ zZ zZ ⟨zZ,zZ,zZ,by first | rfl | assumption | omega | (simp only [List.length_set]; first | done | assumption | omega)⟩
def eg.f (k : Nat) (l0 : List ah) : Option ((List ah)) := (aX.f k l0 (l0.length : Int)).bind fun t1 => (some t1)
theorem eg.ok (k : Nat) (l0 : List ah) (ay : Option Addr) (az : Nat) (r0 : List ah) (H : eg.f k l0 = some r0) : Fn Tryz.prog 105 [.slice ay l0.length az,.func (.func 65) #[] #[]] [] [.sl 1 ai ay az l0 1 false] (fun v bx en => v = .tuple #[] ∧ bx = [] ∧ en = [.sl 1 ai ay az r0 1 false] ∧ r0.length = l0.length) := by
 refine eD 9 Tryz.func105 zZ zZ zZ (fun base T w0 => ?_)
 rw [eg.f] at H
 refine rg (al ac (al ac (sv (bG zZ) zZ (al ac ?_))))
 revert H; refine aS ?_; rintro t1 A1 H
 refine so zZ (bb (aX.ok k l0 ay az (l0.length : Int) _ A1) [(gh 0 1 1)] [] [] 2 ep ?_)
 rintro _ _ _ ⟨rfl,rfl,rfl,WE⟩
 refine br 0 (v' := .slice ay t1.length az) zZ (bq _ _ WE) (br 4 (v' := .slice ay t1.length az) zZ (bq _ _ WE) (br 5 (v' := .slice ay t1.length az) zZ (bq _ _ WE) (bR (en := [.sl 1 ai ay az t1 3 false]) kK (re (aB [] [] [0] ae ?_)))))
 cases H
 exact GS Tryz.func105 zZ .nil zZ [] [(gh 0 1 1)] zZ zZ zZ zZ zZ ⟨zZ,zZ,zZ,by first | rfl | assumption | omega | (simp only [List.length_set]; first | done | assumption | omega)⟩
def hP.f (l0 : List ah) : Option ((List ah)) := if l0.length ≤ 5864062014805 then (some l0) else none
theorem hP.ok (l0 : List ah) (ay : Option Addr) (az : Nat) (r0 : List ah) (H : hP.f l0 = some r0) : Fn Tryz.prog 94 [.slice ay l0.length az] [] [.sl 0 ai ay az l0 0 false] (fun v bx en => ∃ A0 c0,v = .slice A0 r0.length c0 ∧ bx = [] ∧ en = [.sl 2 ai A0 c0 r0 1 true]) := by
 refine eD 5 Tryz.func94 zZ zZ zZ (fun base T w0 => ?_)
 rw [hP.f] at H
 refine gs (rg (au ac (re (gs (rg (al ac (aR ai 1 dq ?_)))))))
 revert H; refine aU ?_; intro g1 H
 refine so zZ (di (k := ai) (s := 3) (by_ := 24) 1 0 ae (Mm g1 dq) (GB g1 dq) (.inl zZ) true (fun _ => .inl zZ) ac fun afU afI => (bR (en := [.sl 0 ai ay az l0 0 false,.sl 2 ai afU afI l0 1 true]) kK (au ac (re ?_))))
 cases H
 exact rt Tryz.func94 zZ (.tmp zZ .nil) zZ [] [(aj 1 2 1)] zZ zZ zZ zZ zZ ⟨_,_,zZ,zZ,zZ⟩
def lQ.f (k : Nat) (l0 : List ah) : Option ((List ah)) := (hP.f l0).bind fun t1 => ((eg.f k t1).bind fun t2 => (some t2))
theorem lQ.ok (k : Nat) (l0 : List ah) (ay : Option Addr) (az : Nat) (r0 : List ah) (H : lQ.f k l0 = some r0) : Fn Tryz.prog 103 [.slice ay l0.length az] [] [.sl 0 ai ay az l0 0 false] (fun v bx en => ∃ A0 c0,v = .slice A0 r0.length c0 ∧ bx = [] ∧ en = [.sl 1 ai A0 c0 r0 1 false]) := by
 refine eD 9 Tryz.func103 zZ zZ zZ (fun base T w0 => ?_)
 rw [lQ.f] at H
 refine gs (rg (au ac (re (gs (rg (al ac ?_))))))
 revert H; refine aS ?_; rintro t1 A1 H
 refine so zZ (ax (hP.ok l0 ay az _ A1) [(aw 0)] 1 aG ?_)
 rintro _ _ _ ⟨iF,iE,rfl,rfl,rfl⟩
 refine au ac (re (gs (rg (al ac ?_))))
 revert H; refine aS ?_; rintro t2 A2 H
 refine so zZ (bb (eg.ok k t1 iF iE _ A2) [(gh 1 1 1)] [] [] 3 ep ?_)
 rintro _ _ _ ⟨rfl,rfl,rfl,Ga⟩
 refine br 5 (v' := .slice iF t2.length iE) zZ (bq _ _ Ga) (br 3 (v' := .slice iF t2.length iE) zZ (bq _ _ Ga) (br 6 (v' := .slice iF t2.length iE) zZ (bq _ _ Ga) (bR (en := [.sl 0 ai ay az l0 0 false,.sl 1 ai iF iE t2 4 false]) kK (re (aB [3] [] [1] ae (gs (rg (al ac (au ac (re ?_))))))))))
 cases H
 exact rt Tryz.func103 zZ (.tmp zZ .nil) zZ [] [(gh 0 1 1)] zZ zZ zZ zZ zZ ⟨_,_,zZ,zZ,zZ⟩
def jj.f (k : Nat) (l0 : List ah) (l1 : List ah) : Option (Bool) := if (l0.length : Int) = (l1.length : Int) then ((lQ.f k l0).bind fun t2 => ((lQ.f k l1).bind fun t3 => ((eP.f k t2 t3).bind fun t4 => (some t4)))) else (some false)
theorem jj.ok (k : Nat) (l0 : List ah) (ay : Option Addr) (az : Nat) (l1 : List ah) (i9 : Option Addr) (i7 : Nat) (r0 : Bool) (H : jj.f k l0 l1 = some r0) : Fn Tryz.prog 79 [.slice ay l0.length az,.slice i9 l1.length i7] [] [.sl 0 ai ay az l0 0 false,.sl 0 ai i9 i7 l1 0 false] (fun v bx en => v = .bool r0 ∧ bx = [] ∧ en = []) := by
 refine eD 17 Tryz.func79 zZ zZ zZ (fun base T w0 => ?_)
 rw [jj.f] at H
 refine gs (rg (au ac (re (gs (rg (al ac (sv (bG zZ) zZ (al ac (sv (bG zZ) zZ (sv (bZ ac) zZ (al ac ?_)))))))))))
 revert H; refine aJ ?_ ?_ <;> intro c1 H
 ·
  refine ts 10 zZ (dT c1) (al ac ?_)
  revert H; refine aS ?_; rintro t2 A2 H
  refine so zZ (ax (lQ.ok k l0 ay az _ A2) [(aw 0)] 1 aG ?_)
  rintro _ _ _ ⟨G2,GX,rfl,rfl,rfl⟩
  refine al ac ?_
  revert H; refine aS ?_; rintro t3 A3 H
  refine so zZ (ax (lQ.ok k l1 i9 i7 _ A3) [(aw 1)] 3 aG ?_)
  rintro _ _ _ ⟨G1,GW,rfl,rfl,rfl⟩
  revert H; refine aS ?_; rintro t4 A4 H
  refine so zZ (ax (eP.ok k t2 G2 GX t3 G1 GW _ A4) [(aw 2),(aw 3)] 5 aG ?_)
  rintro _ _ _ ⟨rfl,rfl,rfl⟩
  refine sv (aQ ag) zZ (au ac (re (aB [4] [] [] ae ?_)))
  cases H
  exact rt Tryz.func79 zZ (.tmp zZ .nil) zZ [] [] zZ zZ zZ zZ zZ ⟨zZ,zZ,zZ⟩
 ·
  refine ts 10 zZ (dF c1) (sk zZ (sk zZ (sk zZ (sk zZ (sk zZ (sv (aI ag) zZ (au ac (re (aB [4] [] [] ae ?_)))))))))
  cases H
  exact rt Tryz.func79 zZ (.tmp zZ .nil) zZ [] [] zZ zZ zZ zZ zZ ⟨zZ,zZ,zZ⟩
def fT.l0 : Nat → (List ah) → Int → Int → (List (List ah)) → Option ((List ah))
 | 0,_,_,_,_ => none
 | k + 1,aY,cQ,eB,l0 => if eB < cQ then (if 0 ≤ eB then (if eB < (l0.length : Int) then (if aY.length + (bu [] l0 eB).length ≤ 5864062014805 then (fT.l0 k (aY ++ (bu [] l0 eB)) cQ (wrap64 (eB + 1)) l0) else none) else none) else none) else (some aY)
def fT.f (k : Nat) (l0 : List (List ah)) : Option ((List ah)) := fT.l0 k [] (l0.length : Int) 0 l0
theorem fT.ok (k : Nat) (l0 : List (List ah)) (ay : Option Addr) (az : Nat) (r0 : List ah) (H : fT.f k l0 = some r0) : Fn Tryz.prog 80 [.slice ay l0.length az] [] [.sl 0 (.slice ai) ay az l0 0 false] (fun v bx en => ∃ A0 c0,v = .slice A0 r0.length c0 ∧ bx = [] ∧ en = [.sl 2 ai A0 c0 r0 1 true]) := by
 refine eD 18 Tryz.func80 zZ zZ zZ (fun base T w0 => ?_)
 rw [fT.f] at H
 refine gs (rg (au ac (re (gs (rg (so zZ (bH (s := 3) (by_ := 24) ai ([] : List ah) [] [] 1 [] dp dq zZ fun GM Gs => (au ac (re (gs (gs (rg (al ac (sv (bG zZ) zZ (al ac (re (gb ?_)))))))))))))))))
 refine lo (fun kk S => ∃ (aY : List ah) (i0 : Option Addr) (iV : Nat) (cQ : Int) (eB : Int),fT.l0 kk aY cQ eB l0 = some r0 ∧ S = ⟨[(3,.slice i0 aY.length iV),(7,.slice ay l0.length az),(8,.int .i64 cQ),(9,.int .i64 eB)],[],[.sl 2 ai i0 iV aY 1 true,.sl 0 (.slice ai) ay az l0 0 false]⟩) (fun S hS => ?_) (fun n0 cZ S hS => ?_) ⟨[],GM,Gs,(l0.length : Int),0,H,zZ⟩ (fun h => wk [3,7,8,9] [] [(aj 1 2 1),(aw 0)] h)
 · clear H; obtain ⟨_,_,_,_,_,H,_⟩ := hS; rw [fT.l0] at H; cases H
 clear H
 obtain ⟨aY,i0,iV,cQ,eB,H,rfl⟩ := hS
 rw [fT.l0] at H
 refine gs (rg (sv (bS ac) zZ (re (gs ?_))))
 revert H; refine aJ ?_ ?_ <;> intro c2 H
 ·
  refine gt zZ (dT c2) (gk (gs (gb (gs (rg ?_)))))
  revert H; refine aU ?_; intro g3 H
  revert H; refine aU ?_; intro g4 H
  refine sv (aM 1 ag g3 g4 zZ) zZ (qt (i := eB) 1 [] zZ g3 g4 fun oB oA => (sv (ig (v := .slice oB (bu [] l0 eB).length oA) 0 none 2 ae) zZ (au ac (re (rg (al ac (al ac ?_)))))))
  revert H; refine aU ?_; intro g6 H
  exact so zZ (di (k := ai) (s := 3) (by_ := 24) 0 3 ae (JY g6 dq) (Du g6 dq) (.inl zZ) true (fun _ => .inl zZ) ac fun MZ Mh => (bR (en := [.sl 0 (.slice ai) ay az l0 0 false,yu ay (eB.toNat * 1) [.slice oB (bu [] l0 eB).length oA] 0,.sl 0 ai oB oA (bu [] l0 eB) 0 false,.sl 2 ai MZ Mh (aY ++ (bu [] l0 eB)) 1 true]) kK (au ac (re (aB [3,7,8,9] [] [0,3] ae (ge (rg (sv (ba ac) zZ (al ac (re (wk [3,7,8,9] [] [(aj 1 2 1),(aw 0)] (cZ _ (by omega) _ ⟨aY ++ (bu [] l0 eB),MZ,Mh,cQ,wrap64 (eB + 1),H,zZ⟩))))))))))))
 ·
  refine gf zZ (dF c2) (gx zZ (gs (rg (al ac (au ac (re (aB [2] [] [0] ae ?_)))))))
  cases H
  exact rt Tryz.func80 zZ (.tmp zZ .nil) zZ [] [(aj 0 2 1)] zZ zZ zZ zZ zZ ⟨_,_,zZ,zZ,zZ⟩
mutual
def cJ.j0 : Nat → (List ah) → (List ah) → (List ah) → Option ((List ah))
 | 0,_,_,_ => none
 | k + 1,dX,dW,mC => if (dW.length : Int) = 0 then (if 0 < (dX.length : Int) then (if mC.length < 5864062014805 then (if 1 ≤ (dX.length : Int) then (cJ.l0 k (dX.drop (1 : Int).toNat) dW (mC ++ ([(⟨(aa dX 0).f0,(aa dX 0).f1,(aa dX 0).f2⟩ : ah)] : List ah))) else none) else none) else none) else (if (dX.length : Int) > 0 then (if 0 < (dX.length : Int) then (if 0 < (dW.length : Int) then ((dB.f ((aa dX 0).f0) ((aa dX 0).f1) ((aa dX 0).f2) ((aa dW 0).f0) ((aa dW 0).f1) ((aa dW 0).f2)).bind fun Au => (if Au ≤ 0 then (if mC.length < 5864062014805 then (if 1 ≤ (dX.length : Int) then (cJ.l0 k (dX.drop (1 : Int).toNat) dW (mC ++ ([(⟨(aa dX 0).f0,(aa dX 0).f1,(aa dX 0).f2⟩ : ah)] : List ah))) else none) else none) else (if mC.length < 5864062014805 then (if 1 ≤ (dW.length : Int) then (cJ.l0 k dX (dW.drop (1 : Int).toNat) (mC ++ ([(⟨(aa dW 0).f0,(aa dW 0).f1,(aa dW 0).f2⟩ : ah)] : List ah))) else none) else none))) else none) else none) else (if 0 < (dW.length : Int) then (if mC.length < 5864062014805 then (if 1 ≤ (dW.length : Int) then (cJ.l0 k dX (dW.drop (1 : Int).toNat) (mC ++ ([(⟨(aa dW 0).f0,(aa dW 0).f1,(aa dW 0).f2⟩ : ah)] : List ah))) else none) else none) else none))
def cJ.l0 : Nat → (List ah) → (List ah) → (List ah) → Option ((List ah))
 | 0,_,_,_ => none
 | k + 1,yH,kJ,fy => if (yH.length : Int) > 0 then (cJ.j0 k yH kJ fy) else (if (kJ.length : Int) > 0 then (cJ.j0 k yH kJ fy) else (some fy))
end
def cJ.f (k : Nat) (l0 : List ah) (l1 : List ah) : Option ((List ah)) := cJ.l0 k l0 l1 []
theorem cJ.ok (k : Nat) (l0 : List ah) (ay : Option Addr) (az : Nat) (l1 : List ah) (i9 : Option Addr) (i7 : Nat) (r0 : List ah) (H : cJ.f k l0 l1 = some r0) : Fn Tryz.prog 81 [.slice ay l0.length az,.slice i9 l1.length i7] [] [.sl 0 ai ay az l0 0 false,.sl 0 ai i9 i7 l1 0 false] (fun v bx en => ∃ A0 c0,v = .slice A0 r0.length c0 ∧ bx = [] ∧ en = [.sl 2 ai A0 c0 r0 1 true]) := by
 refine eD 50 Tryz.func81 zZ zZ zZ (fun base T w0 => ?_)
 rw [cJ.f] at H
 refine gs (rg (au ac (re (gs (rg (so zZ (bH (s := 3) (by_ := 24) ai ([] : List ah) [] [] 1 [] dp dq zZ fun GM Gs => (au ac (re (gs (gb ?_)))))))))))
 refine lo (fun kk S => ∃ (yH : List ah) (Ic : Option Addr) (HW : Nat) (kJ : List ah) (Ib : Option Addr) (HV : Nat) (fy : List ah) (Ia : Option Addr) (HU : Nat),cJ.l0 kk yH kJ fy = some r0 ∧ S = ⟨[(0,.slice Ic yH.length HW),(1,.slice Ib kJ.length HV),(5,.slice Ia fy.length HU)],[],[.sl 0 ai Ic HW yH 0 false,.sl 0 ai Ib HV kJ 0 false,.sl 2 ai Ia HU fy 1 true]⟩) (fun S hS => ?_) (fun n0 cZ S hS => ?_) ⟨l0,ay,az,l1,i9,i7,[],GM,Gs,H,zZ⟩ (fun h => wk [0,1,5] [] [(aw 0),(aw 1),(aj 2 2 1)] h)
 · clear H; obtain ⟨_,_,_,_,_,_,_,_,_,H,_⟩ := hS; rw [cJ.l0] at H; cases H
 clear H
 obtain ⟨yH,Ic,HW,kJ,Ib,HV,fy,Ia,HU,H,rfl⟩ := hS
 rw [cJ.l0] at H
 refine jo (fun S => ∃ (m : Nat) (dX : List ah) (uK : Option Addr) (se : Nat) (dW : List ah) (uJ : Option Addr) (sd : Nat) (mC : List ah) (QL : Option Addr) (P8 : Nat),m ≤ n0 ∧ cJ.j0 m dX dW mC = some r0 ∧ S = ⟨[(0,.slice uK dX.length se),(1,.slice uJ dW.length sd),(5,.slice QL mC.length P8)],[],[.sl 0 ai uK se dX 0 false,.sl 0 ai uJ sd dW 0 false,.sl 2 ai QL P8 mC 1 true]⟩) (fun S hS => ?_) (fun gw => ?_)
 ·
  clear H
  obtain ⟨m2,dX,uK,se,dW,uJ,sd,mC,QL,P8,lm2,H,rfl⟩ := hS
  rcases m2 with _ | m2
  · rw [cJ.j0] at H; cases H
  rw [cJ.j0] at H
  refine gb (gs (fj [] [0,1,2] [] 18 ae (ap 0 [] [0,1,2] zZ (aA zZ) ae (ap 1 [] [0,1,2] zZ (bG zZ) ae (ap 2 [] [0,1,2] zZ (bZ ac) ae (ap 3 [] [0,1,2] zZ (aA zZ) ae ?_))))))
  revert H; refine aJ ?_ ?_ <;> intro c3 H
  ·
   refine ts 18 zZ (dT c3) (bv 4 [] [0,1,2] aG (bv 5 [] [0,1,2] aG (bv 6 [] [0,1,2] aG (bv 7 [] [0,1,2] aG (bv 8 [] [0,1,2] aG (bv 9 [] [0,1,2] aG (bv 10 [] [0,1,2] aG (bv 11 [] [0,1,2] aG (bv 12 [] [0,1,2] aG (bv 13 [] [0,1,2] aG (bv 14 [] [0,1,2] aG (bv 15 [] [0,1,2] aG (bv 16 [] [0,1,2] aG (ap 17 [] [0,1,2] zZ (aQ ag) ae (xd (aB [0,1,5,32] [] [0,1,2] ae (gt zZ zZ (gs (rg (al ac (al ac ?_)))))))))))))))))))))
   revert H; refine aU ?_; intro g4 H
   refine sv (aM 0 ag dq g4 zZ) zZ (sv (bg (v := .agg #[.int .i64 ((aa dX 0).f0),.int .i64 ((aa dX 0).f1),.int .i64 ((aa dX 0).f2)]) 0 0 (some 3) 0 cK zZ zZ zZ dq g4 zZ zZ zZ) zZ (so zZ (bH (s := 3) (by_ := 24) ai ([(⟨(aa dX 0).f0,(aa dX 0).f1,(aa dX 0).f2⟩ : ah)] : List ah) [[]] [] 2 [.tmp 36] dp dq zZ fun adT adx => ?_)))
   revert H; refine aU ?_; intro g6 H
   refine so zZ (di (k := ai) (s := 3) (by_ := 24) 2 3 ae (km g6 dq) (iz g6 dq) (.inl zZ) true (fun _ => .inl zZ) ac fun Yj XZ => (bR (en := [.sl 0 ai uK se dX 0 false,.sl 0 ai uJ sd dW 0 false,.sl 2 ai adT adx ([(⟨(aa dX 0).f0,(aa dX 0).f1,(aa dX 0).f2⟩ : ah)] : List ah) 2 true,.sl 2 ai Yj XZ (mC ++ ([(⟨(aa dX 0).f0,(aa dX 0).f1,(aa dX 0).f2⟩ : ah)] : List ah)) 1 true]) kK (au ac (re (aB [0,1,5] [] [0,1,3] ae (rg (al ac ?_)))))))
   revert H; refine aU ?_; intro g8 H
   exact oY (l' := dX.drop (1 : Int).toNat) 1 (dX.length : Int) 0 zZ dq g8 (Int.le_refl _) zZ 0 dq (.inl dq) JW (sv (lL 1 (dX.length : Int) 0 zZ zZ zZ zZ dq g8 (Int.le_refl _) zZ zZ Ds) zZ (au ac (re (ge (wk [0,1,5] [] [(aw 3),(aw 1),(aj 2 2 1)] (cZ _ (by omega) _ ⟨dX.drop (1 : Int).toNat,(je uK se (1 : Int).toNat 3),(se - (1 : Int).toNat),dW,uJ,sd,mC ++ ([(⟨(aa dX 0).f0,(aa dX 0).f1,(aa dX 0).f2⟩ : ah)] : List ah),Yj,XZ,H,zZ⟩))))))
  ·
   refine ts 18 zZ (dF c3) (ap 4 [] [0,1,2] zZ (aA zZ) ae (ap 5 [] [0,1,2] zZ (bG zZ) ae (ap 6 [] [0,1,2] zZ (dV ac) ae (ap 7 [] [0,1,2] zZ (aA zZ) ae ?_))))
   revert H; refine aJ ?_ ?_ <;> intro c9 H
   ·
    refine ts 22 zZ (dT c9) (ap 8 [] [0,1,2] zZ (aA zZ) ae ?_)
    revert H; refine aU ?_; intro iU H
    refine ap 9 [] [0,1,2] zZ (aM 0 ag dq iU zZ) ae (ap 10 [] [0,1,2] zZ (bg (v := .agg #[.int .i64 ((aa dX 0).f0),.int .i64 ((aa dX 0).f1),.int .i64 ((aa dX 0).f2)]) 0 0 (some 3) 0 cK zZ zZ zZ dq iU zZ zZ zZ) ae (ap 11 [] [0,1,2] zZ (aA zZ) ae ?_))
    revert H; refine aU ?_; intro lR H
    refine ap 12 [] [0,1,2] zZ (aM 1 ag dq lR zZ) ae (ap 13 [] [0,1,2] zZ (bg (v := .agg #[.int .i64 ((aa dW 0).f0),.int .i64 ((aa dW 0).f1),.int .i64 ((aa dW 0).f2)]) 0 0 (some 3) 1 cK zZ zZ zZ dq lR zZ zZ zZ) ae (ar 14 ac ?_))
    revert H; refine aS ?_; rintro Au sE H
    refine ax (dB.ok ((aa dX 0).f0) ((aa dX 0).f1) ((aa dX 0).f2) ((aa dW 0).f0) ((aa dW 0).f1) ((aa dW 0).f2) _ sE) [] 2 aG ?_
    rintro _ _ _ ⟨rfl,rfl,rfl⟩
    refine aN [] [0,1,2] ag (ap 15 [] [0,1,2] zZ (jv ac) ae (ap 16 [] [0,1,2] zZ (aQ ag) ae (ap 17 [] [0,1,2] zZ (aI ag) ae (xd ?_))))
    revert H; refine aJ ?_ ?_ <;> intro wJ H
    ·
     refine gt zZ (dT wJ) (gs (rg (al ac (al ac (sv (aM 0 ag dq iU zZ) zZ (sv (bg (v := .agg #[.int .i64 ((aa dX 0).f0),.int .i64 ((aa dX 0).f1),.int .i64 ((aa dX 0).f2)]) 0 0 (some 3) 0 cK zZ zZ zZ dq iU zZ zZ zZ) zZ (so zZ (bH (s := 3) (by_ := 24) ai ([(⟨(aa dX 0).f0,(aa dX 0).f1,(aa dX 0).f2⟩ : ah)] : List ah) [[]] [] 2 [.tmp 36] dp dq zZ fun aby aaB => ?_))))))))
     revert H; refine aU ?_; intro D8 H
     refine so zZ (di (k := ai) (s := 3) (by_ := 24) 2 3 ae (km D8 dq) (iz D8 dq) (.inl zZ) true (fun _ => .inl zZ) ac fun Wl Vq => (bR (en := [.sl 0 ai uK se dX 0 false,.sl 0 ai uJ sd dW 0 false,.sl 2 ai aby aaB ([(⟨(aa dX 0).f0,(aa dX 0).f1,(aa dX 0).f2⟩ : ah)] : List ah) 2 true,.sl 2 ai Wl Vq (mC ++ ([(⟨(aa dX 0).f0,(aa dX 0).f1,(aa dX 0).f2⟩ : ah)] : List ah)) 1 true]) kK (au ac (re (aB [0,1,5,19,20,21,22,23,24,25,26,27,28,29,30,31] [] [0,1,3] ae (rg (al ac ?_)))))))
     revert H; refine aU ?_; intro JS H
     exact oY (l' := dX.drop (1 : Int).toNat) 1 (dX.length : Int) 0 zZ dq JS (Int.le_refl _) zZ 0 dq (.inl dq) JW (sv (lL 1 (dX.length : Int) 0 zZ zZ zZ zZ dq JS (Int.le_refl _) zZ zZ Ds) zZ (au ac (re (ge (wk [0,1,5] [] [(aw 3),(aw 1),(aj 2 2 1)] (cZ _ (by omega) _ ⟨dX.drop (1 : Int).toNat,(je uK se (1 : Int).toNat 3),(se - (1 : Int).toNat),dW,uJ,sd,mC ++ ([(⟨(aa dX 0).f0,(aa dX 0).f1,(aa dX 0).f2⟩ : ah)] : List ah),Wl,Vq,H,zZ⟩))))))
    ·
     refine gf zZ (dF wJ) (gs (rg (al ac (al ac (sv (aM 1 ag dq lR zZ) zZ (sv (bg (v := .agg #[.int .i64 ((aa dW 0).f0),.int .i64 ((aa dW 0).f1),.int .i64 ((aa dW 0).f2)]) 0 0 (some 3) 1 cK zZ zZ zZ dq lR zZ zZ zZ) zZ (so zZ (bH (s := 3) (by_ := 24) ai ([(⟨(aa dW 0).f0,(aa dW 0).f1,(aa dW 0).f2⟩ : ah)] : List ah) [[]] [] 2 [.tmp 44] dp dq zZ fun abt aay => ?_))))))))
     revert H; refine aU ?_; intro tN H
     refine so zZ (di (k := ai) (s := 3) (by_ := 24) 2 3 ae (km tN dq) (iz tN dq) (.inl zZ) true (fun _ => .inl zZ) ac fun Wk Vm => (bR (en := [.sl 0 ai uK se dX 0 false,.sl 0 ai uJ sd dW 0 false,.sl 2 ai abt aay ([(⟨(aa dW 0).f0,(aa dW 0).f1,(aa dW 0).f2⟩ : ah)] : List ah) 2 true,.sl 2 ai Wk Vm (mC ++ ([(⟨(aa dW 0).f0,(aa dW 0).f1,(aa dW 0).f2⟩ : ah)] : List ah)) 1 true]) kK (au ac (re (aB [0,1,5,19,20,21,22,23,24,25,26,27,28,29,30,31] [] [0,1,3] ae (rg (al ac ?_)))))))
     revert H; refine aU ?_; intro xm H
     exact oY (l' := dW.drop (1 : Int).toNat) 1 (dW.length : Int) 1 zZ dq xm (Int.le_refl _) zZ 0 dq (.inl dq) JW (sv (lL 1 (dW.length : Int) 1 zZ zZ zZ zZ dq xm (Int.le_refl _) zZ zZ Ds) zZ (au ac (re (ge (wk [0,1,5] [] [(aw 0),(aw 3),(aj 2 2 1)] (cZ _ (by omega) _ ⟨dX,uK,se,dW.drop (1 : Int).toNat,(je uJ sd (1 : Int).toNat 3),(sd - (1 : Int).toNat),mC ++ ([(⟨(aa dW 0).f0,(aa dW 0).f1,(aa dW 0).f2⟩ : ah)] : List ah),Wk,Vm,H,zZ⟩))))))
   ·
    refine ts 22 zZ (dF c9) (bv 8 [] [0,1,2] aG (bv 9 [] [0,1,2] aG (bv 10 [] [0,1,2] aG (bv 11 [] [0,1,2] aG (bv 12 [] [0,1,2] aG (bv 13 [] [0,1,2] aG (bv 14 [] [0,1,2] aG (bv 15 [] [0,1,2] aG (ap 16 [] [0,1,2] zZ (aI ag) ae (ap 17 [] [0,1,2] zZ (aI ag) ae (xd (aB [0,1,5,19,20,21,22,31,32] [] [0,1,2] ae (gf zZ zZ (gs (rg (al ac (al ac ?_)))))))))))))))))
    revert H; refine aU ?_; intro qy H
    refine sv (aM 1 ag dq qy zZ) zZ (sv (bg (v := .agg #[.int .i64 ((aa dW 0).f0),.int .i64 ((aa dW 0).f1),.int .i64 ((aa dW 0).f2)]) 0 0 (some 3) 1 cK zZ zZ zZ dq qy zZ zZ zZ) zZ (so zZ (bH (s := 3) (by_ := 24) ai ([(⟨(aa dW 0).f0,(aa dW 0).f1,(aa dW 0).f2⟩ : ah)] : List ah) [[]] [] 2 [.tmp 44] dp dq zZ fun abr aax => ?_)))
    revert H; refine aU ?_; intro GV H
    refine so zZ (di (k := ai) (s := 3) (by_ := 24) 2 3 ae (km GV dq) (iz GV dq) (.inl zZ) true (fun _ => .inl zZ) ac fun Wj Vl => (bR (en := [.sl 0 ai uK se dX 0 false,.sl 0 ai uJ sd dW 0 false,.sl 2 ai abr aax ([(⟨(aa dW 0).f0,(aa dW 0).f1,(aa dW 0).f2⟩ : ah)] : List ah) 2 true,.sl 2 ai Wj Vl (mC ++ ([(⟨(aa dW 0).f0,(aa dW 0).f1,(aa dW 0).f2⟩ : ah)] : List ah)) 1 true]) kK (au ac (re (aB [0,1,5,19,20,21,22,31] [] [0,1,3] ae (rg (al ac ?_)))))))
    revert H; refine aU ?_; intro g26 H
    exact oY (l' := dW.drop (1 : Int).toNat) 1 (dW.length : Int) 1 zZ dq g26 (Int.le_refl _) zZ 0 dq (.inl dq) JW (sv (lL 1 (dW.length : Int) 1 zZ zZ zZ zZ dq g26 (Int.le_refl _) zZ zZ Ds) zZ (au ac (re (ge (wk [0,1,5] [] [(aw 0),(aw 3),(aj 2 2 1)] (cZ _ (by omega) _ ⟨dX,uK,se,dW.drop (1 : Int).toNat,(je uJ sd (1 : Int).toNat 3),(sd - (1 : Int).toNat),mC ++ ([(⟨(aa dW 0).f0,(aa dW 0).f1,(aa dW 0).f2⟩ : ah)] : List ah),Wj,Vl,H,zZ⟩))))))
 ·
  refine gs (rg (al ac (sv (bG zZ) zZ (sv (dV ac) zZ (al ac ?_)))))
  revert H; refine aJ ?_ ?_ <;> intro zX H
  ·
   exact ts 10 zZ (dT zX) (sk zZ (sk zZ (sk zZ (sv (aQ ag) zZ (re (aB [0,1,5,14] [] [0,1,2] ae (gt zZ zZ (gk (wk [0,1,5] [] [(aw 0),(aw 1),(aj 2 2 1)] (gw _ ⟨_,yH,Ic,HW,kJ,Ib,HV,fy,Ia,HU,by omega,H,zZ⟩))))))))))
  ·
   refine ts 10 zZ (dF zX) (al ac (sv (bG zZ) zZ (sv (dV ac) zZ (sv (aI ag) zZ (re ?_)))))
   revert H; refine aJ ?_ ?_ <;> intro H3 H
   ·
    exact gt zZ (dT H3) (gk (wk [0,1,5] [] [(aw 0),(aw 1),(aj 2 2 1)] (gw _ ⟨_,yH,Ic,HW,kJ,Ib,HV,fy,Ia,HU,by omega,H,zZ⟩)))
   ·
    refine gf zZ (dF H3) (gx zZ (gs (rg (al ac (au ac (re (aB [4] [] [2] ae ?_)))))))
    cases H
    exact rt Tryz.func81 zZ (.tmp zZ .nil) zZ [] [(aj 0 2 1)] zZ zZ zZ zZ zZ ⟨_,_,zZ,zZ,zZ⟩
def dc.l0 : Nat → Int → Int → Int → Int → Int → Int → Int → (List ah) → (List ah) → (List ah) → (List ah) → (List aT) → Option (Bool)
 | 0,_,_,_,_,_,_,_,_,_,_,_,_ => none
 | k + 1,FS,kI,gC,gd,gn,jn,kP,aP,av,aW,aO,aH => if kI < FS then (if 0 ≤ kI then (if kI < (aP.length : Int) then ((ow.f ((aa aP kI).f0) ((aa aP kI).f1) ((aa aP kI).f2) aO).bind fun vJ => (if vJ = true then (some false) else (dc.l0 k FS (wrap64 (kI + 1)) gC gd gn jn kP aP av aW aO aH))) else none) else none) else ((fx.f k aH).bind fun w6 => (if jn = 1 then (if gd = 0 then (if gn = 0 then (if (aO.length : Int) > 0 then ((hJ.f k av gC aP aW aO aH gd gn jn kP).bind fun Cj => (if Cj ≤ 60 then (if 0 ≤ gC then (if gC ≤ (av.length : Int) then ((fT.f k ([w6,aO,aP,aW] : List (List ah))).bind fun Rn => ((jj.f k Rn (av.take gC.toNat)).bind fun N4 => (some N4))) else none) else none) else (some false))) else (if (aW.length : Int) = 0 then ((hJ.f k av gC aP aW aO aH gd gn jn kP).bind fun iT => (if iT ≤ 60 then (if 0 ≤ gC then (if gC ≤ (av.length : Int) then ((fT.f k ([w6,aO,aP,aW] : List (List ah))).bind fun Zi => ((jj.f k Zi (av.take gC.toNat)).bind fun TD => (some TD))) else none) else none) else (some false))) else (some false))) else (some false)) else (some false)) else (if gC = (av.length : Int) then (if (aP.length : Int) > 0 then (some false) else (if (aW.length : Int) > 0 then (some false) else ((jj.f k w6 av).bind fun N3 => (if N3 = true then (if jn = 2 then (if (aH.length : Int) < 2 then (some false) else (if 0 < (aH.length : Int) then (if 1 < (aH.length : Int) then ((fD.f gd 0 (((aC aH 0).f0).length : Int)).bind fun t46 => (if t46 = true then ((fD.f gn 0 (((aC aH 1).f0).length : Int)).bind fun Pp => (if Pp = true then (if 0 ≤ gd then (if gd ≤ (((aC aH 0).f0).length : Int) then (if 0 ≤ gn then (if gn ≤ (((aC aH 1).f0).length : Int) then ((cJ.f k (((aC aH 0).f0).take gd.toNat) (((aC aH 1).f0).take gn.toNat)).bind fun Zg => ((eP.f k aO Zg).bind fun t55 => (if t55 = true then ((cJ.f k ((aC aH 0).f0) ((aC aH 1).f0)).bind fun iS => (if 0 ≤ (wrap64 (gd + gn)) then (if (wrap64 (gd + gn)) ≤ (iS.length : Int) then ((eP.f k aO (iS.take (wrap64 (gd + gn)).toNat)).bind fun HA => (some HA)) else none) else none)) else (some false)))) else none) else none) else none) else none) else (some false))) else (some false))) else none) else none)) else (if jn = 3 then (if (aH.length : Int) = 1 then ((fD.f gd 0 (wrap64 ((av.length : Int) - 1))).bind fun TA => (if TA = true then (if gn = 0 then (some (decide ((aO.length : Int) = 0))) else (some false)) else (some false))) else (some false)) else (if jn = 4 then (if (aH.length : Int) ≤ 1 then (if gd = (av.length : Int) then (if gn = 0 then (some (decide ((aO.length : Int) = 0))) else (some false)) else (some false)) else (some false)) else (some false)))) else (some false))))) else (some false))))
def dc.f (k : Nat) (av : List ah) (aF : Int) (aP : List ah) (aW : List ah) (aO : List ah) (aH : List aT) (bD : Int) (bI : Int) (bK : Int) (bE : Int) : Option (Bool) := (gG.f k av).bind fun t1 => (if t1 = true then ((fD.f aF 0 (av.length : Int)).bind fun t3 => (if t3 = true then ((ff.f k aH).bind fun t5 => (if t5 = true then (if bE < 0 then (some false) else ((fU.f k aO).bind fun t8 => (if t8 = true then (dc.l0 k (aP.length : Int) 0 aF bD bI bK bE aP av aW aO aH) else (some false)))) else (some false))) else (some false))) else (some false))
theorem dc.ok (k : Nat) (av : List ah) (aL : Option Addr) (aK : Nat) (aF : Int) (aP : List ah) (bB : Option Addr) (bA : Nat) (aW : List ah) (bm : Option Addr) (bk : Nat) (aO : List ah) (bo : Option Addr) (bn : Nat) (aH : List aT) (bl : Option Addr) (bj : Nat) (bD : Int) (bI : Int) (bK : Int) (bE : Int) (r0 : Bool) (H : dc.f k av aF aP aW aO aH bD bI bK bE = some r0) : Fn Tryz.prog 28 [.agg #[.slice aL av.length aK,.int .i64 aF,.slice bB aP.length bA,.slice bm aW.length bk,.slice bo aO.length bn,.slice bl aH.length bj,.int .i64 bD,.int .i64 bI,.int .i64 bK,.int .i64 bE]] [] [.sl 0 ai aL aK av 0 false,.sl 0 ai bB bA aP 0 false,.sl 0 ai bm bk aW 0 false,.sl 0 ai bo bn aO 0 false,.sl 0 aZ bl bj aH 0 false] (fun v bx en => v = .bool r0 ∧ bx = [] ∧ en = []) := by
 refine eD 234 Tryz.func28 zZ zZ zZ (fun base T w0 => ?_)
 rw [dc.f] at H
 refine gs (rg (so zZ (gU (cs := [.slice aL av.length aK,.int .i64 aF,.slice bB aP.length bA,.slice bm aW.length bk,.slice bo aO.length bn,.slice bl aH.length bj,.int .i64 bD,.int .i64 bI,.int .i64 bK,.int .i64 bE]) ag fun b1 => (au ac (re (gs (rg (sv (am (v := .agg #[.slice aL av.length aK,.int .i64 aF,.slice bB aP.length bA,.slice bm aW.length bk,.slice bo aO.length bn,.slice bl aH.length bj,.int .i64 bD,.int .i64 bI,.int .i64 bK,.int .i64 bE]) 0 (some 10) ag) zZ (so zZ (dk (cs := [.slice none 0 0,.int .i64 0,.slice none 0 0,.slice none 0 0,.slice none 0 0,.slice none 0 0,.int .i64 0,.int .i64 0,.int .i64 0,.int .i64 0]) kK zZ fun b3 => (so zZ (aD (cs' := [.slice aL av.length aK,.int .i64 aF,.slice bB aP.length bA,.slice bm aW.length bk,.slice bo aO.length bn,.slice bl aH.length bj,.int .i64 bD,.int .i64 bI,.int .i64 bK,.int .i64 bE]) 1 bh (re (gs (gs (rg (sv (aq 0 zZ) zZ (sv (am 1 none ag) zZ ?_))))))))))))))))))
 revert H; refine aS ?_; rintro t1 A1 H
 refine so zZ (ax (gG.ok k av aL aK _ A1) [(aw 0)] 1 aG ?_)
 rintro _ _ _ ⟨rfl,rfl,rfl⟩
 refine sv (eE zZ) zZ (al ac ?_)
 revert H; refine aJ ?_ ?_ <;> intro c2 H
 ·
  subst c2
  refine eq 14 ac (sv (aq 1 zZ) zZ (sv (am 1 none ag) zZ (sv (aq 0 zZ) zZ (sv (am 1 none ag) zZ (sv (bG zZ) zZ ?_)))))
  revert H; refine aS ?_; rintro t3 A3 H
  refine so zZ (ax (fD.ok aF 0 (av.length : Int) _ A3) [] 1 aG ?_)
  rintro _ _ _ ⟨rfl,rfl,rfl⟩
  refine sv (eE zZ) zZ (sv (aI ag) zZ (al ac ?_))
  revert H; refine aJ ?_ ?_ <;> intro c4 H
  ·
   subst c4
   refine eq 23 ac (sv (aq 5 zZ) zZ (sv (am 1 none ag) zZ ?_))
   revert H; refine aS ?_; rintro t5 A5 H
   refine so zZ (ax (ff.ok k aH bl bj _ A5) [(aw 4)] 1 aG ?_)
   rintro _ _ _ ⟨rfl,rfl,rfl⟩
   refine sv (eE zZ) zZ (sv (aI ag) zZ (al ac ?_))
   revert H; refine aJ ?_ ?_ <;> intro c6 H
   ·
    subst c6
    refine eq 29 ac (sv (aq 9 zZ) zZ (sv (am 1 none ag) zZ (sv (bS ac) zZ (sv (aI ag) zZ (al ac ?_)))))
    revert H; refine aJ ?_ ?_ <;> intro c7 H
    ·
     refine ts 34 zZ (dT c7) (sk zZ (sk zZ (sk zZ (sk zZ (sv (aQ ag) zZ (re (aB [3,39] [1] [0,1,2,3,4] ae (gt zZ zZ (gs (rg (au ac (re ?_))))))))))))
     cases H
     exact rt Tryz.func28 zZ (.tmp zZ .nil) zZ [] [] zZ zZ zZ zZ zZ ⟨zZ,zZ,zZ⟩
    ·
     refine ts 34 zZ (dF c7) (sv (aq 4 zZ) zZ (sv (am 1 none ag) zZ ?_))
     revert H; refine aS ?_; rintro t8 A8 H
     refine so zZ (ax (fU.ok k aO bo bn _ A8) [(aw 3)] 1 aG ?_)
     rintro _ _ _ ⟨rfl,rfl,rfl⟩
     refine sv (eE zZ) zZ (sv (aI ag) zZ (re (aB [3,39] [1] [0,1,2,3,4] ae ?_)))
     revert H; refine aJ ?_ ?_ <;> intro c9 H
     ·
      subst c9
      refine gf zZ zZ (gk (gs (gs (rg (sv (aq 2 zZ) zZ (sv (am 0 none ag) zZ (sv (bG zZ) zZ (al ac (re (gb ?_))))))))))
      refine lo (fun kk S => ∃ (FS : Int) (kI : Int) (gC : Int) (gd : Int) (gn : Int) (jn : Int) (kP : Int),dc.l0 kk FS kI gC gd gn jn kP aP av aW aO aH = some r0 ∧ S = ⟨[(3,.pointer (some ⟨b3,0,none⟩)),(41,.slice bB aP.length bA),(42,.int .i64 FS),(43,.int .i64 kI)],[⟨b3,27,[.slice aL av.length aK,.int .i64 gC,.slice bB aP.length bA,.slice bm aW.length bk,.slice bo aO.length bn,.slice bl aH.length bj,.int .i64 gd,.int .i64 gn,.int .i64 jn,.int .i64 kP]⟩],[.sl 0 ai bB bA aP 0 false,.sl 0 ai aL aK av 0 false,.sl 0 ai bm bk aW 0 false,.sl 0 ai bo bn aO 0 false,.sl 0 aZ bl bj aH 0 false]⟩) (fun S hS => ?_) (fun n0 cZ S hS => ?_) ⟨(aP.length : Int),0,aF,bD,bI,bK,bE,H,zZ⟩ (fun h => wk [3,41,42,43] [0] [(aw 1),(aw 0),(aw 2),(aw 3),(aw 4)] h)
      · clear H; obtain ⟨_,_,_,_,_,_,_,H,_⟩ := hS; rw [dc.l0] at H; cases H
      clear H
      obtain ⟨FS,kI,gC,gd,gn,jn,kP,H,rfl⟩ := hS
      rw [dc.l0] at H
      refine gs (rg (sv (bS ac) zZ (re (gs ?_))))
      revert H; refine aJ ?_ ?_ <;> intro lS H
      ·
       refine gt zZ (dT lS) (gk (gs (gb (gs (rg ?_)))))
       revert H; refine aU ?_; intro lR H
       revert H; refine aU ?_; intro ju H
       refine sv (aM 0 ag lR ju zZ) zZ (sv (bg (v := .agg #[.int .i64 ((aa aP kI).f0),.int .i64 ((aa aP kI).f1),.int .i64 ((aa aP kI).f2)]) kI 0 (some 3) 0 cK zZ zZ zZ lR ju zZ zZ zZ) zZ (so zZ (dk (cs := [.int .i64 0,.int .i64 0,.int .i64 0]) kK zZ fun b5 => (so zZ (aD (cs' := [.int .i64 ((aa aP kI).f0),.int .i64 ((aa aP kI).f1),.int .i64 ((aa aP kI).f2)]) 1 bh (re (gs (rg (sv (am (v := .agg #[.int .i64 ((aa aP kI).f0),.int .i64 ((aa aP kI).f1),.int .i64 ((aa aP kI).f2)]) 1 (some 3) ag) zZ (sv (aq 4 zZ) zZ (sv (am 0 none ag) zZ ?_)))))))))))
       revert H; refine aS ?_; rintro vJ AI H
       refine so zZ (ax (ow.ok ((aa aP kI).f0) ((aa aP kI).f1) ((aa aP kI).f2) aO bo bn _ AI) [(aw 3)] 1 aG ?_)
       rintro _ _ _ ⟨rfl,rfl,rfl⟩
       refine re (aB [3,41,42,43,50] [0] [0,1,2,3,4] ae ?_)
       revert H; refine aJ ?_ ?_ <;> intro sC H
       ·
        subst sC
        refine gt zZ zZ (gs (rg (au ac (re ?_))))
        cases H
        exact rt Tryz.func28 zZ (.tmp zZ .nil) zZ [] [] zZ zZ zZ zZ zZ ⟨zZ,zZ,zZ⟩
       ·
        have xc14 := bF sC; subst xc14
        exact gf zZ zZ (gk (ge (rg (sv (ba ac) zZ (al ac (re (wk [3,41,42,43] [0] [(aw 0),(aw 1),(aw 2),(aw 3),(aw 4)] (cZ _ (by omega) _ ⟨FS,wrap64 (kI + 1),gC,gd,gn,jn,kP,H,zZ⟩))))))))
      ·
       refine gf zZ (dF lS) (gx zZ (gs (rg (sv (aq 5 zZ) zZ (sv (am 0 none ag) zZ ?_)))))
       revert H; refine aS ?_; rintro w6 xP H
       refine so zZ (ax (fx.ok n0 aH bl bj _ xP) [(aw 4)] 1 aG ?_)
       rintro _ _ _ ⟨QZ,Qn,rfl,rfl,rfl⟩
       refine au ac (re (aB [3,6] [0] [0,1,2,3,4,5] ae (gs (gs (rg (sv (aq 8 zZ) zZ (sv (am 0 none ag) zZ (sv (bZ ac) zZ (re ?_)))))))))
       revert H; refine aJ ?_ ?_ <;> intro zY H
       ·
        refine gt zZ (dT zY) (gs ?_)
        revert H; refine aJ ?_ ?_ <;> intro Dm H
        ·
         revert H; refine aJ ?_ ?_ <;> intro ES H
         ·
          revert H; refine aJ ?_ ?_ <;> intro Me H
          ·
           refine fj [0] [0,1,2,3,4] [42] 43 ae (xv 0 [0] [0,1,2,3,4] zZ (aq 6 zZ) kK kK kK kK (xv 1 [0] [0,1,2,3,4] zZ (am 0 none ag) kK kK kK kK (xv 2 [0] [0,1,2,3,4] zZ (bZ ac) kK kK kK kK (xv 3 [0] [0,1,2,3,4] zZ (aA zZ) kK kK kK kK (ts 61 zZ (dT Dm) (xv 4 [0] [0,1,2,3,4] zZ (aq 7 zZ) kK kK kK kK (xv 5 [0] [0,1,2,3,4] zZ (am 0 none ag) kK kK kK kK (xv 6 [0] [0,1,2,3,4] zZ (bZ ac) kK kK kK kK (xv 7 [0] [0,1,2,3,4] zZ (aQ ag) kK kK kK kK (xv 8 [0] [0,1,2,3,4] zZ (aA zZ) kK kK kK kK (ts 66 zZ (dT ES) (xv 9 [0] [0,1,2,3,4] zZ (aq 4 zZ) kK kK kK kK (xv 10 [0] [0,1,2,3,4] zZ (am 0 none ag) kK kK kK kK (xv 11 [0] [0,1,2,3,4] zZ (bG zZ) kK kK kK kK (xv 12 [0] [0,1,2,3,4] zZ (dV ac) kK kK kK kK (xv 13 [0] [0,1,2,3,4] zZ (aA zZ) kK kK kK kK (ts 71 zZ (dT Me) (xk 14 [0] [0,1,2,3,4] zZ kK kK kK kK (xk 15 [0] [0,1,2,3,4] zZ kK kK kK kK (xk 16 [0] [0,1,2,3,4] zZ kK kK kK kK (xk 17 [0] [0,1,2,3,4] zZ kK kK kK kK (xv 18 [0] [0,1,2,3,4] zZ (aQ ag) kK kK kK kK (xv 19 [0] [0,1,2,3,4] zZ (aQ ag) kK kK kK kK (xv 20 [0] [0,1,2,3,4] zZ (aA zZ) kK kK kK kK (xv 21 [0] [0,1,2,3,4] zZ (am (v := .agg #[.slice aL av.length aK,.int .i64 gC,.slice bB aP.length bA,.slice bm aW.length bk,.slice bo aO.length bn,.slice bl aH.length bj,.int .i64 gd,.int .i64 gn,.int .i64 jn,.int .i64 kP]) 0 (some 10) ag) kK kK kK kK (ar 22 ac ?_))))))))))))))))))))))))))
           revert H; refine aS ?_; rintro Cj AG H
           refine ax (hJ.ok n0 av aL aK gC aP bB bA aW bm bk aO bo bn aH bl bj gd gn jn kP _ AG) [(aw 1),(aw 0),(aw 2),(aw 3),(aw 4)] 3 aG ?_
           rintro _ _ _ ⟨rfl,rfl,rfl⟩
           refine aN [0] [0,1,2,3,4] ag (xv 23 [0] [0,1,2,3,4] zZ (jv ac) kK kK kK kK (xv 24 [0] [0,1,2,3,4] zZ (aQ ag) kK kK kK kK (xv 25 [0] [0,1,2,3,4] zZ (aA zZ) kK kK kK kK ?_)))
           revert H; refine aJ ?_ ?_ <;> intro GY H
           ·
            refine ts 83 zZ (dT GY) (xv 26 [0] [0,1,2,3,4] zZ (aA zZ) kK kK kK kK (xv 27 [0] [0,1,2,3,4] zZ (aq 4 zZ) kK kK kK kK (xv 28 [0] [0,1,2,3,4] zZ (am 0 none ag) kK kK kK kK (xv 29 [0] [0,1,2,3,4] zZ (aq 2 zZ) kK kK kK kK (xv 30 [0] [0,1,2,3,4] zZ (am 0 none ag) kK kK kK kK (xv 31 [0] [0,1,2,3,4] zZ (aq 3 zZ) kK kK kK kK (xv 32 [0] [0,1,2,3,4] zZ (am 0 none ag) kK kK kK kK (xv 35 [0] [0,1,2,3,4] zZ (aq 0 zZ) kK kK kK kK (xv 36 [0] [0,1,2,3,4] zZ (am 0 none ag) kK kK kK kK (xv 37 [0] [0,1,2,3,4] zZ (aq 1 zZ) kK kK kK kK (xv 38 [0] [0,1,2,3,4] zZ (am 0 none ag) kK kK kK kK ?_)))))))))))
            revert H; refine aU ?_; intro qy H
            revert H; refine aU ?_; intro PW H
            refine oY (l' := av.take gC.toNat) 0 gC 1 zZ (Int.le_refl 0) qy PW zZ 0 dq (.inr zZ) zZ (xv 39 [0] [0,1,2,3,4] zZ (lL 0 gC 1 zZ zZ zZ zZ (Int.le_refl 0) qy PW zZ zZ yr) kK kK kK kK (ar 33 ac (wkr [3,6,55,56,57,58,59,60,61,62,63,64,65,66,67,68,69,70,71,72,73,74,75,76,77,78,79,80,81,82,83,84,85,86,87,88,89,90,93,94,95,96,97] [0] [(aw 0),(aw 1),(aw 2),(aw 3),(aw 4),(aw 5),(aw 6)] zZ zZ zZ zZ zZ (PO (s := 1) (by_ := 24) (.slice ai) ([w6,aO,aP,aW] : List (List ah)) [[(QZ,Qn)],[(bo,bn)],[(bB,bA)],[(bm,bk)]] [5,3,0,2] [.tmp 84,.tmp 86,.tmp 88,.tmp 90] Y9 fun V5 U2 => (bR (en := [.sl 0 ai bB bA aP 0 false,.sl 0 ai aL aK av 0 false,.sl 0 ai bm bk aW 0 false,.sl 0 ai bo bn aO 0 false,.sl 0 aZ bl bj aH 0 false,.sl 0 ai QZ Qn w6 0 false,.sl 0 ai (je aL aK (0 : Int).toNat 3) (aK - (0 : Int).toNat) (av.take gC.toNat) 0 false,.sl 0 (.slice ai) V5 U2 ([w6,aO,aP,aW] : List (List ah)) 0 false]) kK (aN [0] [0,1,2,3,4] ag (ar 34 ac ?_)))))))
            revert H; refine aS ?_; rintro Rn R8 H
            refine ax (fT.ok n0 ([w6,aO,aP,aW] : List (List ah)) V5 U2 _ R8) [(aw 7)] 1 aG ?_
            rintro _ _ _ ⟨afP,afD,rfl,rfl,rfl⟩
            refine aN [0] [0,1,2,3,4] ag (ar 40 ac ?_)
            revert H; refine aS ?_; rintro N4 FE H
            refine ax (jj.ok n0 Rn afP afD (av.take gC.toNat) (je aL aK (0 : Int).toNat 3) (aK - (0 : Int).toNat) _ FE) [(aw 8),(aw 6)] 3 aG ?_
            rintro _ _ _ ⟨rfl,rfl,rfl⟩
            refine aN [0] [0,1,2,3,4] ag (ar 41 ac (ov (aQ ag) zZ (aN [0] [0,1,2,3,4] ag (ar 42 ac (ov (gE zZ) zZ (xn zZ (xd (aB [2] [] [] ae ?_))))))))
            cases H
            exact rt Tryz.func28 zZ (.tmp zZ .nil) zZ [] [] zZ zZ zZ zZ zZ ⟨zZ,zZ,zZ⟩
           ·
            refine ts 83 zZ (dF GY) (xk 26 [0] [0,1,2,3,4] zZ kK kK kK kK (xk 27 [0] [0,1,2,3,4] zZ kK kK kK kK (xk 28 [0] [0,1,2,3,4] zZ kK kK kK kK (xk 29 [0] [0,1,2,3,4] zZ kK kK kK kK (xk 30 [0] [0,1,2,3,4] zZ kK kK kK kK (xk 31 [0] [0,1,2,3,4] zZ kK kK kK kK (xk 32 [0] [0,1,2,3,4] zZ kK kK kK kK (xk 35 [0] [0,1,2,3,4] zZ kK kK kK kK (xk 36 [0] [0,1,2,3,4] zZ kK kK kK kK (xk 37 [0] [0,1,2,3,4] zZ kK kK kK kK (xk 38 [0] [0,1,2,3,4] zZ kK kK kK kK (xk 39 [0] [0,1,2,3,4] zZ kK kK kK kK (xk 33 [0] [0,1,2,3,4] zZ kK kK kK kK (xk 34 [0] [0,1,2,3,4] zZ kK kK kK kK (xk 40 [0] [0,1,2,3,4] zZ kK kK kK kK (ar 41 ac (ov (aI ag) zZ (aN [0] [0,1,2,3,4] ag (ar 42 ac (ov (gE zZ) zZ (xn zZ (xd (aB [2] [] [] ae ?_)))))))))))))))))))))))
            cases H
            exact rt Tryz.func28 zZ (.tmp zZ .nil) zZ [] [] zZ zZ zZ zZ zZ ⟨zZ,zZ,zZ⟩
          ·
           revert H; refine aJ ?_ ?_ <;> intro zX H
           ·
            refine fj [0] [0,1,2,3,4] [42] 43 ae (xv 0 [0] [0,1,2,3,4] zZ (aq 6 zZ) kK kK kK kK (xv 1 [0] [0,1,2,3,4] zZ (am 0 none ag) kK kK kK kK (xv 2 [0] [0,1,2,3,4] zZ (bZ ac) kK kK kK kK (xv 3 [0] [0,1,2,3,4] zZ (aA zZ) kK kK kK kK (ts 61 zZ (dT Dm) (xv 4 [0] [0,1,2,3,4] zZ (aq 7 zZ) kK kK kK kK (xv 5 [0] [0,1,2,3,4] zZ (am 0 none ag) kK kK kK kK (xv 6 [0] [0,1,2,3,4] zZ (bZ ac) kK kK kK kK (xv 7 [0] [0,1,2,3,4] zZ (aQ ag) kK kK kK kK (xv 8 [0] [0,1,2,3,4] zZ (aA zZ) kK kK kK kK (ts 66 zZ (dT ES) (xv 9 [0] [0,1,2,3,4] zZ (aq 4 zZ) kK kK kK kK (xv 10 [0] [0,1,2,3,4] zZ (am 0 none ag) kK kK kK kK (xv 11 [0] [0,1,2,3,4] zZ (bG zZ) kK kK kK kK (xv 12 [0] [0,1,2,3,4] zZ (dV ac) kK kK kK kK (xv 13 [0] [0,1,2,3,4] zZ (aA zZ) kK kK kK kK (ts 71 zZ (dF Me) (xv 14 [0] [0,1,2,3,4] zZ (aq 3 zZ) kK kK kK kK (xv 15 [0] [0,1,2,3,4] zZ (am 0 none ag) kK kK kK kK (xv 16 [0] [0,1,2,3,4] zZ (bG zZ) kK kK kK kK (xv 17 [0] [0,1,2,3,4] zZ (bZ ac) kK kK kK kK (xv 18 [0] [0,1,2,3,4] zZ (aI ag) kK kK kK kK (xv 19 [0] [0,1,2,3,4] zZ (aQ ag) kK kK kK kK (xv 20 [0] [0,1,2,3,4] zZ (aA zZ) kK kK kK kK (ts 78 zZ (dT zX) (xv 21 [0] [0,1,2,3,4] zZ (am (v := .agg #[.slice aL av.length aK,.int .i64 gC,.slice bB aP.length bA,.slice bm aW.length bk,.slice bo aO.length bn,.slice bl aH.length bj,.int .i64 gd,.int .i64 gn,.int .i64 jn,.int .i64 kP]) 0 (some 10) ag) kK kK kK kK (ar 22 ac ?_)))))))))))))))))))))))))))
            revert H; refine aS ?_; rintro iT J3 H
            refine ax (hJ.ok n0 av aL aK gC aP bB bA aW bm bk aO bo bn aH bl bj gd gn jn kP _ J3) [(aw 1),(aw 0),(aw 2),(aw 3),(aw 4)] 3 aG ?_
            rintro _ _ _ ⟨rfl,rfl,rfl⟩
            refine aN [0] [0,1,2,3,4] ag (xv 23 [0] [0,1,2,3,4] zZ (jv ac) kK kK kK kK (xv 24 [0] [0,1,2,3,4] zZ (aQ ag) kK kK kK kK (xv 25 [0] [0,1,2,3,4] zZ (aA zZ) kK kK kK kK ?_)))
            revert H; refine aJ ?_ ?_ <;> intro Ox H
            ·
             refine ts 83 zZ (dT Ox) (xv 26 [0] [0,1,2,3,4] zZ (aA zZ) kK kK kK kK (xv 27 [0] [0,1,2,3,4] zZ (aq 4 zZ) kK kK kK kK (xv 28 [0] [0,1,2,3,4] zZ (am 0 none ag) kK kK kK kK (xv 29 [0] [0,1,2,3,4] zZ (aq 2 zZ) kK kK kK kK (xv 30 [0] [0,1,2,3,4] zZ (am 0 none ag) kK kK kK kK (xv 31 [0] [0,1,2,3,4] zZ (aq 3 zZ) kK kK kK kK (xv 32 [0] [0,1,2,3,4] zZ (am 0 none ag) kK kK kK kK (xv 35 [0] [0,1,2,3,4] zZ (aq 0 zZ) kK kK kK kK (xv 36 [0] [0,1,2,3,4] zZ (am 0 none ag) kK kK kK kK (xv 37 [0] [0,1,2,3,4] zZ (aq 1 zZ) kK kK kK kK (xv 38 [0] [0,1,2,3,4] zZ (am 0 none ag) kK kK kK kK ?_)))))))))))
             revert H; refine aU ?_; intro xl H
             revert H; refine aU ?_; intro Uv H
             refine oY (l' := av.take gC.toNat) 0 gC 1 zZ (Int.le_refl 0) xl Uv zZ 0 dq (.inr zZ) zZ (xv 39 [0] [0,1,2,3,4] zZ (lL 0 gC 1 zZ zZ zZ zZ (Int.le_refl 0) xl Uv zZ zZ yr) kK kK kK kK (ar 33 ac (wkr [3,6,55,56,57,58,59,60,61,62,63,64,65,66,67,68,69,70,71,72,73,74,75,76,77,78,79,80,81,82,83,84,85,86,87,88,89,90,93,94,95,96,97] [0] [(aw 0),(aw 1),(aw 2),(aw 3),(aw 4),(aw 5),(aw 6)] zZ zZ zZ zZ zZ (PO (s := 1) (by_ := 24) (.slice ai) ([w6,aO,aP,aW] : List (List ah)) [[(QZ,Qn)],[(bo,bn)],[(bB,bA)],[(bm,bk)]] [5,3,0,2] [.tmp 84,.tmp 86,.tmp 88,.tmp 90] Y9 fun V4 U1 => (bR (en := [.sl 0 ai bB bA aP 0 false,.sl 0 ai aL aK av 0 false,.sl 0 ai bm bk aW 0 false,.sl 0 ai bo bn aO 0 false,.sl 0 aZ bl bj aH 0 false,.sl 0 ai QZ Qn w6 0 false,.sl 0 ai (je aL aK (0 : Int).toNat 3) (aK - (0 : Int).toNat) (av.take gC.toNat) 0 false,.sl 0 (.slice ai) V4 U1 ([w6,aO,aP,aW] : List (List ah)) 0 false]) kK (aN [0] [0,1,2,3,4] ag (ar 34 ac ?_)))))))
             revert H; refine aS ?_; rintro Zi A33 H
             refine ax (fT.ok n0 ([w6,aO,aP,aW] : List (List ah)) V4 U1 _ A33) [(aw 7)] 1 aG ?_
             rintro _ _ _ ⟨afO,afC,rfl,rfl,rfl⟩
             refine aN [0] [0,1,2,3,4] ag (ar 40 ac ?_)
             revert H; refine aS ?_; rintro TD A34 H
             refine ax (jj.ok n0 Zi afO afC (av.take gC.toNat) (je aL aK (0 : Int).toNat 3) (aK - (0 : Int).toNat) _ A34) [(aw 8),(aw 6)] 3 aG ?_
             rintro _ _ _ ⟨rfl,rfl,rfl⟩
             refine aN [0] [0,1,2,3,4] ag (ar 41 ac (ov (aQ ag) zZ (aN [0] [0,1,2,3,4] ag (ar 42 ac (ov (gE zZ) zZ (xn zZ (xd (aB [2] [] [] ae ?_))))))))
             cases H
             exact rt Tryz.func28 zZ (.tmp zZ .nil) zZ [] [] zZ zZ zZ zZ zZ ⟨zZ,zZ,zZ⟩
            ·
             refine ts 83 zZ (dF Ox) (xk 26 [0] [0,1,2,3,4] zZ kK kK kK kK (xk 27 [0] [0,1,2,3,4] zZ kK kK kK kK (xk 28 [0] [0,1,2,3,4] zZ kK kK kK kK (xk 29 [0] [0,1,2,3,4] zZ kK kK kK kK (xk 30 [0] [0,1,2,3,4] zZ kK kK kK kK (xk 31 [0] [0,1,2,3,4] zZ kK kK kK kK (xk 32 [0] [0,1,2,3,4] zZ kK kK kK kK (xk 35 [0] [0,1,2,3,4] zZ kK kK kK kK (xk 36 [0] [0,1,2,3,4] zZ kK kK kK kK (xk 37 [0] [0,1,2,3,4] zZ kK kK kK kK (xk 38 [0] [0,1,2,3,4] zZ kK kK kK kK (xk 39 [0] [0,1,2,3,4] zZ kK kK kK kK (xk 33 [0] [0,1,2,3,4] zZ kK kK kK kK (xk 34 [0] [0,1,2,3,4] zZ kK kK kK kK (xk 40 [0] [0,1,2,3,4] zZ kK kK kK kK (ar 41 ac (ov (aI ag) zZ (aN [0] [0,1,2,3,4] ag (ar 42 ac (ov (gE zZ) zZ (xn zZ (xd (aB [2] [] [] ae ?_)))))))))))))))))))))))
             cases H
             exact rt Tryz.func28 zZ (.tmp zZ .nil) zZ [] [] zZ zZ zZ zZ zZ ⟨zZ,zZ,zZ⟩
           ·
            refine fj [0] [0,1,2,3,4,5] [] 43 ae (xv 0 [0] [0,1,2,3,4,5] zZ (aq 6 zZ) kK kK kK kK (xv 1 [0] [0,1,2,3,4,5] zZ (am 0 none ag) kK kK kK kK (xv 2 [0] [0,1,2,3,4,5] zZ (bZ ac) kK kK kK kK (xv 3 [0] [0,1,2,3,4,5] zZ (aA zZ) kK kK kK kK (ts 61 zZ (dT Dm) (xv 4 [0] [0,1,2,3,4,5] zZ (aq 7 zZ) kK kK kK kK (xv 5 [0] [0,1,2,3,4,5] zZ (am 0 none ag) kK kK kK kK (xv 6 [0] [0,1,2,3,4,5] zZ (bZ ac) kK kK kK kK (xv 7 [0] [0,1,2,3,4,5] zZ (aQ ag) kK kK kK kK (xv 8 [0] [0,1,2,3,4,5] zZ (aA zZ) kK kK kK kK (ts 66 zZ (dT ES) (xv 9 [0] [0,1,2,3,4,5] zZ (aq 4 zZ) kK kK kK kK (xv 10 [0] [0,1,2,3,4,5] zZ (am 0 none ag) kK kK kK kK (xv 11 [0] [0,1,2,3,4,5] zZ (bG zZ) kK kK kK kK (xv 12 [0] [0,1,2,3,4,5] zZ (dV ac) kK kK kK kK (xv 13 [0] [0,1,2,3,4,5] zZ (aA zZ) kK kK kK kK (ts 71 zZ (dF Me) (xv 14 [0] [0,1,2,3,4,5] zZ (aq 3 zZ) kK kK kK kK (xv 15 [0] [0,1,2,3,4,5] zZ (am 0 none ag) kK kK kK kK (xv 16 [0] [0,1,2,3,4,5] zZ (bG zZ) kK kK kK kK (xv 17 [0] [0,1,2,3,4,5] zZ (bZ ac) kK kK kK kK (xv 18 [0] [0,1,2,3,4,5] zZ (aI ag) kK kK kK kK (xv 19 [0] [0,1,2,3,4,5] zZ (aQ ag) kK kK kK kK (xv 20 [0] [0,1,2,3,4,5] zZ (aA zZ) kK kK kK kK (ts 78 zZ (dF zX) (xk 21 [0] [0,1,2,3,4,5] zZ kK kK kK kK (xk 22 [0] [0,1,2,3,4,5] zZ kK kK kK kK (xk 23 [0] [0,1,2,3,4,5] zZ kK kK kK kK (xv 24 [0] [0,1,2,3,4,5] zZ (aI ag) kK kK kK kK ?_)))))))))))))))))))))))))))))
            refine xv 25 [0] [0,1,2,3,4,5] zZ (aA zZ) kK kK kK kK (xk 26 [0] [0,1,2,3,4,5] zZ kK kK kK kK (xk 27 [0] [0,1,2,3,4,5] zZ kK kK kK kK (xk 28 [0] [0,1,2,3,4,5] zZ kK kK kK kK (xk 29 [0] [0,1,2,3,4,5] zZ kK kK kK kK (xk 30 [0] [0,1,2,3,4,5] zZ kK kK kK kK (xk 31 [0] [0,1,2,3,4,5] zZ kK kK kK kK (xk 32 [0] [0,1,2,3,4,5] zZ kK kK kK kK (xk 35 [0] [0,1,2,3,4,5] zZ kK kK kK kK (xk 36 [0] [0,1,2,3,4,5] zZ kK kK kK kK (xk 37 [0] [0,1,2,3,4,5] zZ kK kK kK kK (xk 38 [0] [0,1,2,3,4,5] zZ kK kK kK kK (xk 39 [0] [0,1,2,3,4,5] zZ kK kK kK kK (xk 33 [0] [0,1,2,3,4,5] zZ kK kK kK kK (xk 34 [0] [0,1,2,3,4,5] zZ kK kK kK kK (xk 40 [0] [0,1,2,3,4,5] zZ kK kK kK kK (xv 41 [0] [0,1,2,3,4,5] zZ (aI ag) kK kK kK kK (xv 42 [0] [0,1,2,3,4,5] zZ (gE zZ) kK kK kK kK (xd (aB [2] [] [] ae ?_)))))))))))))))))))
            cases H
            exact rt Tryz.func28 zZ (.tmp zZ .nil) zZ [] [] zZ zZ zZ zZ zZ ⟨zZ,zZ,zZ⟩
         ·
          refine fj [0] [0,1,2,3,4,5] [] 43 ae (xv 0 [0] [0,1,2,3,4,5] zZ (aq 6 zZ) kK kK kK kK (xv 1 [0] [0,1,2,3,4,5] zZ (am 0 none ag) kK kK kK kK (xv 2 [0] [0,1,2,3,4,5] zZ (bZ ac) kK kK kK kK (xv 3 [0] [0,1,2,3,4,5] zZ (aA zZ) kK kK kK kK (ts 61 zZ (dT Dm) (xv 4 [0] [0,1,2,3,4,5] zZ (aq 7 zZ) kK kK kK kK (xv 5 [0] [0,1,2,3,4,5] zZ (am 0 none ag) kK kK kK kK (xv 6 [0] [0,1,2,3,4,5] zZ (bZ ac) kK kK kK kK (xv 7 [0] [0,1,2,3,4,5] zZ (aQ ag) kK kK kK kK (xv 8 [0] [0,1,2,3,4,5] zZ (aA zZ) kK kK kK kK (ts 66 zZ (dF ES) (xk 9 [0] [0,1,2,3,4,5] zZ kK kK kK kK (xk 10 [0] [0,1,2,3,4,5] zZ kK kK kK kK (xk 11 [0] [0,1,2,3,4,5] zZ kK kK kK kK (xk 12 [0] [0,1,2,3,4,5] zZ kK kK kK kK (xk 13 [0] [0,1,2,3,4,5] zZ kK kK kK kK (xk 14 [0] [0,1,2,3,4,5] zZ kK kK kK kK (xk 15 [0] [0,1,2,3,4,5] zZ kK kK kK kK (xk 16 [0] [0,1,2,3,4,5] zZ kK kK kK kK (xk 17 [0] [0,1,2,3,4,5] zZ kK kK kK kK (xk 18 [0] [0,1,2,3,4,5] zZ kK kK kK kK (xv 19 [0] [0,1,2,3,4,5] zZ (aI ag) kK kK kK kK (xv 20 [0] [0,1,2,3,4,5] zZ (aA zZ) kK kK kK kK (xk 21 [0] [0,1,2,3,4,5] zZ kK kK kK kK (xk 22 [0] [0,1,2,3,4,5] zZ kK kK kK kK (xk 23 [0] [0,1,2,3,4,5] zZ kK kK kK kK (xv 24 [0] [0,1,2,3,4,5] zZ (aI ag) kK kK kK kK (xv 25 [0] [0,1,2,3,4,5] zZ (aA zZ) kK kK kK kK (xk 26 [0] [0,1,2,3,4,5] zZ kK kK kK kK ?_)))))))))))))))))))))))))))))
          refine xk 27 [0] [0,1,2,3,4,5] zZ kK kK kK kK (xk 28 [0] [0,1,2,3,4,5] zZ kK kK kK kK (xk 29 [0] [0,1,2,3,4,5] zZ kK kK kK kK (xk 30 [0] [0,1,2,3,4,5] zZ kK kK kK kK (xk 31 [0] [0,1,2,3,4,5] zZ kK kK kK kK (xk 32 [0] [0,1,2,3,4,5] zZ kK kK kK kK (xk 35 [0] [0,1,2,3,4,5] zZ kK kK kK kK (xk 36 [0] [0,1,2,3,4,5] zZ kK kK kK kK (xk 37 [0] [0,1,2,3,4,5] zZ kK kK kK kK (xk 38 [0] [0,1,2,3,4,5] zZ kK kK kK kK (xk 39 [0] [0,1,2,3,4,5] zZ kK kK kK kK (xk 33 [0] [0,1,2,3,4,5] zZ kK kK kK kK (xk 34 [0] [0,1,2,3,4,5] zZ kK kK kK kK (xk 40 [0] [0,1,2,3,4,5] zZ kK kK kK kK (xv 41 [0] [0,1,2,3,4,5] zZ (aI ag) kK kK kK kK (xv 42 [0] [0,1,2,3,4,5] zZ (gE zZ) kK kK kK kK (xd (aB [2] [] [] ae ?_)))))))))))))))))
          cases H
          exact rt Tryz.func28 zZ (.tmp zZ .nil) zZ [] [] zZ zZ zZ zZ zZ ⟨zZ,zZ,zZ⟩
        ·
         refine fj [0] [0,1,2,3,4,5] [] 43 ae (xv 0 [0] [0,1,2,3,4,5] zZ (aq 6 zZ) kK kK kK kK (xv 1 [0] [0,1,2,3,4,5] zZ (am 0 none ag) kK kK kK kK (xv 2 [0] [0,1,2,3,4,5] zZ (bZ ac) kK kK kK kK (xv 3 [0] [0,1,2,3,4,5] zZ (aA zZ) kK kK kK kK (ts 61 zZ (dF Dm) (xk 4 [0] [0,1,2,3,4,5] zZ kK kK kK kK (xk 5 [0] [0,1,2,3,4,5] zZ kK kK kK kK (xk 6 [0] [0,1,2,3,4,5] zZ kK kK kK kK (xv 7 [0] [0,1,2,3,4,5] zZ (aI ag) kK kK kK kK (xv 8 [0] [0,1,2,3,4,5] zZ (aA zZ) kK kK kK kK (xk 9 [0] [0,1,2,3,4,5] zZ kK kK kK kK (xk 10 [0] [0,1,2,3,4,5] zZ kK kK kK kK (xk 11 [0] [0,1,2,3,4,5] zZ kK kK kK kK (xk 12 [0] [0,1,2,3,4,5] zZ kK kK kK kK (xk 13 [0] [0,1,2,3,4,5] zZ kK kK kK kK (xk 14 [0] [0,1,2,3,4,5] zZ kK kK kK kK (xk 15 [0] [0,1,2,3,4,5] zZ kK kK kK kK (xk 16 [0] [0,1,2,3,4,5] zZ kK kK kK kK (xk 17 [0] [0,1,2,3,4,5] zZ kK kK kK kK (xk 18 [0] [0,1,2,3,4,5] zZ kK kK kK kK (xv 19 [0] [0,1,2,3,4,5] zZ (aI ag) kK kK kK kK (xv 20 [0] [0,1,2,3,4,5] zZ (aA zZ) kK kK kK kK (xk 21 [0] [0,1,2,3,4,5] zZ kK kK kK kK (xk 22 [0] [0,1,2,3,4,5] zZ kK kK kK kK (xk 23 [0] [0,1,2,3,4,5] zZ kK kK kK kK (xv 24 [0] [0,1,2,3,4,5] zZ (aI ag) kK kK kK kK (xv 25 [0] [0,1,2,3,4,5] zZ (aA zZ) kK kK kK kK (xk 26 [0] [0,1,2,3,4,5] zZ kK kK kK kK (xk 27 [0] [0,1,2,3,4,5] zZ kK kK kK kK ?_)))))))))))))))))))))))))))))
         refine xk 28 [0] [0,1,2,3,4,5] zZ kK kK kK kK (xk 29 [0] [0,1,2,3,4,5] zZ kK kK kK kK (xk 30 [0] [0,1,2,3,4,5] zZ kK kK kK kK (xk 31 [0] [0,1,2,3,4,5] zZ kK kK kK kK (xk 32 [0] [0,1,2,3,4,5] zZ kK kK kK kK (xk 35 [0] [0,1,2,3,4,5] zZ kK kK kK kK (xk 36 [0] [0,1,2,3,4,5] zZ kK kK kK kK (xk 37 [0] [0,1,2,3,4,5] zZ kK kK kK kK (xk 38 [0] [0,1,2,3,4,5] zZ kK kK kK kK (xk 39 [0] [0,1,2,3,4,5] zZ kK kK kK kK (xk 33 [0] [0,1,2,3,4,5] zZ kK kK kK kK (xk 34 [0] [0,1,2,3,4,5] zZ kK kK kK kK (xk 40 [0] [0,1,2,3,4,5] zZ kK kK kK kK (xv 41 [0] [0,1,2,3,4,5] zZ (aI ag) kK kK kK kK (xv 42 [0] [0,1,2,3,4,5] zZ (gE zZ) kK kK kK kK (xd (aB [2] [] [] ae ?_))))))))))))))))
         cases H
         exact rt Tryz.func28 zZ (.tmp zZ .nil) zZ [] [] zZ zZ zZ zZ zZ ⟨zZ,zZ,zZ⟩
       ·
        refine gf zZ (dF zY) (gk (gs (gs (rg (sv (aq 1 zZ) zZ (sv (am 0 none ag) zZ (sv (aq 0 zZ) zZ (sv (am 0 none ag) zZ (sv (bG zZ) zZ (sv (lK zZ zZ) zZ (al ac ?_)))))))))))
        revert H; refine aJ ?_ ?_ <;> intro Vv H
        ·
         refine ts 106 zZ (nF Vv) (sv (aq 2 zZ) zZ (sv (am 0 none ag) zZ (sv (bG zZ) zZ (sv (dV ac) zZ (sv (aI ag) zZ (al ac ?_))))))
         revert H; refine aJ ?_ ?_ <;> intro Vt H
         ·
          refine ts 112 zZ (dT Vt) (sk zZ (sk zZ (sk zZ (sk zZ (sv (aQ ag) zZ (al ac (sk zZ (sk zZ (sk zZ (sk zZ (sk zZ (sv (aQ ag) zZ (re (aB [3,124] [0] [0,1,2,3,4] ae (gt zZ zZ (gs (rg (au ac (re ?_)))))))))))))))))))
          cases H
          exact rt Tryz.func28 zZ (.tmp zZ .nil) zZ [] [] zZ zZ zZ zZ zZ ⟨zZ,zZ,zZ⟩
         ·
          refine ts 112 zZ (dF Vt) (sv (aq 3 zZ) zZ (sv (am 0 none ag) zZ (sv (bG zZ) zZ (sv (dV ac) zZ (sv (aI ag) zZ (al ac ?_))))))
          revert H; refine aJ ?_ ?_ <;> intro Vr H
          ·
           refine ts 118 zZ (dT Vr) (sk zZ (sk zZ (sk zZ (sk zZ (sk zZ (sv (aQ ag) zZ (re (aB [3,124] [0] [0,1,2,3,4] ae (gt zZ zZ (gs (rg (au ac (re ?_)))))))))))))
           cases H
           exact rt Tryz.func28 zZ (.tmp zZ .nil) zZ [] [] zZ zZ zZ zZ zZ ⟨zZ,zZ,zZ⟩
          ·
           refine ts 118 zZ (dF Vr) (al ac (sv (aq 0 zZ) zZ (sv (am 0 none ag) zZ ?_)))
           revert H; refine aS ?_; rintro N3 MU H
           refine so zZ (ax (jj.ok n0 w6 QZ Qn av aL aK _ MU) [(aw 5),(aw 1)] 3 aG ?_)
           rintro _ _ _ ⟨rfl,rfl,rfl⟩
           refine sv (eE zZ) zZ (sv (aI ag) zZ (re (aB [3,124] [0] [0,1,2,3,4] ae ?_)))
           revert H; refine aJ ?_ ?_ <;> intro H2 H
           ·
            subst H2
            refine gf zZ zZ (gk (gs (gs (rg (sv (aq 8 zZ) zZ (sv (am 0 none ag) zZ (re (gb (gs (rg (sv (bZ ac) zZ (au ac (re ?_)))))))))))))
            revert H; refine aJ ?_ ?_ <;> intro zW H
            ·
             refine gt zZ (dT zW) (gs (gs (rg (sv (aq 5 zZ) zZ (sv (am 0 none ag) zZ (sv (bG zZ) zZ (sv (bS ac) zZ (re (aB [3,132] [0] [0,1,2,3,4] ae ?_)))))))))
             revert H; refine aJ ?_ ?_ <;> intro H1 H
             ·
              refine gt zZ (dT H1) (gs (rg (au ac (re ?_))))
              cases H
              exact rt Tryz.func28 zZ (.tmp zZ .nil) zZ [] [] zZ zZ zZ zZ zZ ⟨zZ,zZ,zZ⟩
             ·
              refine gf zZ (dF H1) (gk (gs ?_))
              revert H; refine aU ?_; intro CG H
              refine qt (i := 0) 4 n5 zZ dq CG fun W8 S8 => ?_
              revert H; refine aU ?_; intro tM H
              refine qt (i := 1) 4 n5 zZ dq tM fun W7 S7 => (fj [0] [0,1,2,3,4,5,6,7,8] [] 12 ae (ap 0 [0] [0,1,2,3,4,5,6,7,8] zZ (aq 5 zZ) ae (ap 1 [0] [0,1,2,3,4,5,6,7,8] zZ (am 0 none ag) ae (ap 2 [0] [0,1,2,3,4,5,6,7,8] zZ (aM 4 ag dq CG zZ) ae (ap 3 [0] [0,1,2,3,4,5,6,7,8] zZ (aq 0 zZ) ae (ap 4 [0] [0,1,2,3,4,5,6,7,8] zZ (ig (v := .slice W8 ((aC aH 0).f0).length S8) 0 none 5 ae) ae (ap 5 [0] [0,1,2,3,4,5,6,7,8] zZ (aq 5 zZ) ae (ap 6 [0] [0,1,2,3,4,5,6,7,8] zZ (am 0 none ag) ae (ap 7 [0] [0,1,2,3,4,5,6,7,8] zZ (aM 4 ag dq tM zZ) ae (ap 8 [0] [0,1,2,3,4,5,6,7,8] zZ (aq 0 zZ) ae (ap 9 [0] [0,1,2,3,4,5,6,7,8] zZ (ig (v := .slice W7 ((aC aH 1).f0).length S7) 0 none 7 ae) ae (ap 10 [0] [0,1,2,3,4,5,6,7,8] zZ (gE zZ) ae (ap 11 [0] [0,1,2,3,4,5,6,7,8] zZ (gE zZ) ae (xd (aB [3,7,8] [0] [0,1,2,3,4,5,6,7,8] ae (gs (gs (rg (sv (aq 6 zZ) zZ (sv (am 0 none ag) zZ (al ac (sv (bG zZ) zZ ?_))))))))))))))))))))))
              revert H; refine aS ?_; rintro t46 A46 H
              refine so zZ (ax (fD.ok gd 0 (((aC aH 0).f0).length : Int) _ A46) [] 1 aG ?_)
              rintro _ _ _ ⟨rfl,rfl,rfl⟩
              refine sv (eE zZ) zZ (al ac ?_)
              revert H; refine aJ ?_ ?_ <;> intro Vk H
              ·
               subst Vk
               refine eq 149 ac (sv (aq 7 zZ) zZ (sv (am 0 none ag) zZ (al ac (sv (bG zZ) zZ ?_))))
               revert H; refine aS ?_; rintro Pp R5 H
               refine so zZ (ax (fD.ok gn 0 (((aC aH 1).f0).length : Int) _ R5) [] 1 aG ?_)
               rintro _ _ _ ⟨rfl,rfl,rfl⟩
               refine sv (eE zZ) zZ (sv (aI ag) zZ (re (aB [3,7,8,156] [0] [0,1,2,3,4,5,6,7,8] ae ?_)))
               revert H; refine aJ ?_ ?_ <;> intro Vg H
               ·
                subst Vg
                refine gf zZ zZ (gk (gs ?_))
                revert H; refine aU ?_; intro Up H
                revert H; refine aU ?_; intro Uo H
                revert H; refine aU ?_; intro HP H
                revert H; refine aU ?_; intro Og H
                refine fj [0] [0,1,2,3,4,5,6,7,8] [] 27 ae (ap 0 [0] [0,1,2,3,4,5,6,7,8] zZ (aq 4 zZ) ae (ap 1 [0] [0,1,2,3,4,5,6,7,8] zZ (am 0 none ag) ae (ap 2 [0] [0,1,2,3,4,5,6,7,8] zZ (aA zZ) ae (ap 3 [0] [0,1,2,3,4,5,6,7,8] zZ (aq 6 zZ) ae (ap 4 [0] [0,1,2,3,4,5,6,7,8] zZ (am 0 none ag) ae (oY (l' := ((aC aH 0).f0).take gd.toNat) 0 gd 6 zZ (Int.le_refl 0) Up Uo zZ 0 dq (.inr zZ) zZ (ap 5 [0] [0,1,2,3,4,5,6,7,8] zZ (lL 0 gd 6 zZ zZ zZ zZ (Int.le_refl 0) Up Uo zZ zZ yr) ae (ap 6 [0] [0,1,2,3,4,5,6,7,8] zZ (aA zZ) ae (ap 7 [0] [0,1,2,3,4,5,6,7,8] zZ (aq 7 zZ) ae (ap 8 [0] [0,1,2,3,4,5,6,7,8] zZ (am 0 none ag) ae (oY (l' := ((aC aH 1).f0).take gn.toNat) 0 gn 8 zZ (Int.le_refl 0) HP Og zZ 0 dq (.inr zZ) zZ (ap 9 [0] [0,1,2,3,4,5,6,7,8] zZ (lL 0 gn 8 zZ zZ zZ zZ (Int.le_refl 0) HP Og zZ zZ yr) ae (ar 10 ac ?_)))))))))))))
                revert H; refine aS ?_; rintro Zg RY H
                refine ax (cJ.ok n0 (((aC aH 0).f0).take gd.toNat) (je W8 S8 (0 : Int).toNat 3) (S8 - (0 : Int).toNat) (((aC aH 1).f0).take gn.toNat) (je W7 S7 (0 : Int).toNat 3) (S7 - (0 : Int).toNat) _ RY) [(aw 9),(aw 10)] 1 aG ?_
                rintro _ _ _ ⟨afN,afB,rfl,rfl,rfl⟩
                refine aN [0] [0,1,2,3,4,5,6,7,8] ag (ar 11 ac ?_)
                revert H; refine aS ?_; rintro t55 Wf H
                refine ax (eP.ok n0 aO bo bn Zg afN afB _ Wf) [(aw 3),(aw 11)] 3 aG ?_
                rintro _ _ _ ⟨rfl,rfl,rfl⟩
                refine aN [0] [0,1,2,3,4,5,6,7,8] ag (ap 12 [0] [0,1,2,3,4,5,6,7,8] zZ (aA zZ) ae ?_)
                revert H; refine aJ ?_ ?_ <;> intro Ve H
                ·
                 subst Ve
                 refine eq 169 ac (ap 13 [0] [0,1,2,3,4,5,6,7,8] zZ (aq 4 zZ) ae (ap 14 [0] [0,1,2,3,4,5,6,7,8] zZ (am 0 none ag) ae (ap 15 [0] [0,1,2,3,4,5,6,7,8] zZ (aA zZ) ae (ap 16 [0] [0,1,2,3,4,5,6,7,8] zZ (aA zZ) ae (ap 18 [0] [0,1,2,3,4,5,6,7,8] zZ (aq 6 zZ) ae (ap 19 [0] [0,1,2,3,4,5,6,7,8] zZ (am 0 none ag) ae (ap 20 [0] [0,1,2,3,4,5,6,7,8] zZ (aq 7 zZ) ae (ap 21 [0] [0,1,2,3,4,5,6,7,8] zZ (am 0 none ag) ae (ap 22 [0] [0,1,2,3,4,5,6,7,8] zZ (ba ac) ae (ar 17 ac ?_))))))))))
                 revert H; refine aS ?_; rintro iS G3 H
                 refine ax (cJ.ok n0 ((aC aH 0).f0) W8 S8 ((aC aH 1).f0) W7 S7 _ G3) [(aw 6),(aw 8)] 3 aG ?_
                 rintro _ _ _ ⟨W0,S6,rfl,rfl,rfl⟩
                 refine aN [0] [0,1,2,3,4,5,6,7,8] ag (ar 23 ac ?_)
                 revert H; refine aU ?_; intro Of H
                 revert H; refine aU ?_; intro Um H
                 refine oY (l' := iS.take (wrap64 (gd + gn)).toNat) 0 (wrap64 (gd + gn)) 12 zZ (Int.le_refl 0) Of Um zZ 2 dq (.inr zZ) zZ (ov (lL 0 (wrap64 (gd + gn)) 12 zZ zZ zZ zZ (Int.le_refl 0) Of Um zZ zZ yr) zZ (aN [0] [0,1,2,3,4,5,6,7,8] ag (ar 24 ac ?_)))
                 revert H; refine aS ?_; rintro HA Oz H
                 refine ax (eP.ok n0 aO bo bn (iS.take (wrap64 (gd + gn)).toNat) (je W0 S6 (0 : Int).toNat 3) (S6 - (0 : Int).toNat) _ Oz) [(aw 3),(aw 13)] 5 aG ?_
                 rintro _ _ _ ⟨rfl,rfl,rfl⟩
                 refine aN [0] [0,1,2,3,4,5,6,7,8] ag (ap 25 [0] [0,1,2,3,4,5,6,7,8] zZ (aQ ag) ae (ap 26 [0] [0,1,2,3,4,5,6,7,8] zZ (gE zZ) ae (xd (aB [2] [] [] ae ?_))))
                 cases H
                 exact rt Tryz.func28 zZ (.tmp zZ .nil) zZ [] [] zZ zZ zZ zZ zZ ⟨zZ,zZ,zZ⟩
                ·
                 have xc56 := bF Ve; subst xc56
                 refine eq 169 ac (bv 13 [0] [0,1,2,3,4,5,6,7,8] aG (bv 14 [0] [0,1,2,3,4,5,6,7,8] aG (bv 15 [0] [0,1,2,3,4,5,6,7,8] aG (bv 16 [0] [0,1,2,3,4,5,6,7,8] aG (bv 18 [0] [0,1,2,3,4,5,6,7,8] aG (bv 19 [0] [0,1,2,3,4,5,6,7,8] aG (bv 20 [0] [0,1,2,3,4,5,6,7,8] aG (bv 21 [0] [0,1,2,3,4,5,6,7,8] aG (bv 22 [0] [0,1,2,3,4,5,6,7,8] aG (bv 17 [0] [0,1,2,3,4,5,6,7,8] aG (bv 23 [0] [0,1,2,3,4,5,6,7,8] aG (bv 24 [0] [0,1,2,3,4,5,6,7,8] aG (ap 25 [0] [0,1,2,3,4,5,6,7,8] zZ (aI ag) ae (ap 26 [0] [0,1,2,3,4,5,6,7,8] zZ (gE zZ) ae (xd (aB [2] [] [] ae ?_))))))))))))))))
                 cases H
                 exact rt Tryz.func28 zZ (.tmp zZ .nil) zZ [] [] zZ zZ zZ zZ zZ ⟨zZ,zZ,zZ⟩
               ·
                have xc49 := bF Vg; subst xc49
                refine gt zZ zZ (gs (rg (au ac (re ?_))))
                cases H
                exact rt Tryz.func28 zZ (.tmp zZ .nil) zZ [] [] zZ zZ zZ zZ zZ ⟨zZ,zZ,zZ⟩
              ·
               have xc47 := bF Vk; subst xc47
               refine eq 149 ac (sk zZ (sk zZ (sk zZ (sk zZ (sk zZ (sk zZ (sv (aQ ag) zZ (re (aB [3,7,8,156] [0] [0,1,2,3,4,5,6,7,8] ae (gt zZ zZ (gs (rg (au ac (re ?_))))))))))))))
               cases H
               exact rt Tryz.func28 zZ (.tmp zZ .nil) zZ [] [] zZ zZ zZ zZ zZ ⟨zZ,zZ,zZ⟩
            ·
             refine gf zZ (dF zW) (gs (rg (sv (bZ ac) zZ (au ac (re ?_)))))
             revert H; refine aJ ?_ ?_ <;> intro Ou H
             ·
              refine gt zZ (dT Ou) (gs (rg (sv (aq 5 zZ) zZ (sv (am 0 none ag) zZ (sv (bG zZ) zZ (sv (bZ ac) zZ (al ac ?_)))))))
              revert H; refine aJ ?_ ?_ <;> intro c62 H
              ·
               refine ts 189 zZ (dT c62) (sv (aq 6 zZ) zZ (sv (am 0 none ag) zZ (sv (aq 0 zZ) zZ (sv (am 0 none ag) zZ (sv (bG zZ) zZ (sv (co ac) zZ ?_))))))
               revert H; refine aS ?_; rintro TA A63 H
               refine so zZ (ax (fD.ok gd 0 (wrap64 ((av.length : Int) - 1)) _ A63) [] 1 aG ?_)
               rintro _ _ _ ⟨rfl,rfl,rfl⟩
               refine sv (aQ ag) zZ (al ac ?_)
               revert H; refine aJ ?_ ?_ <;> intro Ot H
               ·
                subst Ot
                refine eq 198 ac (sv (aq 7 zZ) zZ (sv (am 0 none ag) zZ (sv (bZ ac) zZ (sv (aQ ag) zZ (al ac ?_)))))
                revert H; refine aJ ?_ ?_ <;> intro Vb H
                ·
                 refine ts 203 zZ (dT Vb) (sv (aq 4 zZ) zZ (sv (am 0 none ag) zZ (sv (bG zZ) zZ (sv (bZ ac) zZ (sv (aQ ag) zZ (au ac (re (aB [2] [] [] ae ?_))))))))
                 cases H
                 exact rt Tryz.func28 zZ (.tmp zZ .nil) zZ [] [] zZ zZ zZ zZ zZ ⟨zZ,zZ,zZ⟩
                ·
                 refine ts 203 zZ (dF Vb) (sk zZ (sk zZ (sk zZ (sk zZ (sv (aI ag) zZ (au ac (re (aB [2] [] [] ae ?_))))))))
                 cases H
                 exact rt Tryz.func28 zZ (.tmp zZ .nil) zZ [] [] zZ zZ zZ zZ zZ ⟨zZ,zZ,zZ⟩
               ·
                have xc64 := bF Ot; subst xc64
                refine eq 198 ac (sk zZ (sk zZ (sk zZ (sv (aI ag) zZ (al ac (sk zZ (sk zZ (sk zZ (sk zZ (sv (aI ag) zZ (au ac (re (aB [2] [] [] ae ?_)))))))))))))
                cases H
                exact rt Tryz.func28 zZ (.tmp zZ .nil) zZ [] [] zZ zZ zZ zZ zZ ⟨zZ,zZ,zZ⟩
              ·
               refine ts 189 zZ (dF c62) (sk zZ (sk zZ (sk zZ (sk zZ (sk zZ (sk zZ (sk zZ (sv (aI ag) zZ (al ac (sk zZ (sk zZ (sk zZ (sv (aI ag) zZ (al ac (sk zZ (sk zZ (sk zZ (sk zZ (sv (aI ag) zZ (au ac (re (aB [2] [] [] ae ?_))))))))))))))))))))))
               cases H
               exact rt Tryz.func28 zZ (.tmp zZ .nil) zZ [] [] zZ zZ zZ zZ zZ ⟨zZ,zZ,zZ⟩
             ·
              refine gf zZ (dF Ou) (gs (rg (sv (bZ ac) zZ (au ac (re (aB [3,209] [0] [0,1,2,3,4] ae ?_))))))
              revert H; refine aJ ?_ ?_ <;> intro Va H
              ·
               refine gt zZ (dT Va) (gs (rg (sv (aq 5 zZ) zZ (sv (am 0 none ag) zZ (sv (bG zZ) zZ (sv (jv ac) zZ (al ac ?_)))))))
               revert H; refine aJ ?_ ?_ <;> intro U9 H
               ·
                refine ts 215 zZ (dT U9) (sv (aq 6 zZ) zZ (sv (am 0 none ag) zZ (sv (aq 0 zZ) zZ (sv (am 0 none ag) zZ (sv (bG zZ) zZ (sv (bZ ac) zZ (sv (aQ ag) zZ (al ac ?_))))))))
                revert H; refine aJ ?_ ?_ <;> intro c68 H
                ·
                 refine ts 223 zZ (dT c68) (sv (aq 7 zZ) zZ (sv (am 0 none ag) zZ (sv (bZ ac) zZ (sv (aQ ag) zZ (al ac ?_)))))
                 revert H; refine aJ ?_ ?_ <;> intro JX H
                 ·
                  refine ts 228 zZ (dT JX) (sv (aq 4 zZ) zZ (sv (am 0 none ag) zZ (sv (bG zZ) zZ (sv (bZ ac) zZ (sv (aQ ag) zZ (au ac (re (aB [2] [] [] ae ?_))))))))
                  cases H
                  exact rt Tryz.func28 zZ (.tmp zZ .nil) zZ [] [] zZ zZ zZ zZ zZ ⟨zZ,zZ,zZ⟩
                 ·
                  refine ts 228 zZ (dF JX) (sk zZ (sk zZ (sk zZ (sk zZ (sv (aI ag) zZ (au ac (re (aB [2] [] [] ae ?_))))))))
                  cases H
                  exact rt Tryz.func28 zZ (.tmp zZ .nil) zZ [] [] zZ zZ zZ zZ zZ ⟨zZ,zZ,zZ⟩
                ·
                 refine ts 223 zZ (dF c68) (sk zZ (sk zZ (sk zZ (sv (aI ag) zZ (al ac (sk zZ (sk zZ (sk zZ (sk zZ (sv (aI ag) zZ (au ac (re (aB [2] [] [] ae ?_)))))))))))))
                 cases H
                 exact rt Tryz.func28 zZ (.tmp zZ .nil) zZ [] [] zZ zZ zZ zZ zZ ⟨zZ,zZ,zZ⟩
               ·
                refine ts 215 zZ (dF U9) (sk zZ (sk zZ (sk zZ (sk zZ (sk zZ (sk zZ (sv (aI ag) zZ (al ac (sk zZ (sk zZ (sk zZ (sv (aI ag) zZ (al ac (sk zZ (sk zZ (sk zZ (sk zZ (sv (aI ag) zZ (au ac (re (aB [2] [] [] ae ?_)))))))))))))))))))))
                cases H
                exact rt Tryz.func28 zZ (.tmp zZ .nil) zZ [] [] zZ zZ zZ zZ zZ ⟨zZ,zZ,zZ⟩
              ·
               refine gf zZ (dF Va) (gk (ge (gs (rg (au ac (re ?_))))))
               cases H
               exact rt Tryz.func28 zZ (.tmp zZ .nil) zZ [] [] zZ zZ zZ zZ zZ ⟨zZ,zZ,zZ⟩
           ·
            have xc39 := bF H2; subst xc39
            refine gt zZ zZ (gs (rg (au ac (re ?_))))
            cases H
            exact rt Tryz.func28 zZ (.tmp zZ .nil) zZ [] [] zZ zZ zZ zZ zZ ⟨zZ,zZ,zZ⟩
        ·
         refine ts 106 zZ (nT Vv) (sk zZ (sk zZ (sk zZ (sk zZ (sv (aQ ag) zZ (al ac (sk zZ (sk zZ (sk zZ (sk zZ (sv (aQ ag) zZ (al ac (sk zZ (sk zZ (sk zZ (sk zZ (sk zZ (sv (aQ ag) zZ (re (aB [3,124] [0] [0,1,2,3,4] ae (gt zZ zZ (gs (rg (au ac (re ?_)))))))))))))))))))))))))
         cases H
         exact rt Tryz.func28 zZ (.tmp zZ .nil) zZ [] [] zZ zZ zZ zZ zZ ⟨zZ,zZ,zZ⟩
     ·
      have xc9 := bF c9; subst xc9
      refine gt zZ zZ (gs (rg (au ac (re ?_))))
      cases H
      exact rt Tryz.func28 zZ (.tmp zZ .nil) zZ [] [] zZ zZ zZ zZ zZ ⟨zZ,zZ,zZ⟩
   ·
    have xc6 := bF c6; subst xc6
    refine eq 29 ac (sk zZ (sk zZ (sk zZ (sv (aQ ag) zZ (al ac (sk zZ (sk zZ (sk zZ (sk zZ (sv (aQ ag) zZ (re (aB [3,39] [1] [0,1,2,3,4] ae (gt zZ zZ (gs (rg (au ac (re ?_)))))))))))))))))
    cases H
    exact rt Tryz.func28 zZ (.tmp zZ .nil) zZ [] [] zZ zZ zZ zZ zZ ⟨zZ,zZ,zZ⟩
  ·
   have xc4 := bF c4; subst xc4
   refine eq 23 ac (sk zZ (sk zZ (sk zZ (sk zZ (sv (aQ ag) zZ (al ac (sk zZ (sk zZ (sk zZ (sv (aQ ag) zZ (al ac (sk zZ (sk zZ (sk zZ (sk zZ (sv (aQ ag) zZ (re (aB [3,39] [1] [0,1,2,3,4] ae (gt zZ zZ (gs (rg (au ac (re ?_)))))))))))))))))))))))
   cases H
   exact rt Tryz.func28 zZ (.tmp zZ .nil) zZ [] [] zZ zZ zZ zZ zZ ⟨zZ,zZ,zZ⟩
 ·
  have xc2 := bF c2; subst xc2
  refine eq 14 ac (sk zZ (sk zZ (sk zZ (sk zZ (sk zZ (sk zZ (sk zZ (sv (aQ ag) zZ (al ac (sk zZ (sk zZ (sk zZ (sk zZ (sv (aQ ag) zZ (al ac (sk zZ (sk zZ (sk zZ (sv (aQ ag) zZ (al ac (sk zZ (sk zZ (sk zZ (sk zZ (sv (aQ ag) zZ (re (aB [3,39] [1] [0,1,2,3,4] ae (gt zZ zZ (gs ?_)))))))))))))))))))))))))))))
  refine rg (au ac (re ?_))
  cases H
  exact rt Tryz.func28 zZ (.tmp zZ .nil) zZ [] [] zZ zZ zZ zZ zZ ⟨zZ,zZ,zZ⟩
def gF.l0 : Nat → (List aT) → Int → Int → (List aT) → Option ((List aT))
 | 0,_,_,_,_ => none
 | k + 1,aY,bV,cQ,l0 => if cQ < bV then (if 0 ≤ cQ then (if cQ < (l0.length : Int) then ((hP.f ((aC l0 cQ).f0)).bind fun t5 => (if aY.length < 5864062014805 then (gF.l0 k (aY ++ ([(⟨t5⟩ : aT)] : List aT)) bV (wrap64 (cQ + 1)) l0) else none)) else none) else none) else (some aY)
def gF.f (k : Nat) (l0 : List aT) : Option ((List aT)) := gF.l0 k [] (l0.length : Int) 0 l0
theorem gF.ok (k : Nat) (l0 : List aT) (ay : Option Addr) (az : Nat) (r0 : List aT) (H : gF.f k l0 = some r0) : Fn Tryz.prog 95 [.slice ay l0.length az] [] [.sl 0 aZ ay az l0 0 false] (fun v bx en => ∃ A0 c0,v = .slice A0 r0.length c0 ∧ bx = [] ∧ en = [.sl 2 aZ A0 c0 r0 1 true]) := by
 refine eD 21 Tryz.func95 zZ zZ zZ (fun base T w0 => ?_)
 rw [gF.f] at H
 refine gs (rg (au ac (re (gs (rg (au ac (re (gs (gs (rg (al ac (sv (bG zZ) zZ (al ac (re (gb (aR aZ 1 dq ?_))))))))))))))))
 refine lo (fun kk S => ∃ (aY : List aT) (i0 : Option Addr) (iV : Nat) (bV : Int) (cQ : Int),gF.l0 kk aY bV cQ l0 = some r0 ∧ S = ⟨[(3,.slice i0 aY.length iV),(6,.slice ay l0.length az),(7,.int .i64 bV),(8,.int .i64 cQ)],[],[.sl 2 aZ i0 iV aY 1 true,.sl 0 aZ ay az l0 0 false]⟩) (fun S hS => ?_) (fun n0 cZ S hS => ?_) ⟨[],none,0,(l0.length : Int),0,H,zZ⟩ (fun h => wk [3,6,7,8] [] [(aj 1 2 1),(aw 0)] h)
 · clear H; obtain ⟨_,_,_,_,_,H,_⟩ := hS; rw [gF.l0] at H; cases H
 clear H
 obtain ⟨aY,i0,iV,bV,cQ,H,rfl⟩ := hS
 rw [gF.l0] at H
 refine gs (rg (sv (bS ac) zZ (re (gs ?_))))
 revert H; refine aJ ?_ ?_ <;> intro c1 H
 ·
  refine gt zZ (dT c1) (gk (gs (gb (gs (rg ?_)))))
  revert H; refine aU ?_; intro g2 H
  revert H; refine aU ?_; intro g3 H
  refine sv (aM 1 ag g2 g3 zZ) zZ (qt (i := cQ) 1 n5 zZ g2 g3 fun xI xw => (sv (ig (v := .agg #[.slice xI ((aC l0 cQ).f0).length xw]) 0 (some 1) 2 ae) zZ (so zZ (dk (cs := [.slice none 0 0]) kK zZ fun b5 => (so zZ (aD (cs' := [.slice xI ((aC l0 cQ).f0).length xw]) 0 bh (re (rg (al ac (sv (aq 0 zZ) zZ (sv (am 0 none ag) zZ ?_)))))))))))
  revert H; refine aS ?_; rintro t5 A5 H
  refine so zZ (ax (hP.ok ((aC l0 cQ).f0) xI xw _ A5) [(aw 3)] 2 aG ?_)
  rintro _ _ _ ⟨Oy,On,rfl,rfl,rfl⟩
  refine sv (gu (v := .agg #[.slice Oy t5.length On]) zZ kK) zZ (so zZ (bH (s := 1) (by_ := 24) aZ ([(⟨t5⟩ : aT)] : List aT) [[(Oy,On)]] [4] 4 [.tmp 16] dp dq zZ fun Tn Tc => (bR (en := [.sl 2 aZ i0 iV aY 1 true,.sl 0 aZ ay az l0 0 false,yu ay (cQ.toNat * 1) [.slice xI ((aC l0 cQ).f0).length xw] 0,.sl 0 ai xI xw ((aC l0 cQ).f0) 0 false,.sl 2 ai Oy On t5 4 true,.sl 2 aZ Tn Tc ([(⟨t5⟩ : aT)] : List aT) 4 true]) kK ?_)))
  revert H; refine aU ?_; intro g7 H
  exact so zZ (di (k := aZ) (s := 1) (by_ := 24) 0 5 ae (km g7 dq) (iz g7 dq) (.inr ⟨dq,dq,zZ,dq⟩) true (fun _ => .inr ⟨zZ,zZ,dq⟩) ac fun Yn X3 => (bR (en := [.sl 0 aZ ay az l0 0 false,yu ay (cQ.toNat * 1) [.slice xI ((aC l0 cQ).f0).length xw] 0,.sl 0 ai xI xw ((aC l0 cQ).f0) 0 false,.sl 2 ai Oy On t5 1 true,.sl 2 aZ Tn Tc ([(⟨t5⟩ : aT)] : List aT) 1 true,.sl 2 aZ Yn X3 (aY ++ ([(⟨t5⟩ : aT)] : List aT)) 1 true]) kK (au ac (re (aB [3,6,7,8] [] [0,5] ae (ge (rg (sv (ba ac) zZ (al ac (re (wk [3,6,7,8] [] [(aj 1 2 1),(aw 0)] (cZ _ (by omega) _ ⟨aY ++ ([(⟨t5⟩ : aT)] : List aT),Yn,X3,bV,wrap64 (cQ + 1),H,zZ⟩))))))))))))
 ·
  refine gf zZ (dF c1) (gx zZ (gs (rg (al ac (au ac (re (aB [2] [] [0] ae ?_)))))))
  cases H
  exact rt Tryz.func95 zZ (.tmp zZ .nil) zZ [] [(aj 0 2 1)] zZ zZ zZ zZ zZ ⟨_,_,zZ,zZ,zZ⟩
def mr.f (k : Nat) (av : List ah) (aF : Int) (aP : List ah) (aW : List ah) (aO : List ah) (aH : List aT) (bD : Int) (bI : Int) (bK : Int) (bE : Int) : Option ((List ah) × Int × (List ah) × (List ah) × (List ah) × (List aT) × Int × Int × Int × Int) := (hP.f av).bind fun t1 => ((hP.f aP).bind fun t2 => ((hP.f aW).bind fun t3 => ((hP.f aO).bind fun t4 => ((gF.f k aH).bind fun t5 => (some (t1,aF,t2,t3,t4,t5,bD,bI,bK,bE))))))
theorem mr.ok (k : Nat) (av : List ah) (aL : Option Addr) (aK : Nat) (aF : Int) (aP : List ah) (bB : Option Addr) (bA : Nat) (aW : List ah) (bm : Option Addr) (bk : Nat) (aO : List ah) (bo : Option Addr) (bn : Nat) (aH : List aT) (bl : Option Addr) (bj : Nat) (bD : Int) (bI : Int) (bK : Int) (bE : Int) (r0 : List ah) (r1 : Int) (r2 : List ah) (r3 : List ah) (r4 : List ah) (r5 : List aT) (r6 : Int) (r7 : Int) (r8 : Int) (r9 : Int) (H : mr.f k av aF aP aW aO aH bD bI bK bE = some (r0,r1,r2,r3,r4,r5,r6,r7,r8,r9)) : Fn Tryz.prog 56 [.agg #[.slice aL av.length aK,.int .i64 aF,.slice bB aP.length bA,.slice bm aW.length bk,.slice bo aO.length bn,.slice bl aH.length bj,.int .i64 bD,.int .i64 bI,.int .i64 bK,.int .i64 bE]] [] [.sl 0 ai aL aK av 0 false,.sl 0 ai bB bA aP 0 false,.sl 0 ai bm bk aW 0 false,.sl 0 ai bo bn aO 0 false,.sl 0 aZ bl bj aH 0 false] (fun v bx en => ∃ A0 c0 A2 c2 A3 c3 A4 c4 A5 c5,v = .agg #[.slice A0 r0.length c0,.int .i64 r1,.slice A2 r2.length c2,.slice A3 r3.length c3,.slice A4 r4.length c4,.slice A5 r5.length c5,.int .i64 r6,.int .i64 r7,.int .i64 r8,.int .i64 r9] ∧ bx = [] ∧ en = [.sl 2 ai A0 c0 r0 1 true,.sl 2 ai A2 c2 r2 2 true,.sl 2 ai A3 c3 r3 3 true,.sl 2 ai A4 c4 r4 4 true,.sl 2 aZ A5 c5 r5 5 true]) := by
 refine eD 24 Tryz.func56 zZ zZ zZ (fun base T w0 => ?_)
 rw [mr.f] at H
 refine gs (rg (so zZ (gU (cs := [.slice aL av.length aK,.int .i64 aF,.slice bB aP.length bA,.slice bm aW.length bk,.slice bo aO.length bn,.slice bl aH.length bj,.int .i64 bD,.int .i64 bI,.int .i64 bK,.int .i64 bE]) ag fun b1 => (so zZ (dk (cs := [.slice none 0 0,.int .i64 0,.slice none 0 0,.slice none 0 0,.slice none 0 0,.slice none 0 0,.int .i64 0,.int .i64 0,.int .i64 0,.int .i64 0]) kK zZ fun b2 => (re (gs (fj [0,1] [0,1,2,3,4] [16,17,18,19,20,21,22,23,24] 25 ae (ap 0 [0,1] [0,1,2,3,4] zZ (aq 0 zZ) ae (ap 1 [0,1] [0,1,2,3,4] zZ (am 0 none ag) ae (ap 3 [0,1] [0,1,2,3,4] zZ (aq 2 zZ) ae (ap 4 [0,1] [0,1,2,3,4] zZ (am 0 none ag) ae (ap 6 [0,1] [0,1,2,3,4] zZ (aq 3 zZ) ae (ap 7 [0,1] [0,1,2,3,4] zZ (am 0 none ag) ae (ap 9 [0,1] [0,1,2,3,4] zZ (aq 4 zZ) ae (ap 10 [0,1] [0,1,2,3,4] zZ (am 0 none ag) ae (ap 12 [0,1] [0,1,2,3,4] zZ (aq 5 zZ) ae (ap 13 [0,1] [0,1,2,3,4] zZ (am 0 none ag) ae (ar 2 ac ?_)))))))))))))))))))
 revert H; refine aS ?_; rintro t1 A1 H
 refine ax (hP.ok av aL aK _ A1) [(aw 0)] 1 aG ?_
 rintro _ _ _ ⟨iF,iE,rfl,rfl,rfl⟩
 refine aN [0,1] [0,1,2,3,4] ag (ap 15 [0,1] [0,1,2,3,4] zZ (aq 0 zZ) ae (ar 5 ac ?_))
 revert H; refine aS ?_; rintro t2 A2 H
 refine ax (hP.ok aP bB bA _ A2) [(aw 1)] 3 aG ?_
 rintro _ _ _ ⟨G2,GX,rfl,rfl,rfl⟩
 refine aN [0,1] [0,1,2,3,4] ag (ar 8 ac ?_)
 revert H; refine aS ?_; rintro t3 A3 H
 refine ax (hP.ok aW bm bk _ A3) [(aw 2)] 5 aG ?_
 rintro _ _ _ ⟨G1,GW,rfl,rfl,rfl⟩
 refine aN [0,1] [0,1,2,3,4] ag (ar 11 ac ?_)
 revert H; refine aS ?_; rintro t4 A4 H
 refine ax (hP.ok aO bo bn _ A4) [(aw 3)] 7 aG ?_
 rintro _ _ _ ⟨Yd,XW,rfl,rfl,rfl⟩
 refine aN [0,1] [0,1,2,3,4] ag (ar 14 ac ?_)
 revert H; refine aS ?_; rintro t5 A5 H
 refine ax (gF.ok k aH bl bj _ A5) [(aw 4)] 9 aG ?_
 rintro _ _ _ ⟨Oy,On,rfl,rfl,rfl⟩
 refine aN [0,1] [0,1,2,3,4] ag (ar 16 ac (aD (cs' := [.slice iF t1.length iE,.int .i64 aF,.slice bB aP.length bA,.slice bm aW.length bk,.slice bo aO.length bn,.slice bl aH.length bj,.int .i64 bD,.int .i64 bI,.int .i64 bK,.int .i64 bE]) 0 bh (xn zZ (ar 17 ac (ov (aq 2 zZ) zZ (xn zZ (ar 18 ac (aD (cs' := [.slice iF t1.length iE,.int .i64 aF,.slice G2 t2.length GX,.slice bm aW.length bk,.slice bo aO.length bn,.slice bl aH.length bj,.int .i64 bD,.int .i64 bI,.int .i64 bK,.int .i64 bE]) 0 bh (xn zZ (ar 19 ac (ov (aq 3 zZ) zZ (xn zZ (ar 20 ac (aD (cs' := [.slice iF t1.length iE,.int .i64 aF,.slice G2 t2.length GX,.slice G1 t3.length GW,.slice bo aO.length bn,.slice bl aH.length bj,.int .i64 bD,.int .i64 bI,.int .i64 bK,.int .i64 bE]) 0 bh (xn zZ (ar 21 ac (ov (aq 4 zZ) zZ (xn zZ (ar 22 ac (aD (cs' := [.slice iF t1.length iE,.int .i64 aF,.slice G2 t2.length GX,.slice G1 t3.length GW,.slice Yd t4.length XW,.slice bl aH.length bj,.int .i64 bD,.int .i64 bI,.int .i64 bK,.int .i64 bE]) 0 bh (xn zZ (ar 23 ac (ov (aq 5 zZ) zZ (xn zZ (ar 24 ac (aD (cs' := [.slice iF t1.length iE,.int .i64 aF,.slice G2 t2.length GX,.slice G1 t3.length GW,.slice Yd t4.length XW,.slice Oy t5.length On,.int .i64 bD,.int .i64 bI,.int .i64 bK,.int .i64 bE]) 0 bh (xn zZ (xd (aB [1,2] [0,1] [5,6,7,8,9] ae ?_)))))))))))))))))))))))))))))
 refine gs (rg (sv (am (v := .agg #[.slice iF t1.length iE,.int .i64 aF,.slice G2 t2.length GX,.slice G1 t3.length GW,.slice Yd t4.length XW,.slice Oy t5.length On,.int .i64 bD,.int .i64 bI,.int .i64 bK,.int .i64 bE]) 0 (some 10) ag) zZ (so zZ (aD (cs' := [.slice iF t1.length iE,.int .i64 aF,.slice G2 t2.length GX,.slice G1 t3.length GW,.slice Yd t4.length XW,.slice Oy t5.length On,.int .i64 bD,.int .i64 bI,.int .i64 bK,.int .i64 bE]) 1 bh (re ?_)))))
 cases H
 exact rt Tryz.func56 zZ (.cell 1 (some 10) zZ zZ zZ .nil) zZ [] [(aj 0 2 1),(aj 1 2 2),(aj 2 2 3),(aj 3 2 4),(aj 4 2 5)] zZ zZ zZ zZ zZ ⟨_,_,_,_,_,_,_,_,_,_,zZ,zZ,zZ⟩
def oV.f (a0 : Int) : Option (Bool) := (fD.f a0 8 60).bind fun t1 => (some t1)
theorem oV.ok (a0 : Int) (r0 : Bool) (H : oV.f a0 = some r0) : Fn Tryz.prog 57 [.int .i64 a0] [] [] (fun v bx en => v = .bool r0 ∧ bx = [] ∧ en = []) := by
 refine eD 5 Tryz.func57 zZ zZ zZ (fun base T w0 => ?_)
 rw [oV.f] at H
 refine gs (rg (au ac (re (gs (rg (al ac ?_))))))
 revert H; refine aS ?_; rintro t1 A1 H
 refine so zZ (ax (fD.ok a0 8 60 _ A1) [] 1 aG ?_)
 rintro _ _ _ ⟨rfl,rfl,rfl⟩
 refine au ac (re ?_)
 cases H
 exact rt Tryz.func57 zZ (.tmp zZ .nil) zZ [] [] zZ zZ zZ zZ zZ ⟨zZ,zZ,zZ⟩
def gJ.f (av : List ah) (aF : Int) (aP : List ah) (aW : List ah) (aO : List ah) (aH : List aT) (bD : Int) (bI : Int) (bK : Int) (bE : Int) : Option ((List ah) × (List ah) × (List ah) × (List ah) × (List aT) × Int × Int × Int × Int × Int) := if aH.length < 5864062014805 then (some (av,aP,aW,[],aH ++ ([(⟨aO⟩ : aT)] : List aT),aF,bD,bI,bK,bE)) else none
theorem gJ.ok (dh : Nat) (av : List ah) (aL : Option Addr) (aK : Nat) (aF : Int) (aP : List ah) (bB : Option Addr) (bA : Nat) (aW : List ah) (bm : Option Addr) (bk : Nat) (aO : List ah) (bo : Option Addr) (bn : Nat) (aH : List aT) (bl : Option Addr) (bj : Nat) (bD : Int) (bI : Int) (bK : Int) (bE : Int) (r0 : List ah) (r1 : List ah) (r2 : List ah) (r3 : List ah) (r4 : List aT) (r5 : Int) (r6 : Int) (r7 : Int) (r8 : Int) (r9 : Int) (H : gJ.f av aF aP aW aO aH bD bI bK bE = some (r0,r1,r2,r3,r4,r5,r6,r7,r8,r9)) : Fn Tryz.prog 61 [.pointer (some ⟨dh,0,none⟩)] [⟨dh,27,[.slice aL av.length aK,.int .i64 aF,.slice bB aP.length bA,.slice bm aW.length bk,.slice bo aO.length bn,.slice bl aH.length bj,.int .i64 bD,.int .i64 bI,.int .i64 bK,.int .i64 bE]⟩] [.sl 1 ai aL aK av 1 true,.sl 1 ai bB bA aP 2 true,.sl 1 ai bm bk aW 3 true,.sl 1 ai bo bn aO 4 true,.sl 1 aZ bl bj aH 5 true] (fun v bx en => ∃ A0 c0 A1 c1 A2 c2 A3 c3 A4 c4,v = .tuple #[] ∧ bx = [⟨dh,27,[.slice A0 r0.length c0,.int .i64 r5,.slice A1 r1.length c1,.slice A2 r2.length c2,.slice A3 r3.length c3,.slice A4 r4.length c4,.int .i64 r6,.int .i64 r7,.int .i64 r8,.int .i64 r9]⟩] ∧ en = [.sl 1 ai A0 c0 r0 1 true,.sl 1 ai A1 c1 r1 2 true,.sl 1 ai A2 c2 r2 3 true,.sl 2 ai A3 c3 r3 4 true,.sl 1 aZ A4 c4 r4 5 true]) := by
 refine eD 19 Tryz.func61 zZ zZ zZ (fun base T w0 => ?_)
 rw [gJ.f] at H
 refine gs ?_
 revert H; refine aU ?_; intro g1 H
 refine fj [0] [0,1,2] [12,13,14] 15 ae (ap 0 [0] [0,1,2] zZ (aA zZ) ae (ap 1 [0] [0,1,2] zZ (aA zZ) ae (ap 2 [0] [0,1,2] zZ (nE zZ) ae (ap 3 [0] [0,1,2] zZ (aq 5 zZ) ae (ap 4 [0] [0,1,2] zZ (am 0 none ag) ae (ap 5 [0] [0,1,2] zZ (aA zZ) ae (ap 6 [0] [0,1,2] zZ (nE zZ) ae (ap 7 [0] [0,1,2] zZ (aq 4 zZ) ae (ap 8 [0] [0,1,2] zZ (am 0 none ag) ae (ap 9 [0] [0,1,2] zZ (gu (v := .agg #[.slice bo aO.length bn]) zZ kK) ae (ar 10 ac (bH (s := 1) (by_ := 24) aZ ([(⟨aO⟩ : aT)] : List aT) [[(bo,bn)]] [3] 6 [.tmp 11] dp dq zZ fun Yr X7 => (bR (en := [.sl 1 ai aL aK av 1 true,.sl 1 ai bB bA aP 2 true,.sl 1 ai bm bk aW 3 true,.sl 1 ai bo bn aO 6 true,.sl 1 aZ bl bj aH 5 true,.sl 2 aZ Yr X7 ([(⟨aO⟩ : aT)] : List aT) 6 true]) kK (aN [0] [0,1,2] ag (ar 11 ac (di (k := aZ) (s := 1) (by_ := 24) 4 5 ae (km g1 dq) (iz g1 dq) (.inr ⟨dq,dq,zZ,dq⟩) true (fun _ => .inr ⟨zZ,zZ,dq⟩) ac fun Ph Pe => (bR (en := [.sl 1 ai aL aK av 1 true,.sl 1 ai bB bA aP 2 true,.sl 1 ai bm bk aW 3 true,.sl 1 ai bo bn aO 5 true,.sl 2 aZ Yr X7 ([(⟨aO⟩ : aT)] : List aT) 5 true,.sl 1 aZ Ph Pe (aH ++ ([(⟨aO⟩ : aT)] : List aT)) 5 true]) kK (aN [0] [0,1,2] ag (ar 12 ac (ov (nE zZ) zZ (xn zZ (ar 13 ac (ov (aq 5 zZ) zZ (xn zZ (ar 14 ac (aD (cs' := [.slice aL av.length aK,.int .i64 aF,.slice bB aP.length bA,.slice bm aW.length bk,.slice bo aO.length bn,.slice Ph (aH ++ ([(⟨aO⟩ : aT)] : List aT)).length Pe,.int .i64 bD,.int .i64 bI,.int .i64 bK,.int .i64 bE]) 0 bh (xn zZ (xd (aB [0] [0] [0,1,2,3,5] ae ?_)))))))))))))))))))))))))))))
 refine rg (al ac (sv (nE zZ) zZ (sv (aq 4 zZ) zZ (so zZ (aD (cs' := [.slice aL av.length aK,.int .i64 aF,.slice bB aP.length bA,.slice bm aW.length bk,.slice none 0 0,.slice Ph (aH ++ ([(⟨aO⟩ : aT)] : List aT)).length Pe,.int .i64 bD,.int .i64 bI,.int .i64 bK,.int .i64 bE]) 0 bh (re (aR ai 6 dq ?_)))))))
 cases H
 exact GS Tryz.func61 zZ .nil zZ [0] [(aj 0 1 1),(aj 1 1 2),(aj 2 1 3),(aj 5 2 4),(aj 4 1 5)] zZ zZ zZ zZ zZ ⟨_,_,_,_,_,_,_,_,_,_,zZ,zZ,zZ⟩
def dS.l0 : Nat → Int → Int → Int → (List ah) → Option (Int)
 | 0,_,_,_,_ => none
 | k + 1,aY,bV,cQ,l0 => if cQ < bV then (if 0 ≤ cQ then (if cQ < (l0.length : Int) then (if aY < 0 then (dS.l0 k cQ bV (wrap64 (cQ + 1)) l0) else (if 0 ≤ aY then (if aY < (l0.length : Int) then ((dB.f ((aa l0 cQ).f0) ((aa l0 cQ).f1) ((aa l0 cQ).f2) ((aa l0 aY).f0) ((aa l0 aY).f1) ((aa l0 aY).f2)).bind fun t7 => (if t7 < 0 then (dS.l0 k cQ bV (wrap64 (cQ + 1)) l0) else (dS.l0 k aY bV (wrap64 (cQ + 1)) l0))) else none) else none)) else none) else none) else (some aY)
def dS.f (k : Nat) (l0 : List ah) : Option (Int) := dS.l0 k (-1) (l0.length : Int) 0 l0
theorem dS.ok (k : Nat) (l0 : List ah) (ay : Option Addr) (az : Nat) (r0 : Int) (H : dS.f k l0 = some r0) : Fn Tryz.prog 62 [.slice ay l0.length az] [] [.sl 0 ai ay az l0 0 false] (fun v bx en => v = .int .i64 r0 ∧ bx = [] ∧ en = []) := by
 refine eD 27 Tryz.func62 zZ zZ zZ (fun base T w0 => ?_)
 rw [dS.f] at H
 refine gs (rg (au ac (re (gs (rg (au ac (re (gs (gs (rg (al ac (sv (bG zZ) zZ (al ac (re (gb ?_)))))))))))))))
 refine lo (fun kk S => ∃ (aY : Int) (bV : Int) (cQ : Int),dS.l0 kk aY bV cQ l0 = some r0 ∧ S = ⟨[(0,.slice ay l0.length az),(3,.int .i64 aY),(6,.slice ay l0.length az),(7,.int .i64 bV),(8,.int .i64 cQ)],[],[.sl 0 ai ay az l0 0 false]⟩) (fun S hS => ?_) (fun n0 cZ S hS => ?_) ⟨(-1),(l0.length : Int),0,H,zZ⟩ (fun h => wk [0,3,6,7,8] [] [(aw 0)] h)
 · clear H; obtain ⟨_,_,_,H,_⟩ := hS; rw [dS.l0] at H; cases H
 clear H
 obtain ⟨aY,bV,cQ,H,rfl⟩ := hS
 rw [dS.l0] at H
 refine gs (rg (sv (bS ac) zZ (re (gs ?_))))
 revert H; refine aJ ?_ ?_ <;> intro c1 H
 ·
  refine gt zZ (dT c1) (gk (gs (gb (gs (rg (al ac ?_))))))
  revert H; refine aU ?_; intro g2 H
  revert H; refine aU ?_; intro g3 H
  refine sv (aM 0 ag g2 g3 zZ) zZ (sv (bg (v := .agg #[.int .i64 ((aa l0 cQ).f0),.int .i64 ((aa l0 cQ).f1),.int .i64 ((aa l0 cQ).f2)]) cQ 0 (some 3) 0 cK zZ zZ zZ g2 g3 zZ zZ zZ) zZ (so zZ (dk (cs := [.int .i64 0,.int .i64 0,.int .i64 0]) kK zZ fun b5 => (au ac (so zZ (aD (cs' := [.int .i64 ((aa l0 cQ).f0),.int .i64 ((aa l0 cQ).f1),.int .i64 ((aa l0 cQ).f2)]) 0 bh (re (gs (fj [0] [0] [] 11 ae (ap 0 [0] [0] zZ (aA zZ) ae (ap 1 [0] [0] zZ (bS ac) ae (ap 2 [0] [0] zZ (aA zZ) ae ?_))))))))))))
  revert H; refine aJ ?_ ?_ <;> intro c4 H
  ·
   exact ts 15 zZ (dT c4) (bv 3 [0] [0] aG (bv 4 [0] [0] aG (bv 5 [0] [0] aG (bv 6 [0] [0] aG (bv 7 [0] [0] aG (bv 8 [0] [0] aG (bv 9 [0] [0] aG (ap 10 [0] [0] zZ (aQ ag) ae (xd (aB [0,3,4,6,7,8,23] [] [0] ae (gt zZ zZ (rg (al ac (au ac (re (ge (rg (sv (ba ac) zZ (al ac (re (wk [0,3,6,7,8] [] [(aw 0)] (cZ _ (by omega) _ ⟨cQ,bV,wrap64 (cQ + 1),H,zZ⟩))))))))))))))))))))))
  ·
   refine ts 15 zZ (dF c4) (ap 3 [0] [0] zZ (am (v := .agg #[.int .i64 ((aa l0 cQ).f0),.int .i64 ((aa l0 cQ).f1),.int .i64 ((aa l0 cQ).f2)]) 0 (some 3) ag) ae (ap 4 [0] [0] zZ (aA zZ) ae (ap 5 [0] [0] zZ (aA zZ) ae ?_)))
   revert H; refine aU ?_; intro g5 H
   revert H; refine aU ?_; intro g6 H
   refine ap 6 [0] [0] zZ (aM 0 ag g5 g6 zZ) ae (ap 7 [0] [0] zZ (bg (v := .agg #[.int .i64 ((aa l0 aY).f0),.int .i64 ((aa l0 aY).f1),.int .i64 ((aa l0 aY).f2)]) aY 0 (some 3) 0 cK zZ zZ zZ g5 g6 zZ zZ zZ) ae (ar 8 ac ?_))
   revert H; refine aS ?_; rintro t7 A7 H
   refine ax (dB.ok ((aa l0 cQ).f0) ((aa l0 cQ).f1) ((aa l0 cQ).f2) ((aa l0 aY).f0) ((aa l0 aY).f1) ((aa l0 aY).f2) _ A7) [] 1 aG ?_
   rintro _ _ _ ⟨rfl,rfl,rfl⟩
   refine aN [0] [0] ag (ap 9 [0] [0] zZ (bS ac) ae (ap 10 [0] [0] zZ (aI ag) ae (xd (aB [0,3,4,6,7,8,16,17,18,19,20,21,22,23] [] [0] ae ?_))))
   revert H; refine aJ ?_ ?_ <;> intro c8 H
   ·
    exact gt zZ (dT c8) (rg (al ac (au ac (re (ge (rg (sv (ba ac) zZ (al ac (re (wk [0,3,6,7,8] [] [(aw 0)] (cZ _ (by omega) _ ⟨cQ,bV,wrap64 (cQ + 1),H,zZ⟩)))))))))))
   ·
    exact gf zZ (dF c8) (gk (ge (rg (sv (ba ac) zZ (al ac (re (wk [0,3,6,7,8] [] [(aw 0)] (cZ _ (by omega) _ ⟨aY,bV,wrap64 (cQ + 1),H,zZ⟩))))))))
 ·
  refine gf zZ (dF c1) (gx zZ (gs (rg (al ac (au ac (re (aB [2] [] [] ae ?_)))))))
  cases H
  exact rt Tryz.func62 zZ (.tmp zZ .nil) zZ [] [] zZ zZ zZ zZ zZ ⟨zZ,zZ,zZ⟩
def jU.f (l0 : List ah) (a1 : Int) : Option ((List ah)) := if 0 ≤ a1 then (if a1 ≤ (l0.length : Int) then ((hP.f (l0.take a1.toNat)).bind fun t3 => (if 0 ≤ (wrap64 (a1 + 1)) then (if (wrap64 (a1 + 1)) ≤ (l0.length : Int) then (if t3.length + (l0.drop (wrap64 (a1 + 1)).toNat).length ≤ 5864062014805 then (some (t3 ++ (l0.drop (wrap64 (a1 + 1)).toNat))) else none) else none) else none)) else none) else none
theorem jU.ok (l0 : List ah) (ay : Option Addr) (az : Nat) (a1 : Int) (r0 : List ah) (H : jU.f l0 a1 = some r0) : Fn Tryz.prog 63 [.slice ay l0.length az,.int .i64 a1] [] [.sl 0 ai ay az l0 0 false] (fun v bx en => ∃ A0 c0,v = .slice A0 r0.length c0 ∧ bx = [] ∧ en = [.sl 2 ai A0 c0 r0 1 true]) := by
 refine eD 16 Tryz.func63 zZ zZ zZ (fun base T w0 => ?_)
 rw [jU.f] at H
 refine gs (rg (au ac (re (gs (rg (al ac (al ac ?_)))))))
 revert H; refine aU ?_; intro g1 H
 revert H; refine aU ?_; intro g2 H
 refine oY (l' := l0.take a1.toNat) 0 a1 0 zZ (Int.le_refl 0) g1 g2 zZ 0 dq (.inr zZ) zZ (sv (lL 0 a1 0 zZ zZ zZ zZ (Int.le_refl 0) g1 g2 zZ zZ yr) zZ ?_)
 revert H; refine aS ?_; rintro t3 A3 H
 refine so zZ (ax (hP.ok (l0.take a1.toNat) (je ay az (0 : Int).toNat 3) (az - (0 : Int).toNat) _ A3) [(aw 1)] 1 aG ?_)
 rintro _ _ _ ⟨G1,GW,rfl,rfl,rfl⟩
 refine au ac (re (gs (rg (al ac (al ac (al ac (sv (ba ac) zZ ?_)))))))
 revert H; refine aU ?_; intro g4 H
 revert H; refine aU ?_; intro g5 H
 refine oY (l' := l0.drop (wrap64 (a1 + 1)).toNat) (wrap64 (a1 + 1)) (l0.length : Int) 0 zZ g4 g5 (Int.le_refl _) zZ 0 dq (.inl dq) JW (sv (lL (wrap64 (a1 + 1)) (l0.length : Int) 0 zZ zZ zZ zZ g4 g5 (Int.le_refl _) zZ zZ Ds) zZ ?_)
 revert H; refine aU ?_; intro g6 H
 refine so zZ (di (k := ai) (s := 3) (by_ := 24) 2 3 ae (JY g6 dq) (Du g6 dq) (.inl zZ) true (fun _ => .inl zZ) ac fun MZ Mh => (bR (en := [.sl 0 ai ay az l0 0 false,.sl 0 ai (je ay az (0 : Int).toNat 3) (az - (0 : Int).toNat) (l0.take a1.toNat) 0 false,.sl 0 ai (je ay az (wrap64 (a1 + 1)).toNat 3) (az - (wrap64 (a1 + 1)).toNat) (l0.drop (wrap64 (a1 + 1)).toNat) 0 false,.sl 2 ai MZ Mh (t3 ++ (l0.drop (wrap64 (a1 + 1)).toNat)) 2 true]) kK (au ac (re (aB [4] [] [3] ae ?_)))))
 cases H
 exact rt Tryz.func63 zZ (.tmp zZ .nil) zZ [] [(aj 0 2 1)] zZ zZ zZ zZ zZ ⟨_,_,zZ,zZ,zZ⟩
def ez.f (av : List ah) (aF : Int) (aP : List ah) (aW : List ah) (aO : List ah) (aH : List aT) (bD : Int) (bI : Int) (bK : Int) (bE : Int) : Option (Int × Int × Int × Int × Int) := if (aH.length : Int) = 0 then (some (aF,0,0,4,bE)) else (if (aH.length : Int) = 1 then (some (aF,0,0,3,bE)) else (some (aF,0,0,2,bE)))
theorem ez.ok (dh : Nat) (av : List ah) (aL : Option Addr) (aK : Nat) (aF : Int) (aP : List ah) (bB : Option Addr) (bA : Nat) (aW : List ah) (bm : Option Addr) (bk : Nat) (aO : List ah) (bo : Option Addr) (bn : Nat) (aH : List aT) (bl : Option Addr) (bj : Nat) (bD : Int) (bI : Int) (bK : Int) (bE : Int) (r0 : Int) (r1 : Int) (r2 : Int) (r3 : Int) (r4 : Int) (H : ez.f av aF aP aW aO aH bD bI bK bE = some (r0,r1,r2,r3,r4)) : Fn Tryz.prog 64 [.pointer (some ⟨dh,0,none⟩)] [⟨dh,27,[.slice aL av.length aK,.int .i64 aF,.slice bB aP.length bA,.slice bm aW.length bk,.slice bo aO.length bn,.slice bl aH.length bj,.int .i64 bD,.int .i64 bI,.int .i64 bK,.int .i64 bE]⟩] [.sl 0 ai aL aK av 0 false,.sl 0 ai bB bA aP 0 false,.sl 0 ai bm bk aW 0 false,.sl 0 ai bo bn aO 0 false,.sl 0 aZ bl bj aH 0 false] (fun v bx en => v = .tuple #[] ∧ bx = [⟨dh,27,[.slice aL av.length aK,.int .i64 r0,.slice bB aP.length bA,.slice bm aW.length bk,.slice bo aO.length bn,.slice bl aH.length bj,.int .i64 r1,.int .i64 r2,.int .i64 r3,.int .i64 r4]⟩] ∧ en = []) := by
 refine eD 26 Tryz.func64 zZ zZ zZ (fun base T w0 => ?_)
 rw [ez.f] at H
 refine gs (rg (al ac (al ac (sv (nE zZ) zZ (sv (aq 6 zZ) zZ (so zZ (aD (cs' := [.slice aL av.length aK,.int .i64 aF,.slice bB aP.length bA,.slice bm aW.length bk,.slice bo aO.length bn,.slice bl aH.length bj,.int .i64 0,.int .i64 bI,.int .i64 bK,.int .i64 bE]) 0 bh (sv (nE zZ) zZ (sv (aq 7 zZ) zZ (so zZ (aD (cs' := [.slice aL av.length aK,.int .i64 aF,.slice bB aP.length bA,.slice bm aW.length bk,.slice bo aO.length bn,.slice bl aH.length bj,.int .i64 0,.int .i64 0,.int .i64 bK,.int .i64 bE]) 0 bh (re (aB [0] [0] [0,1,2,3,4] ae (gs (rg (al ac (sv (nE zZ) zZ (sv (aq 5 zZ) zZ (sv (am 0 none ag) zZ (sv (bG zZ) zZ (re (gb (gs (rg (sv (bZ ac) zZ (au ac (re ?_)))))))))))))))))))))))))))
 revert H; refine aJ ?_ ?_ <;> intro c1 H
 ·
  refine gt zZ (dT c1) (rg (al ac (sv (nE zZ) zZ (sv (aq 8 zZ) zZ (so zZ (aD (cs' := [.slice aL av.length aK,.int .i64 aF,.slice bB aP.length bA,.slice bm aW.length bk,.slice bo aO.length bn,.slice bl aH.length bj,.int .i64 0,.int .i64 0,.int .i64 4,.int .i64 bE]) 0 bh (re (aB [] [0] [0,1,2,3,4] ae (ge ?_)))))))))
  cases H
  exact GS Tryz.func64 zZ .nil zZ [0] [] zZ zZ zZ zZ zZ ⟨zZ,zZ,zZ⟩
 ·
  refine gf zZ (dF c1) (gs (rg (sv (bZ ac) zZ (au ac (re (aB [0,21] [0] [0,1,2,3,4] ae ?_))))))
  revert H; refine aJ ?_ ?_ <;> intro c2 H
  ·
   refine gt zZ (dT c2) (rg (al ac (sv (nE zZ) zZ (sv (aq 8 zZ) zZ (so zZ (aD (cs' := [.slice aL av.length aK,.int .i64 aF,.slice bB aP.length bA,.slice bm aW.length bk,.slice bo aO.length bn,.slice bl aH.length bj,.int .i64 0,.int .i64 0,.int .i64 3,.int .i64 bE]) 0 bh (re (ge ?_))))))))
   cases H
   exact GS Tryz.func64 zZ .nil zZ [0] [] zZ zZ zZ zZ zZ ⟨zZ,zZ,zZ⟩
  ·
   refine gf zZ (dF c2) (rg (al ac (sv (nE zZ) zZ (sv (aq 8 zZ) zZ (so zZ (aD (cs' := [.slice aL av.length aK,.int .i64 aF,.slice bB aP.length bA,.slice bm aW.length bk,.slice bo aO.length bn,.slice bl aH.length bj,.int .i64 0,.int .i64 0,.int .i64 2,.int .i64 bE]) 0 bh (re (ge ?_))))))))
   cases H
   exact GS Tryz.func64 zZ .nil zZ [0] [] zZ zZ zZ zZ zZ ⟨zZ,zZ,zZ⟩
end Go.Proofs.YtfoblaonklkaoaaGreat.K
