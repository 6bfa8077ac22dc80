/- A library for walks: states, slices, calls. No condition. -/
import Derived.Below
import Derived.ChangeArms
import Derived.KernelRfl
import Derived.Laws.BytesArg
import Derived.Laws.Strings2
import Derived.Laws.Strings3
import Derived.Laws.StructEq
import Derived.Lib.ConvBytes
import Derived.MapKept
import Derived.WideShapes
import Derived.Test.YtfoblaonklkaoaaGreatSA
namespace Go.Proofs.YtfoblaonklkaoaaGreat.K
open Go Go.RowKit
set_option linter.unusedVariables false
set_option linter.unusedSimpArgs false
/-! ### '==' of structs -/
section
variable {P : Program} {d : Nat} {xs ys : Array Value} {f : Field} {fs : List Field} {a b : Value} {r s : Bool} {w : World}
theorem YJ (hn : (f.name == "_") = false) (ha : (part f.type xs f.offset).run P w = .ok a w) (hb : (part f.type ys f.offset).run P w = .ok b w) (he : (Op.equalIn d f.type a b).run P w = .ok r w) : (Op.eqFields d xs ys [f]).run P w = .ok r w := by
 have hn' : f.name ≠ "_" := by simpa using hn
 simp only [Op.eqFields, if_pos hn', Sem.run_bind, ha, hb, he, Result.andThen_ok]
 cases r <;> simp
theorem RL (hn : (f.name == "_") = false) (ha : (part f.type xs f.offset).run P w = .ok a w) (hb : (part f.type ys f.offset).run P w = .ok b w) (he : (Op.equalIn d f.type a b).run P w = .ok r w) (hr : (Op.eqFields d xs ys fs).run P w = .ok s w) : (Op.eqFields d xs ys (f :: fs)).run P w = .ok (r && s) w := by
 have hn' : f.name ≠ "_" := by simpa using hn
 rw [Op.eqFields]
 simp only [if_pos hn', Sem.run_bind, ha, hb, he, Result.andThen_ok]
 cases r
 ·simp
 ·simpa using hr
theorem adp {t : TypeId} {fs : Array Field} (hu : P.underlying t = some (.struct fs)) (hp : P.stoodInHeld t = false) (h : (Op.eqFields d xs ys fs.toList).run P w = .ok r w) : (Op.equalIn (d + 1) t (.agg xs) (.agg ys)).run P w = .ok r w := by
 have hf : P.fieldsOf t = fs := by simp [Program.fieldsOf, hu]
 rw [run_equalIn_struct (P := P) w d t xs ys (by rw [hf]; exact hu) hp, hf]
 exact h
end
section ev
variable {P : Program} {C : Cx} {S : St} {bx : List iq} {en : List cz} {d : Option Nat} {ty : TypeId} {pos : String} {af : Array Edge} {g : Option (Nat × Bool)} {x y z : Operand} {v : Value} {t u : TypeId} {a b : Int} {k : IntKind}
theorem agF {xs ys : Array Value} {r : Bool} (hx : S.ev x = some (.agg xs)) (hy : S.ev y = some (.agg ys)) (h : ∀ d w, (Op.equalIn (d + 20) t (.agg xs) (.agg ys)).run P w = .ok r w) (hm : P.eqGuardType P.depth t = false := by kernel_rfl) :
  EV P C S bx en ⟨d, .binOp .eql t x y u, ty, pos, af, g⟩ (.bool r) := fun _ w H _ => by
 have h1 := run_eqGuard_agg (P := P) w .eql t x y xs ys hm
 have h2 := run_eql_struct (P := P) w t xs ys
 rw [h 9980 w] at h2
 simp only [execOp, H.ev hx, H.ev hy, Sem.run_bind, h1, Result.andThen_ok, h2]; rfl
theorem Mo {xs ys : Array Value} {r : Bool} (hx : S.ev x = some (.agg xs)) (hy : S.ev y = some (.agg ys)) (h : ∀ d w, (Op.equalIn (d + 20) t (.agg xs) (.agg ys)).run P w = .ok r w) (hm : P.eqGuardType P.depth t = false := by kernel_rfl) :
  EV P C S bx en ⟨d, .binOp .neq t x y u, ty, pos, af, g⟩ (.bool (!r)) := fun _ w H _ => by
 have h1 := run_eqGuard_agg (P := P) w .neq t x y xs ys hm
 have h2 := run_neq_struct (P := P) w t xs ys
 rw [h 9980 w] at h2
 simp only [execOp, H.ev hx, H.ev hy, Sem.run_bind, h1, Result.andThen_ok, h2]; rfl
def aaQ (P : Program) (t : TypeId) (parts : List (Nat × Value)) : Option Value :=
 match P.info? t with
 | none => none
 | some i => match i.zero, P.underlying t with
  | some z, some (.struct fs) => match fs.toList.mapM (fun f => (P.info? f.type).map fun j => (f.offset, j.size)) with
   | some pl => (Instr.fill (pl[·]?) z.cells parts).map fun cs => .agg cs
   | none => none
  | some z, some (.array _ e) => match P.info? e with
   | some j => (Instr.fill (fun i => some (i * j.size, j.size)) z.cells parts).map fun cs => .agg cs
   | none => none
  | _, _ => none
def St.evp (S : St) : List (Nat × Operand) → Option (List (Nat × Value))
 | [] => some []
 | (i, x) :: r => match S.ev x, S.evp r with
  | some v, some l => some ((i, v) :: l)
  | _, _ => none
theorem Ab.evp {n : Nat} {S : St} {a : Act} (h : Ab n S a) : ∀ {l : List (Nat × Operand)} {vs : List (Nat × Value)}, S.evp l = some vs → l.map (fun p => (p.1, a.eval p.2)) = vs
 | [], vs, e => by simp [St.evp] at e; simp [e]
 | (i, x) :: r, vs, e => by
  simp only [St.evp] at e
  cases h1 : S.ev x with
  | none => simp [h1] at e
  | some v => cases h2 : S.evp r with
   | none => simp [h1, h2] at e
   | some l => simp [h1, h2] at e; subst e; simp [h.ev h1, h.evp h2]
theorem Lv {P : Program} {w : World} : ∀ {fs : List Field} {pl : List (Nat × Nat)}, fs.mapM (fun f => (P.info? f.type).map fun j => (f.offset, j.size)) = some pl →
  (fs.mapM (m := Sem) fun f => do pure (f.offset, ← sizeOf f.type)).run P w = .ok pl w
 | [], pl, h => by simp at h; subst h; simp
 | f :: fs, pl, h => by
  rw [List.mapM_cons] at h
  cases h1 : P.info? f.type with
  | none => simp [h1] at h
  | some j =>
   cases h2 : fs.mapM (fun f => (P.info? f.type).map fun j => (f.offset, j.size)) with
   | none => rw [h1, h2] at h; simp at h
   | some l =>
    rw [h1, h2] at h
    simp at h
    subst h
    have := Lv (w := w) h2
    simp [List.mapM_cons, sizeOf, typeInfo, h1] at this ⊢
    rw [this]; rfl
theorem gu {parts : Array (Nat × Operand)} {ps : List (Nat × Value)} (hp : S.evp parts.toList = some ps) (h : aaQ P t ps = some v) : EV P C S bx en ⟨d, .build t parts, ty, pos, af, g⟩ v := fun a w H _ => by
 have hev := H.evp hp
 have hpe : (parts.map fun (i, x) => (i, a.eval x)).toList = ps := by rw [Array.toList_map]; exact hev
 unfold aaQ at h
 cases hi : P.info? t with
 | none => simp [hi] at h
 | some i =>
  rw [hi] at h
  simp only at h
  cases hz : i.zero with
  | none => simp [hz] at h
  | some z =>
   cases hu : P.underlying t with
   | none => simp [hz, hu] at h
   | some dd =>
    rw [hz, hu] at h
    cases dd with
    | struct fs =>
     simp only at h
     cases hpl : fs.toList.mapM (fun f => (P.info? f.type).map fun j => (f.offset, j.size)) with
     | none => rw [hpl] at h; cases h
     | some pl =>
      rw [hpl] at h
      simp only at h
      cases hf : Instr.fill (pl[·]?) z.cells ps with
      | none => rw [hf] at h; cases h
      | some cs =>
       rw [hf] at h
       simp at h; subst h
       have hpr := Lv (P := P) (w := w) hpl
       have hpr' : (fs.mapM (m := Sem) fun f => do pure (f.offset, ← sizeOf f.type)).run P w = .ok pl.toArray w := by
        rw [Array.mapM_eq_mapM_toList, Sem.run_map, hpr]; rfl
       have hr : (Instr.build t (parts.map fun (i, x) => (i, a.eval x))).run P w = .ok (.agg cs) w := by
        unfold Instr.build
        simp only [Sem.run_bind, Sem.run_map, zeroValue, typeInfo, run_program, hi, hz, Result.andThen_ok, Sem.run_pure, run_underlying hu, hpr', hpe]
        have : Instr.fill (fun x => pl.toArray[x]?) z.cells ps = some cs := by simpa using hf
        rw [this]; rfl
       simp only [execOp]
       rw [Sem.run_bind, hr]; rfl
    | array n e =>
     simp only at h
     cases hj : P.info? e with
     | none => rw [hj] at h; cases h
     | some j =>
      rw [hj] at h
      simp only at h
      cases hf : Instr.fill (fun i => some (i * j.size, j.size)) z.cells ps with
      | none => rw [hf] at h; cases h
      | some cs =>
       rw [hf] at h
       simp at h; subst h
       have hr : (Instr.build t (parts.map fun (i, x) => (i, a.eval x))).run P w = .ok (.agg cs) w := by
        unfold Instr.build
        simp only [Sem.run_bind, Sem.run_map, zeroValue, sizeOf, typeInfo, run_program, hi, hz, hj, Result.andThen_ok, Sem.run_pure, run_underlying hu, hpe, hf]
       simp only [execOp]
       rw [Sem.run_bind, hr]; rfl
    | _ => simp at h
end ev
def bt (s : ByteArray) (i : Int) : Int := if h : i.toNat < s.size then ((s[i.toNat]'h).toNat : Int) else 0
def ST (P : Program) (t : Nat) (k : IntKind) : Bool := match P.underlying t with | some (.int k') => decide (k = k') | _ => false
theorem WK {P : Program} {t : Nat} {k : IntKind} (h : ST P t k = true) : P.underlying t = some (.int k) := by unfold ST at h; split at h; simp at h; subst h; assumption; cases h
def Nb (P : Program) (t : Nat) : Bool := match P.underlying t with | some (.slice e) => (match P.underlying e with | some (.int .u8) => vK P e 1 | _ => false) | _ => false
theorem SV {P : Program} {t : Nat} (h : Nb P t = true) : ∃ e, P.underlying t = some (.slice e) ∧ P.underlying e = some (.int .u8) := by
 unfold Nb at h
 split at h
 ·rename_i e he
  split at h
  ·rename_i h2; exact ⟨e, he, h2⟩
  ·cases h
 ·cases h
section ev
variable {P : Program} {C : Cx} {S : St} {bx : List iq} {en : List cz} {d : Option Nat} {ty : TypeId} {pos : String} {af : Array Edge} {g : Option (Nat × Bool)} {x y z : Operand} {v : Value} {t u : TypeId} {a b : Int} {k k' : IntKind}
theorem xB {s : ByteArray} (hx : S.ev x = some (.string s)) (hy : S.ev y = some (.int k a)) (h0 : 0 ≤ a) (h1 : a < (s.size : Int)) (h : Df P t = true := by kernel_rfl) : EV P C S bx en ⟨d, .index t x y, ty, pos, af, g⟩ (.int .u8 (bt s a)) := fun _ w H _ => by
 have h2 : a.toNat < s.size := by omega
 have hr := run_index_string (P := P) w t s k a (oT h)
 rw [dif_pos ⟨h0, h1⟩] at hr
 simp only [execOp, H.ev hx, H.ev hy]
 simp [hr, bt, h2]
theorem VJ {s : ByteArray} (hx : S.ev x = some (.string s)) (hy : S.ev y = some (.int k a)) (hz : S.ev z = some (.int k' b)) (h0 : 0 ≤ a) (h1 : a ≤ b) (h2 : b ≤ (s.size : Int)) (h : Df P t = true := by kernel_rfl) :
  EV P C S bx en ⟨d, .slice t x (some y) (some z) none, ty, pos, af, g⟩ (.string (s.extract a.toNat b.toNat)) := fun _ w H _ => by
 have hr := run_slice_string (P := P) w t s k k' a b (oT h) h0 h1 h2
 have hs := run_sliceAt_string (P := P) w t (.string s) (some (.int k a)) (some (.int k' b)) none (oT h)
 simp only [execOp, H.ev hx, Option.map_some, H.ev hy, H.ev hz, Option.map_none]
 rw [Sem.run_bind, hs, hr]; rfl
theorem EY {s : ByteArray} (hx : S.ev x = some (.string s)) (hy : S.ev y = some (.int k a)) (h0 : 0 ≤ a) (h1 : a ≤ (s.size : Int)) (h : Df P t = true := by kernel_rfl) :
  EV P C S bx en ⟨d, .slice t x (some y) none none, ty, pos, af, g⟩ (.string (s.extract a.toNat s.size)) := fun _ w H _ => by
 have hr := run_slice_string_from_if (P := P) w t s k a (oT h)
 rw [if_pos ⟨h0, h1⟩] at hr
 have hs := run_sliceAt_string (P := P) w t (.string s) (some (.int k a)) none none (oT h)
 simp only [execOp, H.ev hx, Option.map_some, H.ev hy, Option.map_none]
 rw [Sem.run_bind, hs, hr]; rfl
theorem Mn {s : ByteArray} (hx : S.ev x = some (.string s)) (hy : S.ev y = some (.int k a)) (h0 : 0 ≤ a) (h1 : a ≤ (s.size : Int)) (h : Df P t = true := by kernel_rfl) :
  EV P C S bx en ⟨d, .slice t x none (some y) none, ty, pos, af, g⟩ (.string (s.extract 0 a.toNat)) := fun _ w H _ => by
 have hr := run_slice_string_to_if (P := P) w t s k a (oT h)
 rw [if_pos ⟨h0, h1⟩] at hr
 have hs := run_sliceAt_string (P := P) w t (.string s) none (some (.int k a)) none (oT h)
 simp only [execOp, H.ev hx, Option.map_some, H.ev hy, Option.map_none]
 rw [Sem.run_bind, hs, hr]; rfl
theorem mJ (hx : S.ev x = some (.int k a)) (hu : ST P u k' = true := by kernel_rfl) (ht : (P.underlying t).isSome = true := by kernel_rfl) : EV P C S bx en ⟨d, .convert t u x, ty, pos, af, g⟩ (.int k' (k'.wrap a)) := fun _ w H _ => by
 obtain ⟨dd, hd⟩ := Option.isSome_iff_exists.1 ht
 have h1 := run_underlying hd w
 have h2 := run_underlying (WK hu) w
 simp [execOp, H.ev hx, convert, h1, h2, Conv.intToInt]
theorem Dn {o : Nat} {A : Option Addr} {c : Nat} {l : List Int} {cls : Nat} {lin : Bool} (j : Nat) (he : en[j]? = some (.sl o (.int .u8) A c l cls lin)) (hx : S.ev x = some (.slice A l.length c)) (ht : Nb P t = true := by kernel_rfl) (hu : Df P u = true := by kernel_rfl) :
  EV P C S bx en ⟨d, .convert t u x, ty, pos, af, g⟩ (.string (strOfNums l)) := fun _ w H ⟨fp, W⟩ => by
 obtain ⟨e, hs, hee⟩ := SV ht
 obtain ⟨bs, f, _⟩ := W.ent _ (List.mem_of_getElem? he)
 have key : (convert t u (.slice A l.length c)).run P w = .ok (.string (strOfNums l)) w := by
  obtain ⟨hle, f⟩ := f
  have hnil : l = [] → (convert t u (.slice A l.length c)).run P w = .ok (.string (strOfNums l)) w := fun hl => by
   subst hl
   cases A with
   | none => rw [run_convert_bytes_nil w t e hs hee _ _ u (oT hu)]; rfl
   | some ad =>
    obtain ⟨b, off, spot⟩ := ad
    rw [run_convert_bytes_string w t u e _ _ _ hs hee (oT hu), run_bytesToString w _ _ _ [] (by simp [loadCells, loadCellsFrom])]; rfl
  rcases f with ⟨rfl, rfl, _⟩ | ⟨_, rfl, _⟩ | ⟨b, off, cur, e', fr, cs, bs', rfl, hg, hE, hc, rfl, _⟩
  ·exact hnil (List.eq_nil_of_length_eq_zero (by omega))
  ·exact hnil rfl
  ·have hcs : cs = l.map (Value.int .u8) := by
    have key : ∀ {l : List Int} {cs : List Value} {b : List Nat}, dw (Kd.rep (.int .u8) (min o 1) w) cs l b → cs = l.map (Value.int .u8) := by
     intro l
     induction l with
     | nil => intro cs b h; exact h.1
     | cons x xs ih => intro cs b ⟨c1, c2, b1, b2, e1, _, h1, h2⟩; rw [e1, h1.1, ih h2]; rfl
    exact key hE
   subst hcs
   rw [run_convert_bytes_string w t u e _ _ _ hs hee (oT hu)]
   have hl := run_loadCells_list (P := P) w ⟨b, off, none⟩ (l.map (Value.int .u8)) (fun j v hv => by rw [kO]; simp [World.cell?, hg]; exact hc j v hv)
   rw [List.length_map] at hl
   rw [run_bytesToString w _ l.length c l hl]
   congr 2
   have : ∀ (l : List Int) (acc : ByteArray), l.foldl (fun r n => r.push (UInt8.ofNat n.toNat)) acc = ⟨acc.data ++ (l.map fun n => UInt8.ofNat n.toNat).toArray⟩ := by
    intro l
    induction l with
    | nil => intro acc; simp
    | cons x xs ih => intro acc; rw [List.foldl_cons, ih]; simp [ByteArray.push]
   rw [this]
   simp [strOfNums, ByteArray.empty, ByteArray.emptyWithCapacity]
   rfl
 simp only [execOp, H.ev hx]
 rw [Sem.run_bind, key]; rfl
end ev
/-! ### Drawn regions -/
def Wp (C : Cx) (bx : List iq) (en : List cz) (w : World) : Prop := NZ C.base C.T bx en w
def mB (nm : List Nat) (j : Nat) : Bool := !nm.any (Nat.beq j)
def vz (en : List cz) : List Nat → Option (List cz)
 | [] => some []
 | i :: r => match en[i]?, vz en r with
  | some e, some l => some (e :: l)
  | _, _ => none
theorem Kv {en : List cz} : ∀ {is : List Nat} {l : List cz}, vz en is = some l → ∀ e ∈ l, e ∈ en
 | [], l, h, e, he => by simp [vz] at h; subst h; cases he
 | i :: r, l, h, e, he => by
  simp only [vz] at h
  cases h1 : en[i]? with
  | none => simp [h1] at h
  | some y =>
   cases h2 : vz en r with
   | none => simp [h1, h2] at h
   | some l' =>
    simp [h1, h2] at h; subst h
    rcases List.mem_cons.1 he with he | he
    ·subst he; exact List.mem_of_getElem? h1
    ·exact Kv h2 e he
section
variable {P : Program} {C : Cx} {S : St} {ops : Array Oper} {f : FuncId} {R : Ending → World → Prop} {k : List Item} {Q : Exit → Act → World → Prop} {bx0 : List iq} {en0 : List cz} {nm : List Nat} {fuel : Nat} {l : Array Bool}
theorem vP.drew {a : Act} {w : World} (H : vP C S a w) : vP C S a w.drew :=
 ⟨H.tms, let ⟨fp, W⟩ := H.wl; ⟨fp, W.ext (Nat.le_refl _) (fun _ _ => rfl)⟩, ⟨H.bel.os, H.bel.tape, H.bel.output, H.bel.size, H.bel.block⟩, H.base⟩
theorem vP.sub0 {a : Act} {w : World} (H : vP C S a w) {ib ie : List Nat} (hb : jp S.bx ib = some bx0) (hnb : kd ib = true) (he : vz S.en ie = some en0) : Wp C bx0 en0 w :=
 let ⟨fp, W⟩ := H.wl; ⟨fp, (W.boxes hb hnb).sub (List.Sublist.refl _) (Kv he)⟩
theorem dr {id : Nat} (ib ie nm : List Nat) (n : Nat) (hb : jp S.bx ib = some bx0) (he : vz S.en ie = some en0) (hn : ops.size = n) (hl : Array.replicate ops.size false = l) (h : df C S (gN P .any ops (Nr P f R k) (mB nm) (Wp C bx0 en0) n l)) (hm : P.follows .mixedOrders = true := by kernel_rfl) :
  df C S (GA P f R (.code (.region id ops true) :: k)) := fun a w H => GA.draw (mB nm) (Wp C bx0 en0) hm (by subst hn; subst hl; exact h a w.drew H.drew)
theorem fj {id : Nat} (ib : List Nat) (ie : List Nat) (nm : List Nat) (n : Nat) (hh0 : (jp S.bx ib = some bx0) ∧ (vz S.en ie = some en0) ∧ (ops.size = n) ∧ (Array.replicate ops.size false = l)) (h : df C S (gN P .any ops (Nr P f R k) (mB nm) (Wp C bx0 en0) n l)) (hm : P.follows .mixedOrders = true := by kernel_rfl) :
  df C S (GA P f R (.code (.region id ops true) :: k)) := dr ib ie nm n hh0.1 hh0.2.1 hh0.2.2.1 hh0.2.2.2 h (hm := hm)
theorem xv (i : Nat) {oi : Oper} {v : Value} (ib ie : List Nat) (hi : ops[i]? = some oi) (hv : EV P C S bx0 en0 oi v) (hg : S.go C.n ops oi = true) (hb : jp S.bx ib = some bx0) (hnb : kd ib = true) (he : vz S.en ie = some en0)
  (h : df C (S.put oi.dst v) (gN P .any ops (Nr P f R k) (mB nm) (Wp C bx0 en0) fuel (l.setIfInBounds i true))) (hc : Iy .any ops (mB nm) l i = true := by kernel_rfl) : df C S (gN P .any ops (Nr P f R k) (mB nm) (Wp C bx0 en0) (fuel + 1) l) := fun a w H => by
 obtain ⟨hw, hd⟩ := St.go_ok H.tms hg
 exact JH hi hc (fun c a w h => by cases h.1) (.inl ⟨hw, fun w' h' => hv a w' H.tms h'⟩) (H.sub0 hb hnb he) (h _ _ (H.put hd))
theorem ap (i : Nat) {oi : Oper} {v : Value} (ib : List Nat) (ie : List Nat) (hi : ops[i]? = some oi) (hv : EV P C S bx0 en0 oi v) (hh0 : (S.go C.n ops oi = true) ∧ (jp S.bx ib = some bx0) ∧ (kd ib = true) ∧ (vz S.en ie = some en0)) (h : df C (S.put oi.dst v) (gN P .any ops (Nr P f R k) (mB nm) (Wp C bx0 en0) fuel (l.setIfInBounds i true))) (hc : Iy .any ops (mB nm) l i = true := by kernel_rfl) : df C S (gN P .any ops (Nr P f R k) (mB nm) (Wp C bx0 en0) (fuel + 1) l) := xv i ib ie hi hv hh0.1 hh0.2.1 hh0.2.2.1 hh0.2.2.2 h (hc := hc)
theorem xk (i : Nat) {oi : Oper} (ib ie : List Nat) (hi : ops[i]? = some oi) (hg : S.no C.n ops oi = true) (hb : jp S.bx ib = some bx0) (hnb : kd ib = true) (he : vz S.en ie = some en0)
  (h : df C (S.put oi.dst undef) (gN P .any ops (Nr P f R k) (mB nm) (Wp C bx0 en0) fuel (l.setIfInBounds i true))) (hc : Iy .any ops (mB nm) l i = true := by kernel_rfl) : df C S (gN P .any ops (Nr P f R k) (mB nm) (Wp C bx0 en0) (fuel + 1) l) := fun a w H => by
 obtain ⟨hw, hd⟩ := St.no_ok H.tms hg
 exact JH hi hc (fun c a w h => by cases h.1) (.inr ⟨hw, rfl⟩) (H.sub0 hb hnb he) (h _ _ (H.put hd))
theorem bv (i : Nat) {oi : Oper} (ib : List Nat) (ie : List Nat) (hh0 : (ops[i]? = some oi) ∧ (S.no C.n ops oi = true) ∧ (jp S.bx ib = some bx0) ∧ (kd ib = true) ∧ (vz S.en ie = some en0)) (h : df C (S.put oi.dst undef) (gN P .any ops (Nr P f R k) (mB nm) (Wp C bx0 en0) fuel (l.setIfInBounds i true))) (hc : Iy .any ops (mB nm) l i = true := by kernel_rfl) : df C S (gN P .any ops (Nr P f R k) (mB nm) (Wp C bx0 en0) (fuel + 1) l) := xk i ib ie hh0.1 hh0.2.1 hh0.2.2.1 hh0.2.2.2.1 hh0.2.2.2.2 h (hc := hc)
def Bh (P : Program) (ops : Array Oper) (Q : Exit → Act → World → Prop) (nm : List Nat) (S0 : World → Prop) (fuel : Nat) (l : Array Bool) (i : Nat) : Act → World → Prop := fun a' w' => (mB nm i = true → S0 w') ∧ gN P .any ops Q (mB nm) S0 fuel (l.setIfInBounds i true) a' w'
theorem afu (i : Nat) {oi : Oper} (hi : ops[i]? = some oi) (hg : S.go C.n ops oi = true) (h : df C S (fun a w => oi.wp P a w (Bh P ops Q nm (Wp C bx0 en0) fuel l i) Q)) (hr : Region.ready .any ops l = [i] := by kernel_rfl) :
  df C S (gN P .any ops Q (mB nm) (Wp C bx0 en0) (fuel + 1) l) := fun a w H => by
 refine FX hr (by simp) fun j hj => ?_
 rw [List.mem_singleton] at hj; subst hj
 obtain ⟨hw, hd⟩ := St.go_ok H.tms hg
 unfold wpOp
 simp only [hi]
 rw [if_pos hw]
 exact .inl (h a w H)
theorem ar (i : Nat) {oi : Oper} (hh0 : (ops[i]? = some oi) ∧ (S.go C.n ops oi = true)) (h : df C S (fun a w => oi.wp P a w (Bh P ops Q nm (Wp C bx0 en0) fuel l i) Q)) (hr : Region.ready .any ops l = [i] := by kernel_rfl) :
  df C S (gN P .any ops Q (mB nm) (Wp C bx0 en0) (fuel + 1) l) := afu i hh0.1 hh0.2 h (hr := hr)
theorem gW (i j : Nat) {oi oj : Oper} (hi : ops[i]? = some oi) (hj : ops[j]? = some oj) (hgi : S.go C.n ops oi = true) (hgj : S.go C.n ops oj = true) (h : df C S (fun a w => oi.wp P a w (Bh P ops Q nm (Wp C bx0 en0) fuel l i) Q))
  (h' : df C S (fun a w => oj.wp P a w (Bh P ops Q nm (Wp C bx0 en0) fuel l j) Q)) (hr : Region.ready .any ops l = [i, j] := by kernel_rfl) : df C S (gN P .any ops Q (mB nm) (Wp C bx0 en0) (fuel + 1) l) := fun a w H => by
 refine FX hr (by simp) fun q hq => ?_
 unfold wpOp
 rcases List.mem_cons.1 hq with hq | hq
 ·subst hq
  simp only [hi]
  rw [if_pos (St.go_ok H.tms hgi).1]
  exact .inl (h a w H)
 ·rw [List.mem_singleton] at hq; subst hq
  simp only [hj]
  rw [if_pos (St.go_ok H.tms hgj).1]
  exact .inl (h' a w H)
theorem xs {i : Nat} (ib ie : List Nat) (hb : jp S.bx ib = some bx0) (hnb : kd ib = true) (he : vz S.en ie = some en0) (h : df C S (gN P .any ops Q (mB nm) (Wp C bx0 en0) fuel (l.setIfInBounds i true))) : df C S (Bh P ops Q nm (Wp C bx0 en0) fuel l i) :=
 fun a w H => ⟨fun _ => H.sub0 hb hnb he, h a w H⟩
theorem aN {i : Nat} (ib : List Nat) (ie : List Nat) (hh0 : (jp S.bx ib = some bx0) ∧ (kd ib = true) ∧ (vz S.en ie = some en0)) (h : df C S (gN P .any ops Q (mB nm) (Wp C bx0 en0) fuel (l.setIfInBounds i true))) : df C S (Bh P ops Q nm (Wp C bx0 en0) fuel l i) := xs ib ie hh0.1 hh0.2.1 hh0.2.2 h 
theorem xn {i : Nat} (hn : mB nm i = false) (h : df C S (gN P .any ops Q (mB nm) (Wp C bx0 en0) fuel (l.setIfInBounds i true))) : df C S (Bh P ops Q nm (Wp C bx0 en0) fuel l i) :=
 fun a w H => ⟨(fun q => by rw [hn] at q; cases q), h a w H⟩
theorem xd (h : df C S (GA P f R k)) (hr : Region.ready .any ops l = [] := by kernel_rfl) : df C S (gN P .any ops (Nr P f R k) (mB nm) (Wp C bx0 en0) fuel l) := fun a w H => Re hr ⟨rfl, h a w H⟩ fuel
end
/-! ### A slice cut -/
section
variable {P : Program} {C : Cx} {S : St} {K : Act → World → Prop} {Q : Exit → Act → World → Prop} {d : Option Nat} {ty : TypeId} {pos : String} {af : Array Edge} {g : Option (Nat × Bool)} {x y z : Operand} {v : Value} {t u : TypeId} {kk k2 : IntKind}
def je (A : Option Addr) (c lo s : Nat) : Option Addr := if c = lo then A else A.map (fun (q : Addr) => q.add (lo * s))
theorem WQ {α : Type} {o : Nat} {k : Kd α} {A : Option Addr} {c : Nat} {l : List α} {cls : Nat} {lin : Bool} {w : World} {bs : List Nat} (h : (cz.sl o k A c l cls lin).fact w bs) (lo hi : Nat) (h1 : lo ≤ hi) (h2 : hi ≤ l.length) :
    ∃ bs', (cz.sl (bif Nat.beq lo 0 then o else min o 1) k (je A c lo k.size) (c - lo) ((l.take hi).drop lo) cls lin).fact w bs' ∧ bs'.Sublist bs := by
  obtain ⟨hle, h⟩ := h
  have hlen : ((l.take hi).drop lo).length = hi - lo := by simp; omega
  rcases h with ⟨rfl, rfl, rfl⟩ | ⟨rfl, rfl, rfl⟩ | ⟨b, off, cur, e, fr, cs, bs', rfl, hb, he, hc, rfl, hw1, hw2⟩
  · have : lo = 0 := by omega
    subst this
    exact ⟨[], ⟨by rw [hlen]; omega, .inl ⟨by simp [je], by simp, rfl⟩⟩, List.Sublist.refl _⟩
  · have : lo = 0 := by simp at h2; omega
    subst this
    exact ⟨[], ⟨by simp, .inr (.inl ⟨by simp, by simp, rfl⟩)⟩, List.Sublist.refl _⟩
  · obtain ⟨p, q, b1, b2, rfl, rfl, hp, e1, e2⟩ := dw.take (fun _ _ _ => k.rep_len) hi he
    obtain ⟨p1, q1, d1, d2, rfl, rfl, hp1, f1, f2⟩ := dw.take (fun _ _ _ => k.rep_len) lo e1
    have hp1' : p1.length = lo * k.size := by rw [hp1]; congr 1; simp; omega
    by_cases D7 : c = lo
    · -- nothing is left
      have hz : (l.take hi).drop lo = [] := List.eq_nil_of_length_eq_zero (by rw [hlen]; omega)
      subst D7
      rw [hz]; unfold je; rw [if_pos rfl]
      refine ⟨[b], ⟨Nat.zero_le _, .inr (.inr ⟨b, off, cur, e, fr, [], [], rfl, hb, ⟨rfl, rfl⟩, fun j v hv => by simp at hv, rfl, fun ho => ?_, fun ho => ?_⟩)⟩, ?_⟩
      · have ho' : 1 ≤ o := by cases hq : Nat.beq c 0 <;> rw [hq] at ho <;> simp at ho <;> omega
        exact ⟨(hw1 ho').1, by simp; have := (hw1 ho').2.1; omega, by unfold maxLen; omega⟩
      · cases hq : Nat.beq c 0 with
        | false => rw [hq] at ho; simp at ho; omega
        | true => have := Nat.eq_of_beq_eq_true hq; subst this; rw [hq] at ho; simp at ho; have := hw2 ho; simp at this ⊢; exact this
      · exact List.Sublist.cons_cons _ (List.nil_sublist _)
    · unfold je; rw [if_neg D7]
      simp only [Option.map_some, kO]
      have hE : dw (k.rep (min (bif Nat.beq lo 0 then o else min o 1) 1) w) q1 ((l.take hi).drop lo) d2 := by
        have : min (bif Nat.beq lo 0 then o else min o 1) 1 = min o 1 := by cases Nat.beq lo 0 <;> simp
        rw [this]; exact f2
      refine ⟨b :: d2, ⟨by rw [hlen]; omega, .inr (.inr ⟨b, off + lo * k.size, cur, e, fr, q1, d2, rfl, hb, hE, fun j v hv => ?_, rfl, fun ho => ?_, fun ho => ?_⟩)⟩, ?_⟩
      · have := hc (p1.length + j) v (by rw [List.append_assoc, List.getElem?_append_right (by omega), Nat.add_sub_cancel_left]; rw [List.getElem?_append_left]; exact hv
                                         rcases Nat.lt_or_ge j q1.length with h' | h'
                                         · exact h'
                                         · rw [List.getElem?_eq_none h'] at hv; cases hv)
        rw [hp1'] at this
        rw [Nat.add_assoc]; exact this
      · have ho' : 1 ≤ o := by cases hq : Nat.beq lo 0 <;> rw [hq] at ho <;> simp at ho <;> omega
        obtain ⟨r1, r2, r3⟩ := hw1 ho'
        refine ⟨r1, ?_, by omega⟩
        rw [Nat.add_assoc, ← Nat.add_mul, Nat.add_sub_cancel' (by omega)]; exact r2
      · cases hq : Nat.beq lo 0 with
        | false => rw [hq] at ho; simp at ho; omega
        | true =>
          have := Nat.eq_of_beq_eq_true hq
          subst this
          rw [hq] at ho
          simp at ho ⊢
          exact hw2 ho
      · refine List.Sublist.cons_cons _ ?_
        exact ((List.sublist_append_right ..).trans (List.sublist_append_left ..))
end
end Go.Proofs.YtfoblaonklkaoaaGreat.K
namespace Go.Proofs.YtfoblaonklkaoaaGreat.K
open Go Go.RowKit
set_option linter.unusedVariables false
theorem bd {α β : Type} {o : Option α} {f : α → Option β} {r : β} (h : o.bind f = some r) : ∃ t, o = some t ∧ f t = some r := Option.bind_eq_some_iff.mp h
theorem gg {α : Type} {p : Prop} [Decidable p] {x : Option α} {r : α} (h : (if p then x else none) = some r) : p ∧ x = some r := by
 by_cases hp : p
 ·rw [if_pos hp] at h; exact ⟨hp, h⟩
 ·rw [if_neg hp] at h; cases h
theorem ifs {α : Type} {p : Prop} [Decidable p] {x y : Option α} {r : α} {G : Prop} (h : (if p then x else y) = some r) (h1 : p → x = some r → G) (h2 : ¬ p → y = some r → G) : G := by
 by_cases hp : p
 ·rw [if_pos hp] at h; exact h1 hp h
 ·rw [if_neg hp] at h; exact h2 hp h
theorem aS {α β : Type} {o : Option α} {f : α → Option β} {r : β} {G : Prop} (k : ∀ t, o = some t → f t = some r → G) : o.bind f = some r → G := fun h => let ⟨t, a, b⟩ := bd h; k t a b
theorem aU {α : Type} {p : Prop} [Decidable p] {x : Option α} {r : α} {G : Prop} (k : p → x = some r → G) : (if p then x else none) = some r → G := fun h => k (gg h).1 (gg h).2
theorem aJ {α : Type} {p : Prop} [Decidable p] {x y : Option α} {r : α} {G : Prop} (h1 : p → x = some r → G) (h2 : ¬ p → y = some r → G) : (if p then x else y) = some r → G := fun h => ifs h h1 h2
theorem dq {p : Prop} [Decidable p] (h : decide p = true := by kernel_rfl) : p := of_decide_eq_true h
theorem dT {p : Prop} [Decidable p] (h : p) : decide p = true := decide_eq_true h
theorem dF {p : Prop} [Decidable p] (h : ¬ p) : decide p = false := decide_eq_false h
theorem nT {p : Prop} [Decidable p] (h : ¬ p) : (!decide p) = true := by simp [h]
theorem nF {p : Prop} [Decidable p] (h : p) : (!decide p) = false := by simp [h]
theorem bF {b : Bool} (h : ¬ b = true) : b = false := by simpa using h
theorem bN {b : Bool} (h : b = true) : (!b) = false := by simp [h]
theorem bM {b : Bool} (h : ¬ b = true) : (!b) = true := by simp [h]
section
variable {P : Program} {C : Cx} {S : St} {f : FuncId} {R : Ending → World → Prop} {k : List Item} {K : Act → World → Prop} {Q : Exit → Act → World → Prop}
theorem ts {X : Act → World → Prop} (t : Nat) {c b : Bool} (h : rQ S.tm t = some (.bool c)) (hc : c = b) (k : df C ⟨(t, .bool b) :: S.tm, S.bx, S.en⟩ X) : df C S X := fun a w H => by
 subst hc
 refine k a w ⟨⟨H.tms.size, H.tms.defers, fun t' v e => ?_⟩, H.wl, H.bel, H.base⟩
 simp only [rQ] at e
 cases hb : Nat.beq t t' with
 | true => rw [hb] at e; simp at e; subst e; rw [← Nat.eq_of_beq_eq_true hb]; exact H.tms.tm t _ h
 | false => rw [hb] at e; exact H.tms.tm t' v e
theorem eq {X : Act → World → Prop} (t : Nat) {c b : Bool} (hh0 : (rQ S.tm t = some (.bool c)) ∧ (c = b)) (k : df C ⟨(t, .bool b) :: S.tm, S.bx, S.en⟩ X) : df C S X := ts t hh0.1 hh0.2 k 
theorem lo {c : Code} (Inv : Nat → St → Prop) (hz : ∀ S, ¬ Inv 0 S) (hs : ∀ n, (∀ m, m ≤ n → ∀ S, Inv m S → df C S (GA P f R (.inLoop c :: k))) → ∀ S, Inv (n + 1) S → df C S (GA P f R (.code c :: .inLoop c :: k)))
    {n0 : Nat} {S0 : St} (h0 : Inv n0 S0) (hw : df C S0 (GA P f R (.code c :: .inLoop c :: k)) → df C S (GA P f R (.code c :: .inLoop c :: k))) : df C S (GA P f R (.code (.loop c) :: k)) := by
  have key : ∀ n, ∀ m, m ≤ n → ∀ S, Inv m S → df C S (GA P f R (.code c :: .inLoop c :: k)) := by
    intro n
    induction n with
    | zero => intro m hm S h; have : m = 0 := by omega
              subst this; exact absurd h (hz S)
    | succ n ih =>
      intro m hm S h
      rcases Nat.lt_or_ge m (n + 1) with h' | h'
      · exact ih m (by omega) S h
      · have : m = n + 1 := by omega
        subst this
        exact hs n (fun m' hm' S' h' => gl (ih m' hm' S' h')) S h
  exact fun a w H => GA.loop (hw (key n0 n0 (Nat.le_refl _) S0 h0) a w H)
theorem jo {x y : Code} (Inv : St → Prop) (hj : ∀ S, Inv S → df C S (GA P f R (.code y :: k))) (h : (∀ S, Inv S → df C S (GA P f R (.code y :: k))) → df C S (GA P f R (.code x :: .code y :: k))) : df C S (GA P f R (.code (.seq x y) :: k)) := gs (h hj)
theorem ov {o : Oper} {v : Value} (hv : EV P C S S.bx S.en o v) (hd : o.dst.all (Nat.blt · C.n) = true) (h : df C (S.put o.dst v) K) : df C S (fun a w => o.wp P a w K Q) := fun a w H => by
 show o.upon P a K Q ((execOp a.eval o).run P w)
 rw [hv a w H.tms H.wl]
 exact h _ _ (H.put hd)
end
def bu {α : Type} (d : α) (xs : List α) (i : Int) : α := xs.getD i.toNat d
def eo (a b : Int) : Int := a.fdiv (2 ^ (min b.toNat 64))
def andI (a b : Int) : Int := wrap64 (BitVec.ofInt 64 a &&& BitVec.ofInt 64 b).toNat
def xorI (a b : Int) : Int := wrap64 (BitVec.ofInt 64 a ^^^ BitVec.ofInt 64 b).toNat
section
variable {P : Program} {C : Cx} {S : St} {bx : List iq} {en : List cz} {d : Option Nat} {ty : TypeId} {pos : String} {af : Array Edge} {g : Option (Nat × Bool)} {x y z : Operand} {v : Value} {t u : TypeId} {a b : Int} {k k' : IntKind}
theorem VK (hx : S.ev x = some (.int .i64 a)) (hy : S.ev y = some (.int k b)) (h : 0 ≤ b) : EV P C S bx en ⟨d, .binOp .shr t x y u, ty, pos, af, g⟩ (.int .i64 (eo a b)) := fun _ w H _ => by
 have hn : ¬ b < 0 := by omega
 simp [execOp, H.ev hx, H.ev hy, binOp, eqGuard, Op.shift, hn, eo, IntKind.bits]
theorem NG (hx : S.ev x = some (.int .i64 a)) (hy : S.ev y = some (.int .i64 b)) : EV P C S bx en ⟨d, .binOp .and t x y u, ty, pos, af, g⟩ (.int .i64 (K.andI a b)) := fun _ w H _ => by
 simp [execOp, H.ev hx, H.ev hy, binOp, eqGuard, Op.intBits, K.andI, IntWalk.i64_left]; rfl
theorem RV (hx : S.ev x = some (.int .i64 a)) (hy : S.ev y = some (.int .i64 b)) : EV P C S bx en ⟨d, .binOp .xor t x y u, ty, pos, af, g⟩ (.int .i64 (K.xorI a b)) := fun _ w H _ => by
 simp [execOp, H.ev hx, H.ev hy, binOp, eqGuard, Op.intBits, K.xorI, IntWalk.i64_left]; rfl
theorem oY {X : Act → World → Prop} {α : Type} {o : Nat} {k : Kd α} {A : Option Addr} {c s : Nat} {l l' : List α} {cls : Nat} {lin : Bool} (li hi : Int) (j : Nat) (he : S.en[j]? = some (.sl o k A c l cls lin)) (h0 : 0 ≤ li) (h1 : li ≤ hi) (h2 : hi ≤ (l.length : Int)) (hs : k.size = s)
  (o' : Nat) (ho' : o' ≤ o) (ho2 : o' ≤ 1 ∨ li = 0) (hl' : (l.take hi.toNat).drop li.toNat = l') (h : df C ⟨S.tm, S.bx, S.en ++ [.sl o' k (je A c li.toNat s) (c - li.toNat) l' cls lin]⟩ X) : df C S X := fun a w H => by
 obtain ⟨fp, W⟩ := H.wl
 obtain ⟨bs, f, hb, hn, hoc⟩ := W.ent _ (List.mem_of_getElem? he)
 subst hl' hs
 obtain ⟨bs', f', hsub⟩ := WQ f li.toNat hi.toNat (by omega) (by omega)
 have f2 := cz.fact_re (o := o') (cls := cls) (lin := lin) (by
  show o' ≤ (bif Nat.beq li.toNat 0 then o else min o 1)
  cases hq : Nat.beq li.toNat 0 with
  | true => exact ho'
  | false =>
   rcases ho2 with h' | h'
   ·simp; omega
   ·subst h'; simp at hq) f'
 have W1 := W.add f2 (fun b hbb => hb b (hsub.subset hbb)) (fun hl => hsub.nodup (hn hl)) (fun hne => hoc (by show o ≠ 0; intro e; subst e; exact hne (by show o' = 0; omega)))
 exact h a w ⟨H.tms.same rfl, ⟨_, W1⟩, H.bel, H.base⟩
theorem JW {α : Type} {l : List α} {i : Int} : (l.take ((l.length : Int)).toNat).drop i.toNat = l.drop i.toNat := by rw [Int.toNat_natCast, List.take_length]
theorem lL {α : Type} {o : Nat} {k : Kd α} {A : Option Addr} {c s n : Nat} {l : List α} {cls : Nat} {lin : Bool} {lo hi : Option Operand} (li hi' : Int) (j : Nat) (he : en[j]? = some (.sl o k A c l cls lin)) (hx : S.ev x = some (.slice A l.length c))
    (hlo : (match lo with | none => some li = some 0 | some y => S.ev y = some (.int .i64 li))) (hhi : (match hi with | none => some hi' = some (l.length : Int) | some y => S.ev y = some (.int .i64 hi'))) (h0 : 0 ≤ li) (h1 : li ≤ hi') (h2 : hi' ≤ (l.length : Int)) (hs : k.size = s) (hcu : True = True) (hn : hi'.toNat - li.toNat = n)
    (hok : Ps P t s = true := by kernel_rfl) : EV P C S bx en ⟨d, .slice t x lo hi none, ty, pos, af, g⟩ (.slice (je A c li.toNat s) n (c - li.toNat)) := fun a w H ⟨fp, W⟩ => by
  obtain ⟨bs, f, _⟩ := W.ent _ (List.mem_of_getElem? he)
  obtain ⟨e, hu, hsz⟩ := Rq hok
  have hle : l.length ≤ c := f.1
  have hr := uA hsz w
  have hel : P.elem t = e := by simp [Program.elem, hu]
  have hsa := run_sliceAt_slice (P := P) w t (.slice A l.length c) (lo.map a.eval) (hi.map a.eval) none (by rw [hel]; exact hu)
  simp only [execOp, H.ev hx, Option.map_none]
  rw [Sem.run_bind, hsa]
  have hu' : P.underlying t = some (.slice (P.elem t)) := by rw [hel]; exact hu
  have hz : (sizeOf (P.elem t)).run P w = .ok s w := by rw [hel]; exact hr
  subst hn
  cases lo with
  | none =>
    have hlo' : li = 0 := Option.some.inj hlo
    subst hlo'
    cases hi with
    | none => have hhi' : hi' = (l.length : Int) := Option.some.inj hhi
              subst hhi'; simp only [Option.map_none]; rw [run_slice_all w t A l.length c hu', hz]; simp [sliced, je]
    | some y => simp only at hhi; simp only [Option.map_none, Option.map_some, H.ev hhi]; rw [run_slice_h w t A l.length c hu' .i64 hi' h1 (by omega), hz]; simp [sliced, je]
  | some q =>
    simp only at hlo
    cases hi with
    | none => have hhi' : hi' = (l.length : Int) := Option.some.inj hhi
              subst hhi'; simp only [Option.map_none, Option.map_some, H.ev hlo]; rw [run_slice_l w t A l.length c hu' .i64 li h0 h1, hz]; simp [sliced, je]
    | some y => simp only at hhi; simp only [Option.map_some, H.ev hlo, H.ev hhi]; rw [run_slice_lh w t A l.length c hu' .i64 .i64 li hi' h0 h1 (by omega), hz]; simp [sliced, je]
end
theorem yr {α : Type} {l : List α} {h : Int} (h2 : h ≤ (l.length : Int) := by assumption) : h.toNat - (0 : Int).toNat = (l.take h.toNat).length := by simp; omega
theorem Ds {α : Type} {l : List α} {i : Int} : ((l.length : Int)).toNat - i.toNat = (l.drop i.toNat).length := by simp
theorem km {α : Type} {l : List α} {e : α} {N b : Nat} (h : l.length < N) (hN : N * b ≤ 140737488355328) : (l.length + [e].length) * b ≤ 140737488355328 := Nat.le_trans (Nat.mul_le_mul_right _ (by simp; omega)) hN
theorem iz {α : Type} {l : List α} {e : α} {N : Nat} (h : l.length < N) (hN : N ≤ 140737488355328) : l.length + [e].length ≤ 140737488355328 := by simp; omega
theorem JY {α : Type} {l m : List α} {N b : Nat} (h : l.length + m.length ≤ N) (hN : N * b ≤ 140737488355328) : (l.length + m.length) * b ≤ 140737488355328 := Nat.le_trans (Nat.mul_le_mul_right _ h) hN
theorem Du {α : Type} {l m : List α} {N : Nat} (h : l.length + m.length ≤ N) (hN : N ≤ 140737488355328) : l.length + m.length ≤ 140737488355328 := by omega
theorem Mm {α : Type} {m : List α} {N b : Nat} (h : m.length ≤ N) (hN : N * b ≤ 140737488355328) : (([] : List α).length + m.length) * b ≤ 140737488355328 := by simp; exact Nat.le_trans (Nat.mul_le_mul_right _ h) hN
theorem GB {α : Type} {m : List α} {N : Nat} (h : m.length ≤ N) (hN : N ≤ 140737488355328) : ([] : List α).length + m.length ≤ 140737488355328 := by simp; omega
section
variable {P : Program} {C : Cx} {S : St} {ops : Array Oper} {f : FuncId} {R : Ending → World → Prop} {k : List Item} {Q : Exit → Act → World → Prop} {bx0 : List iq} {en0 : List cz} {nm : List Nat} {fuel : Nat} {l : Array Bool}
theorem M9 (i j q : Nat) {oi oj oq : Oper} (hi : ops[i]? = some oi) (hj : ops[j]? = some oj) (hq : ops[q]? = some oq) (hgi : S.go C.n ops oi = true) (hgj : S.go C.n ops oj = true) (hgq : S.go C.n ops oq = true) (h : df C S (fun a w => oi.wp P a w (Bh P ops Q nm (Wp C bx0 en0) fuel l i) Q))
  (h' : df C S (fun a w => oj.wp P a w (Bh P ops Q nm (Wp C bx0 en0) fuel l j) Q)) (h'' : df C S (fun a w => oq.wp P a w (Bh P ops Q nm (Wp C bx0 en0) fuel l q) Q)) (hr : Region.ready .any ops l = [i, j, q] := by kernel_rfl) : df C S (gN P .any ops Q (mB nm) (Wp C bx0 en0) (fuel + 1) l) := fun a w H => by
 refine FX hr (by simp) fun p hp => ?_
 unfold wpOp
 rcases List.mem_cons.1 hp with hp | hp
 ·subst hp
  simp only [hi]
  rw [if_pos (St.go_ok H.tms hgi).1]
  exact .inl (h a w H)
 ·rcases List.mem_cons.1 hp with hp | hp
  ·subst hp
   simp only [hj]
   rw [if_pos (St.go_ok H.tms hgj).1]
   exact .inl (h' a w H)
  ·rw [List.mem_singleton] at hp; subst hp
   simp only [hq]
   rw [if_pos (St.go_ok H.tms hgq).1]
   exact .inl (h'' a w H)
end
theorem br {C : Cx} {S : St} {X : Act → World → Prop} (t : Nat) {v v' : Value} (h1 : rQ S.tm t = some v) (e : v' = v) (h : df C ⟨(t, v') :: S.tm, S.bx, S.en⟩ X) : df C S X := fun a w H => by
 subst e
 refine h a w ⟨⟨H.tms.size, H.tms.defers, fun t' v e => ?_⟩, H.wl, H.bel, H.base⟩
 simp only [rQ] at e
 cases hb : Nat.beq t t' with
 | true => rw [hb] at e; simp at e; subst e; rw [← Nat.eq_of_beq_eq_true hb]; exact H.tms.tm t _ h1
 | false => rw [hb] at e; exact H.tms.tm t' v e
theorem pr {C : Cx} {S : St} {X : Act → World → Prop} (ts is ie : List Nat) {tm : List (Nat × Value)} {bx : List iq} {en : List cz} (ht : AO S.tm ts = some tm) (hb : jp S.bx is = some bx) (hn : kd is = true) (he : vz S.en ie = some en) (h : df C ⟨tm, bx, en⟩ X) : df C S X := fun a w H => by
 obtain ⟨fp, W⟩ := H.wl
 exact h a w ⟨⟨H.tms.size, H.tms.defers, fun t v e => H.tms.tm t v (J5 ht t v e)⟩, ⟨fp, (W.boxes hb hn).sub (List.Sublist.refl _) (fun e he' => Kv he e he')⟩, H.bel, H.base⟩
theorem aB {C : Cx} {S : St} {X : Act → World → Prop} (ts : List Nat) (is : List Nat) (ie : List Nat) {tm : List (Nat × Value)} {bx : List iq} {en : List cz} (hh0 : (AO S.tm ts = some tm) ∧ (jp S.bx is = some bx) ∧ (kd is = true) ∧ (vz S.en ie = some en)) (h : df C ⟨tm, bx, en⟩ X) : df C S X := pr ts is ie hh0.1 hh0.2.1 hh0.2.2.1 hh0.2.2.2 h 
theorem bR {C : Cx} {S : St} {X : Act → World → Prop} {en : List cz} (e : S.en = en) (h : df C ⟨S.tm, S.bx, en⟩ X) : df C S X := by subst e; exact h
theorem bq {α β : Type} {l : List α} {m : List β} (A : Option Addr) (c : Nat) (h : m.length = l.length) : Value.slice A m.length c = Value.slice A l.length c := by rw [h]
theorem jr {α : Type} {l l' : List α} {i : Nat} {x : α} (h : l.set i x = l') : l'.length = l.length := by rw [← h, List.length_set]
theorem dj {P : Program} {C : Cx} {S : St} {f : FuncId} {R : Ending → World → Prop} {k : List Item} {c : Code} (Inv : St → Prop) (hj : ∀ S, Inv S → df C S (GA P f R k)) (h : (∀ S, Inv S → df C S (GA P f R k)) → df C S (GA P f R (.code c :: k))) : df C S (GA P f R (.code c :: k)) := h hj
section
variable {P : Program} {C : Cx} {S : St} {ops : Array Oper} {Q : Exit → Act → World → Prop} {must : Nat → Bool} {S0 : World → Prop} {fuel0 : Nat} {l0 : Array Bool}
theorem dl (fuel : Nat) (l : Array Bool) (Inv : St → Prop) (hD : ∀ S, Inv S → df C S (gN P .any ops Q must S0 fuel l)) (h : (∀ S, Inv S → df C S (gN P .any ops Q must S0 fuel l)) → df C S (gN P .any ops Q must S0 fuel0 l0)) : df C S (gN P .any ops Q must S0 fuel0 l0) := h hD
theorem da {l' : Array Bool} (h : df C S (gN P .any ops Q must S0 fuel0 l')) (e : l0 = l' := by kernel_rfl) : df C S (gN P .any ops Q must S0 fuel0 l0) := e ▸ h
end
def yP (en : List cz) (ps : List Pk) (c : Nat) : Bool := ps.any fun p => !Nat.beq p.c 0 && Nat.beq (iL en p.i) c
theorem N6 {en : List cz} {ps : List Pk} {c : Nat} : yP en ps c = true ↔ ∃ p ∈ ps, p.c ≠ 0 ∧ iL en p.i = c := by
 have hb : ∀ n : Nat, Nat.beq n 0 = false ↔ ¬ n = 0 := fun n => by cases n <;> simp [Nat.beq]
 simp [yP, List.any_eq_true, hb]
theorem PJ {en : List cz} : ∀ {ps : List Pk} {en' : List cz}, pj en ps = some en' → ∀ p ∈ ps, en[p.i]? ≠ none
 | [], _, h, p, hp => by cases hp
 | p :: r, _, h, q, hq => by
  simp only [pj] at h
  cases h1 : en[p.i]? with
  | none => simp [h1] at h
  | some e =>
   cases h2 : pj en r with
   | none => simp [h1, h2] at h
   | some l =>
    rcases List.mem_cons.1 hq with hq | hq
    ·subst hq; rw [h1]; simp
    ·exact PJ h2 q hq
theorem Rz {en : List cz} : ∀ {ps : List Pk} {en' : List cz}, pj en ps = some en' → ∀ p ∈ ps, ∀ {e}, en[p.i]? = some e → p.c ≠ 0 → e.cls ≠ 0
 | [], _, h, p, hp => by cases hp
 | p :: r, _, h, q, hq => by
  simp only [pj] at h
  cases h1 : en[p.i]? with
  | none => simp [h1] at h
  | some e =>
   cases h2 : pj en r with
   | none => simp [h1, h2] at h
   | some l =>
    simp only [h1, h2] at h
    cases hc : (Nat.ble p.o e.o && (!p.l || e.lin) && (Nat.beq p.o 0 || !Nat.beq p.c 0) && (Nat.beq p.c 0 || !Nat.beq e.cls 0)) with
    | false => simp [hc] at h
    | true =>
     rcases List.mem_cons.1 hq with hq | hq
     ·subst hq
      rename_i e'
      intro he' hz hz'
      rw [h1] at he'; cases he'
      simp only [Bool.and_eq_true, Bool.or_eq_true, Bool.not_eq_true'] at hc
      rcases hc.2 with hd | hd
      ·exact hz (Nat.eq_of_beq_eq_true hd)
      ·rw [hz'] at hd; simp at hd
     ·exact Rz h2 q hq
section
variable {P : Program} {C : Cx} {S : St} {K : Act → World → Prop} {Q : Exit → Act → World → Prop} {d : Option Nat} {ty : TypeId} {pos : String} {af : Array Edge} {g : Option (Nat × Bool)} {x y z : Operand} {v : Value} {t u : TypeId}
theorem WG {f : FuncId} {as : Array Operand} {ts : Array TypeId} {args : List Value} {en : List cz} {bxs bxr : List iq} {R : Value → List iq → List cz → Prop} (hF : Fn P f args bxs en R) (ps : List Pk) (is js : List Nat) (m : Nat) (ha : S.evs as.toList = some args)
  (he : pj S.en ps = some en) (hc : Dk S.en ps = true) (hbs : jp S.bx is = some bxs) (hbr : jp S.bx js = some bxr) (hij : kd (js ++ is) = true) (hm : Gy m S.en = true) (hd : d.all (Nat.blt · C.n) = true)
  (h : ∀ v bx en', R v bx en' → df C (St.put ⟨S.tm, bxr ++ bx, S.en.filter (fun e => !yP S.en ps e.cls) ++ en'.map (cz.sh m)⟩ d v) K) (hok : EP P f = true := by kernel_rfl) :
  df C S (fun a w => Oper.wp P ⟨d, .call ⟨.value (.func f), as, ts⟩, ty, pos, af, g⟩ a w K Q) := fun a w H => by
 obtain ⟨fp, W⟩ := H.wl
 have hargs : as.map a.eval = args.toArray := by
  have := H.tms.evs ha
  rw [← this]; simp [← Array.toList_inj]
 have hr : (execOp a.eval ⟨d, .call ⟨.value (.func f), as, ts⟩, ty, pos, af, g⟩).run P w = .ok (.enter f args.toArray) w := by
  simp [execOp, resolve, Deferred.ofValue, invoke, Act.eval, hargs, PD hok]
 unfold Oper.wp
 rw [hr, Oper.upon_enter]
 have hij' := zP hij
 rw [List.nodup_append] at hij'
 obtain ⟨hnj, hni, hdis⟩ := hij'
 have hlen : ∀ {i : Nat} {x : iq}, S.bx[i]? = some x → i < (S.bx.map (·.b)).length := fun {i x} hx => by
  rcases Nat.lt_or_ge i S.bx.length with h' | h'
  ·simpa using h'
  ·rw [List.getElem?_eq_none h'] at hx; cases hx
 have hapart : ∀ x ∈ bxr, ∀ y ∈ bxs, x.b ≠ y.b := fun x hx y hy e => by
  obtain ⟨j, hj, ej⟩ := nf hbr x hx
  obtain ⟨i, hi, ei⟩ := nf hbs y hy
  have := (List.getElem?_inj (j := i) (hlen ej) W.nd).1 (by simp [ej, ei, e])
  exact hdis j hj i hi this
 let T' : Nat → Prop := fun b => (∃ c, yP S.en ps c = true ∧ fp c b) ∨ ∃ y ∈ bxs, y.b = b
 have hpk := W.pick he hc
 have hpre : NZ w.heap.size T' bxs en w := by
  refine ⟨_, hpk.sole, fun c b hb => ⟨(hpk.lt c b hb).1, fun hcz => .inr ?_⟩, hpk.ent, fun y hy => ?_, ?_⟩
  ·obtain ⟨p, hp, _, rfl, _, hf⟩ := hb
   exact .inl ⟨_, N6.2 ⟨p, hp, hcz, rfl⟩, hf⟩
  ·obtain ⟨i, hi, ei⟩ := nf hbs y hy
   obtain ⟨e1, e2, e3⟩ := W.box y (List.mem_of_getElem? ei)
   exact ⟨e1, .inr (.inr ⟨y, hy, rfl⟩), fun c ⟨p, _, _, _, _, hb⟩ => e3 _ hb⟩
  ·exact Gv W.nd hbs hni
 refine (hF w T' 0 hpre).mono fun e w' he' => ?_
 obtain ⟨v, bx, en', hR, rfl, hB, hzz, fp', W'⟩ := he'
 have W' : jf w.heap.size T' bx en' w' fp' := W'
 have hsize : w.heap.size ≤ w'.heap.size := hB.size
 have hold : ∀ b, b < w.heap.size → ¬ T' b → w'.heap[b]? = w.heap[b]? := fun b hb hT => hB.block b hb hT
 have hTown : ∀ b, T' b → b < w.heap.size ∧ (C.base ≤ b ∨ C.T b) := fun b hb => by
  rcases hb with ⟨c, hs, hf⟩ | ⟨y, hy, rfl⟩
  ·obtain ⟨p, hp, hz, rfl⟩ := N6.1 hs
   refine ⟨(W.lt _ b hf).1, (W.lt _ b hf).2 ?_⟩
   have := hpk.lt p.c b
   intro hcz
   -- the entry's class is no 0
   have hq : ∃ e, S.en[p.i]? = some e := by
    cases hpi : S.en[p.i]? with
    | some e => exact ⟨e, rfl⟩
    | none => exact absurd hpi (PJ he p hp)
   obtain ⟨e, hpi⟩ := hq
   exact Rz he p hp hpi hz (by simpa [iL, hpi] using hcz)
  ·obtain ⟨i, hi, ei⟩ := nf hbs y hy
   exact ⟨W.boxlt (List.mem_of_getElem? ei), (W.box y (List.mem_of_getElem? ei)).2.1⟩
 have hfree : ∀ c b, yP S.en ps c = false → fp c b → ¬ T' b := fun c b hs hf hT => by
  rcases hT with ⟨c', hs', hf'⟩ | ⟨y, hy, rfl⟩
  ·rw [W.sole _ _ b hf hf', hs'] at hs; cases hs
  ·obtain ⟨i, hi, ei⟩ := nf hbs y hy
   exact (W.box y (List.mem_of_getElem? ei)).2.2 c hf
 have hbrT : ∀ x ∈ bxr, ¬ T' x.b := fun x hx hT => by
  obtain ⟨j, hj, ej⟩ := nf hbr x hx
  rcases hT with ⟨c', hs', hf'⟩ | ⟨y, hy, e⟩
  ·exact (W.box x (List.mem_of_getElem? ej)).2.2 _ hf'
  ·exact hapart x hx y hy e.symm
 have hnew : ∀ c b, c ≠ 0 → fp' c b → w.heap.size ≤ b ∨ T' b := fun c b hc hb' => (W'.lt c b hb').2 hc
 have WW : jf C.base C.T (bxr ++ bx) (S.en.filter (fun e => !yP S.en ps e.cls) ++ en'.map (cz.sh m)) w' (fun c b => (c < m ∧ yP S.en ps c = false ∧ fp c b) ∨ (m < c ∧ fp' (c - m) b)) := by
  refine ⟨fun c c' b h1 h2 => ?_, fun c b h1 => ?_, fun e he => ?_, fun x hxx => ?_, ?_⟩
  ·rcases h1 with ⟨l1, s1, h1⟩ | ⟨l1, h1⟩ <;> rcases h2 with ⟨l2, s2, h2⟩ | ⟨l2, h2⟩
   ·exact W.sole _ _ b h1 h2
   ·have q1 := (W.lt _ b h1).1
    rcases hnew _ _ (by omega) h2 with q2 | q2
    ·omega
    ·exact absurd q2 (hfree _ _ s1 h1)
   ·have q1 := (W.lt _ b h2).1
    rcases hnew _ _ (by omega) h1 with q2 | q2
    ·omega
    ·exact absurd q2 (hfree _ _ s2 h2)
   ·have := W'.sole _ _ b h1 h2; omega
  ·rcases h1 with ⟨l1, s1, h1⟩ | ⟨l1, h1⟩
   ·exact ⟨Nat.lt_of_lt_of_le (W.lt _ b h1).1 hsize, (W.lt _ b h1).2⟩
   ·refine ⟨(W'.lt _ b h1).1, fun _ => ?_⟩
    rcases hnew _ _ (by omega) h1 with q | q
    ·exact .inl (Nat.le_trans H.size q)
    ·exact (hTown b q).2
  ·rcases List.mem_append.1 he with he | he
   ·obtain ⟨hem, hsp⟩ := List.mem_filter.1 he
    have hsp' : yP S.en ps e.cls = false := by simpa using hsp
    obtain ⟨bs, f, hb1, hl, ho⟩ := W.ent e hem
    have := List.all_eq_true.1 hm e hem
    exact ⟨bs, cz.fact_keep (fun b hbb => hold b (W.lt _ b (hb1 b hbb)).1 (hfree _ _ hsp' (hb1 b hbb))) f, fun b hbb => .inl ⟨by simpa [Nat.blt_eq] using this, hsp', hb1 b hbb⟩, hl, ho⟩
   ·obtain ⟨e', he', rfl⟩ := List.mem_map.1 he
    obtain ⟨bs, f, hb1, hl, ho⟩ := W'.ent e' he'
    have hc := hzz e' he'
    refine ⟨bs, cz.sh_fact f, fun b hbb => .inr ⟨by rw [cz.sh_cls]; omega, by rw [cz.sh_cls, Nat.add_sub_cancel]; exact hb1 b hbb⟩, by rw [cz.sh_lin]; exact hl, fun _ => by rw [cz.sh_cls]; omega⟩
  ·rcases List.mem_append.1 hxx with hxx | hxx
   ·obtain ⟨j, hj, ej⟩ := nf hbr x hxx
    obtain ⟨e1, e2, e3⟩ := W.box x (List.mem_of_getElem? ej)
    refine ⟨by rw [hold _ (W.boxlt (List.mem_of_getElem? ej)) (hbrT x hxx)]; exact e1, e2, fun c hc => ?_⟩
    rcases hc with ⟨_, _, hc⟩ | ⟨l1, hc⟩
    ·exact e3 c hc
    ·rcases hnew _ _ (by omega) hc with q | q
     ·have := W.boxlt (List.mem_of_getElem? ej); omega
     ·exact hbrT x hxx q
   ·obtain ⟨e1, e2, e3⟩ := W'.box x hxx
    refine ⟨e1, ?_, fun c hc => ?_⟩
    ·rcases e2 with q | q
     ·exact .inl (Nat.le_trans H.size q)
     ·exact (hTown _ q).2
    ·rcases hc with ⟨_, s1, hc⟩ | ⟨l1, hc⟩
     ·rcases e2 with q | q
      ·have := (W.lt _ _ hc).1; omega
      ·exact hfree _ _ s1 hc q
     ·exact e3 _ hc
  ·rw [List.map_append, List.nodup_append]
   refine ⟨Gv W.nd hbr hnj, W'.nd, fun a ha b hb e => ?_⟩
   obtain ⟨x, hx, rfl⟩ := List.mem_map.1 ha
   obtain ⟨y, hy, rfl⟩ := List.mem_map.1 hb
   obtain ⟨j, hj, ej⟩ := nf hbr x hx
   rcases (W'.box y hy).2.1 with q | q
   ·have := W.boxlt (List.mem_of_getElem? ej); omega
   ·rw [← e] at q; exact hbrT x hx q
 exact h v bx en' hR _ _ (vP.put (S := ⟨S.tm, bxr ++ bx, S.en.filter (fun e => !yP S.en ps e.cls) ++ en'.map (cz.sh m)⟩) ⟨H.tms.same rfl, ⟨_, WW⟩, H.bel.trans (vQ.of hB fun k hk hT => ⟨Nat.lt_of_lt_of_le hk H.size, fun h => by
  rcases (hTown k h).2 with q | q
  ·omega
  ·exact hT q⟩), H.base⟩ hd)
theorem bb {f : FuncId} {as : Array Operand} {ts : Array TypeId} {args : List Value} {en : List cz} {bxs bxr : List iq} {R : Value → List iq → List cz → Prop} (hF : Fn P f args bxs en R) (ps : List Pk) (is : List Nat) (js : List Nat) (m : Nat) (hh0 : (S.evs as.toList = some args) ∧ (pj S.en ps = some en) ∧ (Dk S.en ps = true) ∧ (jp S.bx is = some bxs) ∧ (jp S.bx js = some bxr) ∧ (kd (js ++ is) = true) ∧ (Gy m S.en = true) ∧ (d.all (Nat.blt · C.n) = true)) (h : ∀ v bx en', R v bx en' → df C (St.put ⟨S.tm, bxr ++ bx, S.en.filter (fun e => !yP S.en ps e.cls) ++ en'.map (cz.sh m)⟩ d v) K) (hok : EP P f = true := by kernel_rfl) :
  df C S (fun a w => Oper.wp P ⟨d, .call ⟨.value (.func f), as, ts⟩, ty, pos, af, g⟩ a w K Q) := WG hF ps is js m hh0.1 hh0.2.1 hh0.2.2.1 hh0.2.2.2.1 hh0.2.2.2.2.1 hh0.2.2.2.2.2.1 hh0.2.2.2.2.2.2.1 hh0.2.2.2.2.2.2.2 h (hok := hok)
theorem eX {α : Type} {o : Nat} {k : Kd α} {A : Option Addr} {c s sz : Nat} {l l' : List α} {cls : Nat} {lin : Bool} {p : Addr} (i : Int) (off : Nat) (j : Nat) (dd x' : α) (el : l.set i.toNat x' = l') (he : S.en[j]? = some (.sl o k A c l cls lin)) (hx : S.ev x = some (.pointer (some p))) (hy : S.ev y = some v)
  (hp : p = (eA A (i.toNat * s)).add off) (h0 : 0 ≤ i) (h1 : i < (l.length : Int)) (hs : k.size = s) (hk : k.hd = 0) (hv : Ro (k.cells (l.getD i.toNat dd) []) off v = some (k.cells x' [])) (hvs : v.cells.toList.length = sz) (ho : o ≠ 0) (hd : d = none)
  (h : df C ⟨S.tm, S.bx, S.en.filter (Cw cls) ++ [.sl o k A c l' cls true]⟩ K) (hsz : vK P t sz = true := by kernel_rfl) :
  df C S (fun a w => Oper.wp P ⟨d, .store t x y, ty, pos, af, g⟩ a w K Q) := ZO i off j dd x' he hx hy hp h0 h1 hs hk hv hvs ho hd (by rw [el]; exact h) hsz
end
/-! ### Cells and headers -/
theorem kn.append {w : World} : ∀ {es fs : List cz} {bs cs : List (List Nat)}, kn w es bs → kn w fs cs → kn w (es ++ fs) (bs ++ cs)
 | _, _, _, _, .nil, h => h
 | _, _, _, _, .cons h k, h' => .cons h (kn.append k h')
/-! ### An element taken out -/
def QH {α : Type} (k : Kd α) (o : Nat) (A : Option Addr) (c : Nat) (l : List α) (i : Nat) (cs : List Value) (w : World) (bs : List Nat) : Prop :=
 i < l.length ∧ l.length ≤ c ∧ ∃ b off cur e p q b1 b2, A = some ⟨b, off, none⟩ ∧ w.heap[b]? = some (.cells cur e (0, 0)) ∧ dw (k.rep 1 w) p (l.take i) b1 ∧ dw (k.rep 1 w) q (l.drop (i + 1)) b2 ∧ cs.length = k.size ∧
  (∀ v ∈ cs, v.oneCell' = true) ∧ (∀ j v, (p ++ (cs ++ q))[j]? = some v → cur[off + j]? = some v) ∧ bs = b :: (b1 ++ b2) ∧ bs.Nodup ∧ off + c * k.size ≤ cur.size ∧ c ≤ maxLen ∧ (2 ≤ o → off = 0 ∧ cur.size = c * k.size)
theorem QH.loc {α : Type} {k : Kd α} {o : Nat} {A : Option Addr} {c : Nat} {l : List α} {i : Nat} {cs : List Value} (w w' : World) (bs : List Nat) (hw : ∀ b ∈ bs, w'.heap[b]? = w.heap[b]?) (h : QH k o A c l i cs w bs) : QH k o A c l i cs w' bs := by
 obtain ⟨h1, h2, b, off, cur, e, p, q, b1, b2, rfl, hg, hp, hq, hl, ho, hc, rfl, hn, r⟩ := h
 exact ⟨h1, h2, b, off, cur, e, p, q, b1, b2, rfl, by rw [hw b (List.mem_cons_self ..)]; exact hg,
  dw.mono (fun cs x d _ hd => k.rep_keep (Nat.le_refl _) fun m hm => hw m (List.mem_cons_of_mem _ (List.mem_append_left _ (hd m hm)))) hp,
  dw.mono (fun cs x d _ hd => k.rep_keep (Nat.le_refl _) fun m hm => hw m (List.mem_cons_of_mem _ (List.mem_append_right _ (hd m hm)))) hq, hl, ho, hc, rfl, hn, r⟩
def afw {α : Type} (k : Kd α) (o : Nat) (A : Option Addr) (c : Nat) (l : List α) (i : Nat) (cs : List Value) (cls : Nat) : cz := .raw (QH k o A c l i cs) QH.loc 1 cls
section
variable {P : Program} {C : Cx} {S : St} {X : Act → World → Prop} {K : Act → World → Prop} {Q : Exit → Act → World → Prop} {d : Option Nat} {ty : TypeId} {pos : String} {af : Array Edge} {g : Option (Nat × Bool)} {x y z : Operand} {v : Value} {t u : TypeId}
theorem T7 {b : Nat} {b1 f b2 : List Nat} (h : (b :: (b1 ++ b2)).Nodup) (hf : f.Nodup) (hd : ∀ x ∈ f, x ∉ b :: (b1 ++ b2)) : (b :: (b1 ++ (f ++ b2))).Nodup := by
 have hp : (b :: (b1 ++ (f ++ b2))).Perm (f ++ (b :: (b1 ++ b2))) := by
  have h1 : (b1 ++ (f ++ b2)).Perm (f ++ (b1 ++ b2)) := by
   rw [← List.append_assoc, ← List.append_assoc]
   exact List.Perm.append_right _ List.perm_append_comm
  exact (List.Perm.cons b h1).trans List.perm_middle.symm
 rw [hp.nodup_iff, List.nodup_append]
 exact ⟨hf, h, fun x hx y hy e => hd x hx (e ▸ hy)⟩
theorem D7 {α : Type} {o : Nat} {k : Kd α} {A : Option Addr} {c : Nat} {l l' : List α} {cs : List Value} {m i : Nat} (j : Nat) (x' : α) (hs : List uG) (is : List Nat) (el : l.set i x' = l') (he : S.en[j]? = some (afw k o A c l i cs m)) (hcs : k.cells x' hs = cs) (hhs : hs.length = k.hd)
  (hsub : pj S.en (RA m is) = some (k.subs 1 m true x' hs)) (hcz : (is.map (iL S.en)).all (fun c => !Nat.beq c 0) = true) (hnd : kd (m :: is.map (iL S.en)) = true)
  (h : df C ⟨S.tm, S.bx, (S.en.filter (Cw m)).map (cz.mgs (is.map (iL S.en)) m) ++ [.sl o k A c l' m true]⟩ X) : df C S X := fun a w H => by
 obtain ⟨fp, W⟩ := H.wl
 subst el
 obtain ⟨bs, f, hb, _, hmz⟩ := W.ent _ (List.mem_of_getElem? he)
 have hm0 : m ≠ 0 := hmz (by show (1 : Nat) ≠ 0; omega)
 have hbm : ∀ x ∈ bs, fp m x := hb
 obtain ⟨hi, hle, b, off, cur, e, p, q, b1, b2, rfl, hg, hp, hq, hl, hone, hc, rfl, hn, hin, hmax, hw2⟩ := f
 obtain ⟨bss, F, Hd⟩ := W.facts hsub
 have hsubm : pj S.en (RA m is) = some (k.subs 1 m true x' hs) := hsub
 have hrep := k.closed (o := 1) (w := w) (x := x') (hs := hs) (bs := bss) m true (Nat.le_refl 1) hhs F
 rw [hcs] at hrep
 have hE := dw.set (l := l) i x' hi hrep hp hq
 have hnd' := zP hnd
 rw [List.nodup_cons] at hnd'
 have hfn : bss.flatten.Nodup := Hd.nodup W.sole (fun p hp => by obtain ⟨i, _, rfl⟩ := List.mem_map.1 hp; rfl) (by rw [RA, List.map_map]; exact hnd'.2)
 have hfc : ∀ x ∈ bss.flatten, ∃ i ∈ is, fp (iL S.en i) x := fun x hx => by
  obtain ⟨p', hp', hf⟩ := Hd.mem x hx
  obtain ⟨i', hi', rfl⟩ := List.mem_map.1 hp'
  exact ⟨i', hi', hf⟩
 have hdis : ∀ x ∈ bss.flatten, x ∉ b :: (b1 ++ b2) := fun x hx hx' => by
  obtain ⟨i', hi', hf⟩ := hfc x hx
  exact hnd'.1 (List.mem_map.2 ⟨i', hi', W.sole _ _ _ hf (hbm x hx')⟩)
 have hfact : (cz.sl o k (some ⟨b, off, none⟩) c (l.set i x') m true).fact w (b :: (b1 ++ (bss.flatten ++ b2))) := by
  refine ⟨by rw [List.length_set]; exact hle, .inr (.inr ⟨b, off, cur, e, (0, 0), p ++ (cs ++ q), _, rfl, hg, ?_, hc, rfl, fun _ => ⟨rfl, hin, hmax⟩, hw2⟩)⟩
  rcases Nat.eq_zero_or_pos o with ho | ho
  ·subst ho; exact dw.mono (fun cs x d _ _ r => k.rep_keep (Nat.zero_le _) (fun _ _ => rfl) r) hE
  ·rw [Nat.min_eq_right ho]; exact hE
 have W1 := ((W.drop m).map (Cy (is.map (iL S.en)) m) (T8 hcz) (RE hm0)).add hfact (fun x hx => by
  have hcase : x ∈ b :: (b1 ++ b2) ∨ x ∈ bss.flatten := by
   rcases List.mem_cons.1 hx with hx | hx
   ·exact .inl (hx ▸ List.mem_cons_self ..)
   ·rcases List.mem_append.1 hx with hx | hx
    ·exact .inl (List.mem_cons_of_mem _ (List.mem_append_left _ hx))
    ·rcases List.mem_append.1 hx with hx | hx
     ·exact .inr hx
     ·exact .inl (List.mem_cons_of_mem _ (List.mem_append_right _ hx))
  rcases hcase with hx | hx
  ·refine ⟨m, ?_, hbm x hx⟩
   show Cy (is.map (iL S.en)) m m = m
   unfold Cy; cases (is.map (iL S.en)).any (Nat.beq m) <;> rfl
  ·obtain ⟨i', hi', hf⟩ := hfc x hx
   exact ⟨_, RF (List.mem_map.2 ⟨i', hi', rfl⟩), hf⟩) (fun _ => T7 hn hfn hdis) (fun _ => hm0)
 exact h a w ⟨H.tms.same rfl, ⟨_, W1⟩, H.bel, H.base⟩
end
section
variable {P : Program} {C : Cx} {S : St} {bx : List iq} {en : List cz} {d : Option Nat} {ty : TypeId} {pos : String} {af : Array Edge} {g : Option (Nat × Bool)} {x y z : Operand} {v : Value} {t u : TypeId}
def aaa (P : Program) (t f o : Nat) (m : Option Nat) : Bool := match P.underlying t with
 | some (.struct fs) => match fs[f]? with
  | some x => Nat.beq x.offset o && vy P x.type m
  | none => false
 | _ => false
def flV (cs : Array Value) (o : Nat) : Option Nat → Option Value
 | none => cs[o]?
 | some s => some (.agg (cs.extract o (o + s)))
theorem ahB {cs : Array Value} {f : Nat} (o : Nat) (m : Option Nat) (hx : S.ev x = some (.agg cs)) (hv : flV cs o m = some v) (h : aaa P t f o m = true := by kernel_rfl) : EV P C S bx en ⟨d, .field t x f, ty, pos, af, g⟩ v := fun a w H _ => by
 unfold aaa at h
 cases hu : P.underlying t with
 | none => rw [hu] at h; cases h
 | some d' =>
  rw [hu] at h
  cases d' with
  | struct fs =>
   simp only at h
   cases hf : fs[f]? with
   | none => rw [hf] at h; cases h
   | some q =>
    rw [hf] at h
    simp only [Bool.and_eq_true] at h
    have ho : q.offset = o := Nat.eq_of_beq_eq_true h.1
    have hp : (part q.type cs o).run P w = .ok v w := by
     cases m with
     | none =>
      have ha : (isAgg q.type).run P w = .ok false w := by
       have h2 := h.2
       unfold vy at h2
       cases hu' : P.underlying q.type with
       | none => simp [hu'] at h2
       | some d2 => unfold isAgg; rw [Sem.run_bind, run_underlying hu' w]; rw [hu'] at h2; cases d2 <;> simp_all
      have hv' : cs[o]? = some v := hv
      simp [part, Sem.run_bind, ha, hv']
     | some s =>
      have h2 := h.2
      simp only [vy, Bool.and_eq_true] at h2
      have ha : (isAgg q.type).run P w = .ok true w := by
       cases hu' : P.underlying q.type with
       | none => simp [hu'] at h2
       | some d2 => unfold isAgg; rw [Sem.run_bind, run_underlying hu' w]; have := h2.1; rw [hu'] at this; cases d2 <;> simp_all
      have hv' : some (Value.agg (cs.extract o (o + s))) = some v := hv
      simp only [Option.some.injEq] at hv'
      subst hv'
      simp [part, Sem.run_bind, ha, uA h2.2]
    simp [execOp, H.ev hx, Instr.field, Sem.run_bind, run_underlying hu w, hf, ho, asAgg, hp]
  | _ => simp at h
theorem ahA {α : Type} {o : Nat} {k : Kd α} {A : Option Addr} {c s : Nat} {l : List α} {cls : Nat} {lin : Bool} {p : Addr} (i : Int) (off : Nat) (m : Option Nat) (j : Nat) (dd : α) (he : en[j]? = some (.sl o k A c l cls lin)) (hx : S.ev x = some (.pointer (some p)))
  (hp : p = (eA A (i.toNat * s)).add off) (h0 : 0 ≤ i) (h1 : i < (l.length : Int)) (hs : k.size = s) (hv : NW k.hd fun hs => D6 (k.cells (l.getD i.toNat dd) hs) off m = some v) (h : vy P t m = true := by kernel_rfl) :
  EV P C S bx en ⟨d, .load t x, ty, pos, af, g⟩ v := fun _ w H ⟨fp, W⟩ => by
 obtain ⟨bs, f, _⟩ := W.ent _ (List.mem_of_getElem? he)
 obtain ⟨b, o', cur, e, fr, cs', bs', rfl, hg, hr, _, hc⟩ := cz.at f (Di (d := dd) h0 h1)
 obtain ⟨hs', hl, hcs, _⟩ := k.opened cls lin (Nat.min_le_right o 1) hr
 have hv := hv.at hs' hl
 subst hs
 rw [← hcs] at hv
 have := Ct (P := P) (o' + i.toNat * k.size) hg hc h hv
 rw [show (eA (some ⟨b, o', none⟩) (i.toNat * k.size)).add off = ⟨b, o' + i.toNat * k.size + off, none⟩ by simp [eA, kO]] at hp
 subst hp
 simp [execOp, H.ev hx, Instr.loadAt, Instr.sureAddr, this]
end
def Cz {β : Type} : List (Int × β) → Int → Option β
 | [], _ => none
 | p :: r, k => bif p.1 == k then some p.2 else Cz r k
def Na {β : Type} : List (Int × β) → Int → β → List (Int × β)
 | [], k, v => [(k, v)]
 | p :: r, k, v => bif p.1 == k then (p.1, v) :: r else p :: Na r k v
def NF {β : Type} (kk : IntKind) (vf : β → Value) (r : Nat) (l : List (Int × β)) (w : World) (bs : List Nat) : Prop :=
 bs = [r] ∧ ∃ es clock, w.heap[r]? = some (.map es clock) ∧ es.toList.map (fun e => (e.key, e.val)) = l.map (fun p => (Value.int kk p.1, vf p.2))
theorem NF.loc {β : Type} {kk : IntKind} {vf : β → Value} {r : Nat} {l : List (Int × β)} (w w' : World) (bs : List Nat) (hw : ∀ b ∈ bs, w'.heap[b]? = w.heap[b]?) (h : NF kk vf r l w bs) : NF kk vf r l w' bs := by
 obtain ⟨rfl, es, clock, hg, he⟩ := h
 exact ⟨rfl, es, clock, by rw [hw r (List.mem_singleton.2 rfl)]; exact hg, he⟩
def ZT {β : Type} (kk : IntKind) (vf : β → Value) (r : Nat) (l : List (Int × β)) (c : Nat) : cz := .raw (NF kk vf r l) NF.loc 1 c
theorem JV {β : Type} (kk : IntKind) (vf : β → Value) (k : Int) : ∀ (es : List MapEntry) (l : List (Int × β)) (i : Nat), es.map (fun e => (e.key, e.val)) = l.map (fun p => (Value.int kk p.1, vf p.2)) →
  (Cz l k = none ∧ Instr.findNow (.int kk) (.int kk k) es i = some none ∧ Na l k = fun v => l ++ [(k, v)]) ∨
  (∃ (v : β) (j : Nat), Cz l k = some v ∧ Instr.findNow (.int kk) (.int kk k) es i = some (some (i + j, vf v)) ∧ j < l.length ∧ (es[j]?).map (·.key) = some (.int kk k) ∧
   ∀ u : β, ((es.modify j fun e => { e with key := .int kk k, val := vf u }).map (fun e => (e.key, e.val))) = (Na l k u).map (fun p => (Value.int kk p.1, vf p.2)))
 | [], [], i, _ => .inl ⟨rfl, rfl, by funext v; rfl⟩
 | e :: es, [], i, h => by simp at h
 | [], p :: l, i, h => by simp at h
 | e :: es, p :: l, i, h => by
  simp only [List.map_cons, List.cons.injEq, Prod.mk.injEq] at h
  obtain ⟨⟨h1, h2⟩, h3⟩ := h
  by_cases hk : p.1 = k
  ·right
   refine ⟨p.2, 0, by simp [Cz, hk], ?_, by simp, by simp [h1, hk], fun u => ?_⟩
   ·simp [Instr.findNow, Instr.sameNow, h1, hk, h2]
   ·simp [Na, hk, List.modify, h3]
  ·have hb : (k == p.1) = false := by simp [Ne.symm hk]
   have hb' : (p.1 == k) = false := by simp [hk]
   rcases JV kk vf k es l (i + 1) h3 with ⟨g1, g2, g3⟩ | ⟨v, j, g1, g2, g3, g4, g5⟩
   ·refine .inl ⟨by simp [Cz, hb', g1], by simp [Instr.findNow, Instr.sameNow, h1, hb, g2], ?_⟩
    funext v
    simp [Na, hb', g3]
   ·refine .inr ⟨v, j + 1, by simp [Cz, hb', g1], ?_, by simp; omega, by simpa using g4, fun u => ?_⟩
    ·simp only [Instr.findNow, Instr.sameNow, h1, hb, if_true]
     rw [g2]; simp; omega
    ·have := g5 u
     simp [Na, hb', h1, h2, this]
def Lz (P : Program) (t : Nat) (kk : IntKind) : Bool := match P.underlying t with
 | some (.map k _) => (match P.underlying k with | some (.int k') => decide (kk = k') | _ => false)
 | _ => false
theorem Uh {P : Program} {t : Nat} {kk : IntKind} (h : Lz P t kk = true) : ∃ k e, P.underlying t = some (.map k e) ∧ P.underlying k = some (.int kk) := by
 unfold Lz at h
 cases hu : P.underlying t with
 | none => simp [hu] at h
 | some d =>
  rw [hu] at h
  cases d with
  | map k e =>
   refine ⟨k, e, rfl, ?_⟩
   simp only at h
   cases hk : P.underlying k with
   | none => simp [hk] at h
   | some d' => rw [hk] at h; cases d' <;> simp_all
  | _ => simp at h
def WJ (P : Program) (t : Nat) : Option Value := match P.underlying t with
 | some (.map _ e) => (P.info? e).bind fun i => i.zero
 | _ => none
def XJ (P : Program) (t : Nat) : Bool := match P.underlying t with | some (.map _ _) => true | _ => false
section
variable {P : Program} {C : Cx} {S : St} {K : Act → World → Prop} {Q : Exit → Act → World → Prop} {bx : List iq} {en : List cz} {d : Option Nat} {ty : TypeId} {pos : String} {af : Array Edge} {g : Option (Nat × Bool)} {x y z : Operand} {v : Value} {t u : TypeId} {a : Int} {kk : IntKind}
theorem SQ {β : Type} {vf : β → Value} {r : Nat} {l : List (Int × β)} {z : Value} {w : World} {bs : List Nat} (f : NF kk vf r l w bs) (hz : WJ P t = some z) (hk : Lz P t kk = true) (ok : Bool) :
  (Instr.lookup t (.map (some r)) (.int kk a) ok).run P w = .ok (if ok then .tuple #[((Cz l a).map vf).getD z, .bool (Cz l a).isSome] else ((Cz l a).map vf).getD z) w := by
 obtain ⟨_, es, clock, hg, he⟩ := f
 obtain ⟨k, e, hu, hki⟩ := Uh hk
 have hzz : (zeroValue e).run P w = .ok z w := by
  unfold WJ at hz
  rw [hu] at hz
  simp only at hz
  cases hi : P.info? e with
  | none => simp [hi] at hz
  | some i => rw [hi] at hz; simp at hz; simp [zeroValue, typeInfo, hi, hz]
 have hck := MapKept.run_checkKey (P := P) (w := w) (k := .int kk a) hki (by simp [MapKept.IsKey]) es.isEmpty 9999
 unfold Instr.lookup
 rcases JV kk vf a es.toList l 0 he with ⟨g1, g2, _⟩ | ⟨v, j, g1, g2, _⟩
 ·have hfk := MapKept.run_findKey (w := w) hki g2
  simp [Sem.run_bind, run_underlying hu w, MapKept.run_getObj_map hg, hck, hfk, hzz, g1]
 ·have hfk := MapKept.run_findKey (w := w) hki g2
  simp [Sem.run_bind, run_underlying hu w, MapKept.run_getObj_map hg, hck, hfk, g1]
theorem agE {β : Type} {vf : β → Value} {r : Nat} {l : List (Int × β)} {cls : Nat} {zz : β} (j : Nat) (he : en[j]? = some (ZT kk vf r l cls)) (hx : S.ev x = some (.map (some r))) (hy : S.ev y = some (.int kk a)) (hz : WJ P t = some (vf zz) := by kernel_rfl) (hk : Lz P t kk = true := by kernel_rfl) :
  EV P C S bx en ⟨d, .lookup t x y true, ty, pos, af, g⟩ (.tuple #[vf ((Cz l a).getD zz), .bool (Cz l a).isSome]) := fun _ w H ⟨fp, W⟩ => by
 obtain ⟨bs, f, _⟩ := W.ent _ (List.mem_of_getElem? he)
 have := SQ (P := P) (t := t) (a := a) f hz hk true
 simp [execOp, H.ev hx, H.ev hy, this]
theorem ahz {β : Type} {vf : β → Value} {r : Nat} {l : List (Int × β)} {cls : Nat} (j : Nat) (he : en[j]? = some (ZT kk vf r l cls)) (hx : S.ev x = some (.map (some r))) (h : XJ P t = true := by kernel_rfl) :
  EV P C S bx en ⟨d, .call ⟨.builtin .len, #[x], #[t]⟩, ty, pos, af, g⟩ (.int .i64 (l.length : Int)) := fun _ w H ⟨fp, W⟩ => by
 obtain ⟨bs, ⟨_, es, clock, hg, hes⟩, _⟩ := W.ent _ (List.mem_of_getElem? he)
 have hl : es.size = l.length := by have := congrArg List.length hes; simpa using this
 unfold XJ at h
 cases hu : P.underlying t with
 | none => simp [hu] at h
 | some dd =>
  cases dd with
  | map k e => simp [execOp, resolve, invoke, builtin, H.ev hx, Builtin.len_, run_underlying hu, MapKept.run_getObj_map hg, goInt, hl]
  | _ => simp [hu] at h
theorem GE {b : Int} {k' : IntKind} (hx : S.ev x = some (.int .u64 a)) (hy : S.ev y = some (.int k' b)) (h : 0 ≤ b) : EV P C S bx en ⟨d, .binOp .shr t x y u, ty, pos, af, g⟩ (.int .u64 (eo a b)) := fun _ w H _ => by
 have hn : ¬ b < 0 := by omega
 simp [execOp, H.ev hx, H.ev hy, binOp, eqGuard, Op.shift, hn, eo, IntKind.bits]
theorem XT {f : FuncId} {xf : Operand} {as : Array Operand} {ts : Array TypeId} (hf : S.ev xf = some (.func (.func f) #[] #[])) (h : df C S (fun a w => Oper.wp P ⟨d, .call ⟨.value (.func f), as, ts⟩, ty, pos, af, g⟩ a w K Q)) :
  df C S (fun a w => Oper.wp P ⟨d, .call ⟨.value xf, as, ts⟩, ty, pos, af, g⟩ a w K Q) := fun a w H => by
 have h1 := h a w H
 have e : execOp a.eval ⟨d, .call ⟨.value xf, as, ts⟩, ty, pos, af, g⟩ = execOp a.eval ⟨d, .call ⟨.value (.func f), as, ts⟩, ty, pos, af, g⟩ := by
  simp only [execOp, resolve]
  rw [H.tms.ev hf]
  rfl
 show Oper.upon P _ a K Q ((execOp a.eval ⟨d, .call ⟨.value xf, as, ts⟩, ty, pos, af, g⟩).run P w)
 rw [e]
 exact h1
end
section
variable {P : Program} {C : Cx} {S : St} {bx : List iq} {en : List cz} {d : Option Nat} {ty : TypeId} {pos : String} {af : Array Edge} {g : Option (Nat × Bool)} {x y : Operand} {t u : TypeId} {a b : Int} {k' : IntKind}
end
theorem dw.closed0 {α : Type} (k : Kd α) {w : World} {c : Nat} {b : Bool} : ∀ {l : List α} {hss : List (List uG)} {bss : List (List Nat)}, AV k l hss = true → kn w (Gc k 0 c b l hss) bss → dw (k.rep 0 w) (lD k l hss) l bss.flatten
 | [], [], _, _, h => by cases h; exact ⟨rfl, rfl⟩
 | x :: xs, h :: hs, bss, hk, hf => by
  simp only [AV, Bool.and_eq_true] at hk
  obtain ⟨b1, b2, rfl, f1, f2⟩ := kn.split hf
  exact ⟨_, _, b1.flatten, b2.flatten, rfl, by simp, k.closed c b (by omega) (Nat.eq_of_beq_eq_true hk.1) f1, dw.closed0 k hk.2 f2⟩
 | [], _ :: _, _, h, _ => by cases h
 | _ :: _, [], _, h, _ => by cases h
theorem jf.blk0 {base : Nat} {T : Nat → Prop} {bx : List iq} {en : List cz} {w w' : World} {fp : Nat → Nat → Prop} (h : jf base T bx en w fp) (hs : w'.heap.size = w.heap.size + 1)
  (hw : ∀ b, b < w.heap.size → w'.heap[b]? = w.heap[b]?) : jf base T bx en w' (fun d b => fp d b ∨ (d = 0 ∧ b = w.heap.size)) := by
 have hx := h.ext (by omega) hw
 refine ⟨fun d d' b h1 h2 => ?_, fun d b h1 => ?_, fun e he => ?_, fun x hxx => ?_, h.nd⟩
 ·rcases h1 with h1 | h1 <;> rcases h2 with h2 | h2
  ·exact h.sole d d' b h1 h2
  ·have := (h.lt _ _ h1).1; omega
  ·have := (h.lt _ _ h2).1; omega
  ·omega
 ·rcases h1 with h1 | ⟨rfl, rfl⟩
  ·exact hx.lt d b h1
  ·exact ⟨by omega, fun h => (h rfl).elim⟩
 ·obtain ⟨bs, f, hb1, hl, ho⟩ := hx.ent e he
  exact ⟨bs, f, fun b hbb => .inl (hb1 b hbb), hl, ho⟩
 ·obtain ⟨e1, e2, e3⟩ := hx.box x hxx
  refine ⟨e1, e2, fun c hc => ?_⟩
  rcases hc with hc | ⟨_, hc⟩
  ·exact e3 c hc
  ·have := h.boxlt hxx; omega
def pk0 (is : List Nat) : List Pk := is.map fun i => ⟨i, 0, 0, false⟩
section
variable {P : Program} {C : Cx} {S : St} {K : Act → World → Prop} {Q : Exit → Act → World → Prop} {d : Option Nat} {ty : TypeId} {pos : String} {af : Array Edge} {g : Option (Nat × Bool)} {x y z : Operand} {v : Value} {t u : TypeId}
theorem YF {α : Type} {n s by_ : Nat} {parts : Array (Nat × Operand)} (k : Kd α) (l : List α) (hss : List (List uG)) (is : List Nat) (xs : List Operand) {vs : List Value} (hp : parts.toList = (xs.zipIdx 0).map fun p => (p.2, p.1)) (hx : S.evs xs = some vs)
  (hvs : (vs.flatMap fun v => v.cells.toList) = lD k l hss) (hvl : (vs.all fun v => Nat.beq v.cells.size s) = true) (hn : vs.length = n) (hl : l.length = n) (hsm : Nat.ble (n * s) 16777216 = true) (hs : k.size = s) (hk : AV k l hss = true)
  (hsub : pj S.en (pk0 is) = some (Gc k 0 0 false l hss)) (hcs : (is.map (iL S.en)).all (fun c => Nat.beq c 0) = true) (hd : d.all (Nat.blt · C.n) = true)
  (h : ∀ A c, df C (St.put ⟨S.tm, S.bx, S.en ++ [.sl 0 k A c l 0 false]⟩ d (.slice A l.length c)) K) (hok : H5 P t s by_ = true := by kernel_rfl) :
  df C S (fun a w => Oper.wp P ⟨d, .buildSlice t n parts, ty, pos, af, g⟩ a w K Q) := fun a w H => by
 obtain ⟨fp, W⟩ := H.wl
 obtain ⟨e, i, zz, hu, hi, hsz, hby, hpos, hzz, hzs⟩ := ND hok
 have hev := H.tms.evs hx
 have hcell : ∀ v ∈ vs, v.cells.size = s := fun v hv => Nat.eq_of_beq_eq_true (List.all_eq_true.1 hvl v hv)
 have hpe : (parts.map fun (i, x) => (i, a.eval x)).toList = (vs.zipIdx 0).map fun p => (p.2, p.1) := by
  rw [Array.toList_map, hp, ← hev, List.zipIdx_map, List.map_map, List.map_map]; rfl
 have hcells : (lD k l hss).length = n * s := by
  rw [← hvs, List.length_flatMap, ← hn]
  have : (vs.map fun v => v.cells.toList.length) = List.replicate vs.length s := by
   apply List.ext_getElem?
   intro j
   rw [List.getElem?_map, List.getElem?_replicate]
   by_cases hj : j < vs.length
   ·rw [List.getElem?_eq_getElem hj, if_pos hj]; simp [hcell _ (List.getElem_mem hj)]
   ·rw [List.getElem?_eq_none (by omega), if_neg hj]; rfl
  rw [this]; simp
 have hr : (Instr.buildSlice t n (parts.map fun (i, x) => (i, a.eval x))).run P w = .ok (.slice (some ⟨w.heap.size, 0, none⟩) n n) (w.alloc (.cells (lD k l hss).toArray e)) := by
  have hsm' := Nat.le_of_ble_eq_true hsm
  by_cases h0 : n = 0
  ·subst h0
   have hv0 : vs = [] := List.eq_nil_of_length_eq_zero hn
   have hc0 : lD k l hss = [] := List.eq_nil_of_length_eq_zero (by rw [hcells]; omega)
   rw [hc0]
   simp [Instr.buildSlice, run_underlying hu, sizeOf, typeInfo, hi, hpe, hv0, Instr.fill, newRow]
   have : parts.map (fun (i, x) => (i, a.eval x)) = #[] := by
    apply Array.toList_inj.1; rw [hpe, hv0]; rfl
   simp at this
   have hz : Array.range 0 = #[] := by decide
   simp [this, Instr.fill, hz]
  ·have hf := Great.fill_whole (s := s) hpos vs ((Array.range (n * s)).map (zz.cells[· % zz.cells.size]!)) hcell (by simp [hn])
   rw [hvs] at hf
   subst hsz
   exact run_buildSlice w t e n _ _ i zz hu hi hzz (by omega) (by have := Nat.mul_pos (Nat.pos_of_ne_zero h0) hpos; omega) (by rw [hpe]; exact hf)
 unfold Oper.wp
 have hr' : (execOp a.eval ⟨d, .buildSlice t n parts, ty, pos, af, g⟩).run P w = .ok (.value (.slice (some ⟨w.heap.size, 0, none⟩) n n)) (w.alloc (.cells (lD k l hss).toArray e)) := by
  simp only [execOp]
  rw [Sem.run_bind, hr]; rfl
 rw [hr']
 obtain ⟨bss, F, Hd⟩ := W.facts hsub
 have hold : ∀ b, b < w.heap.size → (w.alloc (.cells (lD k l hss).toArray e)).heap[b]? = w.heap[b]? := fun b hb => by rw [qx, if_neg (by omega)]
 have hltb : ∀ b ∈ bss.flatten, b < w.heap.size := fun b hb => by obtain ⟨p, _, hf⟩ := Hd.mem b hb; exact (W.lt _ b hf).1
 have F' : kn (w.alloc (.cells (lD k l hss).toArray e)) (Gc k 0 0 false l hss) bss := by
  have key : ∀ {es : List cz} {bss : List (List Nat)}, kn w es bss → (∀ b ∈ bss.flatten, b < w.heap.size) → kn (w.alloc (.cells (lD k l hss).toArray e)) es bss := by
   intro es bss f
   induction f with
   | nil => intro _; exact .nil
   | cons h k ih => intro hb; exact .cons (cz.fact_keep (fun b hbb => hold b (hb b (by rw [List.flatten_cons]; exact List.mem_append_left _ hbb))) h) (ih (fun b hbb => hb b (by rw [List.flatten_cons]; exact List.mem_append_right _ hbb)))
  exact key F hltb
 have Ee := dw.closed0 k hk F'
 have hfact : (cz.sl 0 k (some ⟨w.heap.size, 0, none⟩) n l 0 false).fact (w.alloc (.cells (lD k l hss).toArray e)) (w.heap.size :: bss.flatten) :=
  ⟨by omega, .inr (.inr ⟨w.heap.size, 0, (lD k l hss).toArray, e, (0, 0), lD k l hss, _, rfl, by rw [qx, if_pos rfl], Ee, fun j v hv => by rw [Nat.zero_add]; simpa using hv, rfl,
   fun h => by omega, fun h => by omega⟩)⟩
 have W1 := W.blk0 (w' := w.alloc (.cells (lD k l hss).toArray e)) (by simp) hold
 have W2 := W1.add hfact (fun b hb => by
  rcases List.mem_cons.1 hb with hb | hb
  ·exact .inr ⟨rfl, hb⟩
  ·obtain ⟨p, hp, hf⟩ := Hd.mem b hb
   obtain ⟨i, hi, rfl⟩ := List.mem_map.1 hp
   have := Nat.eq_of_beq_eq_true (List.all_eq_true.1 hcs _ (List.mem_map.2 ⟨i, hi, rfl⟩))
   rw [this] at hf
   exact .inl hf) (fun h => by cases h) (fun h => (h rfl).elim)
 have := h (some ⟨w.heap.size, 0, none⟩) n _ _ (vP.put (S := ⟨S.tm, S.bx, S.en ++ [.sl 0 k (some ⟨w.heap.size, 0, none⟩) n l 0 false]⟩) ⟨H.tms.same rfl, ⟨_, W2⟩, H.bel.alloc H.size _, H.base⟩ hd)
 rw [hl] at this
 exact this
theorem PO {α : Type} {n s by_ : Nat} {parts : Array (Nat × Operand)} (k : Kd α) (l : List α) (hss : List (List uG)) (is : List Nat) (xs : List Operand) {vs : List Value} (hh0 : (parts.toList = (xs.zipIdx 0).map fun p => (p.2, p.1)) ∧ (S.evs xs = some vs) ∧ ((vs.flatMap fun v => v.cells.toList) = lD k l hss) ∧ ((vs.all fun v => Nat.beq v.cells.size s) = true) ∧ (vs.length = n) ∧ (l.length = n) ∧ (Nat.ble (n * s) 16777216 = true) ∧ (k.size = s) ∧ (AV k l hss = true) ∧ (pj S.en (pk0 is) = some (Gc k 0 0 false l hss)) ∧ ((is.map (iL S.en)).all (fun c => Nat.beq c 0) = true) ∧ (d.all (Nat.blt · C.n) = true)) (h : ∀ A c, df C (St.put ⟨S.tm, S.bx, S.en ++ [.sl 0 k A c l 0 false]⟩ d (.slice A l.length c)) K) (hok : H5 P t s by_ = true := by kernel_rfl) :
  df C S (fun a w => Oper.wp P ⟨d, .buildSlice t n parts, ty, pos, af, g⟩ a w K Q) := YF k l hss is xs hh0.1 hh0.2.1 hh0.2.2.1 hh0.2.2.2.1 hh0.2.2.2.2.1 hh0.2.2.2.2.2.1 hh0.2.2.2.2.2.2.1 hh0.2.2.2.2.2.2.2.1 hh0.2.2.2.2.2.2.2.2.1 hh0.2.2.2.2.2.2.2.2.2.1 hh0.2.2.2.2.2.2.2.2.2.2.1 hh0.2.2.2.2.2.2.2.2.2.2.2 h (hok := hok)
end
section
variable {P : Program} {C : Cx} {S : St} {bx : List iq} {en : List cz} {K : Act → World → Prop} {Q : Exit → Act → World → Prop} {d : Option Nat} {ty : TypeId} {pos : String} {af : Array Edge} {g : Option (Nat × Bool)}
theorem Yc {fn : Go.Fn} {cs : Array Operand} {vs : List Value} (hc : S.evs cs.toList = some vs) : EV P C S bx en ⟨d, .makeFunc fn #[] cs, ty, pos, af, g⟩ (.func fn #[] vs.toArray) := fun a w H _ => by
 have e : cs.map a.eval = vs.toArray := by
  have := H.evs hc
  rw [← this]; simp [← Array.toList_inj]
 simp [execOp, e, Instr.makeFunc]
theorem mT {f : FuncId} {cap : Array Value} {xf : Operand} {as : Array Operand} {ts : Array TypeId} (hf : S.ev xf = some (.func (.func f) #[] cap)) (h : df C S (fun a w => Oper.wp P ⟨d, .call ⟨.value (.func f), ⟨as.toList ++ cap.toList.map .const⟩, ts⟩, ty, pos, af, g⟩ a w K Q)) :
  df C S (fun a w => Oper.wp P ⟨d, .call ⟨.value xf, as, ts⟩, ty, pos, af, g⟩ a w K Q) := fun a w H => by
 have h1 := h a w H
 have e2 : (⟨as.toList ++ cap.toList.map .const⟩ : Array Operand).map a.eval = as.map a.eval ++ cap := by
  apply Array.toList_inj.1
  simp only [Array.toList_map, Array.toList_append, List.map_append, List.map_map]
  congr 1
  exact List.map_id _
 have e : execOp a.eval ⟨d, .call ⟨.value xf, as, ts⟩, ty, pos, af, g⟩ = execOp a.eval ⟨d, .call ⟨.value (.func f), ⟨as.toList ++ cap.toList.map .const⟩, ts⟩, ty, pos, af, g⟩ := by
  simp only [execOp, resolve, e2]
  rw [H.tms.ev hf]
  simp [Deferred.ofValue, invoke, Act.eval]
 show Oper.upon P _ a K Q ((execOp a.eval ⟨d, .call ⟨.value xf, as, ts⟩, ty, pos, af, g⟩).run P w)
 rw [e]
 exact h1
end
theorem wkr {C : Cx} {S : St} {X : Act → World → Prop} (ts is : List Nat) (ps : List Pk) {tm : List (Nat × Value)} {bx : List iq} {en : List cz} (ht : AO S.tm ts = some tm) (hb : jp S.bx is = some bx) (he : pj S.en ps = some en) (hn : kd is = true) (hc : Dk S.en ps = true)
  (h : df C ⟨tm, bx, en⟩ X) : df C S X := wk ts is ps h ht hb he hn hc
def GD (P : Program) (t : TypeId) {α : Type} (d : Kd α) (G : α → Prop) : Prop :=
 d.size = P.cellsOf t ∧ ∀ (H : Type) (enc : TypeId × Value → H) (w : World) (base : Nat) (sp : Nat → Bool) (held : Bool) (fuel : Nat) (cs : List Value) (x : DataW H × List MemPlace),
  DataW.trod enc P w base sp held fuel t cs = some x → ∃ a bs, d.rep 0 w cs a bs ∧ (∀ b ∈ bs, b < w.heap.size) ∧ G a
theorem P2 {α : Type} {k : Kd α} {G : α → Prop} {w : World} {cur : Array Value} {off s : Nat} (hs : k.size = s) : ∀ (n m : Nat), (∀ i, m ≤ i → i < m + n → ∃ y c bs, k.rep 0 w c y bs ∧ (∀ b ∈ bs, b < w.heap.size) ∧ G y ∧ ∀ j v, c[j]? = some v → cur[off + i * s + j]? = some v) →
  ∃ (l : List α) (cs : List Value) (bs : List Nat), l.length = n ∧ dw (k.rep 0 w) cs l bs ∧ (∀ b ∈ bs, b < w.heap.size) ∧ (∀ x ∈ l, G x) ∧ ∀ j v, cs[j]? = some v → cur[off + m * s + j]? = some v
 | 0, m, _ => ⟨[], [], [], rfl, ⟨rfl, rfl⟩, by simp, by simp, by simp⟩
 | n + 1, m, h => by
  obtain ⟨y, c, b, hr, hb, hg, hc⟩ := h m (Nat.le_refl _) (by omega)
  obtain ⟨l, cs, bs, hl, hE, hbs, hG, hcs⟩ := P2 hs n (m + 1) (fun i h1 h2 => h i (by omega) (by omega))
  refine ⟨y :: l, c ++ cs, b ++ bs, by simp [hl], ⟨c, cs, b, bs, rfl, rfl, hr, hE⟩, fun x hx => ?_, fun x hx => ?_, fun j v hv => ?_⟩
  ·rcases List.mem_append.1 hx with hx | hx
   ·exact hb x hx
   ·exact hbs x hx
  ·rcases List.mem_cons.1 hx with hx | hx
   ·rw [hx]; exact hg
   ·exact hG x hx
  ·have D7 : c.length = s := by rw [k.rep_len hr, hs]
   rcases Nat.lt_or_ge j c.length with hj | hj
   ·rw [List.getElem?_append_left hj] at hv
    exact hc j v hv
   ·rw [List.getElem?_append_right hj, D7] at hv
    have := hcs (j - s) v hv
    rw [← this]; congr 1; rw [Nat.succ_mul]; omega
section
variable {P : Program} {t e : TypeId}
theorem T6 {k : IntKind} (ht : P.underlying t = some (.int k)) (hc : P.cellsOf t = 1) : GD P t (Kd.int k) (fun n : Int => (Lit.int k n).wf = true) :=
 ⟨hc.symm, fun H enc w base sp held fuel cs x h => by
  obtain ⟨n, rfl, _, hw⟩ := DataW.trod_int ht h
  exact ⟨n, [], ⟨rfl, rfl⟩, by simp, hw⟩⟩
theorem Rf {α : Type} {d : Kd α} {G : α → Prop} (ht : P.underlying t = some (.slice e)) (hc : P.cellsOf t = 1) (hpos : Nat.blt 0 d.size = true) (h : GD P e d G) : GD P t (Kd.slice d) (fun l : List α => l.length ≤ maxLen ∧ ∀ x ∈ l, G x) := by
 refine ⟨hc.symm, ?_⟩
 intro H enc w base sp held fuel cs x hx
 have hpos' : 0 < d.size := by simpa [Nat.blt_eq] using hpos
 rcases DataW.trod_slice ht hx with ⟨rfl, _⟩ | ⟨a, len, cap, elems, rest, n, _, rfl, _, hb, hl, hm, hlen, hel, _, _⟩
 ·exact ⟨[], [], ⟨none, 0, rfl, Nat.le_refl _, .inl ⟨rfl, rfl, rfl⟩⟩, by simp, by simp, by simp⟩
 ·by_cases h0 : len = 0
  ·subst h0
   exact ⟨[], [], ⟨some a, cap, rfl, Nat.zero_le _, .inr (.inl ⟨rfl, rfl, rfl⟩)⟩, by simp, by simp, by simp⟩
  ·have key : ∀ i, i < len → ∃ y bs c, w.cells? base (a.add (i * P.cellsOf e)) (P.cellsOf e) = some c ∧ d.rep 0 w c y bs ∧ (∀ b ∈ bs, b < w.heap.size) ∧ G y := by
    intro i hi
    have h1 := hel i hi
    rw [List.getElem?_eq_getElem (by omega)] at h1
    obtain ⟨c, hc1, hc2⟩ := Option.bind_eq_some_iff.1 h1
    obtain ⟨y, bs, hy, hbs, hg⟩ := h.2 _ _ _ _ _ _ _ _ _ hc2
    exact ⟨y, bs, c, hc1, hy, hbs, hg⟩
   -- the block
   have hblk : ∃ cur t' fr, w.heap[a.block]? = some (.cells cur t' fr) ∧ a.spot = none := by
    obtain ⟨y, bs, c, h1, h2, _⟩ := key 0 (by omega)
    obtain ⟨_, hlen2, hcell⟩ := World.cells?_some h1
    have := hcell 0 (by rw [← h.1]; exact hpos')
    have hc0 : ∃ v, c[0]? = some v := ⟨c[0]'(by rw [hlen2, ← h.1]; exact hpos'), List.getElem?_eq_getElem _⟩
    obtain ⟨v, hv⟩ := hc0
    rw [hv] at this
    have ha : (a.add (0 * P.cellsOf e)).add 0 = a := by simp [Addr.add]
    rw [ha] at this
    unfold World.cell? at this
    split at this
    ·rename_i cur t' fr hg
     split at this
     ·cases this
     ·rename_i hsp
      exact ⟨cur, t', fr, hg, by simpa using hsp⟩
    ·cases this
   obtain ⟨cur, t', fr, hg, hsp⟩ := hblk
   obtain ⟨ab, ao, asp⟩ := a
   simp only at hsp hg
   subst hsp
   have key2 : ∀ i, 0 ≤ i → i < 0 + len → ∃ y c bs, d.rep 0 w c y bs ∧ (∀ b ∈ bs, b < w.heap.size) ∧ G y ∧ ∀ j v, c[j]? = some v → cur[ao + i * d.size + j]? = some v := by
    intro i _ hi
    obtain ⟨y, bs, c, h1, h2, h3, h4⟩ := key i (by omega)
    refine ⟨y, c, bs, h2, h3, h4, fun j v hv => ?_⟩
    obtain ⟨_, hlen2, hcell⟩ := World.cells?_some h1
    have hj : j < P.cellsOf e := by rw [← hlen2]; exact (List.getElem?_eq_some_iff.1 hv).1
    have := hcell j hj
    rw [hv, kO, kO, ← h.1] at this
    simpa [World.cell?, hg] using this
   obtain ⟨l, cs, bs, hll, hE, hbs, hG, hcs⟩ := P2 (G := G) (off := ao) rfl len 0 key2
   have hlt : ab < w.heap.size := (Array.getElem?_eq_some_iff.1 hg).1
   refine ⟨l, ab :: bs, ⟨some ⟨ab, ao, none⟩, cap, by rw [hll], by omega, .inr (.inr ⟨ab, ao, cur, t', fr, cs, bs, rfl, hg, hE, fun j v hv => by simpa using hcs j v hv, rfl, fun h => by omega, fun h => by omega⟩)⟩, fun b hb => ?_, by rw [hll]; omega, hG⟩
   rcases List.mem_cons.1 hb with hb | hb
   ·rw [hb]; exact hlt
   ·exact hbs b hb
end
inductive NE (P : Program) : List Field → Nat → (α : Type) → Kd α → (α → Prop) → Prop
 | one {f : Field} {off : Nat} {α : Type} {d : Kd α} {G : α → Prop} (hf : f.offset = off) (h : GD P f.type d G) : NE P [f] off α d G
 | cons {f : Field} {fs : List Field} {off : Nat} {α β : Type} {d : Kd α} {G : α → Prop} {d' : Kd β} {G' : β → Prop} (hf : f.offset = off) (h : GD P f.type d G) (h' : NE P fs (off + d.size) β d' G') :
   NE P (f :: fs) off (α × β) (Kd.pair d d') (fun x => G x.1 ∧ G' x.2)
section
variable {P : Program} {H : Type} {enc : TypeId × Value → H} {w : World} {base : Nat} {sp : Nat → Bool} {held : Bool} {t : TypeId}
theorem WF {α : Type} {d : Kd α} {G : α → Prop} (h : GD P t d G) {v : Value} {x : DataW H} {ps : List MemPlace} (hv : DataW.Trod enc P w base sp held t v x ps) :
  ∃ (a : α) (hs : List uG), hs.length = d.hd ∧ v.cells.toList = d.cells a hs ∧ (∀ e ∈ d.subs 0 0 false a hs, ∃ bs, e.fact w bs ∧ ∀ b ∈ bs, b < w.heap.size) ∧ G a := by
 obtain ⟨fuel, hf⟩ := hv
 obtain ⟨a, bs, hr, hb, hg⟩ := h.2 _ _ _ _ _ _ _ _ _ hf
 obtain ⟨hs, hl, hc, he⟩ := d.opened (o := 0) 0 false (Nat.zero_le _) hr
 exact ⟨a, hs, hl, hc, fun e hee => by obtain ⟨b', f, s⟩ := he e hee; exact ⟨b', f, fun x hx => hb x (s.subset hx)⟩, hg⟩
end
theorem Za {W : World} {en : List cz} (h : ∀ e ∈ en, ∃ bs, e.fact W bs ∧ ∀ b ∈ bs, b < W.heap.size) (h0 : ∀ e ∈ en, e.cls = 0 ∧ e.o = 0 ∧ e.lin = false) : NZ W.heap.size (fun _ => False) [] en W :=
 ⟨fun c b => c = 0 ∧ b < W.heap.size, fun c c' b h1 h2 => by rw [h1.1, h2.1], fun c b hb => ⟨hb.2, fun hn => absurd hb.1 hn⟩, fun e he => by
  obtain ⟨bs, f, hb⟩ := h e he
  obtain ⟨h1, h2, h3⟩ := h0 e he
  exact ⟨bs, f, fun b hbb => ⟨h1, hb b hbb⟩, fun hl => (by rw [h3] at hl; cases hl), fun ho => absurd h2 ho⟩, (fun x hx => by cases hx), by simp⟩
theorem UA {W : World} {a b : List cz} (ha : ∀ e ∈ a, ∃ bs, e.fact W bs ∧ ∀ b ∈ bs, b < W.heap.size) (hb : ∀ e ∈ b, ∃ bs, e.fact W bs ∧ ∀ b ∈ bs, b < W.heap.size) : ∀ e ∈ a ++ b, ∃ bs, e.fact W bs ∧ ∀ b ∈ bs, b < W.heap.size := fun e he => by
 rcases List.mem_append.1 he with he | he
 ·exact ha e he
 ·exact hb e he
theorem Uz {W : World} : ∀ e ∈ ([] : List cz), ∃ bs, e.fact W bs ∧ ∀ b ∈ bs, b < W.heap.size := fun e he => by cases he
def WC (en : List cz) : Bool := en.all fun e => Nat.beq e.cls 0 && Nat.beq e.o 0 && !e.lin
theorem Ua {P : Program} {n : Nat} {args : List Value} {en : List cz} (h : Fn P n args [] en (fun v bx e => v = .bool true ∧ bx = [] ∧ e = [])) {W : World} (hf : ∀ e ∈ en, ∃ bs, e.fact W bs ∧ ∀ b ∈ bs, b < W.heap.size) (h0 : WC en = true := by kernel_rfl) :
  Calls P n args.toArray W fun e w' => e = .returned (.bool true) ∧ Below W.heap.size W w' :=
 (h W (fun _ => False) 0 (Za hf fun e he => by
  have := List.all_eq_true.1 h0 e he
  simp only [Bool.and_eq_true, Bool.not_eq_true'] at this
  exact ⟨Nat.eq_of_beq_eq_true this.1.1, Nat.eq_of_beq_eq_true this.1.2, this.2⟩)).mono fun e w' he => by
  obtain ⟨v, bx, en', ⟨rfl, _, _⟩, rfl, hB, _, _⟩ := he
  exact ⟨rfl, hB.os, hB.tape, hB.output, hB.size, fun k hk => hB.block k hk (fun h => h)⟩
theorem hs1 {hs : List uG} (h : hs.length = 1) : ∃ A1 c1, hs = [(A1, c1)] := match hs, h with | [(A1, c1)], _ => ⟨A1, c1, rfl⟩
theorem TI {P : Program} {H : Type} {enc : TypeId × Value → H} {w : World} {base : Nat} {sp : Nat → Bool} {held : Bool} {t : TypeId} {α : Type} {d : Kd α} {G : List α → Prop} (h : GD P t (Kd.slice d) G) {a : Option Addr} {len cap : Nat} {x : DataW H} {ps : List MemPlace} (hv : DataW.Trod enc P w base sp held t (.slice a len cap) x ps) :
  ∃ l : List α, len = l.length ∧ (∀ e ∈ [cz.sl 0 d a cap l 0 false], ∃ bs, e.fact w bs ∧ ∀ b ∈ bs, b < w.heap.size) ∧ G l := by
 obtain ⟨l, hs, hl, hc, hf, hg⟩ := WF h hv
 obtain ⟨A, c, rfl⟩ := hs1 hl
 have hc' : [Value.slice a len cap] = [Value.slice A l.length c] := hc
 simp only [List.cons.injEq, Value.slice.injEq, and_true] at hc'
 obtain ⟨rfl, rfl, rfl⟩ := hc'
 exact ⟨l, rfl, hf, hg⟩
theorem zZ {α : Sort _} {a : α} : a = a := rfl
theorem kK {p : Prop} (h : p := by kernel_rfl) : p := h
theorem ac {α0 : Sort _} {a0 : α0} {α1 : Sort _} {a1 : α1} : a0 = a0 ∧ a1 = a1 := ⟨rfl, rfl⟩
theorem ag {α0 : Sort _} {a0 : α0} {α1 : Sort _} {a1 : α1} {α2 : Sort _} {a2 : α2} : a0 = a0 ∧ a1 = a1 ∧ a2 = a2 := ⟨rfl, rfl, rfl⟩
theorem ae {α0 : Sort _} {a0 : α0} {α1 : Sort _} {a1 : α1} {α2 : Sort _} {a2 : α2} {α3 : Sort _} {a3 : α3} : a0 = a0 ∧ a1 = a1 ∧ a2 = a2 ∧ a3 = a3 := ⟨rfl, rfl, rfl, rfl⟩
theorem aG {α0 : Sort _} {a0 : α0} {α1 : Sort _} {a1 : α1} {α2 : Sort _} {a2 : α2} {α3 : Sort _} {a3 : α3} {α4 : Sort _} {a4 : α4} : a0 = a0 ∧ a1 = a1 ∧ a2 = a2 ∧ a3 = a3 ∧ a4 = a4 := ⟨rfl, rfl, rfl, rfl, rfl⟩
theorem bh {α0 : Sort _} {a0 : α0} {α1 : Sort _} {a1 : α1} {α2 : Sort _} {a2 : α2} {α3 : Sort _} {a3 : α3} {α4 : Sort _} {a4 : α4} {α5 : Sort _} {a5 : α5} : a0 = a0 ∧ a1 = a1 ∧ a2 = a2 ∧ a3 = a3 ∧ a4 = a4 ∧ a5 = a5 := ⟨rfl, rfl, rfl, rfl, rfl, rfl⟩
theorem yY7 {α0 : Sort _} {a0 : α0} {α1 : Sort _} {a1 : α1} {α2 : Sort _} {a2 : α2} {α3 : Sort _} {a3 : α3} {α4 : Sort _} {a4 : α4} {α5 : Sort _} {a5 : α5} {α6 : Sort _} {a6 : α6} : a0 = a0 ∧ a1 = a1 ∧ a2 = a2 ∧ a3 = a3 ∧ a4 = a4 ∧ a5 = a5 ∧ a6 = a6 := ⟨rfl, rfl, rfl, rfl, rfl, rfl, rfl⟩
theorem ep {α0 : Sort _} {a0 : α0} {α1 : Sort _} {a1 : α1} {α2 : Sort _} {a2 : α2} {α3 : Sort _} {a3 : α3} {α4 : Sort _} {a4 : α4} {α5 : Sort _} {a5 : α5} {α6 : Sort _} {a6 : α6} {α7 : Sort _} {a7 : α7} : a0 = a0 ∧ a1 = a1 ∧ a2 = a2 ∧ a3 = a3 ∧ a4 = a4 ∧ a5 = a5 ∧ a6 = a6 ∧ a7 = a7 := ⟨rfl, rfl, rfl, rfl, rfl, rfl, rfl, rfl⟩
theorem yY9 {α0 : Sort _} {a0 : α0} {α1 : Sort _} {a1 : α1} {α2 : Sort _} {a2 : α2} {α3 : Sort _} {a3 : α3} {α4 : Sort _} {a4 : α4} {α5 : Sort _} {a5 : α5} {α6 : Sort _} {a6 : α6} {α7 : Sort _} {a7 : α7} {α8 : Sort _} {a8 : α8} : a0 = a0 ∧ a1 = a1 ∧ a2 = a2 ∧ a3 = a3 ∧ a4 = a4 ∧ a5 = a5 ∧ a6 = a6 ∧ a7 = a7 ∧ a8 = a8 := ⟨rfl, rfl, rfl, rfl, rfl, rfl, rfl, rfl, rfl⟩
theorem ahM {α0 : Sort _} {a0 : α0} {α1 : Sort _} {a1 : α1} {α2 : Sort _} {a2 : α2} {α3 : Sort _} {a3 : α3} {α4 : Sort _} {a4 : α4} {α5 : Sort _} {a5 : α5} {α6 : Sort _} {a6 : α6} {α7 : Sort _} {a7 : α7} {α8 : Sort _} {a8 : α8} {α9 : Sort _} {a9 : α9} : a0 = a0 ∧ a1 = a1 ∧ a2 = a2 ∧ a3 = a3 ∧ a4 = a4 ∧ a5 = a5 ∧ a6 = a6 ∧ a7 = a7 ∧ a8 = a8 ∧ a9 = a9 := ⟨rfl, rfl, rfl, rfl, rfl, rfl, rfl, rfl, rfl, rfl⟩
theorem ahL {α0 : Sort _} {a0 : α0} {α1 : Sort _} {a1 : α1} {α2 : Sort _} {a2 : α2} {α3 : Sort _} {a3 : α3} {α4 : Sort _} {a4 : α4} {α5 : Sort _} {a5 : α5} {α6 : Sort _} {a6 : α6} {α7 : Sort _} {a7 : α7} {α8 : Sort _} {a8 : α8} {α9 : Sort _} {a9 : α9} {α10 : Sort _} {a10 : α10} : a0 = a0 ∧ a1 = a1 ∧ a2 = a2 ∧ a3 = a3 ∧ a4 = a4 ∧ a5 = a5 ∧ a6 = a6 ∧ a7 = a7 ∧ a8 = a8 ∧ a9 = a9 ∧ a10 = a10 := ⟨rfl, rfl, rfl, rfl, rfl, rfl, rfl, rfl, rfl, rfl, rfl⟩
theorem Y9 {α0 : Sort _} {a0 : α0} {α1 : Sort _} {a1 : α1} {α2 : Sort _} {a2 : α2} {α3 : Sort _} {a3 : α3} {α4 : Sort _} {a4 : α4} {α5 : Sort _} {a5 : α5} {α6 : Sort _} {a6 : α6} {α7 : Sort _} {a7 : α7} {α8 : Sort _} {a8 : α8} {α9 : Sort _} {a9 : α9} {α10 : Sort _} {a10 : α10} {α11 : Sort _} {a11 : α11} : a0 = a0 ∧ a1 = a1 ∧ a2 = a2 ∧ a3 = a3 ∧ a4 = a4 ∧ a5 = a5 ∧ a6 = a6 ∧ a7 = a7 ∧ a8 = a8 ∧ a9 = a9 ∧ a10 = a10 ∧ a11 = a11 := ⟨rfl, rfl, rfl, rfl, rfl, rfl, rfl, rfl, rfl, rfl, rfl, rfl⟩
theorem dp {α0 : Sort _} {a0 : α0} {α1 : Sort _} {a1 : α1} {α2 : Sort _} {a2 : α2} {α3 : Sort _} {a3 : α3} {α4 : Sort _} {a4 : α4} {α5 : Sort _} {a5 : α5} {α6 : Sort _} {a6 : α6} {α7 : Sort _} {a7 : α7} {α8 : Sort _} {a8 : α8} {α9 : Sort _} {a9 : α9} {α10 : Sort _} {a10 : α10} {α11 : Sort _} {a11 : α11} {α12 : Sort _} {a12 : α12} : a0 = a0 ∧ a1 = a1 ∧ a2 = a2 ∧ a3 = a3 ∧ a4 = a4 ∧ a5 = a5 ∧ a6 = a6 ∧ a7 = a7 ∧ a8 = a8 ∧ a9 = a9 ∧ a10 = a10 ∧ a11 = a11 ∧ a12 = a12 := ⟨rfl, rfl, rfl, rfl, rfl, rfl, rfl, rfl, rfl, rfl, rfl, rfl, rfl⟩
theorem ahK {α0 : Sort _} {a0 : α0} {α1 : Sort _} {a1 : α1} {α2 : Sort _} {a2 : α2} {α3 : Sort _} {a3 : α3} {α4 : Sort _} {a4 : α4} {α5 : Sort _} {a5 : α5} {α6 : Sort _} {a6 : α6} {α7 : Sort _} {a7 : α7} {α8 : Sort _} {a8 : α8} {α9 : Sort _} {a9 : α9} {α10 : Sort _} {a10 : α10} {α11 : Sort _} {a11 : α11} {α12 : Sort _} {a12 : α12} {α13 : Sort _} {a13 : α13} : a0 = a0 ∧ a1 = a1 ∧ a2 = a2 ∧ a3 = a3 ∧ a4 = a4 ∧ a5 = a5 ∧ a6 = a6 ∧ a7 = a7 ∧ a8 = a8 ∧ a9 = a9 ∧ a10 = a10 ∧ a11 = a11 ∧ a12 = a12 ∧ a13 = a13 := ⟨rfl, rfl, rfl, rfl, rfl, rfl, rfl, rfl, rfl, rfl, rfl, rfl, rfl, rfl⟩
section
variable {P : Program} {C : Cx} {S : St} {ops : Array Oper} {rest : List Oper} {Q : Exit → Act → World → Prop} {v : Value} {d : Option Nat} {ty : TypeId} {pos : String} {af : Array Edge} {g : Option (Nat × Bool)} {x : Operand}
theorem al (h1 : (S.ev x = some v) ∧ (S.go C.n ops ⟨d, .move x, ty, pos, af, g⟩ = true)) (h : df C (S.put d v) (wpList P ops Q rest)) : df C S (wpList P ops Q (⟨d, .move x, ty, pos, af, g⟩ :: rest)) := sv (aA h1.1) h1.2 h
theorem au (h1 : (S.ev x = some v) ∧ (S.go C.n ops ⟨d, .assign x, ty, pos, af, g⟩ = true)) (h : df C (S.put d v) (wpList P ops Q rest)) : df C S (wpList P ops Q (⟨d, .assign x, ty, pos, af, g⟩ :: rest)) := sv (gE h1.1) h1.2 h
end
abbrev aw (i : Nat) : Pk := ⟨i, 0, 0, false⟩
abbrev aj (i o c : Nat) : Pk := ⟨i, o, c, true⟩
abbrev gh (i o c : Nat) : Pk := ⟨i, o, c, false⟩
end Go.Proofs.YtfoblaonklkaoaaGreat.K
