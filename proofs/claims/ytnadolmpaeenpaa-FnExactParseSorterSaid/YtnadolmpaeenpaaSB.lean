/- A library for walks: states, slices, calls. No condition. -/
import Derived.Below
import Derived.ChangeArms
import Derived.KernelRfl
import Derived.Laws.BytesArg
import Derived.Laws.Strings2
import Derived.Laws.Strings3
import Derived.Laws.StructEq
import Derived.Lib.ConvBytes
import Derived.MapKept
import Derived.WideShapes
import Derived.Test.YtnadolmpaeenpaaSA
namespace Go.Proofs.Ytnadolmpaeenpaa.K
open Go Go.RowKit
set_option linter.unusedVariables false
set_option linter.unusedSimpArgs false

/-! ### '==' of structs -/
section
variable {P : Program} {d : Nat} {xs ys : Array Value} {f : Field} {fs : List Field} {a b : Value} {r s : Bool} {w : World}
theorem eq_last (hn : (f.name == "_") = false) (ha : (part f.type xs f.offset).run P w = .ok a w) (hb : (part f.type ys f.offset).run P w = .ok b w) (he : (Op.equalIn d f.type a b).run P w = .ok r w) : (Op.eqFields d xs ys [f]).run P w = .ok r w := by
  have hn' : f.name ≠ "_" := by simpa using hn
  simp only [Op.eqFields, if_pos hn', Sem.run_bind, ha, hb, he, Result.andThen_ok]
  cases r <;> simp
theorem eq_cons (hn : (f.name == "_") = false) (ha : (part f.type xs f.offset).run P w = .ok a w) (hb : (part f.type ys f.offset).run P w = .ok b w) (he : (Op.equalIn d f.type a b).run P w = .ok r w) (hr : (Op.eqFields d xs ys fs).run P w = .ok s w) : (Op.eqFields d xs ys (f :: fs)).run P w = .ok (r && s) w := by
  have hn' : f.name ≠ "_" := by simpa using hn
  rw [Op.eqFields]
  simp only [if_pos hn', Sem.run_bind, ha, hb, he, Result.andThen_ok]
  cases r
  · simp
  · simpa using hr
theorem eq_of {t : TypeId} {fs : Array Field} (hu : P.underlying t = some (.struct fs)) (hp : P.stoodInHeld t = false) (h : (Op.eqFields d xs ys fs.toList).run P w = .ok r w) : (Op.equalIn (d + 1) t (.agg xs) (.agg ys)).run P w = .ok r w := by
  have hf : P.fieldsOf t = fs := by simp [Program.fieldsOf, hu]
  rw [run_equalIn_struct (P := P) w d t xs ys (by rw [hf]; exact hu) hp, hf]
  exact h
end
section ev
variable {P : Program} {C : Cx} {S : St} {bx : List Box} {en : List Ent} {d : Option Nat} {ty : TypeId} {pos : String} {af : Array Edge} {g : Option (Nat × Bool)} {x y z : Operand} {v : Value} {t u : TypeId} {a b : Int} {k : IntKind}
theorem EV.neS {xs ys : Array Value} {r : Bool} (hx : S.ev x = some (.agg xs)) (hy : S.ev y = some (.agg ys)) (h : ∀ d w, (Op.equalIn (d + 20) t (.agg xs) (.agg ys)).run P w = .ok r w) (hm : P.eqGuardType P.depth t = false := by kernel_rfl) :
    EV P C S bx en ⟨d, .binOp .neq t x y u, ty, pos, af, g⟩ (.bool (!r)) := fun _ w H _ => by
  have h1 := run_eqGuard_agg (P := P) w .neq t x y xs ys hm
  have h2 := run_neq_struct (P := P) w t xs ys
  rw [h 9980 w] at h2
  simp only [execOp, H.ev hx, H.ev hy, Sem.run_bind, h1, Result.andThen_ok, h2]; rfl
/-- T{..}. -/
def bldV (P : Program) (t : TypeId) (parts : List (Nat × Value)) : Option Value :=
  match P.info? t with
  | none => none
  | some i => match i.zero, P.underlying t with
    | some z, some (.struct fs) => match fs.toList.mapM (fun f => (P.info? f.type).map fun j => (f.offset, j.size)) with
      | some pl => (Instr.fill (pl[·]?) z.cells parts).map fun cs => .agg cs
      | none => none
    | some z, some (.array _ e) => match P.info? e with
      | some j => (Instr.fill (fun i => some (i * j.size, j.size)) z.cells parts).map fun cs => .agg cs
      | none => none
    | _, _ => none
def St.evp (S : St) : List (Nat × Operand) → Option (List (Nat × Value))
  | [] => some []
  | (i, x) :: r => match S.ev x, S.evp r with
    | some v, some l => some ((i, v) :: l)
    | _, _ => none
theorem Tms.evp {n : Nat} {S : St} {a : Act} (h : Tms n S a) : ∀ {l : List (Nat × Operand)} {vs : List (Nat × Value)}, S.evp l = some vs → l.map (fun p => (p.1, a.eval p.2)) = vs
  | [], vs, e => by simp [St.evp] at e; simp [e]
  | (i, x) :: r, vs, e => by
    simp only [St.evp] at e
    cases h1 : S.ev x with
    | none => simp [h1] at e
    | some v => cases h2 : S.evp r with
      | none => simp [h1, h2] at e
      | some l => simp [h1, h2] at e; subst e; simp [h.ev h1, h.evp h2]
theorem places_run {P : Program} {w : World} : ∀ {fs : List Field} {pl : List (Nat × Nat)}, fs.mapM (fun f => (P.info? f.type).map fun j => (f.offset, j.size)) = some pl →
    (fs.mapM (m := Sem) fun f => do pure (f.offset, ← sizeOf f.type)).run P w = .ok pl w
  | [], pl, h => by simp at h; subst h; simp
  | f :: fs, pl, h => by
    rw [List.mapM_cons] at h
    cases h1 : P.info? f.type with
    | none => simp [h1] at h
    | some j =>
      cases h2 : fs.mapM (fun f => (P.info? f.type).map fun j => (f.offset, j.size)) with
      | none => rw [h1, h2] at h; simp at h
      | some l =>
        rw [h1, h2] at h
        simp at h
        subst h
        have := places_run (w := w) h2
        simp [List.mapM_cons, sizeOf, typeInfo, h1] at this ⊢
        rw [this]; rfl
theorem EV.bd {parts : Array (Nat × Operand)} {ps : List (Nat × Value)} (hp : S.evp parts.toList = some ps) (h : bldV P t ps = some v) : EV P C S bx en ⟨d, .build t parts, ty, pos, af, g⟩ v := fun a w H _ => by
  have hev := H.evp hp
  have hpe : (parts.map fun (i, x) => (i, a.eval x)).toList = ps := by rw [Array.toList_map]; exact hev
  unfold bldV at h
  cases hi : P.info? t with
  | none => simp [hi] at h
  | some i =>
    rw [hi] at h
    simp only at h
    cases hz : i.zero with
    | none => simp [hz] at h
    | some z =>
      cases hu : P.underlying t with
      | none => simp [hz, hu] at h
      | some dd =>
        rw [hz, hu] at h
        cases dd with
        | struct fs =>
          simp only at h
          cases hpl : fs.toList.mapM (fun f => (P.info? f.type).map fun j => (f.offset, j.size)) with
          | none => rw [hpl] at h; cases h
          | some pl =>
            rw [hpl] at h
            simp only at h
            cases hf : Instr.fill (pl[·]?) z.cells ps with
            | none => rw [hf] at h; cases h
            | some cs =>
              rw [hf] at h
              simp at h; subst h
              have hpr := places_run (P := P) (w := w) hpl
              have hpr' : (fs.mapM (m := Sem) fun f => do pure (f.offset, ← sizeOf f.type)).run P w = .ok pl.toArray w := by
                rw [Array.mapM_eq_mapM_toList, Sem.run_map, hpr]; rfl
              have hr : (Instr.build t (parts.map fun (i, x) => (i, a.eval x))).run P w = .ok (.agg cs) w := by
                unfold Instr.build
                simp only [Sem.run_bind, Sem.run_map, zeroValue, typeInfo, run_program, hi, hz, Result.andThen_ok, Sem.run_pure, run_underlying hu, hpr', hpe]
                have : Instr.fill (fun x => pl.toArray[x]?) z.cells ps = some cs := by simpa using hf
                rw [this]; rfl
              simp only [execOp]
              rw [Sem.run_bind, hr]; rfl
        | array n e =>
          simp only at h
          cases hj : P.info? e with
          | none => rw [hj] at h; cases h
          | some j =>
            rw [hj] at h
            simp only at h
            cases hf : Instr.fill (fun i => some (i * j.size, j.size)) z.cells ps with
            | none => rw [hf] at h; cases h
            | some cs =>
              rw [hf] at h
              simp at h; subst h
              have hr : (Instr.build t (parts.map fun (i, x) => (i, a.eval x))).run P w = .ok (.agg cs) w := by
                unfold Instr.build
                simp only [Sem.run_bind, Sem.run_map, zeroValue, sizeOf, typeInfo, run_program, hi, hz, hj, Result.andThen_ok, Sem.run_pure, run_underlying hu, hpe, hf]
              simp only [execOp]
              rw [Sem.run_bind, hr]; rfl
        | _ => simp at h
end ev
def bt (s : ByteArray) (i : Int) : Int := if h : i.toNat < s.size then ((s[i.toNat]'h).toNat : Int) else 0
def isInt (P : Program) (t : Nat) (k : IntKind) : Bool := match P.underlying t with | some (.int k') => decide (k = k') | _ => false
theorem isInt_ok {P : Program} {t : Nat} {k : IntKind} (h : isInt P t k = true) : P.underlying t = some (.int k) := by unfold isInt at h; split at h; simp at h; subst h; assumption; cases h
def isBytes (P : Program) (t : Nat) : Bool := match P.underlying t with | some (.slice e) => (match P.underlying e with | some (.int .u8) => sizeIs P e 1 | _ => false) | _ => false
theorem isBytes_ok {P : Program} {t : Nat} (h : isBytes P t = true) : ∃ e, P.underlying t = some (.slice e) ∧ P.underlying e = some (.int .u8) := by
  unfold isBytes at h
  split at h
  · rename_i e he
    split at h
    · rename_i h2; exact ⟨e, he, h2⟩
    · cases h
  · cases h
section ev
variable {P : Program} {C : Cx} {S : St} {bx : List Box} {en : List Ent} {d : Option Nat} {ty : TypeId} {pos : String} {af : Array Edge} {g : Option (Nat × Bool)} {x y z : Operand} {v : Value} {t u : TypeId} {a b : Int} {k k' : IntKind}
theorem EV.is {s : ByteArray} (hx : S.ev x = some (.string s)) (hy : S.ev y = some (.int k a)) (h0 : 0 ≤ a) (h1 : a < (s.size : Int)) (h : isStr P t = true := by kernel_rfl) : EV P C S bx en ⟨d, .index t x y, ty, pos, af, g⟩ (.int .u8 (bt s a)) := fun _ w H _ => by
  have h2 : a.toNat < s.size := by omega
  have hr := run_index_string (P := P) w t s k a (isStr_ok h)
  rw [dif_pos ⟨h0, h1⟩] at hr
  simp only [execOp, H.ev hx, H.ev hy]
  simp [hr, bt, h2]
theorem EV.ssb {s : ByteArray} (hx : S.ev x = some (.string s)) (hy : S.ev y = some (.int k a)) (hz : S.ev z = some (.int k' b)) (h0 : 0 ≤ a) (h1 : a ≤ b) (h2 : b ≤ (s.size : Int)) (h : isStr P t = true := by kernel_rfl) :
    EV P C S bx en ⟨d, .slice t x (some y) (some z) none, ty, pos, af, g⟩ (.string (s.extract a.toNat b.toNat)) := fun _ w H _ => by
  have hr := run_slice_string (P := P) w t s k k' a b (isStr_ok h) h0 h1 h2
  have hs := run_sliceAt_string (P := P) w t (.string s) (some (.int k a)) (some (.int k' b)) none (isStr_ok h)
  simp only [execOp, H.ev hx, Option.map_some, H.ev hy, H.ev hz, Option.map_none]
  rw [Sem.run_bind, hs, hr]; rfl
theorem EV.ssl {s : ByteArray} (hx : S.ev x = some (.string s)) (hy : S.ev y = some (.int k a)) (h0 : 0 ≤ a) (h1 : a ≤ (s.size : Int)) (h : isStr P t = true := by kernel_rfl) :
    EV P C S bx en ⟨d, .slice t x (some y) none none, ty, pos, af, g⟩ (.string (s.extract a.toNat s.size)) := fun _ w H _ => by
  have hr := run_slice_string_from_if (P := P) w t s k a (isStr_ok h)
  rw [if_pos ⟨h0, h1⟩] at hr
  have hs := run_sliceAt_string (P := P) w t (.string s) (some (.int k a)) none none (isStr_ok h)
  simp only [execOp, H.ev hx, Option.map_some, H.ev hy, Option.map_none]
  rw [Sem.run_bind, hs, hr]; rfl
theorem EV.cv (hx : S.ev x = some (.int k a)) (hu : isInt P u k' = true := by kernel_rfl) (ht : (P.underlying t).isSome = true := by kernel_rfl) : EV P C S bx en ⟨d, .convert t u x, ty, pos, af, g⟩ (.int k' (k'.wrap a)) := fun _ w H _ => by
  obtain ⟨dd, hd⟩ := Option.isSome_iff_exists.1 ht
  have h1 := run_underlying hd w
  have h2 := run_underlying (isInt_ok hu) w
  simp [execOp, H.ev hx, convert, h1, h2, Conv.intToInt]
/-- string(b) of bytes. -/
theorem EV.bs {o : Nat} {A : Option Addr} {c : Nat} {l : List Int} {cls : Nat} {lin : Bool} (j : Nat) (he : en[j]? = some (.sl o (.int .u8) A c l cls lin)) (hx : S.ev x = some (.slice A l.length c)) (ht : isBytes P t = true := by kernel_rfl) (hu : isStr P u = true := by kernel_rfl) :
    EV P C S bx en ⟨d, .convert t u x, ty, pos, af, g⟩ (.string (strOfNums l)) := fun _ w H ⟨fp, W⟩ => by
  obtain ⟨e, hs, hee⟩ := isBytes_ok ht
  obtain ⟨bs, f, _⟩ := W.ent _ (List.mem_of_getElem? he)
  have key : (convert t u (.slice A l.length c)).run P w = .ok (.string (strOfNums l)) w := by
    obtain ⟨hle, f⟩ := f
    have hnil : l = [] → (convert t u (.slice A l.length c)).run P w = .ok (.string (strOfNums l)) w := fun hl => by
      subst hl
      cases A with
      | none => rw [run_convert_bytes_nil w t e hs hee _ _ u (isStr_ok hu)]; rfl
      | some ad =>
        obtain ⟨b, off, spot⟩ := ad
        rw [run_convert_bytes_string w t u e _ _ _ hs hee (isStr_ok hu), run_bytesToString w _ _ _ [] (by simp [loadCells, loadCellsFrom])]; rfl
    rcases f with ⟨rfl, rfl, _⟩ | ⟨_, rfl, _⟩ | ⟨b, off, cur, e', fr, cs, bs', rfl, hg, hE, hc, rfl, _⟩
    · exact hnil (List.eq_nil_of_length_eq_zero (by omega))
    · exact hnil rfl
    · have hcs : cs = l.map (Value.int .u8) := by
        have key : ∀ {l : List Int} {cs : List Value} {b : List Nat}, Elems (Kd.rep (.int .u8) (min o 1) w) cs l b → cs = l.map (Value.int .u8) := by
          intro l
          induction l with
          | nil => intro cs b h; exact h.1
          | cons x xs ih => intro cs b ⟨c1, c2, b1, b2, e1, _, h1, h2⟩; rw [e1, h1.1, ih h2]; rfl
        exact key hE
      subst hcs
      rw [run_convert_bytes_string w t u e _ _ _ hs hee (isStr_ok hu)]
      have hl := run_loadCells_list (P := P) w ⟨b, off, none⟩ (l.map (Value.int .u8)) (fun j v hv => by rw [addr_add]; simp [World.cell?, hg]; exact hc j v hv)
      rw [List.length_map] at hl
      rw [run_bytesToString w _ l.length c l hl]
      congr 2
      have : ∀ (l : List Int) (acc : ByteArray), l.foldl (fun r n => r.push (UInt8.ofNat n.toNat)) acc = ⟨acc.data ++ (l.map fun n => UInt8.ofNat n.toNat).toArray⟩ := by
        intro l
        induction l with
        | nil => intro acc; simp
        | cons x xs ih => intro acc; rw [List.foldl_cons, ih]; simp [ByteArray.push]
      rw [this]
      simp [strOfNums, ByteArray.empty, ByteArray.emptyWithCapacity]
      rfl
  simp only [execOp, H.ev hx]
  rw [Sem.run_bind, key]; rfl
end ev

/-! ### Drawn regions -/
def Wp (C : Cx) (bx : List Box) (en : List Ent) (w : World) : Prop := wld C.base C.T bx en w
def mB (nm : List Nat) (j : Nat) : Bool := !nm.any (Nat.beq j)
def idxE (en : List Ent) : List Nat → Option (List Ent)
  | [] => some []
  | i :: r => match en[i]?, idxE en r with
    | some e, some l => some (e :: l)
    | _, _ => none
theorem idxE_mem {en : List Ent} : ∀ {is : List Nat} {l : List Ent}, idxE en is = some l → ∀ e ∈ l, e ∈ en
  | [], l, h, e, he => by simp [idxE] at h; subst h; cases he
  | i :: r, l, h, e, he => by
    simp only [idxE] at h
    cases h1 : en[i]? with
    | none => simp [h1] at h
    | some y =>
      cases h2 : idxE en r with
      | none => simp [h1, h2] at h
      | some l' =>
        simp [h1, h2] at h; subst h
        rcases List.mem_cons.1 he with he | he
        · subst he; exact List.mem_of_getElem? h1
        · exact idxE_mem h2 e he
section
variable {P : Program} {C : Cx} {S : St} {ops : Array Oper} {f : FuncId} {R : Ending → World → Prop} {k : List Item} {Q : Exit → Act → World → Prop} {bx0 : List Box} {en0 : List Ent} {nm : List Nat} {fuel : Nat} {l : Array Bool}
theorem Hld.drew {a : Act} {w : World} (H : Hld C S a w) : Hld C S a w.drew :=
  ⟨H.tms, let ⟨fp, W⟩ := H.wl; ⟨fp, W.ext (Nat.le_refl _) (fun _ _ => rfl)⟩, ⟨H.bel.os, H.bel.tape, H.bel.output, H.bel.size, H.bel.block⟩, H.base⟩
theorem Hld.sub0 {a : Act} {w : World} (H : Hld C S a w) {ib ie : List Nat} (hb : bxSub S.bx ib = some bx0) (hnb : nodupB ib = true) (he : idxE S.en ie = some en0) : Wp C bx0 en0 w :=
  let ⟨fp, W⟩ := H.wl; ⟨fp, (W.boxes hb hnb).sub (List.Sublist.refl _) (idxE_mem he)⟩
/-- A region whose order is drawn: the boxes ib and the entries ie hold all the while (but behind the operations of nm). -/
theorem dr {id : Nat} (ib ie nm : List Nat) (n : Nat) (hb : bxSub S.bx ib = some bx0) (he : idxE S.en ie = some en0) (hn : ops.size = n) (hl : Array.replicate ops.size false = l) (h : Tri C S (wpAnyX P .any ops (Nr P f R k) (mB nm) (Wp C bx0 en0) n l)) (hm : P.follows .mixedOrders = true := by kernel_rfl) :
    Tri C S (GA P f R (.code (.region id ops true) :: k)) := fun a w H => GA.draw (mB nm) (Wp C bx0 en0) hm (by subst hn; subst hl; exact h a w.drew H.drew)
/-- Number i is taken: a value. -/
theorem xv (i : Nat) {oi : Oper} {v : Value} (ib ie : List Nat) (hi : ops[i]? = some oi) (hv : EV P C S bx0 en0 oi v) (hg : S.go C.n ops oi = true) (hb : bxSub S.bx ib = some bx0) (hnb : nodupB ib = true) (he : idxE S.en ie = some en0)
    (h : Tri C (S.put oi.dst v) (wpAnyX P .any ops (Nr P f R k) (mB nm) (Wp C bx0 en0) fuel (l.setIfInBounds i true))) (hc : takeX .any ops (mB nm) l i = true := by kernel_rfl) : Tri C S (wpAnyX P .any ops (Nr P f R k) (mB nm) (Wp C bx0 en0) (fuel + 1) l) := fun a w H => by
  obtain ⟨hw, hd⟩ := St.go_ok H.tms hg
  exact wpAnyX_take hi hc (fun c a w h => by cases h.1) (.inl ⟨hw, fun w' h' => hv a w' H.tms h'⟩) (H.sub0 hb hnb he) (h _ _ (H.put hd))
/-- Number i is not wanted. -/
theorem xk (i : Nat) {oi : Oper} (ib ie : List Nat) (hi : ops[i]? = some oi) (hg : S.no C.n ops oi = true) (hb : bxSub S.bx ib = some bx0) (hnb : nodupB ib = true) (he : idxE S.en ie = some en0)
    (h : Tri C (S.put oi.dst undef) (wpAnyX P .any ops (Nr P f R k) (mB nm) (Wp C bx0 en0) fuel (l.setIfInBounds i true))) (hc : takeX .any ops (mB nm) l i = true := by kernel_rfl) : Tri C S (wpAnyX P .any ops (Nr P f R k) (mB nm) (Wp C bx0 en0) (fuel + 1) l) := fun a w H => by
  obtain ⟨hw, hd⟩ := St.no_ok H.tms hg
  exact wpAnyX_take hi hc (fun c a w h => by cases h.1) (.inr ⟨hw, rfl⟩) (H.sub0 hb hnb he) (h _ _ (H.put hd))
/-- What comes behind an operation of a drawn region. -/
def Bh (P : Program) (ops : Array Oper) (Q : Exit → Act → World → Prop) (nm : List Nat) (S0 : World → Prop) (fuel : Nat) (l : Array Bool) (i : Nat) : Act → World → Prop := fun a' w' => (mB nm i = true → S0 w') ∧ wpAnyX P .any ops Q (mB nm) S0 fuel (l.setIfInBounds i true) a' w'
/-- Only number i can come. -/
theorem one1 (i : Nat) {oi : Oper} (hi : ops[i]? = some oi) (hg : S.go C.n ops oi = true) (h : Tri C S (fun a w => oi.wp P a w (Bh P ops Q nm (Wp C bx0 en0) fuel l i) Q)) (hr : Region.ready .any ops l = [i] := by kernel_rfl) :
    Tri C S (wpAnyX P .any ops Q (mB nm) (Wp C bx0 en0) (fuel + 1) l) := fun a w H => by
  refine wpAnyX_all hr (by simp) fun j hj => ?_
  rw [List.mem_singleton] at hj; subst hj
  obtain ⟨hw, hd⟩ := St.go_ok H.tms hg
  unfold wpOp
  simp only [hi]
  rw [if_pos hw]
  exact .inl (h a w H)
/-- One of two. -/
theorem one2 (i j : Nat) {oi oj : Oper} (hi : ops[i]? = some oi) (hj : ops[j]? = some oj) (hgi : S.go C.n ops oi = true) (hgj : S.go C.n ops oj = true) (h : Tri C S (fun a w => oi.wp P a w (Bh P ops Q nm (Wp C bx0 en0) fuel l i) Q))
    (h' : Tri C S (fun a w => oj.wp P a w (Bh P ops Q nm (Wp C bx0 en0) fuel l j) Q)) (hr : Region.ready .any ops l = [i, j] := by kernel_rfl) : Tri C S (wpAnyX P .any ops Q (mB nm) (Wp C bx0 en0) (fuel + 1) l) := fun a w H => by
  refine wpAnyX_all hr (by simp) fun q hq => ?_
  unfold wpOp
  rcases List.mem_cons.1 hq with hq | hq
  · subst hq
    simp only [hi]
    rw [if_pos (St.go_ok H.tms hgi).1]
    exact .inl (h a w H)
  · rw [List.mem_singleton] at hq; subst hq
    simp only [hj]
    rw [if_pos (St.go_ok H.tms hgj).1]
    exact .inl (h' a w H)
theorem xs {i : Nat} (ib ie : List Nat) (hb : bxSub S.bx ib = some bx0) (hnb : nodupB ib = true) (he : idxE S.en ie = some en0) (h : Tri C S (wpAnyX P .any ops Q (mB nm) (Wp C bx0 en0) fuel (l.setIfInBounds i true))) : Tri C S (Bh P ops Q nm (Wp C bx0 en0) fuel l i) :=
  fun a w H => ⟨fun _ => H.sub0 hb hnb he, h a w H⟩
theorem xn {i : Nat} (hn : mB nm i = false) (h : Tri C S (wpAnyX P .any ops Q (mB nm) (Wp C bx0 en0) fuel (l.setIfInBounds i true))) : Tri C S (Bh P ops Q nm (Wp C bx0 en0) fuel l i) :=
  fun a w H => ⟨(fun q => by rw [hn] at q; cases q), h a w H⟩
theorem xd (h : Tri C S (GA P f R k)) (hr : Region.ready .any ops l = [] := by kernel_rfl) : Tri C S (wpAnyX P .any ops (Nr P f R k) (mB nm) (Wp C bx0 en0) fuel l) := fun a w H => wpAnyX_done hr ⟨rfl, h a w H⟩ fuel
end
/-! ### A slice cut -/
section
variable {P : Program} {C : Cx} {S : St} {K : Act → World → Prop} {Q : Exit → Act → World → Prop} {d : Option Nat} {ty : TypeId} {pos : String} {af : Array Edge} {g : Option (Nat × Bool)} {x y z : Operand} {v : Value} {t u : TypeId} {kk k2 : IntKind}
def cutA (A : Option Addr) (c lo s : Nat) : Option Addr := if c = lo then A else A.map (fun (q : Addr) => q.add (lo * s))
theorem cut_fact {α : Type} {o : Nat} {k : Kd α} {A : Option Addr} {c : Nat} {l : List α} {cls : Nat} {lin : Bool} {w : World} {bs : List Nat} (h : (Ent.sl o k A c l cls lin).fact w bs) (lo hi : Nat) (h1 : lo ≤ hi) (h2 : hi ≤ l.length) :
    ∃ bs', (Ent.sl (bif Nat.beq lo 0 then o else min o 1) k (cutA A c lo k.size) (c - lo) ((l.take hi).drop lo) cls lin).fact w bs' ∧ bs'.Sublist bs := by
  obtain ⟨hle, h⟩ := h
  have hlen : ((l.take hi).drop lo).length = hi - lo := by simp; omega
  rcases h with ⟨rfl, rfl, rfl⟩ | ⟨rfl, rfl, rfl⟩ | ⟨b, off, cur, e, fr, cs, bs', rfl, hb, he, hc, rfl, hw1, hw2⟩
  · have : lo = 0 := by omega
    subst this
    exact ⟨[], ⟨by rw [hlen]; omega, .inl ⟨by simp [cutA], by simp, rfl⟩⟩, List.Sublist.refl _⟩
  · have : lo = 0 := by simp at h2; omega
    subst this
    exact ⟨[], ⟨by simp, .inr (.inl ⟨by simp, by simp, rfl⟩)⟩, List.Sublist.refl _⟩
  · obtain ⟨p, q, b1, b2, rfl, rfl, hp, e1, e2⟩ := Elems.take (fun _ _ _ => k.rep_len) hi he
    obtain ⟨p1, q1, d1, d2, rfl, rfl, hp1, f1, f2⟩ := Elems.take (fun _ _ _ => k.rep_len) lo e1
    have hp1' : p1.length = lo * k.size := by rw [hp1]; congr 1; simp; omega
    by_cases hcl : c = lo
    · -- nothing is left
      have hz : (l.take hi).drop lo = [] := List.eq_nil_of_length_eq_zero (by rw [hlen]; omega)
      subst hcl
      rw [hz]; unfold cutA; rw [if_pos rfl]
      refine ⟨[b], ⟨Nat.zero_le _, .inr (.inr ⟨b, off, cur, e, fr, [], [], rfl, hb, ⟨rfl, rfl⟩, fun j v hv => by simp at hv, rfl, fun ho => ?_, fun ho => ?_⟩)⟩, ?_⟩
      · have ho' : 1 ≤ o := by cases hq : Nat.beq c 0 <;> rw [hq] at ho <;> simp at ho <;> omega
        exact ⟨(hw1 ho').1, by simp; have := (hw1 ho').2.1; omega, by unfold maxLen; omega⟩
      · cases hq : Nat.beq c 0 with
        | false => rw [hq] at ho; simp at ho; omega
        | true => have := Nat.eq_of_beq_eq_true hq; subst this; rw [hq] at ho; simp at ho; have := hw2 ho; simp at this ⊢; exact this
      · exact List.Sublist.cons_cons _ (List.nil_sublist _)
    · unfold cutA; rw [if_neg hcl]
      simp only [Option.map_some, addr_add]
      have hE : Elems (k.rep (min (bif Nat.beq lo 0 then o else min o 1) 1) w) q1 ((l.take hi).drop lo) d2 := by
        have : min (bif Nat.beq lo 0 then o else min o 1) 1 = min o 1 := by cases Nat.beq lo 0 <;> simp
        rw [this]; exact f2
      refine ⟨b :: d2, ⟨by rw [hlen]; omega, .inr (.inr ⟨b, off + lo * k.size, cur, e, fr, q1, d2, rfl, hb, hE, fun j v hv => ?_, rfl, fun ho => ?_, fun ho => ?_⟩)⟩, ?_⟩
      · have := hc (p1.length + j) v (by rw [List.append_assoc, List.getElem?_append_right (by omega), Nat.add_sub_cancel_left]; rw [List.getElem?_append_left]; exact hv
                                         rcases Nat.lt_or_ge j q1.length with h' | h'
                                         · exact h'
                                         · rw [List.getElem?_eq_none h'] at hv; cases hv)
        rw [hp1'] at this
        rw [Nat.add_assoc]; exact this
      · have ho' : 1 ≤ o := by cases hq : Nat.beq lo 0 <;> rw [hq] at ho <;> simp at ho <;> omega
        obtain ⟨r1, r2, r3⟩ := hw1 ho'
        refine ⟨r1, ?_, by omega⟩
        rw [Nat.add_assoc, ← Nat.add_mul, Nat.add_sub_cancel' (by omega)]; exact r2
      · cases hq : Nat.beq lo 0 with
        | false => rw [hq] at ho; simp at ho; omega
        | true =>
          have := Nat.eq_of_beq_eq_true hq
          subst this
          rw [hq] at ho
          simp at ho ⊢
          exact hw2 ho
      · refine List.Sublist.cons_cons _ ?_
        exact ((List.sublist_append_right ..).trans (List.sublist_append_left ..))
end

end Go.Proofs.Ytnadolmpaeenpaa.K
namespace Go.Proofs.Ytnadolmpaeenpaa.K
open Go Go.RowKit
set_option linter.unusedVariables false
theorem bd {α β : Type} {o : Option α} {f : α → Option β} {r : β} (h : o.bind f = some r) : ∃ t, o = some t ∧ f t = some r := Option.bind_eq_some_iff.mp h
theorem gg {α : Type} {p : Prop} [Decidable p] {x : Option α} {r : α} (h : (if p then x else none) = some r) : p ∧ x = some r := by
  by_cases hp : p
  · rw [if_pos hp] at h; exact ⟨hp, h⟩
  · rw [if_neg hp] at h; cases h
theorem ifs {α : Type} {p : Prop} [Decidable p] {x y : Option α} {r : α} {G : Prop} (h : (if p then x else y) = some r) (h1 : p → x = some r → G) (h2 : ¬ p → y = some r → G) : G := by
  by_cases hp : p
  · rw [if_pos hp] at h; exact h1 hp h
  · rw [if_neg hp] at h; exact h2 hp h
theorem bdI {α β : Type} {o : Option α} {f : α → Option β} {r : β} {G : Prop} (k : ∀ t, o = some t → f t = some r → G) : o.bind f = some r → G := fun h => let ⟨t, a, b⟩ := bd h; k t a b
theorem ggI {α : Type} {p : Prop} [Decidable p] {x : Option α} {r : α} {G : Prop} (k : p → x = some r → G) : (if p then x else none) = some r → G := fun h => k (gg h).1 (gg h).2
theorem ifsI {α : Type} {p : Prop} [Decidable p] {x y : Option α} {r : α} {G : Prop} (h1 : p → x = some r → G) (h2 : ¬ p → y = some r → G) : (if p then x else y) = some r → G := fun h => ifs h h1 h2
theorem dq {p : Prop} [Decidable p] (h : decide p = true := by kernel_rfl) : p := of_decide_eq_true h
theorem dT {p : Prop} [Decidable p] (h : p) : decide p = true := decide_eq_true h
theorem dF {p : Prop} [Decidable p] (h : ¬ p) : decide p = false := decide_eq_false h
theorem nT {p : Prop} [Decidable p] (h : ¬ p) : (!decide p) = true := by simp [h]
theorem nF {p : Prop} [Decidable p] (h : p) : (!decide p) = false := by simp [h]
theorem bF {b : Bool} (h : ¬ b = true) : b = false := by simpa using h
theorem bN {b : Bool} (h : b = true) : (!b) = false := by simp [h]
theorem bM {b : Bool} (h : ¬ b = true) : (!b) = true := by simp [h]
section
variable {P : Program} {C : Cx} {S : St} {f : FuncId} {R : Ending → World → Prop} {k : List Item} {K : Act → World → Prop} {Q : Exit → Act → World → Prop}
/-- A temporary's truth value, now known. -/
theorem ts {X : Act → World → Prop} (t : Nat) {c b : Bool} (h : look S.tm t = some (.bool c)) (hc : c = b) (k : Tri C ⟨(t, .bool b) :: S.tm, S.bx, S.en⟩ X) : Tri C S X := fun a w H => by
  subst hc
  refine k a w ⟨⟨H.tms.size, H.tms.defers, fun t' v e => ?_⟩, H.wl, H.bel, H.base⟩
  simp only [look] at e
  cases hb : Nat.beq t t' with
  | true => rw [hb] at e; simp at e; subst e; rw [← Nat.eq_of_beq_eq_true hb]; exact H.tms.tm t _ h
  | false => rw [hb] at e; exact H.tms.tm t' v e
/-- A loop. -/
theorem lo {c : Code} (Inv : Nat → St → Prop) (hz : ∀ S, ¬ Inv 0 S) (hs : ∀ n, (∀ m, m ≤ n → ∀ S, Inv m S → Tri C S (GA P f R (.inLoop c :: k))) → ∀ S, Inv (n + 1) S → Tri C S (GA P f R (.code c :: .inLoop c :: k)))
    {n0 : Nat} {S0 : St} (h0 : Inv n0 S0) (hw : Tri C S0 (GA P f R (.code c :: .inLoop c :: k)) → Tri C S (GA P f R (.code c :: .inLoop c :: k))) : Tri C S (GA P f R (.code (.loop c) :: k)) := by
  have key : ∀ n, ∀ m, m ≤ n → ∀ S, Inv m S → Tri C S (GA P f R (.code c :: .inLoop c :: k)) := by
    intro n
    induction n with
    | zero => intro m hm S h; have : m = 0 := by omega
              subst this; exact absurd h (hz S)
    | succ n ih =>
      intro m hm S h
      rcases Nat.lt_or_ge m (n + 1) with h' | h'
      · exact ih m (by omega) S h
      · have : m = n + 1 := by omega
        subst this
        exact hs n (fun m' hm' S' h' => gl (ih m' hm' S' h')) S h
  exact fun a w H => GA.loop (hw (key n0 n0 (Nat.le_refl _) S0 h0) a w H)
/-- Two ways that meet. -/
theorem jo {x y : Code} (Inv : St → Prop) (hj : ∀ S, Inv S → Tri C S (GA P f R (.code y :: k))) (h : (∀ S, Inv S → Tri C S (GA P f R (.code y :: k))) → Tri C S (GA P f R (.code x :: .code y :: k))) : Tri C S (GA P f R (.code (.seq x y) :: k)) := gs (h hj)
/-- A value, where something else might have come. -/
theorem ov {o : Oper} {v : Value} (hv : EV P C S S.bx S.en o v) (hd : o.dst.all (Nat.blt · C.n) = true) (h : Tri C (S.put o.dst v) K) : Tri C S (fun a w => o.wp P a w K Q) := fun a w H => by
  show o.upon P a K Q ((execOp a.eval o).run P w)
  rw [hv a w H.tms H.wl]
  exact h _ _ (H.put hd)
end
def rdOf {α : Type} (d : α) (xs : List α) (i : Int) : α := xs.getD i.toNat d
def shrI (a b : Int) : Int := a.fdiv (2 ^ (min b.toNat 64))
def andI (a b : Int) : Int := wrap64 (BitVec.ofInt 64 a &&& BitVec.ofInt 64 b).toNat
section
variable {P : Program} {C : Cx} {S : St} {bx : List Box} {en : List Ent} {d : Option Nat} {ty : TypeId} {pos : String} {af : Array Edge} {g : Option (Nat × Bool)} {x y z : Operand} {v : Value} {t u : TypeId} {a b : Int} {k k' : IntKind}
theorem EV.shr (hx : S.ev x = some (.int .i64 a)) (hy : S.ev y = some (.int k b)) (h : 0 ≤ b) : EV P C S bx en ⟨d, .binOp .shr t x y u, ty, pos, af, g⟩ (.int .i64 (shrI a b)) := fun _ w H _ => by
  have hn : ¬ b < 0 := by omega
  simp [execOp, H.ev hx, H.ev hy, binOp, eqGuard, Op.shift, hn, shrI, IntKind.bits]
theorem EV.andI (hx : S.ev x = some (.int .i64 a)) (hy : S.ev y = some (.int .i64 b)) : EV P C S bx en ⟨d, .binOp .and t x y u, ty, pos, af, g⟩ (.int .i64 (K.andI a b)) := fun _ w H _ => by
  simp [execOp, H.ev hx, H.ev hy, binOp, eqGuard, Op.intBits, K.andI, IntWalk.i64_left]; rfl
/-- A slice that is cut, told ahead. -/
theorem cutp {X : Act → World → Prop} {α : Type} {o : Nat} {k : Kd α} {A : Option Addr} {c s : Nat} {l l' : List α} {cls : Nat} {lin : Bool} (li hi : Int) (j : Nat) (he : S.en[j]? = some (.sl o k A c l cls lin)) (h0 : 0 ≤ li) (h1 : li ≤ hi) (h2 : hi ≤ (l.length : Int)) (hs : k.size = s)
    (o' : Nat) (ho' : o' ≤ o) (ho2 : o' ≤ 1 ∨ li = 0) (hl' : (l.take hi.toNat).drop li.toNat = l') (h : Tri C ⟨S.tm, S.bx, S.en ++ [.sl o' k (cutA A c li.toNat s) (c - li.toNat) l' cls lin]⟩ X) : Tri C S X := fun a w H => by
  obtain ⟨fp, W⟩ := H.wl
  obtain ⟨bs, f, hb, hn, hoc⟩ := W.ent _ (List.mem_of_getElem? he)
  subst hl' hs
  obtain ⟨bs', f', hsub⟩ := cut_fact f li.toNat hi.toNat (by omega) (by omega)
  have f2 := Ent.fact_re (o := o') (cls := cls) (lin := lin) (by
    show o' ≤ (bif Nat.beq li.toNat 0 then o else min o 1)
    cases hq : Nat.beq li.toNat 0 with
    | true => exact ho'
    | false =>
      rcases ho2 with h' | h'
      · simp; omega
      · subst h'; simp at hq) f'
  have W1 := W.add f2 (fun b hbb => hb b (hsub.subset hbb)) (fun hl => hsub.nodup (hn hl)) (fun hne => hoc (by show o ≠ 0; intro e; subst e; exact hne (by show o' = 0; omega)))
  exact h a w ⟨H.tms.same rfl, ⟨_, W1⟩, H.bel, H.base⟩
theorem ctl {α : Type} {l : List α} {i : Int} : (l.take ((l.length : Int)).toNat).drop i.toNat = l.drop i.toNat := by rw [Int.toNat_natCast, List.take_length]
theorem EV.ct {α : Type} {o : Nat} {k : Kd α} {A : Option Addr} {c s n : Nat} {l : List α} {cls : Nat} {lin : Bool} {lo hi : Option Operand} (li hi' : Int) (j : Nat) (he : en[j]? = some (.sl o k A c l cls lin)) (hx : S.ev x = some (.slice A l.length c))
    (hlo : (match lo with | none => some li = some 0 | some y => S.ev y = some (.int .i64 li))) (hhi : (match hi with | none => some hi' = some (l.length : Int) | some y => S.ev y = some (.int .i64 hi'))) (h0 : 0 ≤ li) (h1 : li ≤ hi') (h2 : hi' ≤ (l.length : Int)) (hs : k.size = s) (hcu : True = True) (hn : hi'.toNat - li.toNat = n)
    (hok : slSz P t s = true := by kernel_rfl) : EV P C S bx en ⟨d, .slice t x lo hi none, ty, pos, af, g⟩ (.slice (cutA A c li.toNat s) n (c - li.toNat)) := fun a w H ⟨fp, W⟩ => by
  obtain ⟨bs, f, _⟩ := W.ent _ (List.mem_of_getElem? he)
  obtain ⟨e, hu, hsz⟩ := slSz_ok hok
  have hle : l.length ≤ c := f.1
  have hr := sizeIs_ok hsz w
  have hel : P.elem t = e := by simp [Program.elem, hu]
  have hsa := run_sliceAt_slice (P := P) w t (.slice A l.length c) (lo.map a.eval) (hi.map a.eval) none (by rw [hel]; exact hu)
  simp only [execOp, H.ev hx, Option.map_none]
  rw [Sem.run_bind, hsa]
  have hu' : P.underlying t = some (.slice (P.elem t)) := by rw [hel]; exact hu
  have hz : (sizeOf (P.elem t)).run P w = .ok s w := by rw [hel]; exact hr
  subst hn
  cases lo with
  | none =>
    have hlo' : li = 0 := Option.some.inj hlo
    subst hlo'
    cases hi with
    | none => have hhi' : hi' = (l.length : Int) := Option.some.inj hhi
              subst hhi'; simp only [Option.map_none]; rw [run_slice_all w t A l.length c hu', hz]; simp [sliced, cutA]
    | some y => simp only at hhi; simp only [Option.map_none, Option.map_some, H.ev hhi]; rw [run_slice_h w t A l.length c hu' .i64 hi' h1 (by omega), hz]; simp [sliced, cutA]
  | some q =>
    simp only at hlo
    cases hi with
    | none => have hhi' : hi' = (l.length : Int) := Option.some.inj hhi
              subst hhi'; simp only [Option.map_none, Option.map_some, H.ev hlo]; rw [run_slice_l w t A l.length c hu' .i64 li h0 h1, hz]; simp [sliced, cutA]
    | some y => simp only at hhi; simp only [Option.map_some, H.ev hlo, H.ev hhi]; rw [run_slice_lh w t A l.length c hu' .i64 .i64 li hi' h0 h1 (by omega), hz]; simp [sliced, cutA]
end
theorem ctnh {α : Type} {l : List α} {h : Int} (h2 : h ≤ (l.length : Int) := by assumption) : h.toNat - (0 : Int).toNat = (l.take h.toNat).length := by simp; omega
theorem ctnl {α : Type} {l : List α} {i : Int} : ((l.length : Int)).toNat - i.toNat = (l.drop i.toNat).length := by simp
theorem ap1 {α : Type} {l : List α} {e : α} {N b : Nat} (h : l.length < N) (hN : N * b ≤ 140737488355328) : (l.length + [e].length) * b ≤ 140737488355328 := Nat.le_trans (Nat.mul_le_mul_right _ (by simp; omega)) hN
theorem ap1n {α : Type} {l : List α} {e : α} {N : Nat} (h : l.length < N) (hN : N ≤ 140737488355328) : l.length + [e].length ≤ 140737488355328 := by simp; omega
theorem ap2 {α : Type} {l m : List α} {N b : Nat} (h : l.length + m.length ≤ N) (hN : N * b ≤ 140737488355328) : (l.length + m.length) * b ≤ 140737488355328 := Nat.le_trans (Nat.mul_le_mul_right _ h) hN
theorem ap2n {α : Type} {l m : List α} {N : Nat} (h : l.length + m.length ≤ N) (hN : N ≤ 140737488355328) : l.length + m.length ≤ 140737488355328 := by omega
theorem ap0 {α : Type} {m : List α} {N b : Nat} (h : m.length ≤ N) (hN : N * b ≤ 140737488355328) : (([] : List α).length + m.length) * b ≤ 140737488355328 := by simp; exact Nat.le_trans (Nat.mul_le_mul_right _ h) hN
theorem ap0n {α : Type} {m : List α} {N : Nat} (h : m.length ≤ N) (hN : N ≤ 140737488355328) : ([] : List α).length + m.length ≤ 140737488355328 := by simp; omega
section
variable {P : Program} {C : Cx} {S : St} {ops : Array Oper} {f : FuncId} {R : Ending → World → Prop} {k : List Item} {Q : Exit → Act → World → Prop} {bx0 : List Box} {en0 : List Ent} {nm : List Nat} {fuel : Nat} {l : Array Bool}
end
theorem rlT {C : Cx} {S : St} {X : Act → World → Prop} (t : Nat) {v v' : Value} (h1 : look S.tm t = some v) (e : v' = v) (h : Tri C ⟨(t, v') :: S.tm, S.bx, S.en⟩ X) : Tri C S X := fun a w H => by
  subst e
  refine h a w ⟨⟨H.tms.size, H.tms.defers, fun t' v e => ?_⟩, H.wl, H.bel, H.base⟩
  simp only [look] at e
  cases hb : Nat.beq t t' with
  | true => rw [hb] at e; simp at e; subst e; rw [← Nat.eq_of_beq_eq_true hb]; exact H.tms.tm t _ h1
  | false => rw [hb] at e; exact H.tms.tm t' v e
theorem rlB {C : Cx} {S : St} {X : Act → World → Prop} (i : Nat) {b tt : Nat} {cs cs' : List Value} (h1 : S.bx[i]? = some ⟨b, tt, cs⟩) (e : cs' = cs) (h : Tri C ⟨S.tm, S.bx.set i ⟨b, tt, cs'⟩, S.en⟩ X) : Tri C S X := by
  subst e
  have : S.bx.set i ⟨b, tt, cs'⟩ = S.bx := by
    apply List.ext_getElem?
    intro j
    rw [List.getElem?_set]
    split
    · rename_i e; subst e
      split
      · exact h1.symm
      · rename_i h'; rw [List.getElem?_eq_none (by omega)]
    · rfl
  rw [this] at h
  exact h
/-- Less is kept. -/
theorem pr {C : Cx} {S : St} {X : Act → World → Prop} (ts is ie : List Nat) {tm : List (Nat × Value)} {bx : List Box} {en : List Ent} (ht : tmSub S.tm ts = some tm) (hb : bxSub S.bx is = some bx) (hn : nodupB is = true) (he : idxE S.en ie = some en) (h : Tri C ⟨tm, bx, en⟩ X) : Tri C S X := fun a w H => by
  obtain ⟨fp, W⟩ := H.wl
  exact h a w ⟨⟨H.tms.size, H.tms.defers, fun t v e => H.tms.tm t v (tmSub_ok ht t v e)⟩, ⟨fp, (W.boxes hb hn).sub (List.Sublist.refl _) (fun e he' => idxE_mem he e he')⟩, H.bel, H.base⟩
theorem nmE {C : Cx} {S : St} {X : Act → World → Prop} {en : List Ent} (e : S.en = en) (h : Tri C ⟨S.tm, S.bx, en⟩ X) : Tri C S X := by subst e; exact h
theorem slq {α β : Type} {l : List α} {m : List β} (A : Option Addr) (c : Nat) (h : m.length = l.length) : Value.slice A m.length c = Value.slice A l.length c := by rw [h]
theorem stl {α : Type} {l l' : List α} {i : Nat} {x : α} (h : l.set i x = l') : l'.length = l.length := by rw [← h, List.length_set]
section
variable {P : Program} {C : Cx} {S : St} {ops : Array Oper} {Q : Exit → Act → World → Prop} {must : Nat → Bool} {S0 : World → Prop} {fuel0 : Nat} {l0 : Array Bool}
theorem da {l' : Array Bool} (h : Tri C S (wpAnyX P .any ops Q must S0 fuel0 l')) (e : l0 = l' := by kernel_rfl) : Tri C S (wpAnyX P .any ops Q must S0 fuel0 l0) := e ▸ h
end
/-- Entries of classes that a call is handed to write. -/
def spent (en : List Ent) (ps : List Pk) (c : Nat) : Bool := ps.any fun p => !Nat.beq p.c 0 && Nat.beq (clsOf en p.i) c
theorem spent_iff {en : List Ent} {ps : List Pk} {c : Nat} : spent en ps c = true ↔ ∃ p ∈ ps, p.c ≠ 0 ∧ clsOf en p.i = c := by
  have hb : ∀ n : Nat, Nat.beq n 0 = false ↔ ¬ n = 0 := fun n => by cases n <;> simp [Nat.beq]
  simp [spent, List.any_eq_true, hb]
theorem pkE_some {en : List Ent} : ∀ {ps : List Pk} {en' : List Ent}, pkE en ps = some en' → ∀ p ∈ ps, en[p.i]? ≠ none
  | [], _, h, p, hp => by cases hp
  | p :: r, _, h, q, hq => by
    simp only [pkE] at h
    cases h1 : en[p.i]? with
    | none => simp [h1] at h
    | some e =>
      cases h2 : pkE en r with
      | none => simp [h1, h2] at h
      | some l =>
        rcases List.mem_cons.1 hq with hq | hq
        · subst hq; rw [h1]; simp
        · exact pkE_some h2 q hq
theorem pkE_cls {en : List Ent} : ∀ {ps : List Pk} {en' : List Ent}, pkE en ps = some en' → ∀ p ∈ ps, ∀ {e}, en[p.i]? = some e → p.c ≠ 0 → e.cls ≠ 0
  | [], _, h, p, hp => by cases hp
  | p :: r, _, h, q, hq => by
    simp only [pkE] at h
    cases h1 : en[p.i]? with
    | none => simp [h1] at h
    | some e =>
      cases h2 : pkE en r with
      | none => simp [h1, h2] at h
      | some l =>
        simp only [h1, h2] at h
        cases hc : (Nat.ble p.o e.o && (!p.l || e.lin) && (Nat.beq p.o 0 || !Nat.beq p.c 0) && (Nat.beq p.c 0 || !Nat.beq e.cls 0)) with
        | false => simp [hc] at h
        | true =>
          rcases List.mem_cons.1 hq with hq | hq
          · subst hq
            rename_i e'
            intro he' hz hz'
            rw [h1] at he'; cases he'
            simp only [Bool.and_eq_true, Bool.or_eq_true, Bool.not_eq_true'] at hc
            rcases hc.2 with hd | hd
            · exact hz (Nat.eq_of_beq_eq_true hd)
            · rw [hz'] at hd; simp at hd
          · exact pkE_cls h2 q hq
section
variable {P : Program} {C : Cx} {S : St} {K : Act → World → Prop} {Q : Exit → Act → World → Prop} {d : Option Nat} {ty : TypeId} {pos : String} {af : Array Edge} {g : Option (Nat × Bool)} {x y z : Operand} {v : Value} {t u : TypeId}
/-- A call of a function that may write some of what it is handed: the entries with a class in `ps`, the boxes of `is`; `js` are the other boxes. -/
theorem op_callM {f : FuncId} {as : Array Operand} {ts : Array TypeId} {args : List Value} {en : List Ent} {bxs bxr : List Box} {R : Value → List Box → List Ent → Prop} (hF : Fn P f args bxs en R) (ps : List Pk) (is js : List Nat) (m : Nat) (ha : S.evs as.toList = some args)
    (he : pkE S.en ps = some en) (hc : clsOk S.en ps = true) (hbs : bxSub S.bx is = some bxs) (hbr : bxSub S.bx js = some bxr) (hij : nodupB (js ++ is) = true) (hm : below m S.en = true) (hd : d.all (Nat.blt · C.n) = true)
    (h : ∀ v bx en', R v bx en' → Tri C (St.put ⟨S.tm, bxr ++ bx, S.en.filter (fun e => !spent S.en ps e.cls) ++ en'.map (Ent.sh m)⟩ d v) K) (hok : callOk P f = true := by kernel_rfl) :
    Tri C S (fun a w => Oper.wp P ⟨d, .call ⟨.value (.func f), as, ts⟩, ty, pos, af, g⟩ a w K Q) := fun a w H => by
  obtain ⟨fp, W⟩ := H.wl
  have hargs : as.map a.eval = args.toArray := by
    have := H.tms.evs ha
    rw [← this]; simp [← Array.toList_inj]
  have hr : (execOp a.eval ⟨d, .call ⟨.value (.func f), as, ts⟩, ty, pos, af, g⟩).run P w = .ok (.enter f args.toArray) w := by
    simp [execOp, resolve, Deferred.ofValue, invoke, Act.eval, hargs, run_call hok]
  unfold Oper.wp
  rw [hr, Oper.upon_enter]
  have hij' := nodupB_ok hij
  rw [List.nodup_append] at hij'
  obtain ⟨hnj, hni, hdis⟩ := hij'
  have hlen : ∀ {i : Nat} {x : Box}, S.bx[i]? = some x → i < (S.bx.map (·.b)).length := fun {i x} hx => by
    rcases Nat.lt_or_ge i S.bx.length with h' | h'
    · simpa using h'
    · rw [List.getElem?_eq_none h'] at hx; cases hx
  have hapart : ∀ x ∈ bxr, ∀ y ∈ bxs, x.b ≠ y.b := fun x hx y hy e => by
    obtain ⟨j, hj, ej⟩ := bxSub_mem hbr x hx
    obtain ⟨i, hi, ei⟩ := bxSub_mem hbs y hy
    have := (List.getElem?_inj (j := i) (hlen ej) W.nd).1 (by simp [ej, ei, e])
    exact hdis j hj i hi this
  let T' : Nat → Prop := fun b => (∃ c, spent S.en ps c = true ∧ fp c b) ∨ ∃ y ∈ bxs, y.b = b
  have hpk := W.pick he hc
  have hpre : wld w.heap.size T' bxs en w := by
    refine ⟨_, hpk.sole, fun c b hb => ⟨(hpk.lt c b hb).1, fun hcz => .inr ?_⟩, hpk.ent, fun y hy => ?_, ?_⟩
    · obtain ⟨p, hp, _, rfl, _, hf⟩ := hb
      exact .inl ⟨_, spent_iff.2 ⟨p, hp, hcz, rfl⟩, hf⟩
    · obtain ⟨i, hi, ei⟩ := bxSub_mem hbs y hy
      obtain ⟨e1, e2, e3⟩ := W.box y (List.mem_of_getElem? ei)
      exact ⟨e1, .inr (.inr ⟨y, hy, rfl⟩), fun c ⟨p, _, _, _, _, hb⟩ => e3 _ hb⟩
    · exact bxSub_nd W.nd hbs hni
  refine (hF w T' 0 hpre).mono fun e w' he' => ?_
  obtain ⟨v, bx, en', hR, rfl, hB, hzz, fp', W'⟩ := he'
  have W' : Wld w.heap.size T' bx en' w' fp' := W'
  have hsize : w.heap.size ≤ w'.heap.size := hB.size
  have hold : ∀ b, b < w.heap.size → ¬ T' b → w'.heap[b]? = w.heap[b]? := fun b hb hT => hB.block b hb hT
  have hTown : ∀ b, T' b → b < w.heap.size ∧ (C.base ≤ b ∨ C.T b) := fun b hb => by
    rcases hb with ⟨c, hs, hf⟩ | ⟨y, hy, rfl⟩
    · obtain ⟨p, hp, hz, rfl⟩ := spent_iff.1 hs
      refine ⟨(W.lt _ b hf).1, (W.lt _ b hf).2 ?_⟩
      have := hpk.lt p.c b
      intro hcz
      -- the entry's class is no 0
      have hq : ∃ e, S.en[p.i]? = some e := by
        cases hpi : S.en[p.i]? with
        | some e => exact ⟨e, rfl⟩
        | none => exact absurd hpi (pkE_some he p hp)
      obtain ⟨e, hpi⟩ := hq
      exact pkE_cls he p hp hpi hz (by simpa [clsOf, hpi] using hcz)
    · obtain ⟨i, hi, ei⟩ := bxSub_mem hbs y hy
      exact ⟨W.boxlt (List.mem_of_getElem? ei), (W.box y (List.mem_of_getElem? ei)).2.1⟩
  have hfree : ∀ c b, spent S.en ps c = false → fp c b → ¬ T' b := fun c b hs hf hT => by
    rcases hT with ⟨c', hs', hf'⟩ | ⟨y, hy, rfl⟩
    · rw [W.sole _ _ b hf hf', hs'] at hs; cases hs
    · obtain ⟨i, hi, ei⟩ := bxSub_mem hbs y hy
      exact (W.box y (List.mem_of_getElem? ei)).2.2 c hf
  have hbrT : ∀ x ∈ bxr, ¬ T' x.b := fun x hx hT => by
    obtain ⟨j, hj, ej⟩ := bxSub_mem hbr x hx
    rcases hT with ⟨c', hs', hf'⟩ | ⟨y, hy, e⟩
    · exact (W.box x (List.mem_of_getElem? ej)).2.2 _ hf'
    · exact hapart x hx y hy e.symm
  have hnew : ∀ c b, c ≠ 0 → fp' c b → w.heap.size ≤ b ∨ T' b := fun c b hc hb' => (W'.lt c b hb').2 hc
  have WW : Wld C.base C.T (bxr ++ bx) (S.en.filter (fun e => !spent S.en ps e.cls) ++ en'.map (Ent.sh m)) w' (fun c b => (c < m ∧ spent S.en ps c = false ∧ fp c b) ∨ (m < c ∧ fp' (c - m) b)) := by
    refine ⟨fun c c' b h1 h2 => ?_, fun c b h1 => ?_, fun e he => ?_, fun x hxx => ?_, ?_⟩
    · rcases h1 with ⟨l1, s1, h1⟩ | ⟨l1, h1⟩ <;> rcases h2 with ⟨l2, s2, h2⟩ | ⟨l2, h2⟩
      · exact W.sole _ _ b h1 h2
      · have q1 := (W.lt _ b h1).1
        rcases hnew _ _ (by omega) h2 with q2 | q2
        · omega
        · exact absurd q2 (hfree _ _ s1 h1)
      · have q1 := (W.lt _ b h2).1
        rcases hnew _ _ (by omega) h1 with q2 | q2
        · omega
        · exact absurd q2 (hfree _ _ s2 h2)
      · have := W'.sole _ _ b h1 h2; omega
    · rcases h1 with ⟨l1, s1, h1⟩ | ⟨l1, h1⟩
      · exact ⟨Nat.lt_of_lt_of_le (W.lt _ b h1).1 hsize, (W.lt _ b h1).2⟩
      · refine ⟨(W'.lt _ b h1).1, fun _ => ?_⟩
        rcases hnew _ _ (by omega) h1 with q | q
        · exact .inl (Nat.le_trans H.size q)
        · exact (hTown b q).2
    · rcases List.mem_append.1 he with he | he
      · obtain ⟨hem, hsp⟩ := List.mem_filter.1 he
        have hsp' : spent S.en ps e.cls = false := by simpa using hsp
        obtain ⟨bs, f, hb1, hl, ho⟩ := W.ent e hem
        have := List.all_eq_true.1 hm e hem
        exact ⟨bs, Ent.fact_keep (fun b hbb => hold b (W.lt _ b (hb1 b hbb)).1 (hfree _ _ hsp' (hb1 b hbb))) f, fun b hbb => .inl ⟨by simpa [Nat.blt_eq] using this, hsp', hb1 b hbb⟩, hl, ho⟩
      · obtain ⟨e', he', rfl⟩ := List.mem_map.1 he
        obtain ⟨bs, f, hb1, hl, ho⟩ := W'.ent e' he'
        have hc := hzz e' he'
        refine ⟨bs, Ent.sh_fact f, fun b hbb => .inr ⟨by rw [Ent.sh_cls]; omega, by rw [Ent.sh_cls, Nat.add_sub_cancel]; exact hb1 b hbb⟩, by rw [Ent.sh_lin]; exact hl, fun _ => by rw [Ent.sh_cls]; omega⟩
    · rcases List.mem_append.1 hxx with hxx | hxx
      · obtain ⟨j, hj, ej⟩ := bxSub_mem hbr x hxx
        obtain ⟨e1, e2, e3⟩ := W.box x (List.mem_of_getElem? ej)
        refine ⟨by rw [hold _ (W.boxlt (List.mem_of_getElem? ej)) (hbrT x hxx)]; exact e1, e2, fun c hc => ?_⟩
        rcases hc with ⟨_, _, hc⟩ | ⟨l1, hc⟩
        · exact e3 c hc
        · rcases hnew _ _ (by omega) hc with q | q
          · have := W.boxlt (List.mem_of_getElem? ej); omega
          · exact hbrT x hxx q
      · obtain ⟨e1, e2, e3⟩ := W'.box x hxx
        refine ⟨e1, ?_, fun c hc => ?_⟩
        · rcases e2 with q | q
          · exact .inl (Nat.le_trans H.size q)
          · exact (hTown _ q).2
        · rcases hc with ⟨_, s1, hc⟩ | ⟨l1, hc⟩
          · rcases e2 with q | q
            · have := (W.lt _ _ hc).1; omega
            · exact hfree _ _ s1 hc q
          · exact e3 _ hc
    · rw [List.map_append, List.nodup_append]
      refine ⟨bxSub_nd W.nd hbr hnj, W'.nd, fun a ha b hb e => ?_⟩
      obtain ⟨x, hx, rfl⟩ := List.mem_map.1 ha
      obtain ⟨y, hy, rfl⟩ := List.mem_map.1 hb
      obtain ⟨j, hj, ej⟩ := bxSub_mem hbr x hx
      rcases (W'.box y hy).2.1 with q | q
      · have := W.boxlt (List.mem_of_getElem? ej); omega
      · rw [← e] at q; exact hbrT x hx q
  exact h v bx en' hR _ _ (Hld.put (S := ⟨S.tm, bxr ++ bx, S.en.filter (fun e => !spent S.en ps e.cls) ++ en'.map (Ent.sh m)⟩) ⟨H.tms.same rfl, ⟨_, WW⟩, H.bel.trans (Bel.of hB fun k hk hT => ⟨Nat.lt_of_lt_of_le hk H.size, fun h => by
    rcases (hTown k h).2 with q | q
    · omega
    · exact hT q⟩), H.base⟩ hd)
/-- A store into an element, the new list by name. -/
theorem op_stg {α : Type} {o : Nat} {k : Kd α} {A : Option Addr} {c s sz : Nat} {l l' : List α} {cls : Nat} {lin : Bool} {p : Addr} (i : Int) (off : Nat) (j : Nat) (dd x' : α) (el : l.set i.toNat x' = l') (he : S.en[j]? = some (.sl o k A c l cls lin)) (hx : S.ev x = some (.pointer (some p))) (hy : S.ev y = some v)
    (hp : p = (eA A (i.toNat * s)).add off) (h0 : 0 ≤ i) (h1 : i < (l.length : Int)) (hs : k.size = s) (hk : k.hd = 0) (hv : stV (k.cells (l.getD i.toNat dd) []) off v = some (k.cells x' [])) (hvs : v.cells.toList.length = sz) (ho : o ≠ 0) (hd : d = none)
    (h : Tri C ⟨S.tm, S.bx, S.en.filter (notc cls) ++ [.sl o k A c l' cls true]⟩ K) (hsz : sizeIs P t sz = true := by kernel_rfl) :
    Tri C S (fun a w => Oper.wp P ⟨d, .store t x y, ty, pos, af, g⟩ a w K Q) := op_stf i off j dd x' he hx hy hp h0 h1 hs hk hv hvs ho hd (by rw [el]; exact h) hsz
end

/-! ### Cells and headers -/
theorem Kd.cells_len {α : Type} (k : Kd α) : ∀ {x : α} {hs : List Hdr}, hs.length = k.hd → (k.cells x hs).length = k.size := by
  induction k with
  | int | bool | str => intro x hs h; rfl
  | pair a b iha ihb =>
    intro x hs h
    have h' : hs.length = a.hd + b.hd := h
    obtain ⟨h1, h2, rfl, l1⟩ : ∃ h1 h2, hs = h1 ++ h2 ∧ h1.length = a.hd := ⟨hs.take a.hd, hs.drop a.hd, (List.take_append_drop ..).symm, by rw [List.length_take]; omega⟩
    have ed : (h1 ++ h2).drop a.hd = h2 := by rw [← l1]; simp
    show (a.cells x.1 (h1 ++ h2) ++ b.cells x.2 ((h1 ++ h2).drop a.hd)).length = a.size + b.size
    rw [ed, Kd.cells_take a _ _ _ l1, List.length_append, iha l1, ihb (by rw [List.length_append] at h'; omega)]
  | iso f g fg a ih => intro x hs h; exact ih (x := g x) h
  | slice a ih =>
    intro x hs h
    match hs, h with
    | [(A, c)], _ => rfl
theorem Kd.cells_one {α : Type} (k : Kd α) : ∀ {x : α} {hs : List Hdr}, hs.length = k.hd → ∀ v ∈ k.cells x hs, v.oneCell' = true := by
  induction k with
  | int | bool | str => intro x hs h v hv; rw [List.mem_singleton.1 hv]; rfl
  | pair a b iha ihb =>
    intro x hs h
    have h' : hs.length = a.hd + b.hd := h
    obtain ⟨h1, h2, rfl, l1⟩ : ∃ h1 h2, hs = h1 ++ h2 ∧ h1.length = a.hd := ⟨hs.take a.hd, hs.drop a.hd, (List.take_append_drop ..).symm, by rw [List.length_take]; omega⟩
    have ed : (h1 ++ h2).drop a.hd = h2 := by rw [← l1]; simp
    show ∀ v ∈ a.cells x.1 (h1 ++ h2) ++ b.cells x.2 ((h1 ++ h2).drop a.hd), v.oneCell' = true
    rw [ed, Kd.cells_take a _ _ _ l1]
    intro v hv
    rcases List.mem_append.1 hv with hv | hv
    · exact iha l1 v hv
    · exact ihb (by rw [List.length_append] at h'; omega) v hv
  | iso f g fg a ih => intro x hs h; exact ih (x := g x) h
  | slice a ih =>
    intro x hs h v hv
    match hs, h with
    | [(A, c)], _ => rw [show v = Value.slice A x.length c from List.mem_singleton.1 hv]; rfl
theorem Kd.cells_inj {α : Type} (k : Kd α) : ∀ {x : α} {hs hs' : List Hdr}, hs.length = k.hd → hs'.length = k.hd → k.cells x hs = k.cells x hs' → hs = hs' := by
  induction k with
  | int | bool | str => intro x hs hs' h h' _; rw [List.eq_nil_of_length_eq_zero h, List.eq_nil_of_length_eq_zero h']
  | pair a b iha ihb =>
    intro x hs hs' h h' e
    have g : hs.length = a.hd + b.hd := h
    have g' : hs'.length = a.hd + b.hd := h'
    obtain ⟨h1, h2, rfl, l1⟩ : ∃ h1 h2, hs = h1 ++ h2 ∧ h1.length = a.hd := ⟨hs.take a.hd, hs.drop a.hd, (List.take_append_drop ..).symm, by rw [List.length_take]; omega⟩
    obtain ⟨k1, k2, rfl, m1⟩ : ∃ h1 h2, hs' = h1 ++ h2 ∧ h1.length = a.hd := ⟨hs'.take a.hd, hs'.drop a.hd, (List.take_append_drop ..).symm, by rw [List.length_take]; omega⟩
    have ed : (h1 ++ h2).drop a.hd = h2 := by rw [← l1]; simp
    have ed' : (k1 ++ k2).drop a.hd = k2 := by rw [← m1]; simp
    have e' : a.cells x.1 (h1 ++ h2) ++ b.cells x.2 ((h1 ++ h2).drop a.hd) = a.cells x.1 (k1 ++ k2) ++ b.cells x.2 ((k1 ++ k2).drop a.hd) := e
    rw [ed, ed', Kd.cells_take a _ _ _ l1, Kd.cells_take a _ _ _ m1] at e'
    rw [List.length_append] at g g'
    obtain ⟨q1, q2⟩ := List.append_inj e' (by rw [Kd.cells_len a l1, Kd.cells_len a m1])
    rw [iha l1 m1 q1, ihb (by omega) (by omega) q2]
  | iso f g fg a ih => intro x hs hs' h h' e; exact ih (x := g x) h h' e
  | slice a ih =>
    intro x hs hs' h h' e
    match hs, h, hs', h' with
    | [(A, c)], _, [(A', c')], _ =>
      have e' : [Value.slice A x.length c] = [Value.slice A' x.length c'] := e
      simp at e'
      rw [e'.1, e'.2]
theorem Facts.append {w : World} : ∀ {es fs : List Ent} {bs cs : List (List Nat)}, Facts w es bs → Facts w fs cs → Facts w (es ++ fs) (bs ++ cs)
  | _, _, _, _, .nil, h => h
  | _, _, _, _, .cons h k, h' => .cons h (Facts.append k h')
/-- A value that is there, taken apart: its parts' blocks are all its blocks. -/
theorem Kd.opened2 {α : Type} (k : Kd α) : ∀ {o w cs x bs} (cl : Nat) (l : Bool), o ≤ 1 → k.rep o w cs x bs → ∃ (hs : List Hdr) (bss : List (List Nat)), hs.length = k.hd ∧ cs = k.cells x hs ∧ Facts w (k.subs o cl l x hs) bss ∧ bss.flatten = bs := by
  induction k with
  | int k => intro o w cs x bs cl l ho h; exact ⟨[], [], rfl, h.1, .nil, h.2.symm⟩
  | bool => intro o w cs x bs cl l ho h; exact ⟨[], [], rfl, h.1, .nil, h.2.symm⟩
  | str => intro o w cs x bs cl l ho h; exact ⟨[], [], rfl, h.1, .nil, h.2.symm⟩
  | pair a b iha ihb =>
    intro o w cs x bs cl l ho h
    obtain ⟨c1, c2, b1, b2, e1, e2, h1, h2⟩ := h
    obtain ⟨s1, t1, l1, d1, f1, g1⟩ := iha cl l ho h1
    obtain ⟨s2, t2, l2, d2, f2, g2⟩ := ihb cl l ho h2
    subst e1 e2
    have ed : (s1 ++ s2).drop a.hd = s2 := by rw [← l1]; simp
    refine ⟨s1 ++ s2, t1 ++ t2, by simp [Kd.hd, l1, l2], ?_, ?_, by rw [List.flatten_append, g1, g2]⟩
    · show c1 ++ c2 = a.cells x.1 (s1 ++ s2) ++ b.cells x.2 ((s1 ++ s2).drop a.hd)
      rw [ed, Kd.cells_take a _ _ _ l1, ← d1, ← d2]
    · show Facts w (a.subs o cl l x.1 (s1 ++ s2) ++ b.subs o cl l x.2 ((s1 ++ s2).drop a.hd)) (t1 ++ t2)
      rw [ed, Kd.subs_take a _ _ _ _ _ _ l1]
      exact f1.append f2
  | iso f g fg a ih => intro o w cs x bs cl l ho h; exact ih (x := g x) cl l ho h
  | slice a ih =>
    intro o w cs x bs cl l ho h
    obtain ⟨A, c, e, h⟩ := h
    refine ⟨[(A, c)], [bs], rfl, e, .cons ?_ .nil, by simp⟩
    show SlR a.size (a.rep (min o 1) w) o w A c x bs
    rw [Nat.min_eq_left ho]; exact h

/-! ### An element taken out -/
/-- The slice's block and its other elements; the element's cells are cs. -/
def HolF {α : Type} (k : Kd α) (o : Nat) (A : Option Addr) (c : Nat) (l : List α) (i : Nat) (cs : List Value) (w : World) (bs : List Nat) : Prop :=
  i < l.length ∧ l.length ≤ c ∧ ∃ b off cur e p q b1 b2, A = some ⟨b, off, none⟩ ∧ w.heap[b]? = some (.cells cur e (0, 0)) ∧ Elems (k.rep 1 w) p (l.take i) b1 ∧ Elems (k.rep 1 w) q (l.drop (i + 1)) b2 ∧ cs.length = k.size ∧
    (∀ v ∈ cs, v.oneCell' = true) ∧ (∀ j v, (p ++ (cs ++ q))[j]? = some v → cur[off + j]? = some v) ∧ bs = b :: (b1 ++ b2) ∧ bs.Nodup ∧ off + c * k.size ≤ cur.size ∧ c ≤ maxLen ∧ (2 ≤ o → off = 0 ∧ cur.size = c * k.size)
theorem HolF.loc {α : Type} {k : Kd α} {o : Nat} {A : Option Addr} {c : Nat} {l : List α} {i : Nat} {cs : List Value} (w w' : World) (bs : List Nat) (hw : ∀ b ∈ bs, w'.heap[b]? = w.heap[b]?) (h : HolF k o A c l i cs w bs) : HolF k o A c l i cs w' bs := by
  obtain ⟨h1, h2, b, off, cur, e, p, q, b1, b2, rfl, hg, hp, hq, hl, ho, hc, rfl, hn, r⟩ := h
  exact ⟨h1, h2, b, off, cur, e, p, q, b1, b2, rfl, by rw [hw b (List.mem_cons_self ..)]; exact hg,
    Elems.mono (fun cs x d _ hd => k.rep_keep (Nat.le_refl _) fun m hm => hw m (List.mem_cons_of_mem _ (List.mem_append_left _ (hd m hm)))) hp,
    Elems.mono (fun cs x d _ hd => k.rep_keep (Nat.le_refl _) fun m hm => hw m (List.mem_cons_of_mem _ (List.mem_append_right _ (hd m hm)))) hq, hl, ho, hc, rfl, hn, r⟩
def holE {α : Type} (k : Kd α) (o : Nat) (A : Option Addr) (c : Nat) (l : List α) (i : Nat) (cs : List Value) (cls : Nat) : Ent := .raw (HolF k o A c l i cs) HolF.loc 1 cls
def numE : Nat → List Ent → List Ent
  | _, [] => []
  | m, e :: r => e.re e.o m e.lin :: numE (m + 1) r
theorem numE_mem : ∀ {es : List Ent} {m : Nat} {w : World} {bss : List (List Nat)}, Facts w es bss → ∀ e' ∈ numE m es, ∃ (t : Nat) (bt : List Nat) (e : Ent), bss[t]? = some bt ∧ es[t]? = some e ∧ e' = e.re e.o (m + t) e.lin ∧ e.fact w bt
  | [], _, _, _, _, e', h => by cases h
  | e :: r, m, w, _, .cons (b := b) (bs := bs) hf hk, e', h => by
    rcases List.mem_cons.1 h with h | h
    · exact ⟨0, b, e, rfl, rfl, by simpa using h, hf⟩
    · obtain ⟨t, bt, e2, h1, h2, h3, h4⟩ := numE_mem hk e' h
      exact ⟨t + 1, bt, e2, by simpa using h1, by simpa using h2, by rw [h3, show m + 1 + t = m + (t + 1) by omega], h4⟩
theorem flat_uniq : ∀ {bss : List (List Nat)}, bss.flatten.Nodup → ∀ {t t' : Nat} {b b' : List Nat} {x : Nat}, bss[t]? = some b → bss[t']? = some b' → x ∈ b → x ∈ b' → t = t'
  | [], _, t, t', b, b', x, h, _, _, _ => by simp at h
  | c :: r, hn, t, t', b, b', x, h, h', hx, hx' => by
    rw [List.flatten_cons, List.nodup_append] at hn
    have mem : ∀ {t : Nat} {b : List Nat}, r[t]? = some b → x ∈ b → x ∈ r.flatten := fun h1 h2 => List.mem_flatten.2 ⟨_, List.mem_of_getElem? h1, h2⟩
    cases t with
    | zero =>
      cases t' with
      | zero => rfl
      | succ t' => simp at h h'; subst h; exact absurd rfl (hn.2.2 x hx x (mem h' hx'))
    | succ t =>
      cases t' with
      | zero => simp at h h'; subst h'; exact absurd rfl (hn.2.2 x hx' x (mem h hx))
      | succ t' => simp at h h'; rw [flat_uniq hn.2.1 h h' hx hx']
theorem flat_nodup : ∀ {bss : List (List Nat)}, bss.flatten.Nodup → ∀ {t : Nat} {b : List Nat}, bss[t]? = some b → b.Nodup
  | c :: r, hn, 0, b, h => by rw [List.flatten_cons, List.nodup_append] at hn; simp at h; subst h; exact hn.1
  | c :: r, hn, t + 1, b, h => by rw [List.flatten_cons, List.nodup_append] at hn; exact flat_nodup hn.2.1 (by simpa using h)
theorem Kd.subs_all {α : Type} (k : Kd α) : ∀ {o cls : Nat} {lin : Bool} {x : α} {hs : List Hdr}, ∀ e ∈ k.subs o cls lin x hs, e.cls = cls ∧ e.lin = lin ∧ e.o = o := by
  induction k with
  | int | bool | str => intro q cls lin x hs e h; cases h
  | pair a b iha ihb => intro q cls lin x hs e h; rcases List.mem_append.1 h with h | h; exact iha _ h; exact ihb _ h
  | iso f g fg a ih => intro q cls lin x hs e h; exact ih (x := g x) e h
  | slice a ih =>
    intro q cls lin x hs e h
    match hs, h with
    | (A, c) :: _, h => rw [show Kd.subs (.slice a) q cls lin x ((A, c) :: _) = [Ent.sl q a A c x cls lin] from rfl, List.mem_singleton] at h; subst h; exact ⟨rfl, rfl, rfl⟩

section
variable {P : Program} {C : Cx} {S : St} {X : Act → World → Prop} {K : Act → World → Prop} {Q : Exit → Act → World → Prop} {d : Option Nat} {ty : TypeId} {pos : String} {af : Array Edge} {g : Option (Nat × Bool)} {x y z : Operand} {v : Value} {t u : TypeId}
/-- Element i of entry j, whose cells entry jc tells, is taken out: its slices are entries of their own, in classes of their own. -/
theorem opnH {α : Type} {o : Nat} {k : Kd α} {A : Option Addr} {c : Nat} {l : List α} {cls cls' s : Nat} {i : Int} (hs : List Hdr) (j jc m : Nat) (dd : α) (he : S.en[j]? = some (.sl o k A c l cls true)) (hz : k.size = s) (hce : S.en[jc]? = some (celE A (i.toNat * s) (k.cells (l.getD i.toNat dd) hs) cls'))
    (h0 : 0 ≤ i) (h1 : i < (l.length : Int)) (ho : o ≠ 0) (hhs : hs.length = k.hd) (hm : below m S.en = true)
    (h : Tri C ⟨S.tm, S.bx, S.en.filter (notc cls) ++ (holE k o A c l i.toNat (k.cells (l.getD i.toNat dd) hs) m :: numE (m + 1) (k.subs 1 0 true (l.getD i.toNat dd) hs))⟩ X) : Tri C S X := fun a w H => by
  subst hz
  obtain ⟨fp, W⟩ := H.wl
  obtain ⟨bs, f, hb, hn, hoc⟩ := W.ent _ (List.mem_of_getElem? he)
  obtain ⟨bc, fc, hbc, _, _⟩ := W.ent _ (List.mem_of_getElem? hce)
  have hnd : bs.Nodup := hn rfl
  have hcz : cls ≠ 0 := hoc ho
  have hblt : ∀ e ∈ S.en, e.cls < m := fun e he => by have := List.all_eq_true.1 hm e he; simpa [Nat.blt_eq] using this
  have hclm : cls < m := hblt _ (List.mem_of_getElem? he)
  have hi : i.toNat < l.length := by omega
  obtain ⟨hle, f⟩ := f
  rcases f with ⟨_, hc0, _⟩ | ⟨f, _⟩ | ⟨b, off, cur, e, fr, cs0, bs', rfl, hg, hE, hc, rfl, hw1, hw2⟩
  · omega
  · exact absurd f ho
  · obtain ⟨rfl, hin, hmax⟩ := hw1 (by omega)
    rw [Nat.min_eq_right (by omega : 1 ≤ o)] at hE
    obtain ⟨p, cc, q, b1, bb, b2, rfl, rfl, hr, hp, hq⟩ := Elems.split i.toNat _ (getD_some (d := dd) h0 h1) hE
    obtain ⟨hs', bss, hl', hcs', hF, hfl⟩ := k.opened2 0 true (Nat.le_refl 1) hr
    have hpl : p.length = i.toNat * k.size := by rw [Elems.len (fun _ _ _ => k.rep_len) hp, List.length_take, Nat.min_eq_left (by omega)]
    have hcl : cc.length = k.size := k.rep_len hr
    obtain ⟨b', off', cur', e', fr', hA, _, hg', hcel⟩ := fc
    simp at hA
    obtain ⟨rfl, rfl⟩ := hA
    rw [hg] at hg'
    simp at hg'
    obtain ⟨rfl, rfl, _⟩ := hg'
    have hcc : cc = k.cells (l.getD i.toNat dd) hs := by
      have hl2 := k.cells_len (x := l.getD i.toNat dd) hhs
      apply List.ext_getElem?
      intro q'
      by_cases hq' : q' < k.size
      · have e1 := hc (p.length + q') cc[q'] (by rw [List.getElem?_append_right (by omega), List.getElem?_append_left (by omega)]; simp)
        have e2 := hcel q' (k.cells (l.getD i.toNat dd) hs)[q'] (by simp)
        rw [hpl, ← Nat.add_assoc] at e1
        rw [e1] at e2
        simp only [Option.some.injEq] at e2
        rw [List.getElem?_eq_getElem (by omega), List.getElem?_eq_getElem (by omega), e2]
      · rw [List.getElem?_eq_none (by omega), List.getElem?_eq_none (by omega)]
    have hhh : hs' = hs := k.cells_inj hl' hhs (by rw [← hcs', hcc])
    subst hhh
    subst hfl
    have hnd2 := hnd
    rw [List.nodup_cons, List.nodup_append, List.nodup_append] at hnd2
    obtain ⟨nb, n1, ⟨nf, n2, nx⟩, ny⟩ := hnd2
    have hHb : (b :: (b1 ++ b2)).Nodup := by
      rw [List.nodup_cons, List.nodup_append]
      exact ⟨fun hmm => nb (by rcases List.mem_append.1 hmm with hmm | hmm; exact List.mem_append_left _ hmm; exact List.mem_append_right _ (List.mem_append_right _ hmm)), n1, n2, fun x hx y hy => ny x hx y (List.mem_append_right _ hy)⟩
    have hdis : ∀ x, x ∈ b :: (b1 ++ b2) → x ∈ bss.flatten → False := fun x hx hf => by
      rcases List.mem_cons.1 hx with hx | hx
      · subst hx; exact nb (List.mem_append_right _ (List.mem_append_left _ hf))
      · rcases List.mem_append.1 hx with hx | hx
        · exact ny x hx x (List.mem_append_left _ hf) rfl
        · exact nx x hf x hx rfl
    have hHfp : ∀ x ∈ b :: (b1 ++ b2), fp cls x := fun x hx => hb x (by
      rcases List.mem_cons.1 hx with hx | hx
      · rw [hx]; exact List.mem_cons_self ..
      · rcases List.mem_append.1 hx with hx | hx
        · exact List.mem_cons_of_mem _ (List.mem_append_left _ hx)
        · exact List.mem_cons_of_mem _ (List.mem_append_right _ (List.mem_append_right _ hx)))
    have hSfp : ∀ {t : Nat} {bt : List Nat}, bss[t]? = some bt → ∀ x ∈ bt, fp cls x ∧ x ∈ bss.flatten := fun ht x hx =>
      have hx' := List.mem_flatten.2 ⟨_, List.mem_of_getElem? ht, hx⟩
      ⟨hb x (List.mem_cons_of_mem _ (List.mem_append_right _ (List.mem_append_left _ hx'))), hx'⟩
    refine h a w ⟨H.tms.same rfl, ⟨fun c b' => (c < m ∧ c ≠ cls ∧ fp c b') ∨ (c = m ∧ b' ∈ b :: (b1 ++ b2)) ∨ (∃ t bt, bss[t]? = some bt ∧ c = m + 1 + t ∧ b' ∈ bt), ?_, ?_, ?_, ?_, W.nd⟩, H.bel, H.base⟩
    · intro c1 c2 x hx hy
      rcases hx with ⟨l1, q1, g1⟩ | ⟨e1, g1⟩ | ⟨t1, bt1, g1, e1, r1⟩ <;> rcases hy with ⟨l2, q2, g2⟩ | ⟨e2, g2⟩ | ⟨t2, bt2, g2, e2, r2⟩
      · exact W.sole _ _ _ g1 g2
      · exact absurd (W.sole _ _ _ g1 (hHfp x g2)) q1
      · exact absurd (W.sole _ _ _ g1 (hSfp g2 x r2).1) q1
      · exact absurd (W.sole _ _ _ g2 (hHfp x g1)) q2
      · rw [e1, e2]
      · exact (hdis x g1 (hSfp g2 x r2).2).elim
      · exact absurd (W.sole _ _ _ g2 (hSfp g1 x r1).1) q2
      · exact (hdis x g2 (hSfp g1 x r1).2).elim
      · rw [e1, e2, flat_uniq nf g1 g2 r1 r2]
    · intro c1 x hx
      rcases hx with ⟨l1, q1, g1⟩ | ⟨e1, g1⟩ | ⟨t1, bt1, g1, e1, r1⟩
      · exact W.lt _ _ g1
      · exact ⟨(W.lt _ _ (hHfp x g1)).1, fun _ => (W.lt _ _ (hHfp x g1)).2 hcz⟩
      · exact ⟨(W.lt _ _ (hSfp g1 x r1).1).1, fun _ => (W.lt _ _ (hSfp g1 x r1).1).2 hcz⟩
    · intro e' he'
      rcases List.mem_append.1 he' with he' | he'
      · have hne := notc_ne e' he'
        have hin' := (List.mem_filter.1 he').1
        obtain ⟨bs, f, hb, hn, ho⟩ := W.ent _ hin'
        exact ⟨bs, f, fun x hx => .inl ⟨hblt _ hin', hne, hb x hx⟩, hn, ho⟩
      · rcases List.mem_cons.1 he' with he' | he'
        · subst he'
          refine ⟨b :: (b1 ++ b2), ⟨hi, hle, b, off, cur, e, p, q, b1, b2, rfl, hg, hp, hq, k.cells_len hhs, k.cells_one hhs, ?_, rfl, hHb, hin, hmax, hw2⟩, fun x hx => .inr (.inl ⟨rfl, hx⟩), (fun h => by cases h), fun _ => by show m ≠ 0; omega⟩
          rw [← hcc]; exact hc
        · obtain ⟨t, bt, e0, ht, het, rfl, hf⟩ := numE_mem hF e' he'
          have ha := k.subs_all e0 (List.mem_of_getElem? het)
          have hrc : (e0.re e0.o (m + 1 + t) e0.lin).cls = m + 1 + t := by cases e0 <;> rfl
          exact ⟨bt, Ent.fact_re (Nat.le_refl _) hf, fun x hx => .inr (.inr ⟨t, bt, ht, hrc, hx⟩), fun _ => flat_nodup nf ht, fun _ => by rw [hrc]; omega⟩
    · intro x hx
      obtain ⟨e1, e2, e3⟩ := W.box x hx
      refine ⟨e1, e2, fun c1 hc1 => ?_⟩
      rcases hc1 with ⟨_, _, g1⟩ | ⟨_, g1⟩ | ⟨t1, bt1, g1, _, r1⟩
      · exact e3 _ g1
      · exact e3 _ (hHfp _ g1)
      · exact e3 _ (hSfp g1 _ r1).1

theorem nodup_ins {b : Nat} {b1 f b2 : List Nat} (h : (b :: (b1 ++ b2)).Nodup) (hf : f.Nodup) (hd : ∀ x ∈ f, x ∉ b :: (b1 ++ b2)) : (b :: (b1 ++ (f ++ b2))).Nodup := by
  have hp : (b :: (b1 ++ (f ++ b2))).Perm (f ++ (b :: (b1 ++ b2))) := by
    have h1 : (b1 ++ (f ++ b2)).Perm (f ++ (b1 ++ b2)) := by
      rw [← List.append_assoc, ← List.append_assoc]
      exact List.Perm.append_right _ List.perm_append_comm
    exact (List.Perm.cons b h1).trans List.perm_middle.symm
  rw [hp.nodup_iff, List.nodup_append]
  exact ⟨hf, h, fun x hx y hy e => hd x hx (e ▸ hy)⟩

/-- The element is put back: its slices fall to the slice's class. -/
theorem hcl {α : Type} {o : Nat} {k : Kd α} {A : Option Addr} {c : Nat} {l l' : List α} {cs : List Value} {m i : Nat} (j : Nat) (x' : α) (hs : List Hdr) (is : List Nat) (el : l.set i x' = l') (he : S.en[j]? = some (holE k o A c l i cs m)) (hcs : k.cells x' hs = cs) (hhs : hs.length = k.hd)
    (hsub : pkE S.en (pk1 m is) = some (k.subs 1 m true x' hs)) (hcz : (is.map (clsOf S.en)).all (fun c => !Nat.beq c 0) = true) (hnd : nodupB (m :: is.map (clsOf S.en)) = true)
    (h : Tri C ⟨S.tm, S.bx, (S.en.filter (notc m)).map (Ent.mgs (is.map (clsOf S.en)) m) ++ [.sl o k A c l' m true]⟩ X) : Tri C S X := fun a w H => by
  obtain ⟨fp, W⟩ := H.wl
  subst el
  obtain ⟨bs, f, hb, _, hmz⟩ := W.ent _ (List.mem_of_getElem? he)
  have hm0 : m ≠ 0 := hmz (by show (1 : Nat) ≠ 0; omega)
  have hbm : ∀ x ∈ bs, fp m x := hb
  obtain ⟨hi, hle, b, off, cur, e, p, q, b1, b2, rfl, hg, hp, hq, hl, hone, hc, rfl, hn, hin, hmax, hw2⟩ := f
  obtain ⟨bss, F, Hd⟩ := W.facts hsub
  have hsubm : pkE S.en (pk1 m is) = some (k.subs 1 m true x' hs) := hsub
  have hrep := k.closed (o := 1) (w := w) (x := x') (hs := hs) (bs := bss) m true (Nat.le_refl 1) hhs F
  rw [hcs] at hrep
  have hE := Elems.set (l := l) i x' hi hrep hp hq
  have hnd' := nodupB_ok hnd
  rw [List.nodup_cons] at hnd'
  have hfn : bss.flatten.Nodup := Hd.nodup W.sole (fun p hp => by obtain ⟨i, _, rfl⟩ := List.mem_map.1 hp; rfl) (by rw [pk1, List.map_map]; exact hnd'.2)
  have hfc : ∀ x ∈ bss.flatten, ∃ i ∈ is, fp (clsOf S.en i) x := fun x hx => by
    obtain ⟨p', hp', hf⟩ := Hd.mem x hx
    obtain ⟨i', hi', rfl⟩ := List.mem_map.1 hp'
    exact ⟨i', hi', hf⟩
  have hdis : ∀ x ∈ bss.flatten, x ∉ b :: (b1 ++ b2) := fun x hx hx' => by
    obtain ⟨i', hi', hf⟩ := hfc x hx
    exact hnd'.1 (List.mem_map.2 ⟨i', hi', W.sole _ _ _ hf (hbm x hx')⟩)
  have hfact : (Ent.sl o k (some ⟨b, off, none⟩) c (l.set i x') m true).fact w (b :: (b1 ++ (bss.flatten ++ b2))) := by
    refine ⟨by rw [List.length_set]; exact hle, .inr (.inr ⟨b, off, cur, e, (0, 0), p ++ (cs ++ q), _, rfl, hg, ?_, hc, rfl, fun _ => ⟨rfl, hin, hmax⟩, hw2⟩)⟩
    rcases Nat.eq_zero_or_pos o with ho | ho
    · subst ho; exact Elems.mono (fun cs x d _ _ r => k.rep_keep (Nat.zero_le _) (fun _ _ => rfl) r) hE
    · rw [Nat.min_eq_right ho]; exact hE
  have W1 := ((W.drop m).map (mrgs (is.map (clsOf S.en)) m) (mrgs_0 hcz) (mrgs_ne hm0)).add hfact (fun x hx => by
    have hcase : x ∈ b :: (b1 ++ b2) ∨ x ∈ bss.flatten := by
      rcases List.mem_cons.1 hx with hx | hx
      · exact .inl (hx ▸ List.mem_cons_self ..)
      · rcases List.mem_append.1 hx with hx | hx
        · exact .inl (List.mem_cons_of_mem _ (List.mem_append_left _ hx))
        · rcases List.mem_append.1 hx with hx | hx
          · exact .inr hx
          · exact .inl (List.mem_cons_of_mem _ (List.mem_append_right _ hx))
    rcases hcase with hx | hx
    · refine ⟨m, ?_, hbm x hx⟩
      show mrgs (is.map (clsOf S.en)) m m = m
      unfold mrgs; cases (is.map (clsOf S.en)).any (Nat.beq m) <;> rfl
    · obtain ⟨i', hi', hf⟩ := hfc x hx
      exact ⟨_, mrgs_in (List.mem_map.2 ⟨i', hi', rfl⟩), hf⟩) (fun _ => nodup_ins hn hfn hdis) (fun _ => hm0)
  exact h a w ⟨H.tms.same rfl, ⟨_, W1⟩, H.bel, H.base⟩

/-- The blocks of a slice of plain elements are told apart. -/
theorem linF {α : Type} {o : Nat} {k : Kd α} {A : Option Addr} {c : Nat} {l : List α} {cls : Nat} {li : Bool} (j : Nat) (he : S.en[j]? = some (.sl o k A c l cls li)) (hk : k.hd = 0) (h : Tri C ⟨S.tm, S.bx, S.en ++ [.sl o k A c l cls true]⟩ X) : Tri C S X := fun a w H => by
  obtain ⟨fp, W⟩ := H.wl
  obtain ⟨bs, f, hb, hn, hoc⟩ := W.ent _ (List.mem_of_getElem? he)
  refine h a w ⟨H.tms.same rfl, ⟨fp, W.add (e := .sl o k A c l cls true) f hb (fun _ => ?_) hoc⟩, H.bel, H.base⟩
  obtain ⟨hle, f⟩ := f
  rcases f with ⟨_, _, rfl⟩ | ⟨_, _, rfl⟩ | ⟨b, off, cur, e, fr, cs0, bs', rfl, hg, hE, hc, rfl, hw1, hw2⟩
  · exact List.nodup_nil
  · exact List.nodup_nil
  · rw [(Elems.flat k hk (o' := 0) (w' := w) hE).1]; simp
end
section
variable {P : Program} {C : Cx} {S : St} {bx : List Box} {en : List Ent} {d : Option Nat} {ty : TypeId} {pos : String} {af : Array Edge} {g : Option (Nat × Bool)} {x y z : Operand} {v : Value} {t u : TypeId}
def flOk (P : Program) (t f o : Nat) (m : Option Nat) : Bool := match P.underlying t with
  | some (.struct fs) => match fs[f]? with
    | some x => Nat.beq x.offset o && ldOk P x.type m
    | none => false
  | _ => false
def flV (cs : Array Value) (o : Nat) : Option Nat → Option Value
  | none => cs[o]?
  | some s => some (.agg (cs.extract o (o + s)))
/-- A field of a value. -/
theorem EV.fl {cs : Array Value} {f : Nat} (o : Nat) (m : Option Nat) (hx : S.ev x = some (.agg cs)) (hv : flV cs o m = some v) (h : flOk P t f o m = true := by kernel_rfl) : EV P C S bx en ⟨d, .field t x f, ty, pos, af, g⟩ v := fun a w H _ => by
  unfold flOk at h
  cases hu : P.underlying t with
  | none => rw [hu] at h; cases h
  | some d' =>
    rw [hu] at h
    cases d' with
    | struct fs =>
      simp only at h
      cases hf : fs[f]? with
      | none => rw [hf] at h; cases h
      | some q =>
        rw [hf] at h
        simp only [Bool.and_eq_true] at h
        have ho : q.offset = o := Nat.eq_of_beq_eq_true h.1
        have hp : (part q.type cs o).run P w = .ok v w := by
          cases m with
          | none =>
            have ha : (isAgg q.type).run P w = .ok false w := by
              have h2 := h.2
              unfold ldOk at h2
              cases hu' : P.underlying q.type with
              | none => simp [hu'] at h2
              | some d2 => unfold isAgg; rw [Sem.run_bind, run_underlying hu' w]; rw [hu'] at h2; cases d2 <;> simp_all
            have hv' : cs[o]? = some v := hv
            simp [part, Sem.run_bind, ha, hv']
          | some s =>
            have h2 := h.2
            simp only [ldOk, Bool.and_eq_true] at h2
            have ha : (isAgg q.type).run P w = .ok true w := by
              cases hu' : P.underlying q.type with
              | none => simp [hu'] at h2
              | some d2 => unfold isAgg; rw [Sem.run_bind, run_underlying hu' w]; have := h2.1; rw [hu'] at this; cases d2 <;> simp_all
            have hv' : some (Value.agg (cs.extract o (o + s))) = some v := hv
            simp only [Option.some.injEq] at hv'
            subst hv'
            simp [part, Sem.run_bind, ha, sizeIs_ok h2.2]
        simp [execOp, H.ev hx, Instr.field, Sem.run_bind, run_underlying hu w, hf, ho, asAgg, hp]
    | _ => simp at h
/-- A load of a part without slices out of an element. -/
theorem EV.lf {α : Type} {o : Nat} {k : Kd α} {A : Option Addr} {c s : Nat} {l : List α} {cls : Nat} {lin : Bool} {p : Addr} (i : Int) (off : Nat) (m : Option Nat) (j : Nat) (dd : α) (he : en[j]? = some (.sl o k A c l cls lin)) (hx : S.ev x = some (.pointer (some p)))
    (hp : p = (eA A (i.toNat * s)).add off) (h0 : 0 ≤ i) (h1 : i < (l.length : Int)) (hs : k.size = s) (hv : AllH k.hd fun hs => ldV (k.cells (l.getD i.toNat dd) hs) off m = some v) (h : ldOk P t m = true := by kernel_rfl) :
    EV P C S bx en ⟨d, .load t x, ty, pos, af, g⟩ v := fun _ w H ⟨fp, W⟩ => by
  obtain ⟨bs, f, _⟩ := W.ent _ (List.mem_of_getElem? he)
  obtain ⟨b, o', cur, e, fr, cs', bs', rfl, hg, hr, _, hc⟩ := Ent.at f (getD_some (d := dd) h0 h1)
  obtain ⟨hs', hl, hcs, _⟩ := k.opened cls lin (Nat.min_le_right o 1) hr
  have hv := hv.at hs' hl
  subst hs
  rw [← hcs] at hv
  have := run_load_gen (P := P) (o' + i.toNat * k.size) hg hc h hv
  rw [show (eA (some ⟨b, o', none⟩) (i.toNat * k.size)).add off = ⟨b, o' + i.toNat * k.size + off, none⟩ by simp [eA, addr_add]] at hp
  subst hp
  simp [execOp, H.ev hx, Instr.loadAt, Instr.sureAddr, this]
end

def mGet {β : Type} : List (Int × β) → Int → Option β
  | [], _ => none
  | p :: r, k => bif p.1 == k then some p.2 else mGet r k
def mSet {β : Type} : List (Int × β) → Int → β → List (Int × β)
  | [], k, v => [(k, v)]
  | p :: r, k, v => bif p.1 == k then (p.1, v) :: r else p :: mSet r k v
def MapF {β : Type} (kk : IntKind) (vf : β → Value) (r : Nat) (l : List (Int × β)) (w : World) (bs : List Nat) : Prop :=
  bs = [r] ∧ ∃ es clock, w.heap[r]? = some (.map es clock) ∧ es.toList.map (fun e => (e.key, e.val)) = l.map (fun p => (Value.int kk p.1, vf p.2))
theorem MapF.loc {β : Type} {kk : IntKind} {vf : β → Value} {r : Nat} {l : List (Int × β)} (w w' : World) (bs : List Nat) (hw : ∀ b ∈ bs, w'.heap[b]? = w.heap[b]?) (h : MapF kk vf r l w bs) : MapF kk vf r l w' bs := by
  obtain ⟨rfl, es, clock, hg, he⟩ := h
  exact ⟨rfl, es, clock, by rw [hw r (List.mem_singleton.2 rfl)]; exact hg, he⟩
def mapE {β : Type} (kk : IntKind) (vf : β → Value) (r : Nat) (l : List (Int × β)) (c : Nat) : Ent := .raw (MapF kk vf r l) MapF.loc 1 c

theorem findNow_map {β : Type} (kk : IntKind) (vf : β → Value) (k : Int) : ∀ (es : List MapEntry) (l : List (Int × β)) (i : Nat), es.map (fun e => (e.key, e.val)) = l.map (fun p => (Value.int kk p.1, vf p.2)) →
    (mGet l k = none ∧ Instr.findNow (.int kk) (.int kk k) es i = some none ∧ mSet l k = fun v => l ++ [(k, v)]) ∨
    (∃ (v : β) (j : Nat), mGet l k = some v ∧ Instr.findNow (.int kk) (.int kk k) es i = some (some (i + j, vf v)) ∧ j < l.length ∧ (es[j]?).map (·.key) = some (.int kk k) ∧
      ∀ u : β, ((es.modify j fun e => { e with key := .int kk k, val := vf u }).map (fun e => (e.key, e.val))) = (mSet l k u).map (fun p => (Value.int kk p.1, vf p.2)))
  | [], [], i, _ => .inl ⟨rfl, rfl, by funext v; rfl⟩
  | e :: es, [], i, h => by simp at h
  | [], p :: l, i, h => by simp at h
  | e :: es, p :: l, i, h => by
    simp only [List.map_cons, List.cons.injEq, Prod.mk.injEq] at h
    obtain ⟨⟨h1, h2⟩, h3⟩ := h
    by_cases hk : p.1 = k
    · right
      refine ⟨p.2, 0, by simp [mGet, hk], ?_, by simp, by simp [h1, hk], fun u => ?_⟩
      · simp [Instr.findNow, Instr.sameNow, h1, hk, h2]
      · simp [mSet, hk, List.modify, h3]
    · have hb : (k == p.1) = false := by simp [Ne.symm hk]
      have hb' : (p.1 == k) = false := by simp [hk]
      rcases findNow_map kk vf k es l (i + 1) h3 with ⟨g1, g2, g3⟩ | ⟨v, j, g1, g2, g3, g4, g5⟩
      · refine .inl ⟨by simp [mGet, hb', g1], by simp [Instr.findNow, Instr.sameNow, h1, hb, g2], ?_⟩
        funext v
        simp [mSet, hb', g3]
      · refine .inr ⟨v, j + 1, by simp [mGet, hb', g1], ?_, by simp; omega, by simpa using g4, fun u => ?_⟩
        · simp only [Instr.findNow, Instr.sameNow, h1, hb, if_true]
          rw [g2]; simp; omega
        · have := g5 u
          simp [mSet, hb', h1, h2, this]

def isMapI (P : Program) (t : Nat) (kk : IntKind) : Bool := match P.underlying t with
  | some (.map k _) => (match P.underlying k with | some (.int k') => decide (kk = k') | _ => false)
  | _ => false
theorem isMapI_ok {P : Program} {t : Nat} {kk : IntKind} (h : isMapI P t kk = true) : ∃ k e, P.underlying t = some (.map k e) ∧ P.underlying k = some (.int kk) := by
  unfold isMapI at h
  cases hu : P.underlying t with
  | none => simp [hu] at h
  | some d =>
    rw [hu] at h
    cases d with
    | map k e =>
      refine ⟨k, e, rfl, ?_⟩
      simp only at h
      cases hk : P.underlying k with
      | none => simp [hk] at h
      | some d' => rw [hk] at h; cases d' <;> simp_all
    | _ => simp at h
def mapZ (P : Program) (t : Nat) : Option Value := match P.underlying t with
  | some (.map _ e) => (P.info? e).bind fun i => i.zero
  | _ => none
def isMap (P : Program) (t : Nat) : Bool := match P.underlying t with | some (.map _ _) => true | _ => false

section
variable {P : Program} {C : Cx} {S : St} {K : Act → World → Prop} {Q : Exit → Act → World → Prop} {bx : List Box} {en : List Ent} {d : Option Nat} {ty : TypeId} {pos : String} {af : Array Edge} {g : Option (Nat × Bool)} {x y z : Operand} {v : Value} {t u : TypeId} {a : Int} {kk : IntKind}
theorem lookup_ent {β : Type} {vf : β → Value} {r : Nat} {l : List (Int × β)} {z : Value} {w : World} {bs : List Nat} (f : MapF kk vf r l w bs) (hz : mapZ P t = some z) (hk : isMapI P t kk = true) (ok : Bool) :
    (Instr.lookup t (.map (some r)) (.int kk a) ok).run P w = .ok (if ok then .tuple #[((mGet l a).map vf).getD z, .bool (mGet l a).isSome] else ((mGet l a).map vf).getD z) w := by
  obtain ⟨_, es, clock, hg, he⟩ := f
  obtain ⟨k, e, hu, hki⟩ := isMapI_ok hk
  have hzz : (zeroValue e).run P w = .ok z w := by
    unfold mapZ at hz
    rw [hu] at hz
    simp only at hz
    cases hi : P.info? e with
    | none => simp [hi] at hz
    | some i => rw [hi] at hz; simp at hz; simp [zeroValue, typeInfo, hi, hz]
  have hck := MapKept.run_checkKey (P := P) (w := w) (k := .int kk a) hki (by simp [MapKept.IsKey]) es.isEmpty 9999
  unfold Instr.lookup
  rcases findNow_map kk vf a es.toList l 0 he with ⟨g1, g2, _⟩ | ⟨v, j, g1, g2, _⟩
  · have hfk := MapKept.run_findKey (w := w) hki g2
    simp [Sem.run_bind, run_underlying hu w, MapKept.run_getObj_map hg, hck, hfk, hzz, g1]
  · have hfk := MapKept.run_findKey (w := w) hki g2
    simp [Sem.run_bind, run_underlying hu w, MapKept.run_getObj_map hg, hck, hfk, g1]
theorem EV.lk2 {β : Type} {vf : β → Value} {r : Nat} {l : List (Int × β)} {cls : Nat} {zz : β} (j : Nat) (he : en[j]? = some (mapE kk vf r l cls)) (hx : S.ev x = some (.map (some r))) (hy : S.ev y = some (.int kk a)) (hz : mapZ P t = some (vf zz) := by kernel_rfl) (hk : isMapI P t kk = true := by kernel_rfl) :
    EV P C S bx en ⟨d, .lookup t x y true, ty, pos, af, g⟩ (.tuple #[vf ((mGet l a).getD zz), .bool (mGet l a).isSome]) := fun _ w H ⟨fp, W⟩ => by
  obtain ⟨bs, f, _⟩ := W.ent _ (List.mem_of_getElem? he)
  have := lookup_ent (P := P) (t := t) (a := a) f hz hk true
  simp [execOp, H.ev hx, H.ev hy, this]
theorem EV.lm {β : Type} {vf : β → Value} {r : Nat} {l : List (Int × β)} {cls : Nat} (j : Nat) (he : en[j]? = some (mapE kk vf r l cls)) (hx : S.ev x = some (.map (some r))) (h : isMap P t = true := by kernel_rfl) :
    EV P C S bx en ⟨d, .call ⟨.builtin .len, #[x], #[t]⟩, ty, pos, af, g⟩ (.int .i64 (l.length : Int)) := fun _ w H ⟨fp, W⟩ => by
  obtain ⟨bs, ⟨_, es, clock, hg, hes⟩, _⟩ := W.ent _ (List.mem_of_getElem? he)
  have hl : es.size = l.length := by have := congrArg List.length hes; simpa using this
  unfold isMap at h
  cases hu : P.underlying t with
  | none => simp [hu] at h
  | some dd =>
    cases dd with
    | map k e => simp [execOp, resolve, invoke, builtin, H.ev hx, Builtin.len_, run_underlying hu, MapKept.run_getObj_map hg, goInt, hl]
    | _ => simp [hu] at h
theorem EV.shr64 {b : Int} {k' : IntKind} (hx : S.ev x = some (.int .u64 a)) (hy : S.ev y = some (.int k' b)) (h : 0 ≤ b) : EV P C S bx en ⟨d, .binOp .shr t x y u, ty, pos, af, g⟩ (.int .u64 (shrI a b)) := fun _ w H _ => by
  have hn : ¬ b < 0 := by omega
  simp [execOp, H.ev hx, H.ev hy, binOp, eqGuard, Op.shift, hn, shrI, IntKind.bits]
/-- A call by a temporary that holds a function. -/
theorem cvf {f : FuncId} {xf : Operand} {as : Array Operand} {ts : Array TypeId} (hf : S.ev xf = some (.func (.func f) #[] #[])) (h : Tri C S (fun a w => Oper.wp P ⟨d, .call ⟨.value (.func f), as, ts⟩, ty, pos, af, g⟩ a w K Q)) :
    Tri C S (fun a w => Oper.wp P ⟨d, .call ⟨.value xf, as, ts⟩, ty, pos, af, g⟩ a w K Q) := fun a w H => by
  have h1 := h a w H
  have e : execOp a.eval ⟨d, .call ⟨.value xf, as, ts⟩, ty, pos, af, g⟩ = execOp a.eval ⟨d, .call ⟨.value (.func f), as, ts⟩, ty, pos, af, g⟩ := by
    simp only [execOp, resolve]
    rw [H.tms.ev hf]
    rfl
  show Oper.upon P _ a K Q ((execOp a.eval ⟨d, .call ⟨.value xf, as, ts⟩, ty, pos, af, g⟩).run P w)
  rw [e]
  exact h1
end
section
variable {P : Program} {C : Cx} {S : St} {bx : List Box} {en : List Ent} {d : Option Nat} {ty : TypeId} {pos : String} {af : Array Edge} {g : Option (Nat × Bool)} {x y : Operand} {t u : TypeId} {a b : Int} {k' : IntKind}
end
theorem Elems.closed0 {α : Type} (k : Kd α) {w : World} {c : Nat} {b : Bool} : ∀ {l : List α} {hss : List (List Hdr)} {bss : List (List Nat)}, litOk k l hss = true → Facts w (litS k 0 c b l hss) bss → Elems (k.rep 0 w) (litC k l hss) l bss.flatten
  | [], [], _, _, h => by cases h; exact ⟨rfl, rfl⟩
  | x :: xs, h :: hs, bss, hk, hf => by
    simp only [litOk, Bool.and_eq_true] at hk
    obtain ⟨b1, b2, rfl, f1, f2⟩ := Facts.split hf
    exact ⟨_, _, b1.flatten, b2.flatten, rfl, by simp, k.closed c b (by omega) (Nat.eq_of_beq_eq_true hk.1) f1, Elems.closed0 k hk.2 f2⟩
  | [], _ :: _, _, h, _ => by cases h
  | _ :: _, [], _, h, _ => by cases h
/-- A new block that is read alone. -/
theorem Wld.blk0 {base : Nat} {T : Nat → Prop} {bx : List Box} {en : List Ent} {w w' : World} {fp : Nat → Nat → Prop} (h : Wld base T bx en w fp) (hs : w'.heap.size = w.heap.size + 1)
    (hw : ∀ b, b < w.heap.size → w'.heap[b]? = w.heap[b]?) : Wld base T bx en w' (fun d b => fp d b ∨ (d = 0 ∧ b = w.heap.size)) := by
  have hx := h.ext (by omega) hw
  refine ⟨fun d d' b h1 h2 => ?_, fun d b h1 => ?_, fun e he => ?_, fun x hxx => ?_, h.nd⟩
  · rcases h1 with h1 | h1 <;> rcases h2 with h2 | h2
    · exact h.sole d d' b h1 h2
    · have := (h.lt _ _ h1).1; omega
    · have := (h.lt _ _ h2).1; omega
    · omega
  · rcases h1 with h1 | ⟨rfl, rfl⟩
    · exact hx.lt d b h1
    · exact ⟨by omega, fun h => (h rfl).elim⟩
  · obtain ⟨bs, f, hb1, hl, ho⟩ := hx.ent e he
    exact ⟨bs, f, fun b hbb => .inl (hb1 b hbb), hl, ho⟩
  · obtain ⟨e1, e2, e3⟩ := hx.box x hxx
    refine ⟨e1, e2, fun c hc => ?_⟩
    rcases hc with hc | ⟨_, hc⟩
    · exact e3 c hc
    · have := h.boxlt hxx; omega
def pk0 (is : List Nat) : List Pk := is.map fun i => ⟨i, 0, 0, false⟩
section
variable {P : Program} {C : Cx} {S : St} {K : Act → World → Prop} {Q : Exit → Act → World → Prop} {d : Option Nat} {ty : TypeId} {pos : String} {af : Array Edge} {g : Option (Nat × Bool)} {x y z : Operand} {v : Value} {t u : TypeId}
/-- []T{..} over slices that are read alone. -/
theorem op_lit0 {α : Type} {n s by_ : Nat} {parts : Array (Nat × Operand)} (k : Kd α) (l : List α) (hss : List (List Hdr)) (is : List Nat) (xs : List Operand) {vs : List Value} (hp : parts.toList = (xs.zipIdx 0).map fun p => (p.2, p.1)) (hx : S.evs xs = some vs)
    (hvs : (vs.flatMap fun v => v.cells.toList) = litC k l hss) (hvl : (vs.all fun v => Nat.beq v.cells.size s) = true) (hn : vs.length = n) (hl : l.length = n) (hsm : Nat.ble (n * s) 16777216 = true) (hs : k.size = s) (hk : litOk k l hss = true)
    (hsub : pkE S.en (pk0 is) = some (litS k 0 0 false l hss)) (hcs : (is.map (clsOf S.en)).all (fun c => Nat.beq c 0) = true) (hd : d.all (Nat.blt · C.n) = true)
    (h : ∀ A c, Tri C (St.put ⟨S.tm, S.bx, S.en ++ [.sl 0 k A c l 0 false]⟩ d (.slice A l.length c)) K) (hok : apOk P t s by_ = true := by kernel_rfl) :
    Tri C S (fun a w => Oper.wp P ⟨d, .buildSlice t n parts, ty, pos, af, g⟩ a w K Q) := fun a w H => by
  obtain ⟨fp, W⟩ := H.wl
  obtain ⟨e, i, zz, hu, hi, hsz, hby, hpos, hzz, hzs⟩ := apOk_ok hok
  have hev := H.tms.evs hx
  have hcell : ∀ v ∈ vs, v.cells.size = s := fun v hv => Nat.eq_of_beq_eq_true (List.all_eq_true.1 hvl v hv)
  have hpe : (parts.map fun (i, x) => (i, a.eval x)).toList = (vs.zipIdx 0).map fun p => (p.2, p.1) := by
    rw [Array.toList_map, hp, ← hev, List.zipIdx_map, List.map_map, List.map_map]; rfl
  have hcells : (litC k l hss).length = n * s := by
    rw [← hvs, List.length_flatMap, ← hn]
    have : (vs.map fun v => v.cells.toList.length) = List.replicate vs.length s := by
      apply List.ext_getElem?
      intro j
      rw [List.getElem?_map, List.getElem?_replicate]
      by_cases hj : j < vs.length
      · rw [List.getElem?_eq_getElem hj, if_pos hj]; simp [hcell _ (List.getElem_mem hj)]
      · rw [List.getElem?_eq_none (by omega), if_neg hj]; rfl
    rw [this]; simp
  have hr : (Instr.buildSlice t n (parts.map fun (i, x) => (i, a.eval x))).run P w = .ok (.slice (some ⟨w.heap.size, 0, none⟩) n n) (w.alloc (.cells (litC k l hss).toArray e)) := by
    have hsm' := Nat.le_of_ble_eq_true hsm
    by_cases h0 : n = 0
    · subst h0
      have hv0 : vs = [] := List.eq_nil_of_length_eq_zero hn
      have hc0 : litC k l hss = [] := List.eq_nil_of_length_eq_zero (by rw [hcells]; omega)
      rw [hc0]
      simp [Instr.buildSlice, run_underlying hu, sizeOf, typeInfo, hi, hpe, hv0, Instr.fill, newRow]
      have : parts.map (fun (i, x) => (i, a.eval x)) = #[] := by
        apply Array.toList_inj.1; rw [hpe, hv0]; rfl
      simp at this
      have hz : Array.range 0 = #[] := by decide
      simp [this, Instr.fill, hz]
    · have hf := Great.fill_whole (s := s) hpos vs ((Array.range (n * s)).map (zz.cells[· % zz.cells.size]!)) hcell (by simp [hn])
      rw [hvs] at hf
      subst hsz
      exact run_buildSlice w t e n _ _ i zz hu hi hzz (by omega) (by have := Nat.mul_pos (Nat.pos_of_ne_zero h0) hpos; omega) (by rw [hpe]; exact hf)
  unfold Oper.wp
  have hr' : (execOp a.eval ⟨d, .buildSlice t n parts, ty, pos, af, g⟩).run P w = .ok (.value (.slice (some ⟨w.heap.size, 0, none⟩) n n)) (w.alloc (.cells (litC k l hss).toArray e)) := by
    simp only [execOp]
    rw [Sem.run_bind, hr]; rfl
  rw [hr']
  obtain ⟨bss, F, Hd⟩ := W.facts hsub
  have hold : ∀ b, b < w.heap.size → (w.alloc (.cells (litC k l hss).toArray e)).heap[b]? = w.heap[b]? := fun b hb => by rw [heap_push, if_neg (by omega)]
  have hltb : ∀ b ∈ bss.flatten, b < w.heap.size := fun b hb => by obtain ⟨p, _, hf⟩ := Hd.mem b hb; exact (W.lt _ b hf).1
  have F' : Facts (w.alloc (.cells (litC k l hss).toArray e)) (litS k 0 0 false l hss) bss := by
    have key : ∀ {es : List Ent} {bss : List (List Nat)}, Facts w es bss → (∀ b ∈ bss.flatten, b < w.heap.size) → Facts (w.alloc (.cells (litC k l hss).toArray e)) es bss := by
      intro es bss f
      induction f with
      | nil => intro _; exact .nil
      | cons h k ih => intro hb; exact .cons (Ent.fact_keep (fun b hbb => hold b (hb b (by rw [List.flatten_cons]; exact List.mem_append_left _ hbb))) h) (ih (fun b hbb => hb b (by rw [List.flatten_cons]; exact List.mem_append_right _ hbb)))
    exact key F hltb
  have Ee := Elems.closed0 k hk F'
  have hfact : (Ent.sl 0 k (some ⟨w.heap.size, 0, none⟩) n l 0 false).fact (w.alloc (.cells (litC k l hss).toArray e)) (w.heap.size :: bss.flatten) :=
    ⟨by omega, .inr (.inr ⟨w.heap.size, 0, (litC k l hss).toArray, e, (0, 0), litC k l hss, _, rfl, by rw [heap_push, if_pos rfl], Ee, fun j v hv => by rw [Nat.zero_add]; simpa using hv, rfl,
      fun h => by omega, fun h => by omega⟩)⟩
  have W1 := W.blk0 (w' := w.alloc (.cells (litC k l hss).toArray e)) (by simp) hold
  have W2 := W1.add hfact (fun b hb => by
    rcases List.mem_cons.1 hb with hb | hb
    · exact .inr ⟨rfl, hb⟩
    · obtain ⟨p, hp, hf⟩ := Hd.mem b hb
      obtain ⟨i, hi, rfl⟩ := List.mem_map.1 hp
      have := Nat.eq_of_beq_eq_true (List.all_eq_true.1 hcs _ (List.mem_map.2 ⟨i, hi, rfl⟩))
      rw [this] at hf
      exact .inl hf) (fun h => by cases h) (fun h => (h rfl).elim)
  have := h (some ⟨w.heap.size, 0, none⟩) n _ _ (Hld.put (S := ⟨S.tm, S.bx, S.en ++ [.sl 0 k (some ⟨w.heap.size, 0, none⟩) n l 0 false]⟩) ⟨H.tms.same rfl, ⟨_, W2⟩, H.bel.alloc H.size _, H.base⟩ hd)
  rw [hl] at this
  exact this
end
section
variable {P : Program} {C : Cx} {S : St} {bx : List Box} {en : List Ent} {K : Act → World → Prop} {Q : Exit → Act → World → Prop} {d : Option Nat} {ty : TypeId} {pos : String} {af : Array Edge} {g : Option (Nat × Bool)}
/-- A function's value with what it captures. -/
theorem EV.mf {fn : Go.Fn} {cs : Array Operand} {vs : List Value} (hc : S.evs cs.toList = some vs) : EV P C S bx en ⟨d, .makeFunc fn #[] cs, ty, pos, af, g⟩ (.func fn #[] vs.toArray) := fun a w H _ => by
  have e : cs.map a.eval = vs.toArray := by
    have := H.evs hc
    rw [← this]; simp [← Array.toList_inj]
  simp [execOp, e, Instr.makeFunc]
/-- A call of a function's value with what it captures. -/
theorem cvc {f : FuncId} {cap : Array Value} {xf : Operand} {as : Array Operand} {ts : Array TypeId} (hf : S.ev xf = some (.func (.func f) #[] cap)) (h : Tri C S (fun a w => Oper.wp P ⟨d, .call ⟨.value (.func f), ⟨as.toList ++ cap.toList.map .const⟩, ts⟩, ty, pos, af, g⟩ a w K Q)) :
    Tri C S (fun a w => Oper.wp P ⟨d, .call ⟨.value xf, as, ts⟩, ty, pos, af, g⟩ a w K Q) := fun a w H => by
  have h1 := h a w H
  have e2 : (⟨as.toList ++ cap.toList.map .const⟩ : Array Operand).map a.eval = as.map a.eval ++ cap := by
    apply Array.toList_inj.1
    simp only [Array.toList_map, Array.toList_append, List.map_append, List.map_map]
    congr 1
    exact List.map_id _
  have e : execOp a.eval ⟨d, .call ⟨.value xf, as, ts⟩, ty, pos, af, g⟩ = execOp a.eval ⟨d, .call ⟨.value (.func f), ⟨as.toList ++ cap.toList.map .const⟩, ts⟩, ty, pos, af, g⟩ := by
    simp only [execOp, resolve, e2]
    rw [H.tms.ev hf]
    simp [Deferred.ofValue, invoke, Act.eval]
  show Oper.upon P _ a K Q ((execOp a.eval ⟨d, .call ⟨.value xf, as, ts⟩, ty, pos, af, g⟩).run P w)
  rw [e]
  exact h1
end
theorem wkr {C : Cx} {S : St} {X : Act → World → Prop} (ts is : List Nat) (ps : List Pk) {tm : List (Nat × Value)} {bx : List Box} {en : List Ent} (ht : tmSub S.tm ts = some tm) (hb : bxSub S.bx is = some bx) (he : pkE S.en ps = some en) (hn : nodupB is = true) (hc : clsOk S.en ps = true)
    (h : Tri C ⟨tm, bx, en⟩ X) : Tri C S X := wk ts is ps h ht hb he hn hc

/-- Every reading of a type is a value of the kind d that meets G. -/
def Opens (P : Program) (t : TypeId) {α : Type} (d : Kd α) (G : α → Prop) : Prop :=
  d.size = P.cellsOf t ∧ ∀ (H : Type) (enc : TypeId × Value → H) (w : World) (base : Nat) (sp : Nat → Bool) (held : Bool) (fuel : Nat) (cs : List Value) (x : DataW H × List MemPlace),
    DataW.trod enc P w base sp held fuel t cs = some x → ∃ a bs, d.rep 0 w cs a bs ∧ (∀ b ∈ bs, b < w.heap.size) ∧ G a

theorem elems_of {α : Type} {k : Kd α} {G : α → Prop} {w : World} {cur : Array Value} {off s : Nat} (hs : k.size = s) : ∀ (n m : Nat), (∀ i, m ≤ i → i < m + n → ∃ y c bs, k.rep 0 w c y bs ∧ (∀ b ∈ bs, b < w.heap.size) ∧ G y ∧ ∀ j v, c[j]? = some v → cur[off + i * s + j]? = some v) →
    ∃ (l : List α) (cs : List Value) (bs : List Nat), l.length = n ∧ Elems (k.rep 0 w) cs l bs ∧ (∀ b ∈ bs, b < w.heap.size) ∧ (∀ x ∈ l, G x) ∧ ∀ j v, cs[j]? = some v → cur[off + m * s + j]? = some v
  | 0, m, _ => ⟨[], [], [], rfl, ⟨rfl, rfl⟩, by simp, by simp, by simp⟩
  | n + 1, m, h => by
    obtain ⟨y, c, b, hr, hb, hg, hc⟩ := h m (Nat.le_refl _) (by omega)
    obtain ⟨l, cs, bs, hl, hE, hbs, hG, hcs⟩ := elems_of hs n (m + 1) (fun i h1 h2 => h i (by omega) (by omega))
    refine ⟨y :: l, c ++ cs, b ++ bs, by simp [hl], ⟨c, cs, b, bs, rfl, rfl, hr, hE⟩, fun x hx => ?_, fun x hx => ?_, fun j v hv => ?_⟩
    · rcases List.mem_append.1 hx with hx | hx
      · exact hb x hx
      · exact hbs x hx
    · rcases List.mem_cons.1 hx with hx | hx
      · rw [hx]; exact hg
      · exact hG x hx
    · have hcl : c.length = s := by rw [k.rep_len hr, hs]
      rcases Nat.lt_or_ge j c.length with hj | hj
      · rw [List.getElem?_append_left hj] at hv
        exact hc j v hv
      · rw [List.getElem?_append_right hj, hcl] at hv
        have := hcs (j - s) v hv
        rw [← this]; congr 1; rw [Nat.succ_mul]; omega

section
variable {P : Program} {t e : TypeId}
theorem opens_int {k : IntKind} (ht : P.underlying t = some (.int k)) (hc : P.cellsOf t = 1) : Opens P t (Kd.int k) (fun n : Int => (Lit.int k n).wf = true) :=
  ⟨hc.symm, fun H enc w base sp held fuel cs x h => by
    obtain ⟨n, rfl, _, hw⟩ := DataW.trod_int ht h
    exact ⟨n, [], ⟨rfl, rfl⟩, by simp, hw⟩⟩
theorem opens_slice {α : Type} {d : Kd α} {G : α → Prop} (ht : P.underlying t = some (.slice e)) (hc : P.cellsOf t = 1) (hpos : Nat.blt 0 d.size = true) (h : Opens P e d G) : Opens P t (Kd.slice d) (fun l : List α => l.length ≤ maxLen ∧ ∀ x ∈ l, G x) := by
  refine ⟨hc.symm, ?_⟩
  intro H enc w base sp held fuel cs x hx
  have hpos' : 0 < d.size := by simpa [Nat.blt_eq] using hpos
  rcases DataW.trod_slice ht hx with ⟨rfl, _⟩ | ⟨a, len, cap, elems, rest, n, _, rfl, _, hb, hl, hm, hlen, hel, _, _⟩
  · exact ⟨[], [], ⟨none, 0, rfl, Nat.le_refl _, .inl ⟨rfl, rfl, rfl⟩⟩, by simp, by simp, by simp⟩
  · by_cases h0 : len = 0
    · subst h0
      exact ⟨[], [], ⟨some a, cap, rfl, Nat.zero_le _, .inr (.inl ⟨rfl, rfl, rfl⟩)⟩, by simp, by simp, by simp⟩
    · have key : ∀ i, i < len → ∃ y bs c, w.cells? base (a.add (i * P.cellsOf e)) (P.cellsOf e) = some c ∧ d.rep 0 w c y bs ∧ (∀ b ∈ bs, b < w.heap.size) ∧ G y := by
        intro i hi
        have h1 := hel i hi
        rw [List.getElem?_eq_getElem (by omega)] at h1
        obtain ⟨c, hc1, hc2⟩ := Option.bind_eq_some_iff.1 h1
        obtain ⟨y, bs, hy, hbs, hg⟩ := h.2 _ _ _ _ _ _ _ _ _ hc2
        exact ⟨y, bs, c, hc1, hy, hbs, hg⟩
      -- the block
      have hblk : ∃ cur t' fr, w.heap[a.block]? = some (.cells cur t' fr) ∧ a.spot = none := by
        obtain ⟨y, bs, c, h1, h2, _⟩ := key 0 (by omega)
        obtain ⟨_, hlen2, hcell⟩ := World.cells?_some h1
        have := hcell 0 (by rw [← h.1]; exact hpos')
        have hc0 : ∃ v, c[0]? = some v := ⟨c[0]'(by rw [hlen2, ← h.1]; exact hpos'), List.getElem?_eq_getElem _⟩
        obtain ⟨v, hv⟩ := hc0
        rw [hv] at this
        have ha : (a.add (0 * P.cellsOf e)).add 0 = a := by simp [Addr.add]
        rw [ha] at this
        unfold World.cell? at this
        split at this
        · rename_i cur t' fr hg
          split at this
          · cases this
          · rename_i hsp
            exact ⟨cur, t', fr, hg, by simpa using hsp⟩
        · cases this
      obtain ⟨cur, t', fr, hg, hsp⟩ := hblk
      obtain ⟨ab, ao, asp⟩ := a
      simp only at hsp hg
      subst hsp
      have key2 : ∀ i, 0 ≤ i → i < 0 + len → ∃ y c bs, d.rep 0 w c y bs ∧ (∀ b ∈ bs, b < w.heap.size) ∧ G y ∧ ∀ j v, c[j]? = some v → cur[ao + i * d.size + j]? = some v := by
        intro i _ hi
        obtain ⟨y, bs, c, h1, h2, h3, h4⟩ := key i (by omega)
        refine ⟨y, c, bs, h2, h3, h4, fun j v hv => ?_⟩
        obtain ⟨_, hlen2, hcell⟩ := World.cells?_some h1
        have hj : j < P.cellsOf e := by rw [← hlen2]; exact (List.getElem?_eq_some_iff.1 hv).1
        have := hcell j hj
        rw [hv, addr_add, addr_add, ← h.1] at this
        simpa [World.cell?, hg] using this
      obtain ⟨l, cs, bs, hll, hE, hbs, hG, hcs⟩ := elems_of (G := G) (off := ao) rfl len 0 key2
      have hlt : ab < w.heap.size := (Array.getElem?_eq_some_iff.1 hg).1
      refine ⟨l, ab :: bs, ⟨some ⟨ab, ao, none⟩, cap, by rw [hll], by omega, .inr (.inr ⟨ab, ao, cur, t', fr, cs, bs, rfl, hg, hE, fun j v hv => by simpa using hcs j v hv, rfl, fun h => by omega, fun h => by omega⟩)⟩, fun b hb => ?_, by rw [hll]; omega, hG⟩
      rcases List.mem_cons.1 hb with hb | hb
      · rw [hb]; exact hlt
      · exact hbs b hb
end

/-- The fields of a struct, from a cell on, as a chain of pairs. -/
inductive OpensFs (P : Program) : List Field → Nat → (α : Type) → Kd α → (α → Prop) → Prop
  | one {f : Field} {off : Nat} {α : Type} {d : Kd α} {G : α → Prop} (hf : f.offset = off) (h : Opens P f.type d G) : OpensFs P [f] off α d G
  | cons {f : Field} {fs : List Field} {off : Nat} {α β : Type} {d : Kd α} {G : α → Prop} {d' : Kd β} {G' : β → Prop} (hf : f.offset = off) (h : Opens P f.type d G) (h' : OpensFs P fs (off + d.size) β d' G') :
      OpensFs P (f :: fs) off (α × β) (Kd.pair d d') (fun x => G x.1 ∧ G' x.2)
theorem opensFs_open {P : Program} {H : Type} {enc : TypeId × Value → H} {w : World} {base : Nat} {sp : Nat → Bool} {held : Bool} {n : Nat} {cs : List Value} {fs : List Field} {off : Nat} {α : Type} {d : Kd α} {G : α → Prop}
    (h : OpensFs P fs off α d G) : (∀ f ∈ fs, ∃ x, DataW.trod enc P w base sp held n f.type ((cs.drop f.offset).take (P.cellsOf f.type)) = some x) → cs.length = off + d.size → ∃ a bs, d.rep 0 w (cs.drop off) a bs ∧ (∀ b ∈ bs, b < w.heap.size) ∧ G a := by
  induction h with
  | @one f off α d G hf h =>
    intro hx hl
    obtain ⟨x, hx⟩ := hx f (by simp)
    rw [hf, ← h.1, List.take_of_length_le (by rw [List.length_drop]; omega)] at hx
    exact h.2 _ _ _ _ _ _ _ _ _ hx
  | @cons f fs off α β d G d' G' hf h h' ih =>
    intro hx hl
    obtain ⟨x, hx1⟩ := hx f (by simp)
    rw [hf, ← h.1] at hx1
    obtain ⟨a, ba, ha, hba, hga⟩ := h.2 _ _ _ _ _ _ _ _ _ hx1
    have hl' : cs.length = (off + d.size) + d'.size := by rw [hl]; exact (Nat.add_assoc _ _ _).symm
    obtain ⟨b, bb, hb, hbb, hgb⟩ := ih (fun g hg => hx g (by simp [hg])) hl'
    refine ⟨(a, b), ba ++ bb, ⟨(cs.drop off).take d.size, cs.drop (off + d.size), ba, bb, ?_, rfl, ha, hb⟩, fun x hx => ?_, hga, hgb⟩
    · rw [← List.drop_drop, List.take_append_drop]
    · rcases List.mem_append.1 hx with hx | hx
      · exact hba x hx
      · exact hbb x hx
theorem opens_struct {P : Program} {t : TypeId} {fs : Array Field} {α β : Type} {d : Kd α} {G : α → Prop} {f : α → β} {g : β → α} {fg : ∀ x, f (g x) = x} {Gb : β → Prop} (ht : P.underlying t = some (.struct fs)) (hs : d.size = P.cellsOf t) (hF : OpensFs P fs.toList 0 α d G) (gf : ∀ a, g (f a) = a) (hG : ∀ a, G a → Gb (f a)) :
    Opens P t (Kd.iso f g fg d) Gb := by
  refine ⟨hs, ?_⟩
  intro H enc w base sp held fuel cs x hx
  obtain ⟨xs, n, _, _, hl, hlen, hf⟩ := DataW.trod_struct ht hx
  have hall : ∀ q ∈ fs.toList, ∃ x, DataW.trod enc P w base sp held n q.type ((cs.drop q.offset).take (P.cellsOf q.type)) = some x := by
    intro q hq
    obtain ⟨i, hi⟩ := List.getElem?_of_mem hq
    have hi' : fs[i]? = some q := by rw [← Array.getElem?_toList]; exact hi
    have hlt : i < xs.length := by rw [hlen, ← Array.length_toList]; exact (List.getElem?_eq_some_iff.1 hi).1
    exact ⟨xs[i], by rw [hf i q hi', List.getElem?_eq_getElem hlt]⟩
  obtain ⟨a, bs, ha, hbs, hga⟩ := opensFs_open hF hall (by rw [hl, hs]; omega)
  rw [List.drop_zero] at ha
  refine ⟨f a, bs, ?_, hbs, hG a hga⟩
  show d.rep 0 w cs (g (f a)) bs
  rw [gf]
  exact ha

section
variable {P : Program} {H : Type} {enc : TypeId × Value → H} {w : World} {base : Nat} {sp : Nat → Bool} {held : Bool} {t : TypeId}
end
/-- Entries that are read alone. -/
theorem wld_of {W : World} {en : List Ent} (h : ∀ e ∈ en, ∃ bs, e.fact W bs ∧ ∀ b ∈ bs, b < W.heap.size) (h0 : ∀ e ∈ en, e.cls = 0 ∧ e.o = 0 ∧ e.lin = false) : wld W.heap.size (fun _ => False) [] en W :=
  ⟨fun c b => c = 0 ∧ b < W.heap.size, fun c c' b h1 h2 => by rw [h1.1, h2.1], fun c b hb => ⟨hb.2, fun hn => absurd hb.1 hn⟩, fun e he => by
    obtain ⟨bs, f, hb⟩ := h e he
    obtain ⟨h1, h2, h3⟩ := h0 e he
    exact ⟨bs, f, fun b hbb => ⟨h1, hb b hbb⟩, fun hl => (by rw [h3] at hl; cases hl), fun ho => absurd h2 ho⟩, (fun x hx => by cases hx), by simp⟩
theorem facts_nil {W : World} : ∀ e ∈ ([] : List Ent), ∃ bs, e.fact W bs ∧ ∀ b ∈ bs, b < W.heap.size := fun e he => by cases he
def readsAll (en : List Ent) : Bool := en.all fun e => Nat.beq e.cls 0 && Nat.beq e.o 0 && !e.lin
/-- A law's contract, at a world. -/
theorem law_calls {P : Program} {n : Nat} {args : List Value} {en : List Ent} (h : Fn P n args [] en (fun v bx e => v = .bool true ∧ bx = [] ∧ e = [])) {W : World} (hf : ∀ e ∈ en, ∃ bs, e.fact W bs ∧ ∀ b ∈ bs, b < W.heap.size) (h0 : readsAll en = true := by kernel_rfl) :
    Calls P n args.toArray W fun e w' => e = .returned (.bool true) ∧ Below W.heap.size W w' :=
  (h W (fun _ => False) 0 (wld_of hf fun e he => by
    have := List.all_eq_true.1 h0 e he
    simp only [Bool.and_eq_true, Bool.not_eq_true'] at this
    exact ⟨Nat.eq_of_beq_eq_true this.1.1, Nat.eq_of_beq_eq_true this.1.2, this.2⟩)).mono fun e w' he => by
    obtain ⟨v, bx, en', ⟨rfl, _, _⟩, rfl, hB, _, _⟩ := he
    exact ⟨rfl, hB.os, hB.tape, hB.output, hB.size, fun k hk => hB.block k hk (fun h => h)⟩
end Go.Proofs.Ytnadolmpaeenpaa.K
