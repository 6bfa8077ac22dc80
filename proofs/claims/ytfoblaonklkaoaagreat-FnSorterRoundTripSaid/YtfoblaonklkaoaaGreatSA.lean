/- A library for walks: states, slices, calls. No condition. -/
import Derived.Below
import Derived.Great.BuildSlice
import Derived.IntWalk
import Derived.KernelRfl
import Derived.Laws.Append
import Derived.Laws.AppendOwn
import Derived.Laws.Concat
import Derived.Laws.CopyRow
import Derived.Laws.Entries
import Derived.Laws.MakeOwn
import Derived.Laws.OwnMore
import Derived.Laws.Slices
import Derived.Laws.Strings
import Derived.Laws.StructEq
import Derived.OrdersHeld
import Derived.Tactics
import Derived.WalkKit
namespace Go.Proofs.YtfoblaonklkaoaaGreat.K
open Go Go.RowKit
set_option linter.unusedVariables false
def GZ (P : Program) (f : FuncId) (R : Ending → World → Prop) (fr : Frame) (w : World) : Prop :=
 ∀ cs, ∃ e w' fr', R e w' ∧ Comes P (lone fr cs w) (lone fr' cs w') e ∧ fr'.fn = f ∧ fr'.leaving P w' e
theorem GZ.head {P : Program} {f : FuncId} {R : Ending → World → Prop} {fr fr' : Frame} {w w' : World}
  (h : ∀ cs, step P (lone fr cs w) = .next (lone fr' cs w')) (k : GZ P f R fr' w') : GZ P f R fr w := fun cs =>
 let ⟨e, w'', fr'', r, c, l⟩ := k cs; ⟨e, w'', fr'', r, Comes.of_steps (Steps.one (h cs)) c, l⟩
def XQ (f : FuncId) : Frame := { (default : Frame) with fn := f, kind := .normal }
def GA (P : Program) (f : FuncId) (R : Ending → World → Prop) (todo : List Item) (a : Act) (w : World) : Prop := GZ P f R ((XQ f).at a todo) w
section
variable {P : Program} {f : FuncId} {R : Ending → World → Prop} {k : List Item} {a : Act} {w : World}
theorem GA.skip (h : GA P f R k a w) : GA P f R (.code .skip :: k) a w := GZ.head (fun _ => step_skip) h
theorem GA.seq {x y : Code} (h : GA P f R (.code x :: .code y :: k) a w) : GA P f R (.code (.seq x y) :: k) a w := GZ.head (fun _ => step_seq) h
theorem GA.cond {c : Operand} {x y : Code} {t : Bool} (hc : a.eval c = .bool t) (h : GA P f R (.code (if t then x else y) :: k) a w) : GA P f R (.code (.cond c x y) :: k) a w := GZ.head (fun _ => step_cond hc) h
theorem GA.block {id : Nat} {c : Code} (h : GA P f R (.code c :: .inBlock id :: k) a w) : GA P f R (.code (.block id c) :: k) a w := GZ.head (fun _ => step_block) h
theorem GA.inBlock {id : Nat} (h : GA P f R k a w) : GA P f R (.inBlock id :: k) a w := GZ.head (fun _ => step_inBlock) h
theorem GA.loop {c : Code} (h : GA P f R (.code c :: .inLoop c :: k) a w) : GA P f R (.code (.loop c) :: k) a w := GZ.head (fun _ => step_loop) h
theorem GA.inLoop {c : Code} (h : GA P f R (.code c :: .inLoop c :: k) a w) : GA P f R (.inLoop c :: k) a w := GZ.head (fun _ => step_inLoop) h
theorem GA.exit {id : Nat} {k' : List Item} (hx : exitTo id k = some k') (h : GA P f R k' a w) : GA P f R (.code (.exit id) :: k) a w := GZ.head (fun _ => step_exit hx) h
theorem GA.wp {c : Code} (h : c.wp P (fun e a w => e = .normal ∧ GA P f R k a w) a w) : GA P f R (.code c :: k) a w := fun cs => by
 obtain ⟨e, a', w', ⟨rfl, hg⟩, harr⟩ := h (XQ f) k cs
 obtain ⟨e, w'', fr'', r, c, l⟩ := hg cs
 exact ⟨e, w'', fr'', r, Comes.of_steps harr c, l⟩
theorem GA.ret {fn : Func} {v : Value} (hf : P.funcs[f]? = some fn) (hr : (results fn a.tmps).run P w = .ok v w) (hd : a.defers = []) (hR : R (.returned v) w) : GA P f R (.code .ret :: k) a w :=
 fun cs => ⟨.returned v, w, _, hR, Steps.one step_ret, rfl, rfl, hd, rfl, fn, hf, hr⟩
theorem GA.done {fn : Func} {v : Value} (hf : P.funcs[f]? = some fn) (hr : (results fn a.tmps).run P w = .ok v w) (hd : a.defers = []) (hR : R (.returned v) w) : GA P f R [] a w :=
 fun cs => ⟨.returned v, w, _, hR, Steps.one step_end, rfl, rfl, hd, rfl, fn, hf, hr⟩
def Nr (P : Program) (f : FuncId) (R : Ending → World → Prop) (k : List Item) : Exit → Act → World → Prop := fun e a w => e = .normal ∧ GA P f R k a w
theorem GA.region {id : Nat} {ops : Array Oper} (h : wpList P ops (Nr P f R k) ops.toList a w) : GA P f R (.code (.region id ops false) :: k) a w := GA.wp (wp_region_list h)
end
theorem Ri {P : Program} {f : FuncId} {fn : Func} {c : Code} {args : Array Value} {w : World} {R : Ending → World → Prop}
  (hf : P.funcs[f]? = some fn) (hb : fn.body = some c)
  (h : GA P f R [.code c] { tmps := args ++ Array.replicate (fn.ntmps - args.size) undef, defers := [] } w) : Calls P f args w R := by
 have henter : Frame.enter P f args .normal = (XQ f).at { tmps := args ++ Array.replicate (fn.ntmps - args.size) undef, defers := [] } [.code c] := by
  simp [Frame.enter, Frame.at, hf, hb, XQ]
 intro cs
 rw [henter]
 exact h cs
/-! ### A region whose order is drawn -/
section
variable {P : Program} {ops : Array Oper} {Q : Exit → Act → World → Prop} {md : Region.Mode} {S : World → Prop} {must : Nat → Bool}
def gN (P : Program) (md : Region.Mode) (ops : Array Oper) (Q : Exit → Act → World → Prop) (must : Nat → Bool) (S : World → Prop) : Nat → Array Bool → Act → World → Prop
 | 0, listed, a, w => Region.ready md ops listed = [] ∧ Q .normal a w
 | fuel + 1, listed, a, w =>
  (Region.ready md ops listed = [] → Q .normal a w) ∧
  ∀ i ∈ Region.ready md ops listed, wpOp P ops Q i (fun a' w' => (must i = true → S w') ∧ gN P md ops Q must S fuel (listed.setIfInBounds i true) a' w') a w
theorem Lc : ∀ (fuel : Nat) (listed : Array Bool) (a : Act) (w : World), gN P md ops Q must S fuel listed a w → wpAny P md ops Q fuel listed a w
 | 0, _, _, _, h => h
 | fuel + 1, _, _, _, h => ⟨h.1, fun i hi => wpOp_mono (fun a' w' h' => Lc fuel _ a' w' h'.2) (h.2 i hi)⟩
theorem Pm {i : Nat} {oi : Oper} {v : Value} (hi : ops[i]? = some oi) (hsel : ∀ (j : Nat) (o : Oper) cs b, ops[j]? = some o → o.op ≠ .select cs b)
  (hQ : ∀ c a w, Q (.panic c) (a.put oi.dst v) w → Q (.panic c) a w) :
  ∀ (fuel : Nat) (listed : Array Bool) (a : Act) (w : World),
   (∀ j oj, ops[j]? = some oj → j ≠ i → listed.getD j true = false → (∀ e ∈ oj.after, Region.binds md e = true → e.on ≠ i) → oi.apart ops oj = true ∧ must j = true) →
   i ∈ Region.ready md ops listed → YieldsIf P ops S oi v a → S w →
   gN P md ops Q must S fuel (listed.setIfInBounds i true) (a.put oi.dst v) w → gN P md ops Q must S (fuel + 1) listed a w := by
 intro fuel
 induction fuel with
 | zero =>
  intro listed a w _ hr hy hS H
  refine ⟨fun h => (by rw [h] at hr; cases hr), fun j hj => ?_⟩
  by_cases hji : j = i
  ·subst hji; exact hy.wpOp hi hS ⟨fun _ => hS, H⟩
  ·have := ready_mono hj hji
   rw [H.1] at this
   cases this
 | succ fuel ih =>
  intro listed a w hfree hr hy hS H
  refine ⟨fun h => (by rw [h] at hr; cases hr), fun j hj => ?_⟩
  by_cases hji : j = i
  ·subst hji; exact hy.wpOp hi hS ⟨fun _ => hS, H⟩
  ·have h1 := H.2 j (ready_mono hj hji)
   obtain ⟨hjun, oj, hoj, hall⟩ := mem_ready.1 hj
   have hnot : ∀ e ∈ oj.after, Region.binds md e = true → e.on ≠ i := fun e he hb heq => by
    have h1 := hall e he hb
    have h0 := (mem_ready.1 hr).1
    rw [heq] at h1
    rcases Nat.lt_or_ge i listed.size with h' | h'
    ·simp [h'] at h0 h1; rw [h0] at h1; cases h1
    ·simp [Array.getElem?_eq_none h'] at h1
   have hm := (hfree j oj hoj hji hjun hnot).2
   have h2 := wpOp_putIf hoj (hfree j oj hoj hji hjun hnot).1 (fun cs b => hsel i oi cs b hi) (fun cs b => hsel j oj cs b hoj) hQ hy h1
   have hfree' : ∀ k ok, ops[k]? = some ok → k ≠ i → (listed.setIfInBounds j true).getD k true = false →
     (∀ e ∈ ok.after, Region.binds md e = true → e.on ≠ i) → oi.apart ops ok = true ∧ must k = true := fun k ok hk hki hun hno => by
    refine hfree k ok hk hki ?_ hno
    by_cases hjk : j = k
    ·subst hjk; exact hjun
    ·rw [getD_set_ne true hjk] at hun; exact hun
   refine wpOp_mono (fun a' w' h3 => ⟨h3.2.1, ih (listed.setIfInBounds j true) a' w' hfree' (ready_mono hr (Ne.symm hji)) h3.1 (h3.2.1 hm) ?_⟩) h2
   rw [Array.setIfInBounds_comm _ _ hji]
   exact h3.2.2
def SY (md : Region.Mode) (ops : Array Oper) (must : Nat → Bool) (listed : Array Bool) (i : Nat) : Bool :=
 match ops[i]? with
 | none => false
 | some oi => (List.range ops.size).all fun j => match ops[j]? with
  | none => true
  | some oj => j == i || listed.getD j true || oj.after.any (fun e => Region.binds md e && e.on == i) || (oi.apart ops oj && must j)
theorem SX {i : Nat} {oi : Oper} {listed : Array Bool} (hi : ops[i]? = some oi) (h : SY md ops must listed i = true) (j : Nat) (oj : Oper)
  (hj : ops[j]? = some oj) (hji : j ≠ i) (hl : listed.getD j true = false) (hn : ∀ e ∈ oj.after, Region.binds md e = true → e.on ≠ i) : oi.apart ops oj = true ∧ must j = true := by
 unfold SY at h
 rw [hi] at h
 have hlt : j < ops.size := by
  rcases Nat.lt_or_ge j ops.size with h' | h'
  ·exact h'
  ·rw [Array.getElem?_eq_none h'] at hj; cases hj
 have h1 := List.all_eq_true.1 h j (List.mem_range.2 hlt)
 simp only [hj] at h1
 rw [Bool.or_eq_true, Bool.or_eq_true, Bool.or_eq_true] at h1
 rcases h1 with ((h1 | h1) | h1) | h1
 ·exact absurd (by simpa using h1) hji
 ·rw [hl] at h1; cases h1
 ·obtain ⟨e, he, hb⟩ := Array.any_eq_true'.1 h1
  rw [Bool.and_eq_true] at hb
  exact absurd (by simpa using hb.2) (hn e he hb.1)
 ·exact (Bool.and_eq_true _ _).mp h1
def Iy (md : Region.Mode) (ops : Array Oper) (must : Nat → Bool) (l : Array Bool) (i : Nat) : Bool :=
 Region.noSelect ops && SY md ops must l i && (Region.ready md ops l).contains i
theorem JH {i : Nat} {oi : Oper} {v : Value} {fuel : Nat} {listed : Array Bool} {a : Act} {w : World} (hi : ops[i]? = some oi)
  (hc : Iy md ops must listed i = true) (hQ : ∀ c a w, Q (.panic c) (a.put oi.dst v) w → Q (.panic c) a w) (hy : YieldsIf P ops S oi v a) (hS : S w)
  (h : gN P md ops Q must S fuel (listed.setIfInBounds i true) (a.put oi.dst v) w) : gN P md ops Q must S (fuel + 1) listed a w := by
 simp only [Iy, Bool.and_eq_true] at hc
 exact Pm hi (Region.noSelect_spec hc.1.1) hQ fuel listed a w (SX hi hc.1.2) (by simpa using hc.2) hy hS h
theorem FX {rs : List Nat} {fuel : Nat} {listed : Array Bool} {a : Act} {w : World} (hr : Region.ready md ops listed = rs) (hne : rs ≠ [])
  (h : ∀ i ∈ rs, wpOp P ops Q i (fun a' w' => (must i = true → S w') ∧ gN P md ops Q must S fuel (listed.setIfInBounds i true) a' w') a w) : gN P md ops Q must S (fuel + 1) listed a w :=
 ⟨fun h0 => absurd (hr ▸ h0) hne, hr ▸ h⟩
theorem Re {listed : Array Bool} {a : Act} {w : World} (hr : Region.ready md ops listed = []) (h : Q .normal a w) : ∀ fuel, gN P md ops Q must S fuel listed a w
 | 0 => ⟨hr, h⟩
 | _ + 1 => ⟨fun _ => h, by rw [hr]; simp⟩
theorem GA.draw {f : FuncId} {R : Ending → World → Prop} {k : List Item} {id : Nat} {a : Act} {w : World} (must : Nat → Bool) (S : World → Prop) (hm : P.follows .mixedOrders = true)
  (h : gN P .any ops (Nr P f R k) must S ops.size (Array.replicate ops.size false) a w.drew) : GA P f R (.code (.region id ops true) :: k) a w :=
 GA.wp (wp_region_any hm (Lc _ _ _ _ h))
end
end Go.Proofs.YtfoblaonklkaoaaGreat.K
namespace Go.Proofs.YtfoblaonklkaoaaGreat.K
open Go Go.RowKit
set_option linter.unusedVariables false
/-! ### Kinds of values -/
inductive Kd : Type → Type 1
 | int (k : IntKind) : Kd Int
 | bool : Kd Bool
 | str : Kd ByteArray
 | pair {α β : Type} (a : Kd α) (b : Kd β) : Kd (α × β)
 | iso {α β : Type} (f : α → β) (g : β → α) (fg : ∀ x, f (g x) = x) (a : Kd α) : Kd β
 | slice {α : Type} (a : Kd α) : Kd (List α)
def Kd.size : {α : Type} → Kd α → Nat
 | _, .int _ => 1
 | _, .bool => 1
 | _, .str => 1
 | _, .pair a b => a.size + b.size
 | _, .iso _ _ _ a => a.size
 | _, .slice _ => 1
def dw {α : Type} (R : List Value → α → List Nat → Prop) : List Value → List α → List Nat → Prop
 | cs, [], bs => cs = [] ∧ bs = []
 | cs, x :: xs, bs => ∃ c1 c2 b1 b2, cs = c1 ++ c2 ∧ bs = b1 ++ b2 ∧ R c1 x b1 ∧ dw R c2 xs b2
def H6 {α : Type} (size : Nat) (R : List Value → α → List Nat → Prop) (o : Nat) (w : World) (A : Option Addr) (c : Nat) (l : List α) (bs : List Nat) : Prop :=
 l.length ≤ c ∧ ((A = none ∧ c = 0 ∧ bs = []) ∨ (o = 0 ∧ l = [] ∧ bs = []) ∨
  ∃ b off cur e fr cs bs', A = some ⟨b, off, none⟩ ∧ w.heap[b]? = some (.cells cur e fr) ∧ dw R cs l bs' ∧ (∀ j v, cs[j]? = some v → cur[off + j]? = some v) ∧ bs = b :: bs' ∧
   (1 ≤ o → fr = (0, 0) ∧ off + c * size ≤ cur.size ∧ c ≤ maxLen) ∧ (2 ≤ o → off = 0 ∧ cur.size = c * size))
def Kd.rep : {α : Type} → Kd α → Nat → World → List Value → α → List Nat → Prop
 | _, .int k, _, _, cs, x, bs => cs = [.int k x] ∧ bs = []
 | _, .bool, _, _, cs, x, bs => cs = [.bool x] ∧ bs = []
 | _, .str, _, _, cs, x, bs => cs = [.string x] ∧ bs = []
 | _, .pair a b, o, w, cs, x, bs => ∃ c1 c2 b1 b2, cs = c1 ++ c2 ∧ bs = b1 ++ b2 ∧ a.rep o w c1 x.1 b1 ∧ b.rep o w c2 x.2 b2
 | _, .iso _ g _ a, o, w, cs, x, bs => a.rep o w cs (g x) bs
 | _, .slice a, o, w, cs, x, bs => ∃ A c, cs = [.slice A x.length c] ∧ H6 a.size (a.rep o w) o w A c x bs
section
variable {α β : Type}
theorem dw.mono {R R' : List Value → α → List Nat → Prop} : ∀ {l : List α} {cs bs}, (∀ cs x b, x ∈ l → (∀ k ∈ b, k ∈ bs) → R cs x b → R' cs x b) → dw R cs l bs → dw R' cs l bs
 | [], _, _, _, h => h
 | x :: xs, cs, bs, hR, ⟨c1, c2, b1, b2, e1, e2, h1, h2⟩ => by
  subst e1 e2
  exact ⟨c1, c2, b1, b2, rfl, rfl, hR _ _ _ (List.mem_cons_self ..) (fun k hk => List.mem_append_left _ hk) h1,
   dw.mono (fun cs y b hy hb => hR cs y b (List.mem_cons_of_mem _ hy) (fun k hk => List.mem_append_right _ (hb k hk))) h2⟩
theorem dw.append {R : List Value → α → List Nat → Prop} : ∀ {l m : List α} {cs ds bs es}, dw R cs l bs → dw R ds m es → dw R (cs ++ ds) (l ++ m) (bs ++ es)
 | [], _, _, _, _, _, ⟨e1, e2⟩, h => by subst e1 e2; exact h
 | x :: xs, m, _, _, _, _, ⟨c1, c2, b1, b2, e1, e2, h1, h2⟩, h => by subst e1 e2; exact ⟨c1, _, b1, _, (List.append_assoc ..), (List.append_assoc ..), h1, dw.append h2 h⟩
theorem dw.len {R : List Value → α → List Nat → Prop} {n : Nat} (hR : ∀ cs x b, R cs x b → cs.length = n) : ∀ {l : List α} {cs bs}, dw R cs l bs → cs.length = l.length * n
 | [], _, _, ⟨e1, e2⟩ => by subst e1; simp
 | x :: xs, _, _, ⟨c1, c2, b1, b2, e1, e2, h1, h2⟩ => by subst e1; simp only [List.length_append, hR _ _ _ h1, dw.len hR h2, List.length_cons, Nat.succ_mul]; omega
theorem dw.split {R : List Value → α → List Nat → Prop} : ∀ {l : List α} {cs bs} (i : Nat) (x : α), l[i]? = some x → dw R cs l bs →
  ∃ p c q b1 b b2, cs = p ++ (c ++ q) ∧ bs = b1 ++ (b ++ b2) ∧ R c x b ∧ dw R p (l.take i) b1 ∧ dw R q (l.drop (i + 1)) b2
 | [], _, _, i, x, h, _ => by simp at h
 | y :: ys, _, _, 0, x, h, ⟨c1, c2, b1, b2, e1, e2, h1, h2⟩ => by
  simp at h; subst h e1 e2
  exact ⟨[], c1, c2, [], b1, b2, rfl, rfl, h1, ⟨rfl, rfl⟩, by simpa using h2⟩
 | y :: ys, _, _, i + 1, x, h, ⟨c1, c2, b1, b2, e1, e2, h1, h2⟩ => by
  simp at h; subst e1 e2
  obtain ⟨p, c, q, u1, u, u2, e1, e2, r, r1, r2⟩ := dw.split i x h h2
  subst e1 e2
  exact ⟨c1 ++ p, c, q, b1 ++ u1, u, u2, by simp, by simp, r, ⟨c1, p, b1, u1, rfl, rfl, h1, r1⟩, by simpa using r2⟩
theorem dw.take {R : List Value → α → List Nat → Prop} {n : Nat} (hR : ∀ cs x b, R cs x b → cs.length = n) : ∀ {l : List α} {cs bs} (i : Nat), dw R cs l bs →
  ∃ p q b1 b2, cs = p ++ q ∧ bs = b1 ++ b2 ∧ p.length = (l.take i).length * n ∧ dw R p (l.take i) b1 ∧ dw R q (l.drop i) b2
 | l, cs, bs, 0, h => ⟨[], cs, [], bs, rfl, rfl, by simp, ⟨rfl, rfl⟩, by simpa using h⟩
 | [], _, _, i + 1, ⟨e1, e2⟩ => by subst e1 e2; exact ⟨[], [], [], [], rfl, rfl, by simp, ⟨rfl, rfl⟩, ⟨rfl, rfl⟩⟩
 | y :: ys, _, _, i + 1, ⟨c1, c2, b1, b2, e1, e2, h1, h2⟩ => by
  subst e1 e2
  obtain ⟨p, q, u1, u2, e1, e2, e3, r1, r2⟩ := dw.take hR i h2
  subst e1 e2
  refine ⟨c1 ++ p, q, b1 ++ u1, u2, by simp, by simp, ?_, ⟨c1, p, b1, u1, rfl, rfl, h1, r1⟩, by simpa using r2⟩
  simp only [List.length_append, hR _ _ _ h1, e3, List.take_succ_cons, List.length_cons, Nat.succ_mul]; omega
end
theorem Kd.rep_len {α : Type} (k : Kd α) : ∀ {o w cs x bs}, k.rep o w cs x bs → cs.length = k.size := by
 induction k with
 | int | bool | str => intro o w cs x bs h; rw [h.1]; rfl
 | pair a b iha ihb => intro o w cs x bs h; obtain ⟨c1, c2, b1, b2, e1, e2, h1, h2⟩ := h; subst e1; simp [Kd.size, iha h1, ihb h2]
 | iso f g fg a ih => intro o w cs x bs h; exact ih (x := g x) h
 | slice a ih => intro o w cs x bs h; obtain ⟨A, c, e, _⟩ := h; subst e; rfl
theorem Kd.rep_one {α : Type} (k : Kd α) : ∀ {o w cs x bs}, k.rep o w cs x bs → ∀ v ∈ cs, v.oneCell' = true := by
 induction k with
 | int | bool | str => intro o w cs x bs h; rw [h.1]; simp [Value.oneCell']
 | pair a b iha ihb =>
  intro o w cs x bs h; obtain ⟨c1, c2, b1, b2, e1, e2, h1, h2⟩ := h; subst e1; intro v hv
  rcases List.mem_append.1 hv with h | h
  ·exact iha h1 v h
  ·exact ihb h2 v h
 | iso f g fg a ih => intro o w cs x bs h; exact ih (x := g x) h
 | slice a ih => intro o w cs x bs h; obtain ⟨A, c, e, _⟩ := h; subst e; simp [Value.oneCell']
theorem H6.keep {α : Type} {n : Nat} {R R' : List Value → α → List Nat → Prop} {o o' w w' A c l bs} (ho : o' ≤ o) (hw : ∀ b ∈ bs, w'.heap[b]? = w.heap[b]?)
  (hR : ∀ cs x b, x ∈ l → (∀ k ∈ b, k ∈ bs) → R cs x b → R' cs x b) (h : H6 n R o w A c l bs) : H6 n R' o' w' A c l bs := by
 obtain ⟨hl, h⟩ := h
 refine ⟨hl, ?_⟩
 rcases h with h | h | ⟨b, off, cur, e, fr, cs, bs', rfl, hb, he, hc, rfl, h1, h2⟩
 ·exact .inl h
 ·exact .inr (.inl ⟨by omega, h.2⟩)
 ·exact .inr (.inr ⟨b, off, cur, e, fr, cs, bs', rfl, by rw [hw b (List.mem_cons_self ..)]; exact hb,
   dw.mono (fun cs x d hx hd => hR cs x d hx (fun k hk => List.mem_cons_of_mem _ (hd k hk))) he, hc, rfl, fun h => h1 (by omega), fun h => h2 (by omega)⟩)
theorem Kd.rep_keep {α : Type} (k : Kd α) : ∀ {o o' w w' cs x bs}, o' ≤ o → (∀ b ∈ bs, w'.heap[b]? = w.heap[b]?) → k.rep o w cs x bs → k.rep o' w' cs x bs := by
 induction k with
 | int | bool | str => intro o o' w w' cs x bs _ _ h; exact h
 | pair a b iha ihb =>
  intro o o' w w' cs x bs ho hw h
  obtain ⟨c1, c2, b1, b2, e1, e2, h1, h2⟩ := h
  subst e1 e2
  exact ⟨c1, c2, b1, b2, rfl, rfl, iha ho (fun b hb => hw b (List.mem_append_left _ hb)) h1, ihb ho (fun b hb => hw b (List.mem_append_right _ hb)) h2⟩
 | iso f g fg a ih => intro o o' w w' cs x bs ho hw h; exact ih (x := g x) ho hw h
 | slice a ih => intro o o' w w' cs x bs ho hw h; obtain ⟨A, c, e, h⟩ := h; exact ⟨A, c, e, H6.keep ho hw (fun cs x b _ hb r => ih ho (fun k hk => hw k (hb k hk)) r) h⟩
/-! ### What is known of a world -/
inductive cz : Type 1
 | sl {α : Type} (o : Nat) (k : Kd α) (A : Option Addr) (c : Nat) (l : List α) (cls : Nat) (lin : Bool)
 | raw (F : World → List Nat → Prop) (loc : ∀ w w' bs, (∀ b ∈ bs, w'.heap[b]? = w.heap[b]?) → F w bs → F w' bs) (o : Nat) (cls : Nat)
def cz.cls : cz → Nat | .sl _ _ _ _ _ c _ => c | .raw _ _ _ c => c
def cz.lin : cz → Bool | .sl _ _ _ _ _ _ b => b | .raw .. => false
def cz.o : cz → Nat | .sl o _ _ _ _ _ _ => o | .raw _ _ o _ => o
def cz.fact : cz → World → List Nat → Prop
 | .sl o k A c l _ _, w, bs => H6 k.size (k.rep (min o 1) w) o w A c l bs
 | .raw F _ _ _, w, bs => F w bs
def cz.re (o cls : Nat) (lin : Bool) : cz → cz
 | .sl _ k A c l _ _ => .sl o k A c l cls lin
 | .raw F h _ _ => .raw F h o cls
theorem cz.fact_keep {e : cz} {w w' bs} (hw : ∀ b ∈ bs, w'.heap[b]? = w.heap[b]?) (h : e.fact w bs) : e.fact w' bs := by
 cases e with
 | sl o k A c l cls lin => exact H6.keep (Nat.le_refl _) hw (fun cs x b _ hb r => k.rep_keep (Nat.le_refl _) (fun k hk => hw k (hb k hk)) r) h
 | raw F loc => exact loc _ _ _ hw h
theorem cz.fact_re {e : cz} {w bs} {o cls : Nat} {lin : Bool} (ho : o ≤ e.o) (h : e.fact w bs) : (e.re o cls lin).fact w bs := by
 cases e with
 | sl o' k A c l cls' lin' => exact H6.keep ho (fun _ _ => rfl) (fun cs x b _ hb r => k.rep_keep (by simp only [cz.o] at ho; omega) (fun _ _ => rfl) r) h
 | raw F loc => exact h
structure iq where
 b : Nat
 t : Nat
 cs : List Value
structure vQ (T : Nat → Prop) (B : Nat) (w w' : World) : Prop where
 os : w'.os = w.os
 tape : w'.tape = w.tape
 output : w'.output = w.output
 size : w.heap.size ≤ w'.heap.size
 block : ∀ k, k < B → ¬ T k → w'.heap[k]? = w.heap[k]?
theorem vQ.refl (T : Nat → Prop) (B : Nat) (w : World) : vQ T B w w := ⟨rfl, rfl, rfl, Nat.le_refl _, fun _ _ _ => rfl⟩
theorem vQ.trans {T : Nat → Prop} {B : Nat} {a b c : World} (h : vQ T B a b) (k : vQ T B b c) : vQ T B a c :=
 ⟨k.os.trans h.os, k.tape.trans h.tape, k.output.trans h.output, Nat.le_trans h.size k.size, fun i hi hT => (k.block i hi hT).trans (h.block i hi hT)⟩
theorem vQ.of {T T' : Nat → Prop} {B B' : Nat} {w w' : World} (h : vQ T B w w') (hB : ∀ k, k < B' → ¬ T' k → k < B ∧ ¬ T k) : vQ T' B' w w' :=
 ⟨h.os, h.tape, h.output, h.size, fun k hk hT => h.block k (hB k hk hT).1 (hB k hk hT).2⟩
structure jf (base : Nat) (T : Nat → Prop) (bx : List iq) (en : List cz) (w : World) (fp : Nat → Nat → Prop) : Prop where
 sole : ∀ c c' b, fp c b → fp c' b → c = c'
 lt : ∀ c b, fp c b → b < w.heap.size ∧ (c ≠ 0 → base ≤ b ∨ T b)
 ent : ∀ e ∈ en, ∃ bs, e.fact w bs ∧ (∀ b ∈ bs, fp e.cls b) ∧ (e.lin = true → bs.Nodup) ∧ (e.o ≠ 0 → e.cls ≠ 0)
 box : ∀ x ∈ bx, w.heap[x.b]? = some (.cells x.cs.toArray x.t (0, 0)) ∧ (base ≤ x.b ∨ T x.b) ∧ ∀ c, ¬ fp c x.b
 nd : (bx.map (·.b)).Nodup
def NZ (base : Nat) (T : Nat → Prop) (bx : List iq) (en : List cz) (w : World) : Prop := ∃ fp, jf base T bx en w fp
theorem jf.ext {base : Nat} {T : Nat → Prop} {bx : List iq} {en : List cz} {w w' : World} {fp : Nat → Nat → Prop} (h : jf base T bx en w fp) (hs : w.heap.size ≤ w'.heap.size)
  (hw : ∀ b, b < w.heap.size → w'.heap[b]? = w.heap[b]?) : jf base T bx en w' fp where
 sole := h.sole
 lt c b hb := ⟨Nat.lt_of_lt_of_le (h.lt c b hb).1 hs, (h.lt c b hb).2⟩
 ent e he := by
  obtain ⟨bs, f, hb, hl, ho⟩ := h.ent e he
  exact ⟨bs, cz.fact_keep (fun b hb' => hw b (h.lt _ b (hb b hb')).1) f, hb, hl, ho⟩
 box x hx := by
  obtain ⟨e, b, n⟩ := h.box x hx
  have hlt : x.b < w.heap.size := by
   rcases Nat.lt_or_ge x.b w.heap.size with h' | h'
   ·exact h'
   ·rw [Array.getElem?_eq_none h'] at e; cases e
  exact ⟨by rw [hw _ hlt]; exact e, b, n⟩
 nd := h.nd
theorem jf.sub {base : Nat} {T : Nat → Prop} {bx bx' : List iq} {en en' : List cz} {w : World} {fp : Nat → Nat → Prop} (h : jf base T bx en w fp) (hb : bx'.Sublist bx) (he : ∀ e ∈ en', e ∈ en) : jf base T bx' en' w fp :=
 ⟨h.sole, h.lt, fun e m => h.ent e (he e m), fun x m => h.box x (hb.subset m), (hb.map _).nodup h.nd⟩
theorem jf.boxlt {base : Nat} {T : Nat → Prop} {bx : List iq} {en : List cz} {w : World} {fp : Nat → Nat → Prop} (h : jf base T bx en w fp) {x : iq} (hx : x ∈ bx) : x.b < w.heap.size := by
 have e := (h.box x hx).1
 rcases Nat.lt_or_ge x.b w.heap.size with h' | h'
 ·exact h'
 ·rw [Array.getElem?_eq_none h'] at e; cases e
structure St where
 tm : List (Nat × Value)
 bx : List iq
 en : List cz
structure Cx where
 n : Nat
 base : Nat
 T : Nat → Prop
 w0 : World
def rQ : List (Nat × Value) → Nat → Option Value
 | [], _ => none
 | (i, v) :: r, t => bif Nat.beq i t then some v else rQ r t
def St.ev (S : St) : Operand → Option Value
 | .tmp t => rQ S.tm t
 | .const v => some v
 | .func f => some (.func (.func f) #[] #[])
 | .global _ => none
def St.evs (S : St) : List Operand → Option (List Value)
 | [] => some []
 | x :: r => match S.ev x, S.evs r with
  | some v, some l => some (v :: l)
  | _, _ => none
def St.put (S : St) (d : Option Nat) (v : Value) : St := match d with
 | none => S
 | some d => ⟨(d, v) :: S.tm, S.bx, S.en⟩
structure Ab (n : Nat) (S : St) (a : Act) : Prop where
 size : a.tmps.size = n
 defers : a.defers = []
 tm : ∀ t v, rQ S.tm t = some v → a.tmps.getD t undef = v
structure vP (C : Cx) (S : St) (a : Act) (w : World) : Prop where
 tms : Ab C.n S a
 wl : NZ C.base C.T S.bx S.en w
 bel : vQ C.T C.base C.w0 w
 base : C.base = C.w0.heap.size
def df (C : Cx) (S : St) (X : Act → World → Prop) : Prop := ∀ a w, vP C S a w → X a w
theorem Ab.ev {n : Nat} {S : St} {a : Act} (h : Ab n S a) {x : Operand} {v : Value} (e : S.ev x = some v) : a.eval x = v := by
 cases x with
 | tmp t => exact h.tm t v e
 | const u => exact Option.some.inj e
 | func f => exact Option.some.inj e
 | global g => cases e
theorem Ab.evs {n : Nat} {S : St} {a : Act} (h : Ab n S a) : ∀ {l : List Operand} {vs : List Value}, S.evs l = some vs → l.map a.eval = vs
 | [], vs, e => by simp [St.evs] at e; simp [e]
 | x :: r, vs, e => by
  simp only [St.evs] at e
  cases h1 : S.ev x with
  | none => simp [h1] at e
  | some v => cases h2 : S.evs r with
   | none => simp [h1, h2] at e
   | some l => simp [h1, h2] at e; subst e; simp [h.ev h1, h.evs h2]
theorem Ab.put {n : Nat} {S : St} {a : Act} (h : Ab n S a) {d : Option Nat} {v : Value} (hd : d.all (Nat.blt · n) = true) : Ab n (S.put d v) (a.put d v) := by
 cases d with
 | none => exact h
 | some d =>
  have hd' : d < n := by simpa [Nat.blt_eq] using hd
  refine ⟨by simp [Act.put, h.size], h.defers, fun t u e => ?_⟩
  simp only [St.put, rQ] at e
  by_cases ht : d = t
  ·subst ht
   have hd2 : d < (a.tmps.setIfInBounds d v).size := by rw [Array.size_setIfInBounds, h.size]; exact hd'
   simp [Nat.beq_refl] at e
   subst e
   show (a.tmps.setIfInBounds d v).getD d undef = v
   rw [Array.getD_eq_getD_getElem?, Array.getElem?_eq_getElem hd2]
   simp
  ·have hb : Nat.beq d t = false := by
    cases h' : Nat.beq d t with
    | false => rfl
    | true => exact absurd (Nat.eq_of_beq_eq_true h') ht
   rw [hb] at e
   have := h.tm t u e
   simp only [Act.put]
   rw [← this, Array.getD_eq_getD_getElem?, Array.getD_eq_getD_getElem?, Array.getElem?_setIfInBounds_ne ht]
theorem Ab.same {n : Nat} {S S' : St} {a : Act} (h : Ab n S a) (e : S'.tm = S.tm) : Ab n S' a := ⟨h.size, h.defers, fun t v hv => h.tm t v (by rw [← e]; exact hv)⟩
theorem vP.put {C : Cx} {S : St} {a : Act} {w : World} (h : vP C S a w) {d : Option Nat} {v : Value} (hd : d.all (Nat.blt · C.n) = true) : vP C (S.put d v) (a.put d v) w :=
 ⟨h.tms.put hd, by cases d <;> exact h.wl, h.bel, h.base⟩
def St.want (S : St) (ops : Array Oper) (o : Oper) : Option Bool := match o.guard with
 | none => some true
 | some (j, b) => match (ops[j]?).bind (·.dst) with
  | some d => match rQ S.tm d with
   | some (.bool c) => some (c == b)
   | some (.tuple _) => some false
   | _ => none
  | none => none
theorem St.want_ok {n : Nat} {S : St} {a : Act} {ops : Array Oper} {o : Oper} {b : Bool} (h : Ab n S a) (hw : S.want ops o = some b) : Region.wanted o (yielded ops a.tmps) = b := by
 unfold St.want at hw
 unfold Region.wanted
 cases hg : o.guard with
 | none => rw [hg] at hw; simpa using hw
 | some jb =>
  obtain ⟨j, b'⟩ := jb
  rw [hg] at hw
  simp only at hw ⊢
  cases hd : (ops[j]?).bind (·.dst) with
  | none => rw [hd] at hw; cases hw
  | some d =>
   rw [hd] at hw
   simp only at hw
   cases hl : rQ S.tm d with
   | none => rw [hl] at hw; cases hw
   | some v =>
    rw [hl] at hw
    have hv := h.tm d v hl
    cases v with
    | bool c =>
     simp only [Option.some.injEq] at hw
     have hy : yielded ops a.tmps j = some c := by
      unfold yielded
      rw [hd]
      simp only [Option.bind_some]
      have hlt : d < a.tmps.size := by
       rcases Nat.lt_or_ge d a.tmps.size with h' | h'
       ·exact h'
       ·rw [Array.getD_eq_getD_getElem?, Array.getElem?_eq_none h'] at hv; simp [undef] at hv
      rw [Array.getD_eq_getD_getElem?, Array.getElem?_eq_getElem hlt] at hv
      rw [Array.getElem?_eq_getElem hlt]
      simp at hv
      rw [hv]
     rw [hy, ← hw]
     cases c <;> cases b' <;> rfl
    | tuple c =>
     simp only [Option.some.injEq] at hw
     have hy : yielded ops a.tmps j = none := by
      unfold yielded
      rw [hd]
      simp only [Option.bind_some]
      rcases Nat.lt_or_ge d a.tmps.size with h' | h'
      ·rw [Array.getD_eq_getD_getElem?, Array.getElem?_eq_getElem h'] at hv
       rw [Array.getElem?_eq_getElem h']
       simp at hv
       rw [hv]
      ·rw [Array.getElem?_eq_none h']
     rw [hy, ← hw]
     cases b' <;> rfl
    | _ => cases hw
def St.go (S : St) (n : Nat) (ops : Array Oper) (o : Oper) : Bool := match S.want ops o with
 | some true => o.dst.all (Nat.blt · n)
 | _ => false
def St.no (S : St) (n : Nat) (ops : Array Oper) (o : Oper) : Bool := match S.want ops o with
 | some false => o.dst.all (Nat.blt · n)
 | _ => false
theorem St.go_ok {n : Nat} {S : St} {a : Act} {ops : Array Oper} {o : Oper} (h : Ab n S a) (hg : S.go n ops o = true) : Region.wanted o (yielded ops a.tmps) = true ∧ o.dst.all (Nat.blt · n) = true := by
 unfold St.go at hg
 split at hg
 ·rename_i e; exact ⟨St.want_ok h e, hg⟩
 ·cases hg
theorem St.no_ok {n : Nat} {S : St} {a : Act} {ops : Array Oper} {o : Oper} (h : Ab n S a) (hg : S.no n ops o = true) : Region.wanted o (yielded ops a.tmps) = false ∧ o.dst.all (Nat.blt · n) = true := by
 unfold St.no at hg
 split at hg
 ·rename_i e; exact ⟨St.want_ok h e, hg⟩
 ·cases hg
def EV (P : Program) (C : Cx) (S : St) (bx : List iq) (en : List cz) (o : Oper) (v : Value) : Prop :=
 ∀ a w, Ab C.n S a → NZ C.base C.T bx en w → (execOp a.eval o).run P w = .ok (.value v) w
section
variable {P : Program} {C : Cx} {S : St} {ops : Array Oper} {f : FuncId} {R : Ending → World → Prop} {k : List Item} {o : Oper} {rest : List Oper} {Q : Exit → Act → World → Prop}
theorem sv {v : Value} (hv : EV P C S S.bx S.en o v) (hg : S.go C.n ops o = true) (h : df C (S.put o.dst v) (wpList P ops Q rest)) : df C S (wpList P ops Q (o :: rest)) := fun a w H => by
 obtain ⟨hw, hd⟩ := St.go_ok H.tms hg
 unfold wpList
 rw [if_pos hw]
 refine .inl ?_
 unfold Oper.wp
 rw [hv a w H.tms H.wl]
 exact h _ _ (H.put hd)
theorem sk (hg : S.no C.n ops o = true) (h : df C (S.put o.dst undef) (wpList P ops Q rest)) : df C S (wpList P ops Q (o :: rest)) := fun a w H => by
 obtain ⟨hw, hd⟩ := St.no_ok H.tms hg
 unfold wpList
 rw [if_neg (by rw [hw]; simp)]
 exact h _ _ (H.put hd)
theorem so (hg : S.go C.n ops o = true) (h : df C S (fun a w => o.wp P a w (wpList P ops Q rest) Q)) : df C S (wpList P ops Q (o :: rest)) := fun a w H => by
 obtain ⟨hw, hd⟩ := St.go_ok H.tms hg
 unfold wpList
 rw [if_pos hw]
 exact .inl (h a w H)
theorem re (h : df C S (GA P f R k)) : df C S (wpList P ops (Nr P f R k) []) := fun a w H => ⟨rfl, h a w H⟩
theorem rg {id : Nat} (h : df C S (wpList P ops (Nr P f R k) ops.toList)) : df C S (GA P f R (.code (.region id ops false) :: k)) := fun a w H => GA.region (h a w H)
theorem gs {x y : Code} (h : df C S (GA P f R (.code x :: .code y :: k))) : df C S (GA P f R (.code (.seq x y) :: k)) := fun a w H => GA.seq (h a w H)
theorem gk (h : df C S (GA P f R k)) : df C S (GA P f R (.code .skip :: k)) := fun a w H => GA.skip (h a w H)
theorem gb {id : Nat} {c : Code} (h : df C S (GA P f R (.code c :: .inBlock id :: k))) : df C S (GA P f R (.code (.block id c) :: k)) := fun a w H => GA.block (h a w H)
theorem ge {id : Nat} (h : df C S (GA P f R k)) : df C S (GA P f R (.inBlock id :: k)) := fun a w H => GA.inBlock (h a w H)
theorem gx {id : Nat} {k' : List Item} (hx : exitTo id k = some k') (h : df C S (GA P f R k')) : df C S (GA P f R (.code (.exit id) :: k)) := fun a w H => GA.exit hx (h a w H)
theorem gl {c : Code} (h : df C S (GA P f R (.code c :: .inLoop c :: k))) : df C S (GA P f R (.inLoop c :: k)) := fun a w H => GA.inLoop (h a w H)
theorem lp {c : Code} (J : List Item → Nat → Prop) (hl : ∀ n, J (.code c :: .inLoop c :: k) n → J (.inLoop c :: k) n) (hz : J (.code c :: .inLoop c :: k) 0)
  (hs : ∀ n, J (.inLoop c :: k) n → J (.code c :: .inLoop c :: k) (n + 1)) (h : (∀ n, J (.code c :: .inLoop c :: k) n) → df C S (GA P f R (.code c :: .inLoop c :: k))) :
  df C S (GA P f R (.code (.loop c) :: k)) := fun a w H =>
 GA.loop (h (fun n => Nat.rec hz (fun n ih => hs n (hl n ih)) n) a w H)
theorem gt {c : Operand} {x y : Code} {t : Bool} (hc : S.ev c = some (.bool t)) (ht : t = true) (h : df C S (GA P f R (.code x :: k))) : df C S (GA P f R (.code (.cond c x y) :: k)) :=
 fun a w H => GA.cond (t := t) (H.tms.ev hc) (by rw [ht]; exact h a w H)
theorem gf {c : Operand} {x y : Code} {t : Bool} (hc : S.ev c = some (.bool t)) (ht : t = false) (h : df C S (GA P f R (.code y :: k))) : df C S (GA P f R (.code (.cond c x y) :: k)) :=
 fun a w H => GA.cond (t := t) (H.tms.ev hc) (by rw [ht]; exact h a w H)
end
/-! ### Checks against the program's types -/
def vK (P : Program) (t s : Nat) : Bool := match P.info? t with | some i => Nat.beq i.size s | none => false
def XH (P : Program) (t f off : Nat) : Bool := match P.underlying t with
 | some (.struct fs) => match fs[f]? with
  | some x => Nat.beq x.offset off && (match P.info? x.type with | some i => !Nat.beq i.size 0 | none => false)
  | none => false
 | _ => false
def vy (P : Program) (t : Nat) : Option Nat → Bool
 | none => match P.underlying t with | some (.struct _) => false | some (.array _ _) => false | some _ => true | none => false
 | some s => (match P.underlying t with | some (.struct _) => true | some (.array _ _) => true | _ => false) && vK P t s
def D6 (cs : List Value) (o : Nat) : Option Nat → Option Value
 | none => cs[o]?
 | some s => bif Nat.ble (o + s) cs.length then some (.agg ((cs.drop o).take s).toArray) else none
theorem uA {P : Program} {t s : Nat} (h : vK P t s = true) (w : World) : (sizeOf t).run P w = .ok s w := by
 unfold vK at h
 cases hi : P.info? t with
 | none => simp [hi] at h
 | some i => rw [hi] at h; have := Nat.eq_of_beq_eq_true h; subst this; simp [sizeOf, typeInfo, hi]
theorem kO (b o n : Nat) : (⟨b, o, none⟩ : Addr).add n = ⟨b, o + n, none⟩ := by unfold Addr.add; split <;> simp_all
theorem JK {P : Program} {w : World} {b o t ty : Nat} {m : Option Nat} {cs : List Value} {fr : Nat × Nat} {v : Value} (hg : w.heap[b]? = some (.cells cs.toArray t fr))
  (hl : vy P ty m = true) (hv : D6 cs o m = some v) : (loadVar ty ⟨b, o, none⟩).run P w = .ok v w := by
 have hc : ∀ j u, cs[o + j]? = some u → w.cell? ((⟨b, o, none⟩ : Addr).add j) = some u := fun j u e => by
  rw [kO]; simp [World.cell?, hg, e]
 cases m with
 | none =>
  have ha : (isAgg ty).run P w = .ok false w := by
   unfold vy at hl
   cases hu : P.underlying ty with
   | none => simp [hu] at hl
   | some d => unfold isAgg; rw [Sem.run_bind, run_underlying hu w]; rw [hu] at hl; cases d <;> simp_all
  have h0 := hc 0 v (by simpa [D6] using hv)
  rw [show (⟨b, o, none⟩ : Addr).add 0 = ⟨b, o, none⟩ by simp [kO]] at h0
  simp [loadVar, Sem.run_bind, ha, h0]
 | some s =>
  simp only [vy, Bool.and_eq_true] at hl
  have ha : (isAgg ty).run P w = .ok true w := by
   cases hu : P.underlying ty with
   | none => simp [hu] at hl
   | some d => unfold isAgg; rw [Sem.run_bind, run_underlying hu w]; have := hl.1; rw [hu] at this; cases d <;> simp_all
  simp only [D6] at hv
  cases hb : Nat.ble (o + s) cs.length with
  | false => simp [hb] at hv
  | true =>
   simp only [hb, cond_true, Option.some.injEq] at hv
   have hle : o + s ≤ cs.length := Nat.le_of_ble_eq_true hb
   have hn : ((cs.drop o).take s).length = s := by simp; omega
   have hrun := run_loadCells_list (P := P) w ⟨b, o, none⟩ ((cs.drop o).take s) (fun j u e => by
    refine hc j u ?_
    rw [List.getElem?_take] at e
    split at e
    ·rwa [List.getElem?_drop] at e
    ·cases e)
   rw [hn] at hrun
   subst hv
   simp [loadVar, Sem.run_bind, ha, uA hl.2, hrun]
section ev
variable {P : Program} {C : Cx} {S : St} {bx : List iq} {en : List cz} {d : Option Nat} {ty : TypeId} {pos : String} {af : Array Edge} {g : Option (Nat × Bool)} {x y z : Operand} {v : Value} {t u : TypeId} {a b : Int} {k : IntKind}
theorem aA (h : S.ev x = some v) : EV P C S bx en ⟨d, .move x, ty, pos, af, g⟩ v := fun a w H _ => by simp [execOp, H.ev h]
theorem gE (h : S.ev x = some v) : EV P C S bx en ⟨d, .assign x, ty, pos, af, g⟩ v := fun a w H _ => by simp [execOp, H.ev h]
theorem adI {c : Bool} (hc : S.ev z = some (.bool c)) (hv : c = true) (h : S.ev x = some v) : EV P C S bx en ⟨d, .pick z x y, ty, pos, af, g⟩ v := fun a w H _ => by simp [execOp, H.ev h, H.ev hc, asBool, hv]
theorem aQ {c : Bool} (hh0 : (S.ev z = some (.bool c)) ∧ (c = true) ∧ (S.ev x = some v)) : EV P C S bx en ⟨d, .pick z x y, ty, pos, af, g⟩ v := adI hh0.1 hh0.2.1 hh0.2.2 
theorem adJ {c : Bool} (hc : S.ev z = some (.bool c)) (hv : c = false) (h : S.ev y = some v) : EV P C S bx en ⟨d, .pick z x y, ty, pos, af, g⟩ v := fun a w H _ => by simp [execOp, H.ev h, H.ev hc, asBool, hv]
theorem aI {c : Bool} (hh0 : (S.ev z = some (.bool c)) ∧ (c = false) ∧ (S.ev y = some v)) : EV P C S bx en ⟨d, .pick z x y, ty, pos, af, g⟩ v := adJ hh0.1 hh0.2.1 hh0.2.2 
theorem aaZ (hx : S.ev x = some (.int .i64 a)) (hy : S.ev y = some (.int .i64 b)) : EV P C S bx en ⟨d, .binOp .add t x y u, ty, pos, af, g⟩ (.int .i64 (wrap64 (a + b))) := fun _ w H _ => by
 simp [execOp, H.ev hx, H.ev hy, binOp, eqGuard, Op.intArith, IntWalk.i64_left]
theorem ba (hh0 : (S.ev x = some (.int .i64 a)) ∧ (S.ev y = some (.int .i64 b))) : EV P C S bx en ⟨d, .binOp .add t x y u, ty, pos, af, g⟩ (.int .i64 (wrap64 (a + b))) := aaZ hh0.1 hh0.2 
theorem aaR (hx : S.ev x = some (.int .i64 a)) (hy : S.ev y = some (.int .i64 b)) : EV P C S bx en ⟨d, .binOp .sub t x y u, ty, pos, af, g⟩ (.int .i64 (wrap64 (a - b))) := fun _ w H _ => by
 simp [execOp, H.ev hx, H.ev hy, binOp, eqGuard, Op.intArith, IntWalk.i64_left]
theorem co (hh0 : (S.ev x = some (.int .i64 a)) ∧ (S.ev y = some (.int .i64 b))) : EV P C S bx en ⟨d, .binOp .sub t x y u, ty, pos, af, g⟩ (.int .i64 (wrap64 (a - b))) := aaR hh0.1 hh0.2 
theorem uI (hx : S.ev x = some (.int .i64 a)) (hy : S.ev y = some (.int .i64 b)) : EV P C S bx en ⟨d, .binOp .mul t x y u, ty, pos, af, g⟩ (.int .i64 (wrap64 (a * b))) := fun _ w H _ => by
 simp [execOp, H.ev hx, H.ev hy, binOp, eqGuard, Op.intArith, IntWalk.i64_left]
theorem RX (hx : S.ev x = some (.int k a)) (hy : S.ev y = some (.int k b)) : EV P C S bx en ⟨d, .binOp .add t x y u, ty, pos, af, g⟩ (.int k (k.wrap (a + b))) := fun _ w H _ => by
 simp [execOp, H.ev hx, H.ev hy, binOp, eqGuard, Op.intArith]
theorem RW (hx : S.ev x = some (.int k a)) (hy : S.ev y = some (.int k b)) : EV P C S bx en ⟨d, .binOp .sub t x y u, ty, pos, af, g⟩ (.int k (k.wrap (a - b))) := fun _ w H _ => by
 simp [execOp, H.ev hx, H.ev hy, binOp, eqGuard, Op.intArith]
theorem aaS (hx : S.ev x = some (.int .i64 a)) (hy : S.ev y = some (.int .i64 b)) (h : b ≠ 0) : EV P C S bx en ⟨d, .binOp .quo t x y u, ty, pos, af, g⟩ (.int .i64 (wrap64 (a.tdiv b))) := fun _ w H _ => by
 simp [execOp, H.ev hx, H.ev hy, binOp, eqGuard, Op.intDiv, h, IntWalk.i64_left]
theorem YW (hx : S.ev x = some (.int k a)) (hy : S.ev y = some (.int k b)) (h : b ≠ 0) : EV P C S bx en ⟨d, .binOp .quo t x y u, ty, pos, af, g⟩ (.int k (k.wrap (a.tdiv b))) := fun _ w H _ => by
 simp [execOp, H.ev hx, H.ev hy, binOp, eqGuard, Op.intDiv, h]
theorem EZ (hx : S.ev x = some (.int k a)) (hy : S.ev y = some (.int k b)) (h : b ≠ 0) : EV P C S bx en ⟨d, .binOp .rem t x y u, ty, pos, af, g⟩ (.int k (a.tmod b)) := fun _ w H _ => by
 simp [execOp, H.ev hx, H.ev hy, binOp, eqGuard, Op.intDiv, h]
theorem aaU (hx : S.ev x = some (.int k a)) (hy : S.ev y = some (.int k b)) : EV P C S bx en ⟨d, .binOp .lss t x y u, ty, pos, af, g⟩ (.bool (decide (a < b))) := fun _ w H _ => by
 simp [execOp, H.ev hx, H.ev hy, binOp, eqGuard, Op.intCmp]
theorem bS (hh0 : (S.ev x = some (.int k a)) ∧ (S.ev y = some (.int k b))) : EV P C S bx en ⟨d, .binOp .lss t x y u, ty, pos, af, g⟩ (.bool (decide (a < b))) := aaU hh0.1 hh0.2 
theorem aaV (hx : S.ev x = some (.int k a)) (hy : S.ev y = some (.int k b)) : EV P C S bx en ⟨d, .binOp .leq t x y u, ty, pos, af, g⟩ (.bool (decide (a ≤ b))) := fun _ w H _ => by
 simp [execOp, H.ev hx, H.ev hy, binOp, eqGuard, Op.intCmp]
theorem jv (hh0 : (S.ev x = some (.int k a)) ∧ (S.ev y = some (.int k b))) : EV P C S bx en ⟨d, .binOp .leq t x y u, ty, pos, af, g⟩ (.bool (decide (a ≤ b))) := aaV hh0.1 hh0.2 
theorem aaW (hx : S.ev x = some (.int k a)) (hy : S.ev y = some (.int k b)) : EV P C S bx en ⟨d, .binOp .gtr t x y u, ty, pos, af, g⟩ (.bool (decide (a > b))) := fun _ w H _ => by
 simp [execOp, H.ev hx, H.ev hy, binOp, eqGuard, Op.intCmp]
theorem dV (hh0 : (S.ev x = some (.int k a)) ∧ (S.ev y = some (.int k b))) : EV P C S bx en ⟨d, .binOp .gtr t x y u, ty, pos, af, g⟩ (.bool (decide (a > b))) := aaW hh0.1 hh0.2 
theorem Ac (hx : S.ev x = some (.int k a)) (hy : S.ev y = some (.int k b)) : EV P C S bx en ⟨d, .binOp .geq t x y u, ty, pos, af, g⟩ (.bool (decide (a ≥ b))) := fun _ w H _ => by
 simp [execOp, H.ev hx, H.ev hy, binOp, eqGuard, Op.intCmp]
theorem aaX (hx : S.ev x = some (.int k a)) (hy : S.ev y = some (.int k b)) : EV P C S bx en ⟨d, .binOp .eql t x y u, ty, pos, af, g⟩ (.bool (decide (a = b))) := fun _ w H _ => by
 simp [execOp, H.ev hx, H.ev hy, binOp, eqGuard, Op.intCmp]; rfl
theorem bZ (hh0 : (S.ev x = some (.int k a)) ∧ (S.ev y = some (.int k b))) : EV P C S bx en ⟨d, .binOp .eql t x y u, ty, pos, af, g⟩ (.bool (decide (a = b))) := aaX hh0.1 hh0.2 
theorem lK (hx : S.ev x = some (.int k a)) (hy : S.ev y = some (.int k b)) : EV P C S bx en ⟨d, .binOp .neq t x y u, ty, pos, af, g⟩ (.bool (!decide (a = b))) := fun _ w H _ => by
 simp [execOp, H.ev hx, H.ev hy, binOp, eqGuard, Op.intCmp]; rfl
def LA (P : Program) (t : Nat) : Bool := match P.underlying t with | some .bool => true | _ => false
def Df (P : Program) (t : Nat) : Bool := match P.underlying t with | some .string => true | _ => false
theorem Od (h : LA P t = true) : P.underlying t = some .bool := by unfold LA at h; split at h <;> simp_all
theorem oT (h : Df P t = true) : P.underlying t = some .string := by unfold Df at h; split at h <;> simp_all
theorem aaY {a b : Bool} (hx : S.ev x = some (.bool a)) (hy : S.ev y = some (.bool b)) (h : LA P t = true := by kernel_rfl) : EV P C S bx en ⟨d, .binOp .eql t x y u, ty, pos, af, g⟩ (.bool (a == b)) := fun _ w H _ => by
 have e : (Op.equal t (.bool a) (.bool b)).run P w = .ok (a == b) w := run_equalIn_bool' w 9999 t a b (Od h)
 simp [execOp, H.ev hx, H.ev hy, binOp, eqGuard, e]
theorem uH {a b : Bool} (hx : S.ev x = some (.bool a)) (hy : S.ev y = some (.bool b)) (h : LA P t = true := by kernel_rfl) : EV P C S bx en ⟨d, .binOp .neq t x y u, ty, pos, af, g⟩ (.bool (!(a == b))) := fun _ w H _ => by
 have e : (Op.equal t (.bool a) (.bool b)).run P w = .ok (a == b) w := run_equalIn_bool' w 9999 t a b (Od h)
 simp [execOp, H.ev hx, H.ev hy, binOp, eqGuard, e]
theorem eE {c : Bool} (hx : S.ev x = some (.bool c)) : EV P C S bx en ⟨d, .unOp .not t x, ty, pos, af, g⟩ (.bool (!c)) := fun _ w H _ => by simp [execOp, H.ev hx, Op.unary]
theorem Th (hx : S.ev x = some (.int .i64 a)) : EV P C S bx en ⟨d, .unOp .neg t x, ty, pos, af, g⟩ (.int .i64 (wrap64 (-a))) := fun _ w H _ => by
 simp [execOp, H.ev hx, Op.unary, Op.intArith, IntWalk.i64_left, Int.zero_sub]
theorem aaT (hx : S.ev x = some (.int k a)) : EV P C S bx en ⟨d, .unOp .neg t x, ty, pos, af, g⟩ (.int k (k.wrap (-a))) := fun _ w H _ => by
 simp [execOp, H.ev hx, Op.unary, Op.intArith, Int.zero_sub]
theorem adN {vs : Array Value} {i : Nat} (hx : S.ev x = some (.tuple vs)) (hv : vs[i]? = some v) : EV P C S bx en ⟨d, .extract x i, ty, pos, af, g⟩ v := fun _ w H _ => by
 simp [execOp, H.ev hx, Instr.extract, hv]
theorem bp {vs : Array Value} {i : Nat} (hh0 : (S.ev x = some (.tuple vs)) ∧ (vs[i]? = some v)) : EV P C S bx en ⟨d, .extract x i, ty, pos, af, g⟩ v := adN hh0.1 hh0.2 
theorem aq {A : Addr} {fi : Nat} (off : Nat) (hx : S.ev x = some (.pointer (some A))) (h : XH P t fi off = true := by kernel_rfl) : EV P C S bx en ⟨d, .fieldAddr t x fi, ty, pos, af, g⟩ (.pointer (some (A.add off))) := fun _ w H _ => by
 unfold XH at h
 cases hu : P.underlying t with
 | none => simp [hu] at h
 | some dd => cases dd with
  | struct fs =>
   rw [hu] at h
   simp only at h
   cases hf : fs[fi]? with
   | none => simp [hf] at h
   | some fld =>
    rw [hf] at h
    simp only [Bool.and_eq_true] at h
    have ho := Nat.eq_of_beq_eq_true h.1
    cases hi : P.info? fld.type with
    | none => simp [hi] at h
    | some i =>
     have hs : i.size ≠ 0 := fun e => by have := h.2; rw [hi] at this; simp [e] at this
     simp [execOp, H.ev hx, Instr.fieldAt, run_underlying hu, hf, Instr.sureAddr, fieldPlace, sizeOf, typeInfo, hi, hs, ho]
  | _ => simp [hu] at h
theorem nE {A : Addr} (hx : S.ev x = some (.pointer (some A))) : EV P C S bx en ⟨d, .nilCheck x, ty, pos, af, g⟩ (.pointer (some A)) := fun _ w H _ => by simp [execOp, H.ev hx]
theorem adK {b o tt : Nat} {cs : List Value} (i : Nat) (m : Option Nat) (hx : S.ev x = some (.pointer (some ⟨b, o, none⟩))) (hb : bx[i]? = some ⟨b, tt, cs⟩) (hv : D6 cs o m = some v) (h : vy P t m = true := by kernel_rfl) :
  EV P C S bx en ⟨d, .load t x, ty, pos, af, g⟩ v := fun _ w H ⟨fp, W⟩ => by
 have hg := (W.box _ (List.mem_of_getElem? hb)).1
 have := JK (P := P) hg h hv
 simp [execOp, H.ev hx, Instr.loadAt, Instr.sureAddr, this]
theorem am {b o tt : Nat} {cs : List Value} (i : Nat) (m : Option Nat) (hh0 : (S.ev x = some (.pointer (some ⟨b, o, none⟩))) ∧ (bx[i]? = some ⟨b, tt, cs⟩) ∧ (D6 cs o m = some v)) (h : vy P t m = true := by kernel_rfl) :
  EV P C S bx en ⟨d, .load t x, ty, pos, af, g⟩ v := adK i m hh0.1 hh0.2.1 hh0.2.2 (h := h)
end ev
def Z0 (P : Program) (t : Nat) : Bool := match P.underlying t with | some (.slice _) => true | _ => false
section ev2
variable {P : Program} {C : Cx} {S : St} {bx : List iq} {en : List cz} {d : Option Nat} {ty : TypeId} {pos : String} {af : Array Edge} {g : Option (Nat × Bool)} {x y z : Operand} {v : Value} {t u : TypeId} {a b : Int} {k : IntKind}
theorem bG {A : Option Addr} {n c : Nat} (hx : S.ev x = some (.slice A n c)) (h : Z0 P t = true := by kernel_rfl) : EV P C S bx en ⟨d, .call ⟨.builtin .len, #[x], #[t]⟩, ty, pos, af, g⟩ (.int .i64 (n : Int)) := fun _ w H _ => by
 unfold Z0 at h
 cases hu : P.underlying t with
 | none => simp [hu] at h
 | some dd => cases dd with
  | slice e => simp [execOp, resolve, invoke, builtin, H.ev hx, Builtin.len_, run_underlying hu, goInt]
  | _ => simp [hu] at h
theorem sf {s : ByteArray} (hx : S.ev x = some (.string s)) (h : Df P t = true := by kernel_rfl) : EV P C S bx en ⟨d, .call ⟨.builtin .len, #[x], #[t]⟩, ty, pos, af, g⟩ (.int .i64 (s.size : Int)) := fun _ w H _ => by
 simp [execOp, resolve, invoke, builtin, H.ev hx, Builtin.len_, run_underlying (oT h), goInt]
theorem VL {p q : ByteArray} (hx : S.ev x = some (.string p)) (hy : S.ev y = some (.string q)) : EV P C S bx en ⟨d, .binOp .eql t x y u, ty, pos, af, g⟩ (.bool (decide (p.toList = q.toList))) := fun _ w H _ => by
 simp [execOp, H.ev hx, H.ev hy, binOp, eqGuard, Op.stringOp]; by_cases hpq : p.toList = q.toList <;> simp [hpq]
theorem nh {p q : ByteArray} (hx : S.ev x = some (.string p)) (hy : S.ev y = some (.string q)) : EV P C S bx en ⟨d, .binOp .neq t x y u, ty, pos, af, g⟩ (.bool (!decide (p.toList = q.toList))) := fun _ w H _ => by
 simp [execOp, H.ev hx, H.ev hy, binOp, eqGuard, Op.stringOp]; by_cases hpq : p.toList = q.toList <;> simp [hpq]
theorem fK {p q : ByteArray} (hx : S.ev x = some (.string p)) (hy : S.ev y = some (.string q)) (h : p.size + q.size ≤ 9223372036854775807) : EV P C S bx en ⟨d, .binOp .add t x y u, ty, pos, af, g⟩ (.string (p ++ q)) := fun _ w H _ => by
 simp [execOp, H.ev hx, H.ev hy, binOp, eqGuard, run_string_add_sum w p q h]
end ev2
/-! ### A block of the call's own is made or written -/
theorem qx (w : World) (o : Obj) (b : Nat) : (w.alloc o).heap[b]? = if b = w.heap.size then some o else w.heap[b]? := by
 show (w.heap.push o)[b]? = _
 rw [Array.getElem?_push]
theorem jf.alloc {base : Nat} {T : Nat → Prop} {bx : List iq} {en : List cz} {w : World} {fp : Nat → Nat → Prop} (h : jf base T bx en w fp) (o : Obj) : jf base T bx en (w.alloc o) fp :=
 h.ext (by simp) fun b hb => by rw [qx, if_neg (by omega)]
theorem jf.box_new {base : Nat} {T : Nat → Prop} {bx : List iq} {en : List cz} {w : World} {fp : Nat → Nat → Prop} (h : jf base T bx en w fp) (hb : base ≤ w.heap.size) (cs : List Value) (t : Nat) :
  jf base T (bx ++ [⟨w.heap.size, t, cs⟩]) en (w.alloc (.cells cs.toArray t)) fp := by
 have h' := h.alloc (.cells cs.toArray t)
 refine ⟨h'.sole, h'.lt, h'.ent, fun x hx => ?_, ?_⟩
 ·rcases List.mem_append.1 hx with hx | hx
  ·exact h'.box x hx
  ·rw [List.mem_singleton] at hx; subst hx
   exact ⟨by rw [qx, if_pos rfl], .inl hb, fun c hc => Nat.lt_irrefl _ (h.lt c _ hc).1⟩
 ·rw [List.map_append, List.nodup_append]
  refine ⟨h.nd, by simp, fun a ha b hb' => ?_⟩
  obtain ⟨x, hx, rfl⟩ := List.mem_map.1 ha
  have := h.boxlt hx
  simp at hb'; omega
theorem vQ.write {T : Nat → Prop} {B : Nat} {w0 w w' : World} {g : Nat} (h : vQ T B w0 w) (hg : B ≤ g ∨ T g) (hos : w'.os = w.os) (ht : w'.tape = w.tape) (ho : w'.output = w.output) (hs : w.heap.size ≤ w'.heap.size)
  (hb : ∀ k, k < w.heap.size → k ≠ g → w'.heap[k]? = w.heap[k]?) (hB : B ≤ w.heap.size) : vQ T B w0 w' :=
 h.trans ⟨hos, ht, ho, hs, fun k hk hT => hb k (by omega) (fun e => by subst e; rcases hg with hg | hg; omega; exact hT hg)⟩
theorem vP.size {C : Cx} {S : St} {a : Act} {w : World} (H : vP C S a w) : C.base ≤ w.heap.size := by rw [H.base]; exact H.bel.size
theorem vQ.alloc {T : Nat → Prop} {B : Nat} {w0 w : World} (h : vQ T B w0 w) (hB : B ≤ w.heap.size) (o : Obj) : vQ T B w0 (w.alloc o) :=
 h.trans ⟨rfl, rfl, rfl, by simp, fun k hk _ => by rw [qx, if_neg (by omega)]⟩
theorem jf.box_set {base : Nat} {T : Nat → Prop} {bx : List iq} {en : List cz} {w : World} {fp : Nat → Nat → Prop} (h : jf base T bx en w fp) {i : Nat} {x : iq} (hx : bx[i]? = some x) (cs : List Value) (w' : World)
  (hs : w'.heap.size = w.heap.size) (hb : w'.heap[x.b]? = some (.cells cs.toArray x.t (0, 0))) (ho : ∀ k, k ≠ x.b → w'.heap[k]? = w.heap[k]?) : jf base T (bx.set i ⟨x.b, x.t, cs⟩) en w' fp := by
 have hm := List.mem_of_getElem? hx
 have hi : i < bx.length := by
  rcases Nat.lt_or_ge i bx.length with h' | h'
  ·exact h'
  ·rw [List.getElem?_eq_none h'] at hx; cases hx
 have hmap : (bx.set i ⟨x.b, x.t, cs⟩).map (·.b) = bx.map (·.b) := by
  rw [List.map_set]
  apply List.ext_getElem?
  intro j
  rw [List.getElem?_set]
  split
  ·rename_i e; subst e; simp [hi, hx]
   rw [List.getElem?_eq_getElem hi] at hx
   exact (congrArg iq.b (Option.some.inj hx)).symm
  ·rfl
 refine ⟨h.sole, fun c b hb' => by rw [hs]; exact h.lt c b hb', fun e he => ?_, fun y hy => ?_, by rw [hmap]; exact h.nd⟩
 ·obtain ⟨bs, f, hb', hl, ho'⟩ := h.ent e he
  exact ⟨bs, cz.fact_keep (fun b hbb => ho b (fun e' => by subst e'; exact (h.box x hm).2.2 _ (hb' _ hbb))) f, hb', hl, ho'⟩
 ·rcases List.getElem?_of_mem hy with ⟨j, hj⟩
  rw [List.getElem?_set] at hj
  split at hj
  ·rename_i e
   simp [hi] at hj; subst hj
   exact ⟨hb, (h.box x hm).2⟩
  ·rename_i hne
   have hyb : y.b ≠ x.b := by
    intro e
    have h1 : (bx.map (·.b))[j]? = some y.b := by simp [hj]
    have h2 : (bx.map (·.b))[i]? = some x.b := by simp [hx]
    rw [e] at h1
    have hj' : j < (bx.map (·.b)).length := by
     rcases Nat.lt_or_ge j (bx.map (·.b)).length with h' | h'
     ·exact h'
     ·rw [List.getElem?_eq_none h'] at h1; cases h1
    exact hne ((List.getElem?_inj (by simpa using hi) h.nd).1 (h2.trans h1.symm))
   obtain ⟨e1, e2, e3⟩ := h.box y (List.mem_of_getElem? hj)
   exact ⟨by rw [ho _ hyb]; exact e1, e2, e3⟩
def Tr (P : Program) (t : Nat) : Option (List Value) := (P.info? t).bind fun i => i.zero.map fun z => z.cells.toList
def Ro (cs : List Value) (o : Nat) (v : Value) : Option (List Value) :=
 bif Nat.ble (o + v.cells.toList.length) cs.length && v.cells.toList.all (·.oneCell') then some (cs.take o ++ (v.cells.toList ++ cs.drop (o + v.cells.toList.length))) else none
section
variable {P : Program} {C : Cx} {S : St} {K : Act → World → Prop} {Q : Exit → Act → World → Prop} {d : Option Nat} {ty : TypeId} {pos : String} {af : Array Edge} {g : Option (Nat × Bool)} {x y z : Operand} {v : Value} {t u : TypeId}
theorem dk {cs : List Value} (hz : Tr P t = some cs) (hd : d.all (Nat.blt · C.n) = true) (h : ∀ b, df C (St.put ⟨S.tm, S.bx ++ [⟨b, t, cs⟩], S.en⟩ d (.pointer (some ⟨b, 0, none⟩))) K) :
  df C S (fun a w => Oper.wp P ⟨d, .alloc t, ty, pos, af, g⟩ a w K Q) := fun a w H => by
 obtain ⟨fp, W⟩ := H.wl
 unfold Tr at hz
 cases hi : P.info? t with
 | none => simp [hi] at hz
 | some i =>
  cases hzz : i.zero with
  | none => simp [hi, hzz] at hz
  | some z =>
   simp [hi, hzz] at hz
   have hr : (execOp a.eval ⟨d, .alloc t, ty, pos, af, g⟩).run P w = .ok (.value (.pointer (some ⟨w.heap.size, 0, none⟩))) (w.alloc (.cells z.cells t)) := by
    simp [execOp, Instr.alloc, zeroValue, typeInfo, hi, hzz, newVar, newRow]
   unfold Oper.wp
   rw [hr]
   have hW := W.box_new H.size cs t
   rw [show cs.toArray = z.cells by rw [← hz]] at hW
   exact h w.heap.size _ _ (vP.put (S := ⟨S.tm, S.bx ++ [⟨w.heap.size, t, cs⟩], S.en⟩) ⟨H.tms.same rfl, ⟨fp, hW⟩, H.bel.alloc H.size _, H.base⟩ hd)
theorem ZQ {cs : List Value} (hx : S.ev x = some v) (hc : v.cells.toList = cs) (hd : d.all (Nat.blt · C.n) = true) (h : ∀ b, df C (St.put ⟨S.tm, S.bx ++ [⟨b, t, cs⟩], S.en⟩ d (.pointer (some ⟨b, 0, none⟩))) K) :
  df C S (fun a w => Oper.wp P ⟨d, .box t x, ty, pos, af, g⟩ a w K Q) := fun a w H => by
 obtain ⟨fp, W⟩ := H.wl
 have hr : (execOp a.eval ⟨d, .box t x, ty, pos, af, g⟩).run P w = .ok (.value (.pointer (some ⟨w.heap.size, 0, none⟩))) (w.alloc (.cells v.cells t)) := by
  simp [execOp, Instr.box, H.tms.ev hx, newVar, newRow]
 unfold Oper.wp
 rw [hr]
 have hW := W.box_new H.size cs t
 rw [show cs.toArray = v.cells by rw [← hc]] at hW
 exact h w.heap.size _ _ (vP.put (S := ⟨S.tm, S.bx ++ [⟨w.heap.size, t, cs⟩], S.en⟩) ⟨H.tms.same rfl, ⟨fp, hW⟩, H.bel.alloc H.size _, H.base⟩ hd)
theorem gU {cs : List Value} (hh0 : (S.ev x = some v) ∧ (v.cells.toList = cs) ∧ (d.all (Nat.blt · C.n) = true)) (h : ∀ b, df C (St.put ⟨S.tm, S.bx ++ [⟨b, t, cs⟩], S.en⟩ d (.pointer (some ⟨b, 0, none⟩))) K) :
  df C S (fun a w => Oper.wp P ⟨d, .box t x, ty, pos, af, g⟩ a w K Q) := ZQ hh0.1 hh0.2.1 hh0.2.2 h 
theorem adl {b o tt s : Nat} {cs cs' : List Value} (i : Nat) (hx : S.ev x = some (.pointer (some ⟨b, o, none⟩))) (hy : S.ev y = some v) (hb : S.bx[i]? = some ⟨b, tt, cs⟩) (hv : Ro cs o v = some cs') (hs : v.cells.toList.length = s) (hd : d = none)
  (h : df C ⟨S.tm, S.bx.set i ⟨b, tt, cs'⟩, S.en⟩ K) (hsz : vK P t s = true := by kernel_rfl) : df C S (fun a w => Oper.wp P ⟨d, .store t x y, ty, pos, af, g⟩ a w K Q) := fun a w H => by
 obtain ⟨fp, W⟩ := H.wl
 subst hd
 unfold Ro at hv
 cases hc : (Nat.ble (o + v.cells.toList.length) cs.length && v.cells.toList.all (·.oneCell')) with
 | false => rw [hc] at hv; cases hv
 | true =>
  rw [hc] at hv
  simp only [cond_true, Option.some.injEq] at hv
  rw [Bool.and_eq_true] at hc
  have hle := Nat.le_of_ble_eq_true hc.1
  have hg := (W.box _ (List.mem_of_getElem? hb)).1
  have h1 : ∀ u ∈ v.cells.toList, u.oneCell' = true := List.all_eq_true.1 hc.2
  have hst := run_storeCells_at P b o tt v.cells.toList 0 cs.toArray w hg (by simpa using hle) h1
  simp only [Nat.add_zero] at hst
  have hr : (execOp a.eval ⟨none, .store t x y, ty, pos, af, g⟩).run P w = .ok .skip (w.setRow b cs'.toArray) := by
   have hsz' := uA hsz w
   have hvs : v.cells.size = s := by rw [← hs]; simp
   simp [execOp, Instr.storeAt, Instr.sureAddr, H.tms.ev hx, H.tms.ev hy, storeVar, hsz', hvs, hst]
   rw [← hv]; simp [hvs]
  unfold Oper.wp
  rw [hr]
  have hrow : (w.setRow b cs'.toArray).heap[b]? = some (.cells cs'.toArray tt (0, 0)) := setRow_heap w b cs.toArray _ tt _ hg
  have hoth : ∀ k, k ≠ b → (w.setRow b cs'.toArray).heap[k]? = w.heap[k]? := fun k hk => setRow_other w b k _ hk
  have hW := W.box_set hb cs' (w.setRow b cs'.toArray) (by simp) hrow hoth
  exact h _ _ ⟨H.tms.same rfl, ⟨fp, hW⟩, H.bel.write (W.box _ (List.mem_of_getElem? hb)).2.1 rfl rfl rfl (by simp) (fun k _ hk => hoth k hk) H.size, H.base⟩
theorem aD {b o tt s : Nat} {cs cs' : List Value} (i : Nat) (hh0 : (S.ev x = some (.pointer (some ⟨b, o, none⟩))) ∧ (S.ev y = some v) ∧ (S.bx[i]? = some ⟨b, tt, cs⟩) ∧ (Ro cs o v = some cs') ∧ (v.cells.toList.length = s) ∧ (d = none)) (h : df C ⟨S.tm, S.bx.set i ⟨b, tt, cs'⟩, S.en⟩ K) (hsz : vK P t s = true := by kernel_rfl) : df C S (fun a w => Oper.wp P ⟨d, .store t x y, ty, pos, af, g⟩ a w K Q) := adl i hh0.1 hh0.2.1 hh0.2.2.1 hh0.2.2.2.1 hh0.2.2.2.2.1 hh0.2.2.2.2.2 h (hsz := hsz)
end
/-! ### Entries, weakened -/
structure Pk where
 i : Nat
 o : Nat
 c : Nat
 l : Bool
def pj (en : List cz) : List Pk → Option (List cz)
 | [] => some []
 | p :: r => match en[p.i]?, pj en r with
  | some e, some l => bif Nat.ble p.o e.o && (!p.l || e.lin) && (Nat.beq p.o 0 || !Nat.beq p.c 0) && (Nat.beq p.c 0 || !Nat.beq e.cls 0) then some (e.re p.o p.c p.l :: l) else none
  | _, _ => none
def iL (en : List cz) (i : Nat) : Nat := match en[i]? with | some e => e.cls | none => 0
def Dk (en : List cz) (ps : List Pk) : Bool := ps.all fun p => ps.all fun q => !Nat.beq (iL en p.i) (iL en q.i) || Nat.beq p.c q.c
theorem DZ {en : List cz} : ∀ {ps : List Pk} {en' : List cz}, pj en ps = some en' → ∀ e' ∈ en', ∃ p ∈ ps, ∃ e, en[p.i]? = some e ∧ e' = e.re p.o p.c p.l ∧ p.o ≤ e.o ∧ (p.l = true → e.lin = true) ∧ (p.o ≠ 0 → p.c ≠ 0) ∧ (p.c ≠ 0 → e.cls ≠ 0)
 | [], _, h, e', he => by simp [pj] at h; subst h; cases he
 | p :: r, _, h, e', he => by
  simp only [pj] at h
  cases h1 : en[p.i]? with
  | none => simp [h1] at h
  | some e =>
   cases h2 : pj en r with
   | none => simp [h1, h2] at h
   | some l =>
    simp only [h1, h2] at h
    cases hc : (Nat.ble p.o e.o && (!p.l || e.lin) && (Nat.beq p.o 0 || !Nat.beq p.c 0) && (Nat.beq p.c 0 || !Nat.beq e.cls 0)) with
    | false => simp [hc] at h
    | true =>
     simp only [hc, cond_true, Option.some.injEq] at h
     subst h
     rcases List.mem_cons.1 he with he | he
     ·subst he
      simp only [Bool.and_eq_true, Bool.or_eq_true, Bool.not_eq_true'] at hc
      obtain ⟨⟨⟨ha, hb⟩, hcc⟩, hd⟩ := hc
      refine ⟨p, List.mem_cons_self .., e, h1, rfl, Nat.le_of_ble_eq_true ha, fun hl => by rcases hb with hb | hb; rw [hl] at hb; cases hb; exact hb, fun ho hz => ?_, fun hz hz' => ?_⟩
      ·rcases hcc with hcc | hcc
       ·exact ho (Nat.eq_of_beq_eq_true hcc)
       ·rw [hz] at hcc; simp at hcc
      ·rcases hd with hd | hd
       ·exact hz (Nat.eq_of_beq_eq_true hd)
       ·rw [hz'] at hd; simp at hd
     ·obtain ⟨q, hq, rest⟩ := DZ h2 e' he
      exact ⟨q, List.mem_cons_of_mem _ hq, rest⟩
theorem WR {en : List cz} {ps : List Pk} (h : Dk en ps = true) {p q : Pk} (hp : p ∈ ps) (hq : q ∈ ps) (e : iL en p.i = iL en q.i) : p.c = q.c := by
 have := List.all_eq_true.1 (List.all_eq_true.1 h p hp) q hq
 rw [Bool.or_eq_true] at this
 rcases this with this | this
 ·rw [e] at this; simp at this
 ·exact Nat.eq_of_beq_eq_true this
theorem jf.pick {base : Nat} {T : Nat → Prop} {bx : List iq} {en en' : List cz} {w : World} {fp : Nat → Nat → Prop} (h : jf base T bx en w fp) {ps : List Pk} (he : pj en ps = some en') (hc : Dk en ps = true) :
  jf base T bx en' w (fun c b => ∃ p ∈ ps, (∃ e, en[p.i]? = some e) ∧ p.c = c ∧ (p.c ≠ 0 → iL en p.i ≠ 0) ∧ fp (iL en p.i) b) where
 sole c c' b hb hb' := by
  obtain ⟨p, hp, _, rfl, _, h1⟩ := hb
  obtain ⟨q, hq, _, rfl, _, h2⟩ := hb'
  exact WR hc hp hq (h.sole _ _ b h1 h2)
 lt c b hb := by
  obtain ⟨p, hp, _, rfl, hz, h1⟩ := hb
  exact ⟨(h.lt _ b h1).1, fun hn => (h.lt _ b h1).2 (hz hn)⟩
 ent e' hm := by
  obtain ⟨p, hp, e, hi, rfl, ho, hl, hoc, hcz⟩ := DZ he e' hm
  obtain ⟨bs, f, hb, hn, _⟩ := h.ent e (List.mem_of_getElem? hi)
  have D7 : iL en p.i = e.cls := by simp [iL, hi]
  have hrc : (e.re p.o p.c p.l).cls = p.c := by cases e <;> rfl
  refine ⟨bs, cz.fact_re ho f, fun b hbb => ⟨p, hp, ⟨e, hi⟩, hrc.symm ▸ rfl, fun hn => by rw [D7]; exact hcz hn, by rw [D7]; exact hb b hbb⟩, fun hlin => ?_, fun hoo => ?_⟩
  ·have : p.l = true ∨ e.lin = false := by cases e <;> simp_all [cz.re, cz.lin]
   rcases this with this | this
   ·exact hn (hl this)
   ·cases e <;> simp_all [cz.re, cz.lin]
  ·rw [hrc]
   have : (e.re p.o p.c p.l).o = p.o := by cases e <;> rfl
   rw [this] at hoo
   exact hoc hoo
 box x hx := by
  obtain ⟨e1, e2, e3⟩ := h.box x hx
  exact ⟨e1, e2, fun c ⟨p, _, _, _, _, hb⟩ => e3 _ hb⟩
 nd := h.nd
def AO (tm : List (Nat × Value)) : List Nat → Option (List (Nat × Value))
 | [] => some []
 | t :: r => match rQ tm t, AO tm r with
  | some v, some l => some ((t, v) :: l)
  | _, _ => none
theorem J5 {tm : List (Nat × Value)} : ∀ {ts : List Nat} {l : List (Nat × Value)}, AO tm ts = some l → ∀ t v, rQ l t = some v → rQ tm t = some v
 | [], l, h, t, v, e => by simp [AO] at h; subst h; cases e
 | s :: r, l, h, t, v, e => by
  simp only [AO] at h
  cases h1 : rQ tm s with
  | none => simp [h1] at h
  | some u =>
   cases h2 : AO tm r with
   | none => simp [h1, h2] at h
   | some l' =>
    simp [h1, h2] at h; subst h
    simp only [rQ] at e
    cases hb : Nat.beq s t with
    | true => rw [hb] at e; simp at e; subst e; rw [← Nat.eq_of_beq_eq_true hb]; exact h1
    | false => rw [hb] at e; exact J5 h2 t v e
def jp (bx : List iq) : List Nat → Option (List iq)
 | [] => some []
 | i :: r => match bx[i]?, jp bx r with
  | some x, some l => some (x :: l)
  | _, _ => none
theorem nf {bx : List iq} : ∀ {is : List Nat} {l : List iq}, jp bx is = some l → ∀ x ∈ l, ∃ i ∈ is, bx[i]? = some x
 | [], l, h, x, hx => by simp [jp] at h; subst h; cases hx
 | i :: r, l, h, x, hx => by
  simp only [jp] at h
  cases h1 : bx[i]? with
  | none => simp [h1] at h
  | some y =>
   cases h2 : jp bx r with
   | none => simp [h1, h2] at h
   | some l' =>
    simp [h1, h2] at h; subst h
    rcases List.mem_cons.1 hx with hx | hx
    ·subst hx; exact ⟨i, List.mem_cons_self .., h1⟩
    ·obtain ⟨j, hj, e⟩ := nf h2 x hx; exact ⟨j, List.mem_cons_of_mem _ hj, e⟩
theorem Gv {bx : List iq} (hb : (bx.map (·.b)).Nodup) : ∀ {is : List Nat} {l : List iq}, jp bx is = some l → is.Nodup → (l.map (·.b)).Nodup
 | [], l, h, _ => by simp [jp] at h; subst h; simp
 | i :: r, l, h, hn => by
  simp only [jp] at h
  cases h1 : bx[i]? with
  | none => simp [h1] at h
  | some y =>
   cases h2 : jp bx r with
   | none => simp [h1, h2] at h
   | some l' =>
    simp [h1, h2] at h; subst h
    rw [List.nodup_cons] at hn
    rw [List.map_cons, List.nodup_cons]
    refine ⟨fun hm => ?_, Gv hb h2 hn.2⟩
    obtain ⟨z, hz, e⟩ := List.mem_map.1 hm
    obtain ⟨j, hj, ej⟩ := nf h2 z hz
    have hi : i < (bx.map (·.b)).length := by
     rcases Nat.lt_or_ge i bx.length with h' | h'
     ·simpa using h'
     ·rw [List.getElem?_eq_none h'] at h1; cases h1
    have := (List.getElem?_inj (j := j) hi hb).1 (by simp [h1, ej, e])
    subst this
    exact hn.1 hj
def kd : List Nat → Bool
 | [] => true
 | i :: r => r.all (fun j => !Nat.beq i j) && kd r
theorem zP : ∀ {l : List Nat}, kd l = true → l.Nodup
 | [], _ => List.nodup_nil
 | i :: r, h => by
  simp only [kd, Bool.and_eq_true] at h
  refine List.nodup_cons.2 ⟨fun hm => ?_, zP h.2⟩
  have := List.all_eq_true.1 h.1 i hm
  simp at this
theorem jf.boxes {base : Nat} {T : Nat → Prop} {bx bx' : List iq} {en : List cz} {w : World} {fp : Nat → Nat → Prop} (h : jf base T bx en w fp) {is : List Nat} (hb : jp bx is = some bx') (hn : kd is = true) : jf base T bx' en w fp :=
 ⟨h.sole, h.lt, h.ent, fun x hx => by obtain ⟨i, _, e⟩ := nf hb x hx; exact h.box x (List.mem_of_getElem? e), Gv h.nd hb (zP hn)⟩
theorem wk {C : Cx} {S : St} {X : Act → World → Prop} (ts is : List Nat) (ps : List Pk) {tm : List (Nat × Value)} {bx : List iq} {en : List cz} (h : df C ⟨tm, bx, en⟩ X)
  (ht : AO S.tm ts = some tm := by kernel_rfl) (hb : jp S.bx is = some bx := by kernel_rfl) (he : pj S.en ps = some en := by kernel_rfl) (hn : kd is = true := by kernel_rfl) (hc : Dk S.en ps = true := by kernel_rfl) : df C S X := fun a w H => by
 obtain ⟨fp, W⟩ := H.wl
 exact h a w ⟨⟨H.tms.size, H.tms.defers, fun t v e => H.tms.tm t v (J5 ht t v e)⟩, ⟨_, (W.boxes hb hn).pick he hc⟩, H.bel, H.base⟩
theorem nm {C : Cx} {S S' : St} {X : Act → World → Prop} (e : S = S') (h : df C S' X) : df C S X := e ▸ h
/-! ### Functions -/
def RR (C : Cx) (R : Value → List iq → List cz → Prop) : Ending → World → Prop := fun e w' =>
 ∃ v bx en, R v bx en ∧ e = .returned v ∧ vQ C.T C.base C.w0 w' ∧ (∀ e ∈ en, e.cls ≠ 0) ∧ NZ C.base C.T bx en w'
def Fn (P : Program) (g : FuncId) (args : List Value) (bx : List iq) (en : List cz) (R : Value → List iq → List cz → Prop) : Prop :=
 ∀ (w : World) (T : Nat → Prop) (n : Nat), NZ w.heap.size T bx en w → Calls P g args.toArray w (RR ⟨n, w.heap.size, T, w⟩ R)
def OF : Nat → List Value → List (Nat × Value)
 | _, [] => []
 | i, v :: r => (i, v) :: OF (i + 1) r
theorem Lx : ∀ (l : List Value) (i t : Nat) (v : Value), rQ (OF i l) t = some v → i ≤ t ∧ l[t - i]? = some v
 | [], i, t, v, h => by cases h
 | u :: r, i, t, v, h => by
  simp only [OF, rQ] at h
  cases hb : Nat.beq i t with
  | true =>
   rw [hb] at h; simp at h; subst h
   have := Nat.eq_of_beq_eq_true hb; subst this
   simp
  | false =>
   rw [hb] at h
   obtain ⟨h1, h2⟩ := Lx r (i + 1) t v h
   refine ⟨by omega, ?_⟩
   rw [show t - i = (t - (i + 1)) + 1 by omega]
   simpa using h2
theorem eD {P : Program} {g : FuncId} {fn : Func} {c : Code} {args : List Value} {bx : List iq} {en : List cz} {R : Value → List iq → List cz → Prop} (n : Nat) (hf : P.funcs[g]? = some fn) (hb : fn.body = some c) (hn : fn.ntmps = n)
  (ha : Nat.ble args.length n = true) (h : ∀ base T w0, df ⟨n, base, T, w0⟩ ⟨OF 0 args, bx, en⟩ (GA P g (RR ⟨n, base, T, w0⟩ R) [.code c])) : Fn P g args bx en R := fun w T m hw => by
 have ha' := Nat.le_of_ble_eq_true ha
 refine Ri hf hb ?_
 have := h w.heap.size T w { tmps := args.toArray ++ Array.replicate (fn.ntmps - args.toArray.size) undef, defers := [] } w
  ⟨⟨by simp [hn]; omega, rfl, fun t v e => ?_⟩, hw, vQ.refl _ _ _, rfl⟩
 ·exact this
 ·obtain ⟨_, h2⟩ := Lx args 0 t v e
  have hlt : t < args.length := by
   rcases Nat.lt_or_ge t args.length with h' | h'
   ·exact h'
   ·rw [Nat.sub_zero, List.getElem?_eq_none h'] at h2; cases h2
  rw [Array.getD_eq_getD_getElem?, Array.getElem?_append_left (by simpa using hlt)]
  simp at h2 ⊢
  rw [h2]; rfl
def EP (P : Program) (g : FuncId) : Bool := match P.funcs[g]? with | some fn => !(fn.name == "runtime.NumGoroutine") && fn.body.isSome | none => false
theorem PD {P : Program} {w : World} {g : FuncId} {args : Array Value} (h : EP P g = true) : (callFunc g args).run P w = .ok (.enter g args) w := by
 unfold EP at h
 cases hf : P.funcs[g]? with
 | none => simp [hf] at h
 | some fn =>
  rw [hf] at h
  simp only [Bool.and_eq_true, Bool.not_eq_true'] at h
  cases hb : fn.body with
  | none => simp [hb] at h
  | some c =>
   have hn : fn.name ≠ "runtime.NumGoroutine" := by simpa using h.1
   simp [callFunc, hf, hn, hb]
def cz.sh (m : Nat) (e : cz) : cz := e.re e.o (e.cls + m) e.lin
def Gy (m : Nat) (en : List cz) : Bool := en.all fun e => Nat.blt e.cls m
theorem cz.sh_fact {e : cz} {m : Nat} {w : World} {bs : List Nat} (h : e.fact w bs) : (e.sh m).fact w bs := cz.fact_re (Nat.le_refl _) h
theorem cz.sh_cls (e : cz) (m : Nat) : (e.sh m).cls = e.cls + m := by cases e <;> rfl
theorem cz.sh_lin (e : cz) (m : Nat) : (e.sh m).lin = e.lin := by cases e <;> rfl
theorem jf.join {base : Nat} {T : Nat → Prop} {bx : List iq} {en en' : List cz} {w w' : World} {fp fp' : Nat → Nat → Prop} {m : Nat} (h : jf base T bx en w fp) (hs : w.heap.size ≤ w'.heap.size) (hw : ∀ b, b < w.heap.size → w'.heap[b]? = w.heap[b]?)
  (hb : base ≤ w.heap.size) (hm : Gy m en = true) (h' : jf w.heap.size (fun _ => False) [] en' w' fp') (hz : ∀ e ∈ en', e.cls ≠ 0) :
  jf base T bx (en ++ en'.map (cz.sh m)) w' (fun c b => (c < m ∧ fp c b) ∨ (m < c ∧ fp' (c - m) b)) := by
 have hx := h.ext hs hw
 have hnew : ∀ c b, c ≠ 0 → fp' c b → w.heap.size ≤ b := fun c b hc hb' => by
  rcases (h'.lt c b hb').2 hc with h1 | h1
  ·exact h1
  ·exact h1.elim
 refine ⟨fun c c' b h1 h2 => ?_, fun c b h1 => ?_, fun e he => ?_, fun x hxx => ?_, h.nd⟩
 ·rcases h1 with ⟨l1, h1⟩ | ⟨l1, h1⟩ <;> rcases h2 with ⟨l2, h2⟩ | ⟨l2, h2⟩
  ·exact h.sole _ _ b h1 h2
  ·have := (h.lt _ b h1).1; have := hnew _ b (by omega) h2; omega
  ·have := (h.lt _ b h2).1; have := hnew _ b (by omega) h1; omega
  ·have := h'.sole _ _ b h1 h2; omega
 ·rcases h1 with ⟨l1, h1⟩ | ⟨l1, h1⟩
  ·exact hx.lt c b h1
  ·exact ⟨(h'.lt _ b h1).1, fun _ => .inl (Nat.le_trans hb (hnew _ b (by omega) h1))⟩
 ·rcases List.mem_append.1 he with he | he
  ·obtain ⟨bs, f, hb1, hl, ho⟩ := hx.ent e he
   have := List.all_eq_true.1 hm e he
   exact ⟨bs, f, fun b hbb => .inl ⟨by simpa [Nat.blt_eq] using this, hb1 b hbb⟩, hl, ho⟩
  ·obtain ⟨e', he', rfl⟩ := List.mem_map.1 he
   obtain ⟨bs, f, hb1, hl, ho⟩ := h'.ent e' he'
   have hc := hz e' he'
   refine ⟨bs, cz.sh_fact f, fun b hbb => .inr ⟨by rw [cz.sh_cls]; omega, by rw [cz.sh_cls, Nat.add_sub_cancel]; exact hb1 b hbb⟩, by rw [cz.sh_lin]; exact hl, fun _ => by rw [cz.sh_cls]; omega⟩
 ·obtain ⟨e1, e2, e3⟩ := hx.box x hxx
  refine ⟨e1, e2, fun c hc => ?_⟩
  rcases hc with ⟨_, hc⟩ | ⟨l1, hc⟩
  ·exact e3 c hc
  ·have := hnew _ _ (by omega) hc
   have := h.boxlt hxx
   omega
section
variable {P : Program} {C : Cx} {S : St} {K : Act → World → Prop} {Q : Exit → Act → World → Prop} {d : Option Nat} {ty : TypeId} {pos : String} {af : Array Edge} {g : Option (Nat × Bool)} {x y z : Operand} {v : Value} {t u : TypeId}
theorem YG {f : FuncId} {as : Array Operand} {ts : Array TypeId} {args : List Value} {en : List cz} {R : Value → List iq → List cz → Prop} (hF : Fn P f args [] en R) (ps : List Pk) (m : Nat) (ha : S.evs as.toList = some args)
  (he : pj S.en ps = some en) (h0 : (ps.all fun p => Nat.beq p.c 0) = true) (hm : Gy m S.en = true) (hd : d.all (Nat.blt · C.n) = true)
  (h : ∀ v bx en', R v bx en' → df C (St.put ⟨S.tm, S.bx, S.en ++ en'.map (cz.sh m)⟩ d v) K) (hok : EP P f = true := by kernel_rfl) :
  df C S (fun a w => Oper.wp P ⟨d, .call ⟨.value (.func f), as, ts⟩, ty, pos, af, g⟩ a w K Q) := fun a w H => by
 obtain ⟨fp, W⟩ := H.wl
 have hargs : as.map a.eval = args.toArray := by
  have := H.tms.evs ha
  rw [← this]; simp [← Array.toList_inj]
 have hr : (execOp a.eval ⟨d, .call ⟨.value (.func f), as, ts⟩, ty, pos, af, g⟩).run P w = .ok (.enter f args.toArray) w := by
  simp [execOp, resolve, Deferred.ofValue, invoke, Act.eval, hargs, PD hok]
 unfold Oper.wp
 rw [hr, Oper.upon_enter]
 have hz : ∀ p ∈ ps, p.c = 0 := fun p hp => Nat.eq_of_beq_eq_true (List.all_eq_true.1 h0 p hp)
 have hpre : NZ w.heap.size (fun _ => False) [] en w := by
  refine ⟨fun c b => c = 0 ∧ b < w.heap.size, fun c c' b h1 h2 => by rw [h1.1, h2.1], fun c b hb => ⟨hb.2, fun hn => absurd hb.1 hn⟩, fun e hem => ?_, (fun x hx => by cases hx), by simp⟩
  obtain ⟨p, hp, e0, hi, rfl, ho, hl, hoc, hcz⟩ := DZ he e hem
  obtain ⟨bs, f, hb, hn, _⟩ := W.ent e0 (List.mem_of_getElem? hi)
  have hrc : (e0.re p.o p.c p.l).cls = p.c := by cases e0 <;> rfl
  have hro : (e0.re p.o p.c p.l).o = p.o := by cases e0 <;> rfl
  refine ⟨bs, cz.fact_re ho f, fun b hbb => ⟨by rw [hrc]; exact hz p hp, (W.lt _ b (hb b hbb)).1⟩, fun hlin => ?_, fun hoo => by rw [hro] at hoo; rw [hrc]; exact hoc hoo⟩
  have : p.l = true ∨ e0.lin = false := by cases e0 <;> simp_all [cz.re, cz.lin]
  rcases this with this | this
  ·exact hn (hl this)
  ·cases e0 <;> simp_all [cz.re, cz.lin]
 refine (hF w (fun _ => False) 0 hpre).mono fun e w' he' => ?_
 obtain ⟨v, bx, en', hR, rfl, hB, hzz, fp', W'⟩ := he'
 have hsize : w.heap.size ≤ w'.heap.size := hB.size
 have hold : ∀ b, b < w.heap.size → w'.heap[b]? = w.heap[b]? := fun b hb => hB.block b hb (fun h => h)
 refine h v bx en' hR _ _ (vP.put (S := ⟨S.tm, S.bx, S.en ++ en'.map (cz.sh m)⟩) ⟨H.tms.same rfl, ⟨_, W.join hsize hold H.size hm ⟨W'.sole, W'.lt, W'.ent, (fun x hx => by cases hx), by simp⟩ hzz⟩, H.bel.trans (vQ.of hB fun k hk _ => ⟨Nat.lt_of_lt_of_le hk H.size, fun h => h⟩), H.base⟩ hd)
theorem ax {f : FuncId} {as : Array Operand} {ts : Array TypeId} {args : List Value} {en : List cz} {R : Value → List iq → List cz → Prop} (hF : Fn P f args [] en R) (ps : List Pk) (m : Nat) (hh0 : (S.evs as.toList = some args) ∧ (pj S.en ps = some en) ∧ ((ps.all fun p => Nat.beq p.c 0) = true) ∧ (Gy m S.en = true) ∧ (d.all (Nat.blt · C.n) = true)) (h : ∀ v bx en', R v bx en' → df C (St.put ⟨S.tm, S.bx, S.en ++ en'.map (cz.sh m)⟩ d v) K) (hok : EP P f = true := by kernel_rfl) :
  df C S (fun a w => Oper.wp P ⟨d, .call ⟨.value (.func f), as, ts⟩, ty, pos, af, g⟩ a w K Q) := YG hF ps m hh0.1 hh0.2.1 hh0.2.2.1 hh0.2.2.2.1 hh0.2.2.2.2 h (hok := hok)
end
/-! ### Results -/
inductive CT (P : Program) (S : St) : List ResultVar → List Value → Prop
 | nil : CT P S [] []
 | tmp {t : Nat} {v : Value} {r : List ResultVar} {l : List Value} (h : rQ S.tm t = some v) (k : CT P S r l) : CT P S (.tmp t :: r) (v :: l)
 | cell {t ty b o tt : Nat} {cs : List Value} {v : Value} {r : List ResultVar} {l : List Value} (i : Nat) (m : Option Nat) (h : rQ S.tm t = some (.pointer (some ⟨b, o, none⟩))) (hb : S.bx[i]? = some ⟨b, tt, cs⟩)
   (hv : D6 cs o m = some v) (k : CT P S r l) (hl : vy P ty m = true := by kernel_rfl) : CT P S (.cell t ty :: r) (v :: l)
def O9 : List Value → Value
 | [v] => v
 | l => .tuple l.toArray
theorem CT.run {P : Program} {C : Cx} {S : St} {a : Act} {w : World} (H : vP C S a w) : ∀ {rs : List ResultVar} {vs : List Value}, CT P S rs vs →
  (rs.mapM (m := Sem) fun | .tmp t => pure (a.tmps.getD t undef) | .cell c t => do loadVar t (← asAddr (a.tmps.getD c undef))).run P w = .ok vs w := by
 intro rs vs h
 induction h with
 | nil => simp
 | tmp h k ih =>
  have e := H.tms.tm _ _ h
  simp only [List.mapM_cons, Sem.run_bind, Sem.run_pure, Result.andThen_ok, ih, e]
 | @cell t ty b o tt cs v r l i m h hb hv k hl ih =>
  obtain ⟨fp, W⟩ := H.wl
  have hg := (W.box _ (List.mem_of_getElem? hb)).1
  have hr := JK (P := P) hg hl hv
  have e := H.tms.tm _ _ h
  have ha : (asAddr (a.tmps.getD t undef)).run P w = .ok ⟨b, o, none⟩ w := by rw [e]; rfl
  simp only [List.mapM_cons, Sem.run_bind, Sem.run_pure, Result.andThen_ok, ih, ha, hr]
theorem Rx {P : Program} {C : Cx} {S : St} {a : Act} {w : World} (H : vP C S a w) {fn : Func} {rs : List ResultVar} {vs : List Value} (hf : fn.results.toList = rs) (h : CT P S rs vs) : (results fn a.tmps).run P w = .ok (O9 vs) w := by
 have hr := CT.run H h
 rw [← hf] at hr
 have e : (results fn a.tmps) = (fn.results.mapM (m := Sem) fun | .tmp t => pure (a.tmps.getD t undef) | .cell c t => do loadVar t (← asAddr (a.tmps.getD c undef))) >>= fun vs => pure (if h : vs.size = 1 then vs[0] else .tuple vs) := rfl
 rw [e, Array.mapM_eq_mapM_toList, Sem.run_bind, Sem.run_map, hr]
 simp only [Result.andThen_ok, Sem.run_pure]
 rcases vs with _ | ⟨v, _ | ⟨u, r⟩⟩ <;> simp [O9]
section
variable {P : Program} {C : Cx} {S : St} {f : FuncId} {R : Value → List iq → List cz → Prop} {k : List Item}
theorem rt {fn : Func} {rs : List ResultVar} {vs : List Value} {v : Value} {bx : List iq} {en : List cz} (hf : P.funcs[f]? = some fn) (hs : fn.results.toList = rs) (h : CT P S rs vs) (hv : O9 vs = v) (is : List Nat) (ps : List Pk)
  (hb : jp S.bx is = some bx) (he : pj S.en ps = some en) (hn : kd is = true) (hc : Dk S.en ps = true) (h0 : (ps.all fun p => !Nat.beq p.c 0) = true) (hR : R v bx en) : df C S (GA P f (RR C R) (.code .ret :: k)) := fun a w H => by
 obtain ⟨fp, W⟩ := H.wl
 subst hv
 refine GA.ret hf (Rx H hs h) H.tms.defers ⟨_, bx, en, hR, rfl, H.bel, fun e hem => ?_, _, (W.boxes hb hn).pick he hc⟩
 obtain ⟨p, hp, e0, hi, rfl, _⟩ := DZ he e hem
 have hrc : (e0.re p.o p.c p.l).cls = p.c := by cases e0 <;> rfl
 rw [hrc]
 have := List.all_eq_true.1 h0 p hp
 intro e; rw [e] at this; simp at this
theorem GS {fn : Func} {rs : List ResultVar} {vs : List Value} {v : Value} {bx : List iq} {en : List cz} (hf : P.funcs[f]? = some fn) (hs : fn.results.toList = rs) (h : CT P S rs vs) (hv : O9 vs = v) (is : List Nat) (ps : List Pk)
  (hb : jp S.bx is = some bx) (he : pj S.en ps = some en) (hn : kd is = true) (hc : Dk S.en ps = true) (h0 : (ps.all fun p => !Nat.beq p.c 0) = true) (hR : R v bx en) : df C S (GA P f (RR C R) []) := fun a w H => by
 obtain ⟨fp, W⟩ := H.wl
 subst hv
 refine GA.done hf (Rx H hs h) H.tms.defers ⟨_, bx, en, hR, rfl, H.bel, fun e hem => ?_, _, (W.boxes hb hn).pick he hc⟩
 obtain ⟨p, hp, e0, hi, rfl, _⟩ := DZ he e hem
 have hrc : (e0.re p.o p.c p.l).cls = p.c := by cases e0 <;> rfl
 rw [hrc]
 have := List.all_eq_true.1 h0 p hp
 intro e; rw [e] at this; simp at this
end
abbrev uG := Option Addr × Nat
def Kd.hd : {α : Type} → Kd α → Nat
 | _, .int _ => 0
 | _, .bool => 0
 | _, .str => 0
 | _, .pair a b => a.hd + b.hd
 | _, .iso _ _ _ a => a.hd
 | _, .slice _ => 1
def Kd.cells : {α : Type} → Kd α → α → List uG → List Value
 | _, .int k, x, _ => [.int k x]
 | _, .bool, x, _ => [.bool x]
 | _, .str, x, _ => [.string x]
 | _, .pair a b, x, hs => a.cells x.1 hs ++ b.cells x.2 (hs.drop a.hd)
 | _, .iso _ g _ a, x, hs => a.cells (g x) hs
 | _, .slice _, x, hs => match hs with | (A, c) :: _ => [.slice A x.length c] | [] => []
def Kd.subs : {α : Type} → Kd α → Nat → Nat → Bool → α → List uG → List cz
 | _, .int _, _, _, _, _, _ => []
 | _, .bool, _, _, _, _, _ => []
 | _, .str, _, _, _, _, _ => []
 | _, .pair a b, o, c, l, x, hs => a.subs o c l x.1 hs ++ b.subs o c l x.2 (hs.drop a.hd)
 | _, .iso _ g _ a, o, c, l, x, hs => a.subs o c l (g x) hs
 | _, .slice a, o, c, l, x, hs => match hs with | (A, cap) :: _ => [.sl o a A cap x c l] | [] => []
theorem Kd.cells_take {α : Type} (k : Kd α) : ∀ (x : α) (hs r : List uG), hs.length = k.hd → k.cells x (hs ++ r) = k.cells x hs := by
 induction k with
 | int | bool | str => intros; rfl
 | pair a b iha ihb =>
  intro x hs r h
  have h' : hs.length = a.hd + b.hd := h
  have e : hs = hs.take a.hd ++ hs.drop a.hd := (List.take_append_drop ..).symm
  have h1 : (hs.take a.hd).length = a.hd := by simp; omega
  show a.cells x.1 (hs ++ r) ++ b.cells x.2 ((hs ++ r).drop a.hd) = a.cells x.1 hs ++ b.cells x.2 (hs.drop a.hd)
  rw [List.drop_append_of_le_length (by omega), ihb _ _ _ (by simp; omega)]
  congr 1
  conv => lhs; rw [e, List.append_assoc]
  conv => rhs; rw [e]
  rw [iha _ _ _ h1, iha _ _ _ h1]
 | iso f g fg a ih => intro x hs r h; exact ih (g x) hs r h
 | slice a ih =>
  intro x hs r h
  match hs, h with
  | [(A, c)], _ => rfl
theorem Kd.subs_take {α : Type} (k : Kd α) : ∀ (o c : Nat) (l : Bool) (x : α) (hs r : List uG), hs.length = k.hd → k.subs o c l x (hs ++ r) = k.subs o c l x hs := by
 induction k with
 | int | bool | str => intros; rfl
 | pair a b iha ihb =>
  intro o c l x hs r h
  have h' : hs.length = a.hd + b.hd := h
  have e : hs = hs.take a.hd ++ hs.drop a.hd := (List.take_append_drop ..).symm
  have h1 : (hs.take a.hd).length = a.hd := by simp; omega
  show a.subs o c l x.1 (hs ++ r) ++ b.subs o c l x.2 ((hs ++ r).drop a.hd) = a.subs o c l x.1 hs ++ b.subs o c l x.2 (hs.drop a.hd)
  rw [List.drop_append_of_le_length (by omega), ihb _ _ _ _ _ _ (by simp; omega)]
  congr 1
  conv => lhs; rw [e, List.append_assoc]
  conv => rhs; rw [e]
  rw [iha _ _ _ _ _ _ h1, iha _ _ _ _ _ _ h1]
 | iso f g fg a ih => intro o c l x hs r h; exact ih o c l (g x) hs r h
 | slice a ih =>
  intro o c l x hs r h
  match hs, h with
  | [(A, c)], _ => rfl
theorem Kd.opened {α : Type} (k : Kd α) : ∀ {o w cs x bs} (cl : Nat) (l : Bool), o ≤ 1 → k.rep o w cs x bs → ∃ hs : List uG, hs.length = k.hd ∧ cs = k.cells x hs ∧ ∀ e ∈ k.subs o cl l x hs, ∃ b', e.fact w b' ∧ b'.Sublist bs := by
 induction k with
 | int k => intro o w cs x bs cl l ho h; exact ⟨[], rfl, h.1, fun e he => by cases he⟩
 | bool => intro o w cs x bs cl l ho h; exact ⟨[], rfl, h.1, fun e he => by cases he⟩
 | str => intro o w cs x bs cl l ho h; exact ⟨[], rfl, h.1, fun e he => by cases he⟩
 | pair a b iha ihb =>
  intro o w cs x bs cl l ho h
  obtain ⟨c1, c2, b1, b2, e1, e2, h1, h2⟩ := h
  obtain ⟨s1, l1, d1, f1⟩ := iha cl l ho h1
  obtain ⟨s2, l2, d2, f2⟩ := ihb cl l ho h2
  subst e1 e2
  have ed : (s1 ++ s2).drop a.hd = s2 := by rw [← l1]; simp
  refine ⟨s1 ++ s2, by simp [Kd.hd, l1, l2], ?_, fun e he => ?_⟩
  ·show c1 ++ c2 = a.cells x.1 (s1 ++ s2) ++ b.cells x.2 ((s1 ++ s2).drop a.hd)
   rw [ed, Kd.cells_take a _ _ _ l1, ← d1, ← d2]
  ·have he' : e ∈ a.subs o cl l x.1 (s1 ++ s2) ++ b.subs o cl l x.2 ((s1 ++ s2).drop a.hd) := he
   rw [ed, Kd.subs_take a _ _ _ _ _ _ l1] at he'
   rcases List.mem_append.1 he' with he' | he'
   ·obtain ⟨b', hf, hs⟩ := f1 e he'; exact ⟨b', hf, hs.trans (List.sublist_append_left ..)⟩
   ·obtain ⟨b', hf, hs⟩ := f2 e he'; exact ⟨b', hf, hs.trans (List.sublist_append_right ..)⟩
 | iso f g fg a ih => intro o w cs x bs cl l ho h; exact ih (x := g x) cl l ho h
 | slice a ih =>
  intro o w cs x bs cl l ho h
  obtain ⟨A, c, e, h⟩ := h
  refine ⟨[(A, c)], rfl, e, fun e he => ?_⟩
  have he' : e ∈ [cz.sl o a A c x cl l] := he
  rw [List.mem_singleton] at he'
  subst he'
  refine ⟨bs, ?_, List.Sublist.refl _⟩
  show H6 a.size (a.rep (min o 1) w) o w A c x bs
  rw [Nat.min_eq_left ho]; exact h
inductive kn (w : World) : List cz → List (List Nat) → Prop
 | nil : kn w [] []
 | cons {e : cz} {b : List Nat} {es : List cz} {bs : List (List Nat)} (h : e.fact w b) (k : kn w es bs) : kn w (e :: es) (b :: bs)
theorem kn.split {w : World} : ∀ {es fs : List cz} {bs : List (List Nat)}, kn w (es ++ fs) bs → ∃ b1 b2, bs = b1 ++ b2 ∧ kn w es b1 ∧ kn w fs b2
 | [], fs, bs, h => ⟨[], bs, rfl, .nil, h⟩
 | e :: es, fs, _, .cons h k => by obtain ⟨b1, b2, rfl, h1, h2⟩ := kn.split k; exact ⟨_ :: b1, b2, rfl, .cons h h1, h2⟩
theorem Kd.closed {α : Type} (k : Kd α) : ∀ {o w x} {hs : List uG} {bs : List (List Nat)} (cl : Nat) (l : Bool), o ≤ 1 → hs.length = k.hd → kn w (k.subs o cl l x hs) bs → k.rep o w (k.cells x hs) x bs.flatten := by
 induction k with
 | int k => intro o w x hs bs cl l ho hh h; cases h; exact ⟨rfl, rfl⟩
 | bool => intro o w x hs bs cl l ho hh h; cases h; exact ⟨rfl, rfl⟩
 | str => intro o w x hs bs cl l ho hh h; cases h; exact ⟨rfl, rfl⟩
 | pair a b iha ihb =>
  intro o w x hs bs cl l ho hh h
  have hh' : hs.length = a.hd + b.hd := hh
  obtain ⟨b1, b2, rfl, h1, h2⟩ := kn.split h
  have l1 : (hs.take a.hd).length = a.hd := by simp; omega
  have e : hs = hs.take a.hd ++ hs.drop a.hd := (List.take_append_drop ..).symm
  have ea : a.subs o cl l x.1 hs = a.subs o cl l x.1 (hs.take a.hd) := (congrArg (a.subs o cl l x.1) e).trans (Kd.subs_take a _ _ _ _ _ _ l1)
  have ec : a.cells x.1 hs = a.cells x.1 (hs.take a.hd) := (congrArg (a.cells x.1) e).trans (Kd.cells_take a _ _ _ l1)
  rw [ea] at h1
  refine ⟨a.cells x.1 hs, b.cells x.2 (hs.drop a.hd), b1.flatten, b2.flatten, rfl, by simp, ?_, ihb cl l ho (by simp; omega) h2⟩
  rw [ec]; exact iha cl l ho l1 h1
 | iso f g fg a ih => intro o w x hs bs cl l ho hh h; exact ih (x := g x) cl l ho hh h
 | slice a ih =>
  intro o w x hs bs cl l ho hh h
  match hs, hh with
  | [(A, c)], _ =>
   cases h with
   | cons h k =>
    cases k
    refine ⟨A, c, rfl, ?_⟩
    have h' : H6 a.size (a.rep (min o 1) w) o w A c x _ := h
    rw [Nat.min_eq_left ho] at h'
    simpa using h'
/-! ### Reading an element -/
def eA (A : Option Addr) (n : Nat) : Addr := (A.getD ⟨0, 0, none⟩).add n
def Ps (P : Program) (t s : Nat) : Bool := match P.underlying t with | some (.slice e) => vK P e s | _ => false
theorem Rq {P : Program} {t s : Nat} (h : Ps P t s = true) : ∃ e, P.underlying t = some (.slice e) ∧ vK P e s = true := by
 unfold Ps at h; split at h
 ·rename_i e he; exact ⟨e, he, h⟩
 ·cases h
theorem cz.at {α : Type} {o : Nat} {k : Kd α} {A : Option Addr} {c : Nat} {l : List α} {cls : Nat} {lin : Bool} {w : World} {bs : List Nat} (h : (cz.sl o k A c l cls lin).fact w bs) {i : Nat} {x : α} (hx : l[i]? = some x) :
    ∃ b off cur e fr cs' bs', A = some ⟨b, off, none⟩ ∧ w.heap[b]? = some (.cells cur e fr) ∧ k.rep (min o 1) w cs' x bs' ∧ (b :: bs').Sublist bs ∧ ∀ j v, cs'[j]? = some v → cur[off + i * k.size + j]? = some v := by
  obtain ⟨hl, h⟩ := h
  have hi : i < l.length := by
    rcases Nat.lt_or_ge i l.length with h' | h'
    · exact h'
    · rw [List.getElem?_eq_none h'] at hx; cases hx
  rcases h with ⟨_, h, _⟩ | ⟨_, h, _⟩ | ⟨b, off, cur, e, fr, cs, bs', rfl, hb, he, hc, rfl, _⟩
  · omega
  · subst h; simp at hi
  · obtain ⟨p, c', q, b1, b', b2, rfl, rfl, hr, hp, hq⟩ := dw.split i x hx he
    have hpl : p.length = i * k.size := by rw [dw.len (fun _ _ _ => k.rep_len) hp, List.length_take, Nat.min_eq_left (by omega)]
    refine ⟨b, off, cur, e, fr, c', b', rfl, hb, hr, ?_, fun j v hv => ?_⟩
    · exact List.Sublist.cons_cons _ ((List.sublist_append_left b' b2).trans (List.sublist_append_right ..))
    · have := hc (p.length + j) v (by rw [List.getElem?_append_right (by omega), Nat.add_sub_cancel_left]; rw [List.getElem?_append_left]; exact hv
                                      rcases Nat.lt_or_ge j c'.length with h' | h'
                                      · exact h'
                                      · rw [List.getElem?_eq_none h'] at hv; cases hv)
      rw [hpl] at this
      rw [Nat.add_assoc]; exact this
theorem Di {α : Type} {l : List α} {i : Int} {d : α} (h0 : 0 ≤ i) (h1 : i < (l.length : Int)) : l[i.toNat]? = some (l.getD i.toNat d) := by
 have : i.toNat < l.length := by omega
 rw [List.getD_eq_getElem?_getD, List.getElem?_eq_getElem this]; rfl
theorem Ct {P : Program} {w : World} {b o ty : Nat} {m : Option Nat} {cs : List Value} {cur : Array Value} {t : Nat} {fr : Nat × Nat} {v : Value} (base : Nat) (hg : w.heap[b]? = some (.cells cur t fr)) (hc : ∀ j u, cs[j]? = some u → cur[base + j]? = some u)
  (hl : vy P ty m = true) (hv : D6 cs o m = some v) : (loadVar ty ⟨b, base + o, none⟩).run P w = .ok v w := by
 have hcell : ∀ j u, cs[o + j]? = some u → w.cell? ((⟨b, base + o, none⟩ : Addr).add j) = some u := fun j u e => by
  rw [kO]; simp [World.cell?, hg]; rw [Nat.add_assoc]; exact hc _ _ e
 cases m with
 | none =>
  have ha : (isAgg ty).run P w = .ok false w := by
   unfold vy at hl
   cases hu : P.underlying ty with
   | none => simp [hu] at hl
   | some d => unfold isAgg; rw [Sem.run_bind, run_underlying hu w]; rw [hu] at hl; cases d <;> simp_all
  have h0 := hcell 0 v (by simpa [D6] using hv)
  rw [kO, Nat.add_zero] at h0
  simp [loadVar, Sem.run_bind, ha, h0]
 | some s =>
  simp only [vy, Bool.and_eq_true] at hl
  have ha : (isAgg ty).run P w = .ok true w := by
   cases hu : P.underlying ty with
   | none => simp [hu] at hl
   | some d => unfold isAgg; rw [Sem.run_bind, run_underlying hu w]; have := hl.1; rw [hu] at this; cases d <;> simp_all
  simp only [D6] at hv
  cases hb : Nat.ble (o + s) cs.length with
  | false => simp [hb] at hv
  | true =>
   simp only [hb, cond_true, Option.some.injEq] at hv
   have hle : o + s ≤ cs.length := Nat.le_of_ble_eq_true hb
   have hn : ((cs.drop o).take s).length = s := by simp; omega
   have hrun := run_loadCells_list (P := P) w ⟨b, base + o, none⟩ ((cs.drop o).take s) (fun j u e => by
    refine hcell j u ?_
    rw [List.getElem?_take] at e
    split at e
    ·rwa [List.getElem?_drop] at e
    ·cases e)
   rw [hn] at hrun
   subst hv
   simp [loadVar, Sem.run_bind, ha, uA hl.2, hrun]
def yu (A : Option Addr) (n : Nat) (cs : List Value) (c : Nat) : cz := .raw
 (fun w bs => ∃ b off cur e fr, A = some ⟨b, off, none⟩ ∧ bs = [b] ∧ w.heap[b]? = some (.cells cur e fr) ∧ ∀ j v, cs[j]? = some v → cur[off + n + j]? = some v)
 (fun w w' bs hw ⟨b, off, cur, e, fr, hA, hb, hg, hc⟩ => ⟨b, off, cur, e, fr, hA, hb, by rw [hw b (by rw [hb]; exact List.mem_singleton.2 rfl)]; exact hg, hc⟩) 0 c
def NW : Nat → (List uG → Prop) → Prop
 | 0, p => p []
 | n + 1, p => ∀ A c, NW n (fun hs => p ((A, c) :: hs))
theorem NW.at : ∀ {n : Nat} {p : List uG → Prop}, NW n p → ∀ hs : List uG, hs.length = n → p hs
 | 0, p, h, [], _ => h
 | n + 1, p, h, (A, c) :: hs, e => NW.at (h A c) hs (by simpa using e)
section
variable {P : Program} {C : Cx} {S : St} {X : Act → World → Prop} {bx : List iq} {en : List cz} {d : Option Nat} {ty : TypeId} {pos : String} {af : Array Edge} {g : Option (Nat × Bool)} {x y z : Operand} {v : Value} {t u : TypeId} {a b : Int} {kk : IntKind}
theorem qt {α : Type} {o : Nat} {k : Kd α} {A : Option Addr} {c : Nat} {l : List α} {cls : Nat} {lin : Bool} {i : Int} (j : Nat) (dd : α) (he : S.en[j]? = some (.sl o k A c l cls lin)) (h0 : 0 ≤ i) (h1 : i < (l.length : Int))
  (h : NW k.hd fun hs => df C ⟨S.tm, S.bx, S.en ++ (yu A (i.toNat * k.size) (k.cells (l.getD i.toNat dd) hs) cls :: k.subs (min o 1) cls lin (l.getD i.toNat dd) hs)⟩ X) : df C S X := fun a w H => by
 obtain ⟨fp, W⟩ := H.wl
 obtain ⟨bs, f, hb, hn, ho⟩ := W.ent _ (List.mem_of_getElem? he)
 obtain ⟨b, off, cur, e, fr, cs', bs', rfl, hg, hr, hs, hc⟩ := cz.at f (Di (d := dd) h0 h1)
 obtain ⟨hs', hl, hcs, hf⟩ := k.opened cls lin (Nat.min_le_right o 1) hr
 refine (h.at hs' hl) a w ⟨H.tms.same rfl, ⟨fp, W.sole, W.lt, fun e' he' => ?_, W.box, W.nd⟩, H.bel, H.base⟩
 rcases List.mem_append.1 he' with he' | he'
 ·exact W.ent e' he'
 ·rcases List.mem_cons.1 he' with he' | he'
  ·subst he'
   refine ⟨[b], ⟨b, off, cur, e, fr, rfl, rfl, hg, by rw [← hcs]; exact hc⟩, fun b' hb' => ?_, fun h => by simp, fun h => absurd rfl h⟩
   rw [List.mem_singleton] at hb'; subst hb'
   exact hb _ (hs.subset (List.mem_cons_self ..))
  ·obtain ⟨b', f', s'⟩ := hf e' he'
   have hsub : b'.Sublist bs := (s'.trans (List.sublist_cons_self ..)).trans hs
   have hh : e'.cls = cls ∧ e'.lin = lin ∧ e'.o = min o 1 := by
    have key : ∀ {β : Type} (k : Kd β) (q : Nat) (x : β) (hs : List uG), ∀ e ∈ k.subs q cls lin x hs, e.cls = cls ∧ e.lin = lin ∧ e.o = q := by
     intro β k
     induction k with
     | int | bool | str => intro q x hs e h; cases h
     | pair a b iha ihb => intro q x hs e h; rcases List.mem_append.1 h with h | h; exact iha _ _ _ _ h; exact ihb _ _ _ _ h
     | iso f g fg a ih => intro q x hs e h; exact ih q (g x) hs e h
     | slice a ih =>
      intro q x hs e h
      match hs, h with
      | (A, c) :: _, h => rw [show Kd.subs (.slice a) q cls lin x ((A, c) :: _) = [cz.sl q a A c x cls lin] from rfl, List.mem_singleton] at h; subst h; exact ⟨rfl, rfl, rfl⟩
    exact key k _ _ _ e' he'
   exact ⟨b', f', fun b'' hb'' => by rw [hh.1]; exact hb _ (hsub.subset hb''), fun hl' => hsub.nodup (hn (by rw [← hh.2.1]; exact hl')), fun hne => by rw [hh.1]; rw [hh.2.2] at hne; exact ho (by show o ≠ 0; omega)⟩
theorem adM {α : Type} {o : Nat} {k : Kd α} {A : Option Addr} {c s : Nat} {l : List α} {cls : Nat} {lin : Bool} {i : Int} (j : Nat) (he : en[j]? = some (.sl o k A c l cls lin)) (hx : S.ev x = some (.slice A l.length c)) (hy : S.ev y = some (.int kk i))
  (h0 : 0 ≤ i) (h1 : i < (l.length : Int)) (hs : k.size = s) (h : Ps P t s = true := by kernel_rfl) : EV P C S bx en ⟨d, .indexAddr t x y, ty, pos, af, g⟩ (.pointer (some (eA A (i.toNat * s)))) := fun _ w H ⟨fp, W⟩ => by
 obtain ⟨e, hu, hsz⟩ := Rq h
 obtain ⟨bs, f, _⟩ := W.ent _ (List.mem_of_getElem? he)
 have hi : i.toNat < l.length := by omega
 obtain ⟨b, off, cur, e', fr, cs', bs', rfl, _⟩ := cz.at f (List.getElem?_eq_getElem hi)
 have hr := uA hsz w
 simp [execOp, H.ev hx, H.ev hy, Instr.indexAt, asIntOf, run_underlying hu, h0, h1, hr, eA]
theorem aM {α : Type} {o : Nat} {k : Kd α} {A : Option Addr} {c s : Nat} {l : List α} {cls : Nat} {lin : Bool} {i : Int} (j : Nat) (hh0 : (en[j]? = some (.sl o k A c l cls lin)) ∧ (S.ev x = some (.slice A l.length c)) ∧ (S.ev y = some (.int kk i))) (h0 : 0 ≤ i) (h1 : i < (l.length : Int)) (hs : k.size = s) (h : Ps P t s = true := by kernel_rfl) : EV P C S bx en ⟨d, .indexAddr t x y, ty, pos, af, g⟩ (.pointer (some (eA A (i.toNat * s)))) := adM j hh0.1 hh0.2.1 hh0.2.2 h0 h1 hs (h := h)
theorem bg {α : Type} {o : Nat} {k : Kd α} {A : Option Addr} {c s : Nat} {l : List α} {cls : Nat} {lin : Bool} {p : Addr} (i : Int) (off : Nat) (m : Option Nat) (j : Nat) (dd : α) (he : en[j]? = some (.sl o k A c l cls lin)) (hx : S.ev x = some (.pointer (some p)))
  (hp : p = (eA A (i.toNat * s)).add off) (h0 : 0 ≤ i) (h1 : i < (l.length : Int)) (hs : k.size = s) (hk : k.hd = 0) (hv : D6 (k.cells (l.getD i.toNat dd) []) off m = some v) (h : vy P t m = true := by kernel_rfl) :
  EV P C S bx en ⟨d, .load t x, ty, pos, af, g⟩ v := fun _ w H ⟨fp, W⟩ => by
 obtain ⟨bs, f, _⟩ := W.ent _ (List.mem_of_getElem? he)
 obtain ⟨b, o', cur, e, fr, cs', bs', rfl, hg, hr, _, hc⟩ := cz.at f (Di (d := dd) h0 h1)
 obtain ⟨hs', hl, hcs, _⟩ := k.opened cls lin (Nat.min_le_right o 1) hr
 rw [hk] at hl
 have : hs' = [] := List.eq_nil_of_length_eq_zero hl
 subst this
 subst hs
 rw [← hcs] at hv
 have := Ct (P := P) (o' + i.toNat * k.size) hg hc h hv
 rw [show (eA (some ⟨b, o', none⟩) (i.toNat * k.size)).add off = ⟨b, o' + i.toNat * k.size + off, none⟩ by simp [eA, kO]] at hp
 subst hp
 simp [execOp, H.ev hx, Instr.loadAt, Instr.sureAddr, this]
theorem adL {A : Option Addr} {n cls : Nat} {cs : List Value} {p : Addr} (off : Nat) (m : Option Nat) (j : Nat) (he : en[j]? = some (yu A n cs cls)) (hx : S.ev x = some (.pointer (some p))) (hp : p = (eA A n).add off) (hv : D6 cs off m = some v)
  (h : vy P t m = true := by kernel_rfl) : EV P C S bx en ⟨d, .load t x, ty, pos, af, g⟩ v := fun _ w H ⟨fp, W⟩ => by
 obtain ⟨bs, f, _⟩ := W.ent _ (List.mem_of_getElem? he)
 obtain ⟨b, o', cur, e, fr, rfl, _, hg, hc⟩ := f
 have := Ct (P := P) (o' + n) hg hc h hv
 rw [show (eA (some ⟨b, o', none⟩) n).add off = ⟨b, o' + n + off, none⟩ by simp [eA, kO]] at hp
 subst hp
 simp [execOp, H.ev hx, Instr.loadAt, Instr.sureAddr, this]
theorem ig {A : Option Addr} {n cls : Nat} {cs : List Value} {p : Addr} (off : Nat) (m : Option Nat) (j : Nat) (hh0 : (en[j]? = some (yu A n cs cls)) ∧ (S.ev x = some (.pointer (some p))) ∧ (p = (eA A n).add off) ∧ (D6 cs off m = some v)) (h : vy P t m = true := by kernel_rfl) : EV P C S bx en ⟨d, .load t x, ty, pos, af, g⟩ v := adL off m j hh0.1 hh0.2.1 hh0.2.2.1 hh0.2.2.2 (h := h)
end
/-! ### The world, by steps -/
theorem jf.map {base : Nat} {T : Nat → Prop} {bx : List iq} {en : List cz} {w : World} {fp : Nat → Nat → Prop} (h : jf base T bx en w fp) (ρ : Nat → Nat) (h0 : ρ 0 = 0) (h1 : ∀ c, c ≠ 0 → ρ c ≠ 0) :
  jf base T bx (en.map fun e => e.re e.o (ρ e.cls) e.lin) w (fun c b => ∃ c', ρ c' = c ∧ fp c' b) where
 sole c c' b := fun ⟨d, e1, h2⟩ ⟨d', e2, h3⟩ => by rw [← e1, ← e2, h.sole d d' b h2 h3]
 lt c b := fun ⟨d, e1, h2⟩ => ⟨(h.lt d b h2).1, fun hc => (h.lt d b h2).2 (fun hd => hc (by rw [← e1, hd, h0]))⟩
 ent e' he := by
  obtain ⟨e, hem, rfl⟩ := List.mem_map.1 he
  obtain ⟨bs, f, hb, hl, ho⟩ := h.ent e hem
  have hc : (e.re e.o (ρ e.cls) e.lin).cls = ρ e.cls := by cases e <;> rfl
  have hli : (e.re e.o (ρ e.cls) e.lin).lin = e.lin := by cases e <;> rfl
  have hoo : (e.re e.o (ρ e.cls) e.lin).o = e.o := by cases e <;> rfl
  exact ⟨bs, cz.fact_re (Nat.le_refl _) f, fun b hbb => ⟨e.cls, hc.symm, hb b hbb⟩, by rw [hli]; exact hl, by rw [hoo, hc]; exact fun h' => h1 _ (ho h')⟩
 box x hx := ⟨(h.box x hx).1, (h.box x hx).2.1, fun c ⟨d, _, hd⟩ => (h.box x hx).2.2 d hd⟩
 nd := h.nd
theorem jf.blk {base : Nat} {T : Nat → Prop} {bx : List iq} {en : List cz} {w w' : World} {fp : Nat → Nat → Prop} (h : jf base T bx en w fp) {c : Nat} (hc : c ≠ 0) (hs : w'.heap.size = w.heap.size + 1) (hb : base ≤ w.heap.size)
  (hw : ∀ b, b < w.heap.size → w'.heap[b]? = w.heap[b]?) : jf base T bx en w' (fun d b => fp d b ∨ (d = c ∧ b = w.heap.size)) := by
 have hx := h.ext (by omega) hw
 refine ⟨fun d d' b h1 h2 => ?_, fun d b h1 => ?_, fun e he => ?_, fun x hxx => ?_, h.nd⟩
 ·rcases h1 with h1 | h1 <;> rcases h2 with h2 | h2
  ·exact h.sole d d' b h1 h2
  ·have := (h.lt _ _ h1).1; omega
  ·have := (h.lt _ _ h2).1; omega
  ·omega
 ·rcases h1 with h1 | ⟨rfl, rfl⟩
  ·exact hx.lt d b h1
  ·exact ⟨by omega, fun _ => .inl hb⟩
 ·obtain ⟨bs, f, hb1, hl, ho⟩ := hx.ent e he
  exact ⟨bs, f, fun b hbb => .inl (hb1 b hbb), hl, ho⟩
 ·obtain ⟨e1, e2, e3⟩ := hx.box x hxx
  refine ⟨e1, e2, fun d hd => ?_⟩
  rcases hd with hd | ⟨_, hd⟩
  ·exact e3 d hd
  ·have := h.boxlt hxx; omega
theorem jf.add {base : Nat} {T : Nat → Prop} {bx : List iq} {en : List cz} {w : World} {fp : Nat → Nat → Prop} (h : jf base T bx en w fp) {e : cz} {bs : List Nat} (f : e.fact w bs) (hb : ∀ b ∈ bs, fp e.cls b) (hl : e.lin = true → bs.Nodup) (ho : e.o ≠ 0 → e.cls ≠ 0) :
  jf base T bx (en ++ [e]) w fp :=
 ⟨h.sole, h.lt, fun e' he' => by
  rcases List.mem_append.1 he' with he' | he'
  ·exact h.ent e' he'
  ·rw [List.mem_singleton] at he'; subst he'; exact ⟨bs, f, hb, hl, ho⟩, h.box, h.nd⟩
def Cw (c : Nat) (e : cz) : Bool := !Nat.beq e.cls c
theorem jf.drop {base : Nat} {T : Nat → Prop} {bx : List iq} {en : List cz} {w : World} {fp : Nat → Nat → Prop} (h : jf base T bx en w fp) (c : Nat) : jf base T bx (en.filter (Cw c)) w fp :=
 h.sub (List.Sublist.refl _) (fun e he => (List.mem_filter.1 he).1)
theorem jf.upd {base : Nat} {T : Nat → Prop} {bx : List iq} {en : List cz} {w w' : World} {fp : Nat → Nat → Prop} (h : jf base T bx en w fp) {c g : Nat} (hg : fp c g) (hd : ∀ e ∈ en, e.cls ≠ c) (hs : w'.heap.size = w.heap.size) (hw : ∀ b, b ≠ g → w'.heap[b]? = w.heap[b]?) :
    jf base T bx en w' fp :=
  ⟨h.sole, fun d b hb => by rw [hs]; exact h.lt d b hb, fun e he => by
    obtain ⟨bs, f, hb1, hl, ho⟩ := h.ent e he
    exact ⟨bs, cz.fact_keep (fun b hbb => hw b (fun e' => by subst e'; exact hd e he (h.sole _ _ _ (hb1 _ hbb) hg))) f, hb1, hl, ho⟩,
   fun x hx => ⟨by rw [hw _ (fun e' => (h.box x hx).2.2 c (by rw [e']; exact hg))]; exact (h.box x hx).1, (h.box x hx).2⟩, h.nd⟩
theorem RD {c : Nat} {en : List cz} : ∀ e ∈ en.filter (Cw c), e.cls ≠ c := fun e he h => by
 have := (List.mem_filter.1 he).2
 simp [Cw, h] at this
theorem Kd.rep_flat {α : Type} (k : Kd α) : ∀ {o o' w w' cs x bs}, k.hd = 0 → k.rep o w cs x bs → bs = [] ∧ k.rep o' w' cs x [] := by
 induction k with
 | int | bool | str => intro o o' w w' cs x bs _ h; exact ⟨h.2, h.1, rfl⟩
 | pair a b iha ihb =>
  intro o o' w w' cs x bs hk h
  have hk' : a.hd + b.hd = 0 := hk
  obtain ⟨c1, c2, b1, b2, e1, e2, h1, h2⟩ := h
  obtain ⟨r1, r2⟩ := iha (o' := o') (w' := w') (by omega) h1
  obtain ⟨s1, s2⟩ := ihb (o' := o') (w' := w') (by omega) h2
  subst e1 e2 r1 s1
  exact ⟨rfl, c1, c2, [], [], rfl, rfl, r2, s2⟩
 | iso f g fg a ih => intro o o' w w' cs x bs hk h; exact ih (x := g x) hk h
 | slice a ih => intro o o' w w' cs x bs hk h; cases hk
theorem dw.flat {α : Type} (k : Kd α) (hk : k.hd = 0) {o o' w w'} : ∀ {l : List α} {cs bs}, dw (k.rep o w) cs l bs → bs = [] ∧ dw (k.rep o' w') cs l []
 | [], _, _, ⟨e1, e2⟩ => ⟨e2, e1, rfl⟩
 | x :: xs, _, _, ⟨c1, c2, b1, b2, e1, e2, h1, h2⟩ => by
  obtain ⟨r1, r2⟩ := k.rep_flat (o' := o') (w' := w') hk h1
  obtain ⟨s1, s2⟩ := dw.flat k hk (o' := o') (w' := w') h2
  subst e1 e2 r1 s1
  exact ⟨rfl, c1, c2, [], [], rfl, rfl, r2, s2⟩
theorem dw.one {α : Type} {k : Kd α} {o w} : ∀ {l : List α} {cs bs}, dw (k.rep o w) cs l bs → ∀ v ∈ cs, v.oneCell' = true
 | [], _, _, ⟨e1, _⟩ => by subst e1; intro v hv; cases hv
 | x :: xs, _, _, ⟨c1, c2, b1, b2, e1, e2, h1, h2⟩ => by
  subst e1; intro v hv
  rcases List.mem_append.1 hv with h | h
  ·exact k.rep_one h1 v h
  ·exact dw.one h2 v h
/-! ### Checks -/
def H5 (P : Program) (t s by_ : Nat) : Bool := match P.underlying t with
 | some (.slice e) => match P.info? e with
  | some i => Nat.beq i.size s && Nat.beq i.bytes by_ && !Nat.beq s 0 && (match i.zero with | some z => Nat.beq z.cells.size s | none => false)
  | none => false
 | _ => false
theorem ND {P : Program} {t s by_ : Nat} (h : H5 P t s by_ = true) : ∃ e i z, P.underlying t = some (.slice e) ∧ P.info? e = some i ∧ i.size = s ∧ i.bytes = by_ ∧ 0 < s ∧ i.zero = some z ∧ z.cells.size = s := by
 unfold H5 at h
 split at h
 ·rename_i e he
  split at h
  ·rename_i i hi
   simp only [Bool.and_eq_true, Bool.not_eq_true'] at h
   obtain ⟨⟨⟨h1, h2⟩, h3⟩, h4⟩ := h
   split at h4
   ·rename_i z hz
    refine ⟨e, i, z, he, hi, Nat.eq_of_beq_eq_true h1, Nat.eq_of_beq_eq_true h2, ?_, hz, Nat.eq_of_beq_eq_true h4⟩
    rcases Nat.eq_zero_or_pos s with h5 | h5
    ·subst h5; simp at h3
    ·exact h5
   ·cases h4
  ·cases h
 ·cases h
/-! ### A slice that is made -/
theorem dw.replicate {α : Type} {R : List Value → α → List Nat → Prop} {z : List Value} {x : α} (h : R z x []) : ∀ n, dw R (List.replicate n z).flatten (List.replicate n x) []
 | 0 => ⟨rfl, rfl⟩
 | n + 1 => ⟨z, _, [], [], rfl, rfl, h, dw.replicate h n⟩
section
variable {P : Program} {C : Cx} {S : St} {K : Act → World → Prop} {Q : Exit → Act → World → Prop} {d : Option Nat} {ty : TypeId} {pos : String} {af : Array Edge} {g : Option (Nat × Bool)} {x y z : Operand} {v : Value} {t u : TypeId}
end
/-! ### append -/
theorem Ki {P : Program} (w : World) (t ty e e' : TypeId) (i : TypeInfo) (ht : P.underlying t = some (.slice e)) (hi : P.info? e = some i)
  (g off sLen sCap : Nat) (cur : Array Value) (hg : w.heap[g]? = some (.cells cur e' (0, 0))) (x : Value) (m : Nat) (news : List Value) (hl : news.length = m * i.size)
  (hlen : Builtin.lenOf x = pure m) (hf : (Builtin.firstCells i.size m x).run P w = .ok news.toArray w) (h1 : ∀ u ∈ news, u.oneCell' = true)
  (hroom : sLen + m ≤ sCap) (hfit : off + sLen * i.size + news.length ≤ cur.size) :
  (Builtin.append_ #[t, t] ty #[.slice (some ⟨g, off, none⟩) sLen sCap, x]).run P w =
   .ok (.slice (some ⟨g, off, none⟩) (sLen + m) sCap) (w.setRow g (cur.toList.take (off + sLen * i.size) ++ news ++ cur.toList.drop (off + sLen * i.size + news.length)).toArray) := by
 have hst := run_storeCells_at P g (off + sLen * i.size) e' news 0 cur w hg (by simpa using hfit) h1
 simp only [Nat.add_zero] at hst
 simp [Builtin.append_, run_underlying ht, sizeOf, typeInfo, hi, hlen, hroom, hf, kO, hst]
theorem Kj {P : Program} (w : World) (t ty e : TypeId) (i : TypeInfo) (z : Value) (ht : P.underlying t = some (.slice e)) (hi : P.info? e = some i) (hz : i.zero = some z)
  (A : Option Addr) (sLen sCap : Nat) (olds : List Value) (x : Value) (n : Nat) (news : List Value) (hlen : Builtin.lenOf x = pure n)
  (hfo : (Builtin.firstCells i.size sLen (.slice A sLen sCap)).run P w.drew = .ok olds.toArray w.drew) (hf : (Builtin.firstCells i.size n x).run P w.drew = .ok news.toArray w.drew)
  (hg : sCap < sLen + n) (h63 : ((sLen + n : Nat) : Int) ≤ 9223372036854775807) (hfit : Builtin.nextslicecap (sLen + n) sCap * i.bytes ≤ 281474976710656) :
  (Builtin.append_ #[t, t] ty #[.slice A sLen sCap, x]).run P w =
   .ok (.slice (some ⟨w.heap.size, 0, none⟩) (sLen + n) (grownCap w (sLen + n) sCap e))
    (w.drew.alloc (.cells (olds.toArray ++ news.toArray ++ Builtin.zeroCells z.cells (grownCap w (sLen + n) sCap e - (sLen + n))) e)) := by
 have hn : ¬ (sLen + n ≤ sCap) := by omega
 have h63' : ¬ (9223372036854775807 < ((sLen : Int) + (n : Int))) := by omega
 have h48' : ¬ (281474976710656 < Builtin.nextslicecap (sLen + n) sCap * i.bytes) := by omega
 simp [Builtin.append_, run_underlying ht, sizeOf, typeInfo, zeroValue, hi, hz, hlen, hn, h63', h48', Question.forced, hf, hfo, newRow, grownCap]
 congr 2
 apply Array.ext'
 simp [List.append_assoc]
theorem D9 {P : Program} {α : Type} {o : Nat} {k : Kd α} {A : Option Addr} {c s : Nat} {l : List α} {w : World} {bs : List Nat} (hs : k.size = s) (h : H6 k.size (k.rep (min o 1) w) o w A c l bs) :
  ∃ cs bs', dw (k.rep (min o 1) w) cs l bs' ∧ bs'.Sublist bs ∧ (A = none ∨ o = 0 ∨ ∃ g, bs = g :: bs') ∧ ∀ w' : World, (∀ b ∈ bs, w'.heap[b]? = w.heap[b]?) → (Builtin.firstCells s l.length (.slice A l.length c)).run P w' = .ok cs.toArray w' := by
 obtain ⟨hl, h⟩ := h
 rcases h with ⟨rfl, rfl, rfl⟩ | ⟨_, rfl, rfl⟩ | ⟨b, off, cur, e, fr, cs, bs', rfl, hb, he, hc, rfl, _⟩
 ·have : l = [] := List.eq_nil_of_length_eq_zero (by omega)
  subst this
  exact ⟨[], [], ⟨rfl, rfl⟩, List.nil_sublist _, .inl rfl, fun w' _ => by simp [Builtin.firstCells]⟩
 ·exact ⟨[], [], ⟨rfl, rfl⟩, List.nil_sublist _, .inr (.inl ‹_›), fun w' _ => by cases A <;> simp [Builtin.firstCells, loadCells, loadCellsFrom]⟩
 ·refine ⟨cs, bs', he, List.sublist_cons_self .., .inr (.inr ⟨b, rfl⟩), fun w' hw => ?_⟩
  have hlen : cs.length = l.length * s := by rw [dw.len (fun _ _ _ => k.rep_len) he, hs]
  refine run_firstCells_some (P := P) w' s l.length ⟨b, off, none⟩ l.length c cs hlen (fun j v hv => ?_)
  rw [kO]
  have hb' := hw b (List.mem_cons_self ..)
  simp [World.cell?, hb', hb]; exact hc j v hv
def yR (c2 c1 : Nat) (c : Nat) : Nat := bif Nat.beq c c2 then c1 else c
def cz.mg (c2 c1 : Nat) (e : cz) : cz := e.re e.o (yR c2 c1 e.cls) e.lin
section
variable {P : Program} {C : Cx} {S : St} {K : Act → World → Prop} {Q : Exit → Act → World → Prop} {d : Option Nat} {ty : TypeId} {pos : String} {af : Array Edge} {g : Option (Nat × Bool)} {x y z : Operand} {v : Value} {t u : TypeId}
theorem aR {α : Type} {X : Act → World → Prop} (k : Kd α) (m : Nat) (hm0 : m ≠ 0) (h : df C ⟨S.tm, S.bx, S.en ++ [.sl 2 k none 0 ([] : List α) m true]⟩ X) : df C S X := fun a w H => by
 obtain ⟨fp, W⟩ := H.wl
 exact h a w ⟨H.tms.same rfl, ⟨fp, W.add (bs := []) ⟨Nat.le_refl _, .inl ⟨rfl, rfl, rfl⟩⟩ (fun b hb => by cases hb) (fun _ => by simp) (fun _ => hm0)⟩, H.bel, H.base⟩
theorem ZR {α : Type} {o1 o2 : Nat} {k : Kd α} {A1 A2 : Option Addr} {k1 k2 s by_ : Nat} {l1 l2 : List α} {c1 c2 : Nat} {li1 li2 : Bool} (j1 j2 : Nat) (he1 : S.en[j1]? = some (.sl o1 k A1 k1 l1 c1 li1)) (he2 : S.en[j2]? = some (.sl o2 k A2 k2 l2 c2 li2))
  (hx : S.ev x = some (.slice A1 l1.length k1)) (hy : S.ev y = some (.slice A2 l2.length k2)) (hb : (l1.length + l2.length) * by_ ≤ 140737488355328) (hb2 : l1.length + l2.length ≤ 140737488355328)
  (hf : k.hd = 0 ∨ (o2 ≠ 0 ∧ c2 ≠ 0 ∧ li1 = true ∧ c1 ≠ c2)) (li : Bool) (hli : li = true → k.hd = 0 ∨ (li1 = true ∧ li2 = true ∧ c1 ≠ c2)) (hs : k.size = s) (hd : d.all (Nat.blt · C.n) = true)
  (h : ∀ A c, df C (St.put ⟨S.tm, S.bx, (S.en.filter (Cw c1)).map (cz.mg (bif Nat.beq k.hd 0 then c1 else c2) c1) ++ [.sl o1 k A c (l1 ++ l2) c1 li]⟩ d (.slice A (l1 ++ l2).length c)) K) (hok : H5 P t s by_ = true := by kernel_rfl) (ho12 : (Nat.ble 1 o1 && Nat.ble o1 2) = true := by kernel_rfl) :
  df C S (fun a w => Oper.wp P ⟨d, .call ⟨.builtin .append, #[x, y], #[t, t]⟩, ty, pos, af, g⟩ a w K Q) := fun a w H => by
 obtain ⟨fp, W⟩ := H.wl
 obtain ⟨e, i, zz, hu, hi, hsz, hby, hpos, hzz, hzs⟩ := ND hok
 obtain ⟨bs1, f1, hb1, hn1, ho1⟩ := W.ent _ (List.mem_of_getElem? he1)
 obtain ⟨bs2, f2, hbs2, hn2, ho2⟩ := W.ent _ (List.mem_of_getElem? he2)
 rw [Bool.and_eq_true] at ho12
 have hoA : 1 ≤ o1 := Nat.le_of_ble_eq_true ho12.1
 have hoB : o1 ≤ 2 := Nat.le_of_ble_eq_true ho12.2
 have hc1 : c1 ≠ 0 := ho1 (by show o1 ≠ 0; omega)
 obtain ⟨cs2, b2, E2, hsub2, _, fc2⟩ := D9 (P := P) (s := s) hs f2
 obtain ⟨cs1, b1, E1, hsub1, hbb1, fc1⟩ := D9 (P := P) (s := s) hs f1
 have hlen1 : cs1.length = l1.length * s := by rw [dw.len (fun _ _ _ => k.rep_len) E1, hs]
 have hlen2 : cs2.length = l2.length * s := by rw [dw.len (fun _ _ _ => k.rep_len) E2, hs]
 have hlenOf : Builtin.lenOf (.slice A2 l2.length k2) = pure l2.length := rfl
 -- the elements' blocks, in the new world
 have hlt1 : ∀ b ∈ bs1, b < w.heap.size := fun b hbb => (W.lt _ b (hb1 b hbb)).1
 have hlt2 : ∀ b ∈ bs2, b < w.heap.size := fun b hbb => (W.lt _ b (hbs2 b hbb)).1
 have hrun : ∀ r w', (Builtin.append_ #[t, t] ty #[.slice A1 l1.length k1, .slice A2 l2.length k2]).run P w = .ok r w' →
   (execOp a.eval ⟨d, .call ⟨.builtin .append, #[x, y], #[t, t]⟩, ty, pos, af, g⟩).run P w = .ok (.value r) w' := fun r w' hr => by
  simp [execOp, resolve, invoke, builtin, H.tms.ev hx, H.tms.ev hy, hr]
 -- what is known when the elements stand in a block nb of class c1
 have sB : ∀ (nb off cap : Nat) (cur : Array Value) (tt : TypeId) (w' : World) (fp' : Nat → Nat → Prop), w'.heap[nb]? = some (.cells cur tt (0, 0)) → fp' c1 nb → (∀ j v, (cs1 ++ cs2)[j]? = some v → cur[off + j]? = some v) → off + cap * s ≤ cur.size → (2 ≤ o1 → off = 0 ∧ cur.size = cap * s) → (l1 ++ l2).length ≤ cap → cap ≤ maxLen →
   (∀ b ∈ b1 ++ b2, w'.heap[b]? = w.heap[b]?) → nb ∉ b1 ++ b2 → (∀ c b, fp c b → fp' c b) →
   jf C.base C.T S.bx (S.en.filter (Cw c1)) w' fp' → vQ C.T C.base C.w0 w' →
   K (a.put d (.slice (some ⟨nb, off, none⟩) (l1.length + l2.length) cap)) w' := fun nb off cap cur tt w' fp' hnb hfp hcur hcs hcs2 hcap hmax hkeep hnot hmono W' hbel => by
  have Eall : ∃ be, dw (k.rep 1 w') (cs1 ++ cs2) (l1 ++ l2) be ∧ be.Sublist (b1 ++ b2) ∧ (k.hd = 0 → be = []) ∧ (k.hd ≠ 0 → be = b1 ++ b2) := by
   by_cases hk : k.hd = 0
   ·obtain ⟨_, q1⟩ := dw.flat k hk (o' := 1) (w' := w') E1
    obtain ⟨_, q2⟩ := dw.flat k hk (o' := 1) (w' := w') E2
    exact ⟨[], by simpa using dw.append q1 q2, List.nil_sublist _, fun _ => rfl, fun h => absurd hk h⟩
   ·rcases hf with hf | ⟨hf1, hf2, _⟩
    ·exact absurd hf hk
    ·have q1 := dw.mono (R' := k.rep 1 w') (fun cs y b _ hbb r => k.rep_keep (by omega) (fun q hq => hkeep q (List.mem_append_left _ (hbb q hq))) r) E1
     have q2 := dw.mono (R' := k.rep 1 w') (fun cs y b _ hbb r => k.rep_keep (by omega) (fun q hq => hkeep q (List.mem_append_right _ (hbb q hq))) r) E2
     exact ⟨_, dw.append q1 q2, List.Sublist.refl _, fun h => absurd h hk, fun _ => rfl⟩
  obtain ⟨be, Ee, hbe, hbe0, hbe1⟩ := Eall
  have hfact : (cz.sl o1 k (some ⟨nb, off, none⟩) cap (l1 ++ l2) c1 li).fact w' (nb :: be) :=
   ⟨hcap, .inr (.inr ⟨nb, off, cur, tt, (0, 0), cs1 ++ cs2, be, rfl, hnb, by rw [Nat.min_eq_right hoA]; exact Ee, fun j v hv => hcur j v hv, rfl, fun _ => ⟨rfl, by rw [hs]; exact hcs, hmax⟩, fun h => by rw [hs]; exact hcs2 h⟩)⟩
  have W2 := W'.map (yR (bif Nat.beq k.hd 0 then c1 else c2) c1) (by
   unfold yR
   by_cases hk : k.hd = 0
   ·rw [hk]; simp [Nat.beq_refl]; cases hq : Nat.beq 0 c1 with
    | false => rfl
    | true => exact absurd (Nat.eq_of_beq_eq_true hq).symm hc1
   ·have : Nat.beq k.hd 0 = false := by cases hq : Nat.beq k.hd 0 with | false => rfl | true => exact absurd (Nat.eq_of_beq_eq_true hq) hk
    rw [this]
    rcases hf with hf | ⟨hf1, hf2, _⟩
    ·exact absurd hf hk
    ·simp only [cond_false]; cases hq : Nat.beq 0 c2 with
     | false => rfl
     | true => exact absurd (Nat.eq_of_beq_eq_true hq).symm hf2) (fun c hc => by
   unfold yR
   cases hq : Nat.beq c (bif Nat.beq k.hd 0 then c1 else c2) with
   | false => exact hc
   | true => exact hc1)
  have hself : yR (bif Nat.beq k.hd 0 then c1 else c2) c1 c1 = c1 := by
   unfold yR; cases Nat.beq c1 (bif Nat.beq k.hd 0 then c1 else c2) <;> rfl
  have W3 := W2.add hfact (fun b hbb => by
   rcases List.mem_cons.1 hbb with hbb | hbb
   ·subst hbb; exact ⟨c1, hself, hfp⟩
   ·by_cases hk : k.hd = 0
    ·rw [hbe0 hk] at hbb; cases hbb
    ·rw [hbe1 hk] at hbb
     have hne : Nat.beq k.hd 0 = false := by cases hq : Nat.beq k.hd 0 with | false => rfl | true => exact absurd (Nat.eq_of_beq_eq_true hq) hk
     rcases List.mem_append.1 hbb with hbb | hbb
     ·exact ⟨c1, hself, hmono _ _ (hb1 b (hsub1.subset hbb))⟩
     ·exact ⟨c2, by rw [hne]; simp [yR, Nat.beq_refl, cz.cls], hmono _ _ (hbs2 b (hsub2.subset hbb))⟩) (fun hl => by
   rw [List.nodup_cons]
   refine ⟨fun hm => hnot (hbe.subset hm), ?_⟩
   by_cases hk : k.hd = 0
   ·rw [hbe0 hk]; simp
   ·rw [hbe1 hk]
    rcases hli hl with h' | ⟨h1, h2, h3⟩
    ·exact absurd h' hk
    ·rw [List.nodup_append]
     refine ⟨hsub1.nodup (hn1 h1), hsub2.nodup (hn2 h2), fun p hp q hq e => ?_⟩
     subst e
     exact h3 (W.sole _ _ _ (hb1 _ (hsub1.subset hp)) (hbs2 _ (hsub2.subset hq)))) (fun _ => hc1)
  rw [show l1.length + l2.length = (l1 ++ l2).length from List.length_append.symm]
  exact h _ _ _ _ (vP.put (S := ⟨S.tm, S.bx, (S.en.filter (Cw c1)).map (cz.mg (bif Nat.beq k.hd 0 then c1 else c2) c1) ++ [.sl o1 k (some ⟨nb, off, none⟩) cap (l1 ++ l2) c1 li]⟩) ⟨H.tms.same rfl, ⟨_, W3⟩, hbel, H.base⟩ hd)
 have hone : ∀ u ∈ cs2, u.oneCell' = true := dw.one E2
 have hL : (l1 ++ l2).length = l1.length + l2.length := List.length_append
 unfold Oper.wp
 by_cases hroom : l1.length + l2.length ≤ k1
 ·-- in place
  obtain ⟨hle, f1'⟩ := f1
  rcases f1' with ⟨rfl, rfl, rfl⟩ | ⟨h0, _⟩ | ⟨gb, off, cur, e', fr, csx, bs', rfl, hg, he, hc, rfl, hw1, hw2⟩
  ·have z1 : l1 = [] := List.eq_nil_of_length_eq_zero (by omega)
   have z2 : l2 = [] := List.eq_nil_of_length_eq_zero (by omega)
   subst z1 z2
   have e2 : cs2 = [] := List.eq_nil_of_length_eq_zero (by simpa using hlen2)
   subst e2
   have hr : (Builtin.append_ #[t, t] ty #[.slice none ([] : List α).length 0, .slice A2 ([] : List α).length k2]).run P w = .ok (.slice none 0 0) w := by
    have := fc2 w (fun _ _ => rfl)
    simp only [List.length_nil] at this
    subst hsz
    simp [Builtin.append_, run_underlying hu, sizeOf, typeInfo, hi, Builtin.lenOf, this]
   rw [hrun _ _ hr]
   have W2 := (W.drop c1).map (yR (bif Nat.beq k.hd 0 then c1 else c2) c1) (by
    unfold yR
    cases hq : Nat.beq 0 (bif Nat.beq k.hd 0 then c1 else c2) with
    | false => rfl
    | true =>
     exfalso
     have hq' := Nat.eq_of_beq_eq_true hq
     by_cases hk : k.hd = 0
     ·rw [hk] at hq'; simp at hq'; exact hc1 hq'.symm
     ·have : Nat.beq k.hd 0 = false := by cases hq : Nat.beq k.hd 0 with | false => rfl | true => exact absurd (Nat.eq_of_beq_eq_true hq) hk
      rw [this] at hq'; simp at hq'
      rcases hf with hf | ⟨_, hf2, _⟩
      ·exact hk hf
      ·exact hf2 hq'.symm) (fun c hc => by
    unfold yR
    cases hq : Nat.beq c (bif Nat.beq k.hd 0 then c1 else c2) with
    | false => exact hc
    | true => exact hc1)
   have W3 := W2.add (e := .sl o1 k none 0 ([] ++ [] : List α) c1 li) (bs := []) ⟨Nat.le_refl _, .inl ⟨rfl, rfl, rfl⟩⟩ (fun b hb => by cases hb) (fun _ => by simp) (fun _ => hc1)
   exact h none 0 _ _ (vP.put (S := ⟨S.tm, S.bx, (S.en.filter (Cw c1)).map (cz.mg (bif Nat.beq k.hd 0 then c1 else c2) c1) ++ [.sl o1 k none 0 ([] ++ [] : List α) c1 li]⟩) ⟨H.tms.same rfl, ⟨_, W3⟩, H.bel, H.base⟩ hd)
  ·exact absurd h0 (by omega)
  ·obtain ⟨rfl, hin, hmax⟩ := hw1 (by omega)
   have hcsx : csx.length = l1.length * s := by rw [dw.len (fun _ _ _ => k.rep_len) he, hs]
   have hfc := fc1 w (fun _ _ => rfl)
   have ecs : cs1 = csx := by
    have h2 := run_firstCells_some (P := P) w s l1.length ⟨gb, off, none⟩ l1.length k1 csx hcsx (fun j v hv => by rw [kO]; simp [World.cell?, hg]; simpa using hc j v hv)
    rw [h2] at hfc
    have := congrArg (fun r : Result (Array Value) => match r with | .ok v _ => v | _ => #[]) hfc
    simpa using this.symm
   subst ecs
   have hroom2 : (l1.length + l2.length) * i.size ≤ k1 * i.size := Nat.mul_le_mul_right _ hroom
   rw [Nat.add_mul] at hroom2
   rw [hs, ← hsz] at hin
   rw [← hsz] at hlen1 hlen2
   have hfit : off + l1.length * i.size + cs2.length ≤ cur.size := by omega
   have hr := Ki (P := P) w t ty e e' i hu hi gb off l1.length k1 cur hg (.slice A2 l2.length k2) l2.length cs2 hlen2 hlenOf (by rw [hsz]; exact fc2 w (fun _ _ => rfl)) hone hroom hfit
   rw [hrun _ _ hr]
   have hgfp : fp c1 gb := hb1 gb (List.mem_cons_self ..)
   have hoth : ∀ b, b ≠ gb → (w.setRow gb (cur.toList.take (off + l1.length * i.size) ++ cs2 ++ cur.toList.drop (off + l1.length * i.size + cs2.length)).toArray).heap[b]? = w.heap[b]? := fun b hb => setRow_other w gb b _ hb
   have hnotin : gb ∉ b1 ++ b2 := by
    rcases hf with hk | ⟨_, _, hl1, hne⟩
    ·rw [(dw.flat k hk (o' := 1) (w' := w) E1).1, (dw.flat k hk (o' := 1) (w' := w) E2).1]; simp
    ·intro hm
     rcases List.mem_append.1 hm with hm | hm
     ·have hnd := hn1 hl1
      rcases hbb1 with hbb1 | hbb1 | ⟨g', hbb1⟩
      ·cases hbb1
      ·omega
      ·obtain ⟨e1, e2⟩ := List.cons.inj hbb1
       rw [List.nodup_cons] at hnd
       exact hnd.1 (e2 ▸ hm)
     ·exact hne (W.sole _ _ _ hgfp (hbs2 _ (hsub2.subset hm)))
   have W' := (W.drop c1).upd (w' := w.setRow gb (cur.toList.take (off + l1.length * i.size) ++ cs2 ++ cur.toList.drop (off + l1.length * i.size + cs2.length)).toArray) hgfp RD (by simp) hoth
   have hsz3 : (cur.toList.take (off + l1.length * i.size) ++ cs2 ++ cur.toList.drop (off + l1.length * i.size + cs2.length)).toArray.size = cur.size := by
    simp only [List.size_toArray, List.length_append, List.length_take, List.length_drop, Array.length_toList]; omega
   refine sB gb off k1 _ e' _ fp (setRow_heap w gb cur _ e' _ hg) hgfp (fun j v hv => ?_) (by rw [hsz3, ← hsz]; exact hin) (fun h2 => by rw [hsz3]; have := hw2 h2; rw [hs] at this; exact this) (by rw [hL]; exact hroom) hmax (fun b hbb => hoth b (fun e => hnotin (e ▸ hbb))) hnotin (fun _ _ h => h) W' (H.bel.write ((W.lt _ _ hgfp).2 hc1) rfl rfl rfl (by simp) (fun q _ hq => hoth q hq) H.size)
   have hj : j < (cs1 ++ cs2).length := by
    rcases Nat.lt_or_ge j (cs1 ++ cs2).length with h' | h'
    ·exact h'
    ·rw [List.getElem?_eq_none h'] at hv; cases hv
   rw [List.length_append] at hj
   have hl0 : (cur.toList.take (off + l1.length * i.size)).length = off + l1.length * i.size := by simp; omega
   simp only [List.getElem?_toArray]
   by_cases q1 : j < cs1.length
   ·rw [List.getElem?_append_left q1] at hv
    rw [List.append_assoc, List.getElem?_append_left (by rw [hl0]; omega), List.getElem?_take, if_pos (by omega)]
    have := hc j v hv
    simpa using this
   ·rw [List.getElem?_append_right (by omega)] at hv
    rw [List.append_assoc, List.getElem?_append_right (by rw [hl0]; omega), hl0, List.getElem?_append_left (by omega), ← hv]
    congr 1; omega
 ·have ho1 : k1 < l1.length + l2.length := by omega
  have hfo := fc1 w.drew (fun _ _ => rfl)
  -- the header may stand at another capacity
  have hfo' : (Builtin.firstCells s l1.length (.slice A1 l1.length k1)).run P w.drew = .ok cs1.toArray w.drew := hfo
  subst hsz hby
  have hr := Kj (P := P) w t ty e i zz hu hi hzz A1 l1.length k1 cs1 (.slice A2 l2.length k2) l2.length cs2 hlenOf hfo' (fc2 w.drew (fun _ _ => rfl)) ho1 (by omega) (growslice_fits ho1 hb)
  rw [hrun _ _ hr]
  have hge := grownCap_ge w (l1.length + l2.length) k1 e
  have hmx := grownCap_le_maxLen w (l1.length + l2.length) k1 e (by unfold maxLen; omega)
  generalize grownCap w (l1.length + l2.length) k1 e = cap at hge hmx ⊢
  have hold : ∀ b, b < w.heap.size → (w.drew.alloc (.cells (cs1.toArray ++ cs2.toArray ++ Builtin.zeroCells zz.cells (cap - (l1.length + l2.length))) e)).heap[b]? = w.heap[b]? := fun b hb => by
   rw [qx, if_neg (by simp; omega)]; rfl
  have W' := (W.drop c1).blk (c := c1) (w' := w.drew.alloc (.cells (cs1.toArray ++ cs2.toArray ++ Builtin.zeroCells zz.cells (cap - (l1.length + l2.length))) e)) hc1 (by simp) H.size hold
  have hsz4 : (cs1.toArray ++ cs2.toArray ++ Builtin.zeroCells zz.cells (cap - (l1.length + l2.length))).size = cap * i.size := by
   simp only [Array.size_append, List.size_toArray, size_zeroCells, hzs, hlen1, hlen2, ← Nat.add_mul]
   congr 1
   omega
  refine sB w.heap.size 0 cap _ e _ (fun d b => fp d b ∨ (d = c1 ∧ b = w.heap.size)) (by rw [qx, if_pos (by simp)]) (.inr ⟨rfl, rfl⟩) (fun j v hv => ?_) (by rw [Nat.zero_add, hsz4]; exact Nat.le_refl _) (fun _ => ⟨rfl, hsz4⟩) (by rw [hL]; exact hge) hmx (fun b hbb => hold b ?_) (fun hm => ?_) (fun _ _ h => .inl h) W' (H.bel.trans ⟨rfl, rfl, rfl, by simp, fun q hq _ => hold q (Nat.lt_of_lt_of_le hq H.size)⟩)
  ·have : j < (cs1 ++ cs2).length := by
    rcases Nat.lt_or_ge j (cs1 ++ cs2).length with h' | h'
    ·exact h'
    ·rw [List.getElem?_eq_none h'] at hv; cases hv
   rw [Nat.zero_add, Array.getElem?_append_left (by simpa using this)]
   simpa using hv
  ·rcases List.mem_append.1 hbb with h' | h'
   ·exact hlt1 b (hsub1.subset h')
   ·exact hlt2 b (hsub2.subset h')
  ·rcases List.mem_append.1 hm with h' | h'
   ·exact Nat.lt_irrefl _ (hlt1 _ (hsub1.subset h'))
   ·exact Nat.lt_irrefl _ (hlt2 _ (hsub2.subset h'))
theorem di {α : Type} {o1 o2 : Nat} {k : Kd α} {A1 A2 : Option Addr} {k1 k2 s by_ : Nat} {l1 l2 : List α} {c1 c2 : Nat} {li1 li2 : Bool} (j1 : Nat) (j2 : Nat) (hh0 : (S.en[j1]? = some (.sl o1 k A1 k1 l1 c1 li1)) ∧ (S.en[j2]? = some (.sl o2 k A2 k2 l2 c2 li2)) ∧ (S.ev x = some (.slice A1 l1.length k1)) ∧ (S.ev y = some (.slice A2 l2.length k2))) (hb : (l1.length + l2.length) * by_ ≤ 140737488355328) (hb2 : l1.length + l2.length ≤ 140737488355328) (hf : k.hd = 0 ∨ (o2 ≠ 0 ∧ c2 ≠ 0 ∧ li1 = true ∧ c1 ≠ c2)) (li : Bool) (hli : li = true → k.hd = 0 ∨ (li1 = true ∧ li2 = true ∧ c1 ≠ c2)) (hh1 : (k.size = s) ∧ (d.all (Nat.blt · C.n) = true)) (h : ∀ A c, df C (St.put ⟨S.tm, S.bx, (S.en.filter (Cw c1)).map (cz.mg (bif Nat.beq k.hd 0 then c1 else c2) c1) ++ [.sl o1 k A c (l1 ++ l2) c1 li]⟩ d (.slice A (l1 ++ l2).length c)) K) (hok : H5 P t s by_ = true := by kernel_rfl) (ho12 : (Nat.ble 1 o1 && Nat.ble o1 2) = true := by kernel_rfl) :
  df C S (fun a w => Oper.wp P ⟨d, .call ⟨.builtin .append, #[x, y], #[t, t]⟩, ty, pos, af, g⟩ a w K Q) := ZR j1 j2 hh0.1 hh0.2.1 hh0.2.2.1 hh0.2.2.2 hb hb2 hf li hli hh1.1 hh1.2 h (hok := hok) (ho12 := ho12)
end
def lD {α : Type} (k : Kd α) : List α → List (List uG) → List Value
 | x :: xs, h :: hs => k.cells x h ++ lD k xs hs
 | _, _ => []
def Gc {α : Type} (k : Kd α) (o c : Nat) (b : Bool) : List α → List (List uG) → List cz
 | x :: xs, h :: hs => k.subs o c b x h ++ Gc k o c b xs hs
 | _, _ => []
def AV {α : Type} (k : Kd α) : List α → List (List uG) → Bool
 | [], [] => true
 | _ :: xs, h :: hs => Nat.beq h.length k.hd && AV k xs hs
 | _, _ => false
theorem dw.closed {α : Type} (k : Kd α) {w : World} {c : Nat} {b : Bool} : ∀ {l : List α} {hss : List (List uG)} {bss : List (List Nat)}, AV k l hss = true → kn w (Gc k 1 c b l hss) bss → dw (k.rep 1 w) (lD k l hss) l bss.flatten
 | [], [], _, _, h => by cases h; exact ⟨rfl, rfl⟩
 | x :: xs, h :: hs, bss, hk, hf => by
  simp only [AV, Bool.and_eq_true] at hk
  obtain ⟨b1, b2, rfl, f1, f2⟩ := kn.split hf
  exact ⟨_, _, b1.flatten, b2.flatten, rfl, by simp, k.closed c b (Nat.le_refl _) (Nat.eq_of_beq_eq_true hk.1) f1, dw.closed k hk.2 f2⟩
 | [], _ :: _, _, h, _ => by cases h
 | _ :: _, [], _, h, _ => by cases h
inductive H7 (fp : Nat → Nat → Prop) (en : List cz) : List Pk → List (List Nat) → Prop
 | nil : H7 fp en [] []
 | cons {p : Pk} {bs : List Nat} {ps : List Pk} {bss : List (List Nat)} (h : ∀ b ∈ bs, fp (iL en p.i) b) (hn : p.l = true → bs.Nodup) (k : H7 fp en ps bss) : H7 fp en (p :: ps) (bs :: bss)
theorem jf.facts {base : Nat} {T : Nat → Prop} {bx : List iq} {en : List cz} {w : World} {fp : Nat → Nat → Prop} (h : jf base T bx en w fp) : ∀ {ps : List Pk} {en' : List cz}, pj en ps = some en' → ∃ bss, kn w en' bss ∧ H7 fp en ps bss
 | [], en', e => by simp [pj] at e; subst e; exact ⟨[], .nil, .nil⟩
 | p :: r, en', e => by
  have e0 := e
  simp only [pj] at e
  cases h1 : en[p.i]? with
  | none => simp [h1] at e
  | some e1 =>
   cases h2 : pj en r with
   | none => simp [h1, h2] at e
   | some l =>
    simp only [h1, h2] at e
    cases hc : (Nat.ble p.o e1.o && (!p.l || e1.lin) && (Nat.beq p.o 0 || !Nat.beq p.c 0) && (Nat.beq p.c 0 || !Nat.beq e1.cls 0)) with
    | false => simp [hc] at e
    | true =>
     simp only [hc, cond_true, Option.some.injEq] at e
     subst e
     obtain ⟨bss, f, hd⟩ := jf.facts h h2
     obtain ⟨bs, f1, hb, hl, ho⟩ := h.ent e1 (List.mem_of_getElem? h1)
     have D7 : iL en p.i = e1.cls := by simp [iL, h1]
     simp only [Bool.and_eq_true, Bool.or_eq_true, Bool.not_eq_true'] at hc
     exact ⟨bs :: bss, .cons (cz.fact_re (Nat.le_of_ble_eq_true hc.1.1.1) f1) f, .cons (fun b hbb => by rw [D7]; exact hb b hbb) (fun hpl => by
      rcases hc.1.1.2 with h' | h'
      ·rw [hpl] at h'; cases h'
      ·exact hl h') hd⟩
theorem H7.mem {fp : Nat → Nat → Prop} {en : List cz} : ∀ {ps : List Pk} {bss : List (List Nat)}, H7 fp en ps bss → ∀ b ∈ bss.flatten, ∃ p ∈ ps, fp (iL en p.i) b
 | _, _, .nil, b, hb => by simp at hb
 | _, _, .cons h _ k, b, hb => by
  rw [List.flatten_cons] at hb
  rcases List.mem_append.1 hb with hb | hb
  ·exact ⟨_, List.mem_cons_self .., h b hb⟩
  ·obtain ⟨p, hp, hf⟩ := k.mem b hb; exact ⟨p, List.mem_cons_of_mem _ hp, hf⟩
theorem H7.nodup {fp : Nat → Nat → Prop} {en : List cz} (sole : ∀ c c' b, fp c b → fp c' b → c = c') : ∀ {ps : List Pk} {bss : List (List Nat)}, H7 fp en ps bss → (∀ p ∈ ps, p.l = true) → (ps.map fun p => iL en p.i).Nodup → bss.flatten.Nodup
 | _, _, .nil, _, _ => by simp
 | _, _, .cons (p := p) (ps := ps) h hn k, hl, hd => by
  rw [List.map_cons, List.nodup_cons] at hd
  rw [List.flatten_cons, List.nodup_append]
  refine ⟨hn (hl _ (List.mem_cons_self ..)), k.nodup sole (fun q hq => hl q (List.mem_cons_of_mem _ hq)) hd.2, fun b hb b' hb' e => ?_⟩
  subst e
  obtain ⟨q, hq, hf⟩ := k.mem b hb'
  exact hd.1 (List.mem_map.2 ⟨q, hq, (sole _ _ b (h b hb) hf).symm⟩)
def Cy (cs : List Nat) (m : Nat) (c : Nat) : Nat := bif cs.any (Nat.beq c) then m else c
def cz.mgs (cs : List Nat) (m : Nat) (e : cz) : cz := e.re e.o (Cy cs m e.cls) e.lin
theorem T8 {cs : List Nat} {m : Nat} (h : cs.all (fun c => !Nat.beq c 0) = true) : Cy cs m 0 = 0 := by
 unfold Cy
 cases hq : cs.any (Nat.beq 0) with
 | false => rfl
 | true =>
  obtain ⟨c, hc, e⟩ := List.any_eq_true.1 hq
  have := List.all_eq_true.1 h c hc
  have := Nat.eq_of_beq_eq_true e
  subst this; simp at *
theorem RE {cs : List Nat} {m : Nat} (hm : m ≠ 0) : ∀ c, c ≠ 0 → Cy cs m c ≠ 0 := fun c hc => by unfold Cy; cases cs.any (Nat.beq c) <;> assumption
theorem RF {cs : List Nat} {m c : Nat} (h : c ∈ cs) : Cy cs m c = m := by
 unfold Cy; rw [List.any_eq_true.2 ⟨c, h, Nat.beq_refl c⟩]; rfl
def RA (m : Nat) (is : List Nat) : List Pk := is.map fun i => ⟨i, 1, m, true⟩
section
variable {P : Program} {C : Cx} {S : St} {K : Act → World → Prop} {Q : Exit → Act → World → Prop} {d : Option Nat} {ty : TypeId} {pos : String} {af : Array Edge} {g : Option (Nat × Bool)} {x y z : Operand} {v : Value} {t u : TypeId}
theorem ZP {α : Type} {n s by_ : Nat} {parts : Array (Nat × Operand)} (k : Kd α) (l : List α) (hss : List (List uG)) (is : List Nat) (m : Nat) (xs : List Operand) {vs : List Value} (hp : parts.toList = (xs.zipIdx 0).map fun p => (p.2, p.1)) (hx : S.evs xs = some vs)
  (hvs : (vs.flatMap fun v => v.cells.toList) = lD k l hss) (hvl : (vs.all fun v => Nat.beq v.cells.size s) = true) (hn : vs.length = n) (hl : l.length = n) (hsm : Nat.ble (n * s) 16777216 = true) (hs : k.size = s) (hk : AV k l hss = true)
  (hsub : pj S.en (RA m is) = some (Gc k 1 m true l hss)) (hcs : (is.map (iL S.en)).all (fun c => !Nat.beq c 0) = true) (hnd : kd (is.map (iL S.en)) = true) (hm : Gy m S.en = true) (hm0 : m ≠ 0) (hd : d.all (Nat.blt · C.n) = true)
  (h : ∀ A c, df C (St.put ⟨S.tm, S.bx, S.en.map (cz.mgs (is.map (iL S.en)) m) ++ [.sl 2 k A c l m true]⟩ d (.slice A l.length c)) K) (hok : H5 P t s by_ = true := by kernel_rfl) :
  df C S (fun a w => Oper.wp P ⟨d, .buildSlice t n parts, ty, pos, af, g⟩ a w K Q) := fun a w H => by
 obtain ⟨fp, W⟩ := H.wl
 obtain ⟨e, i, zz, hu, hi, hsz, hby, hpos, hzz, hzs⟩ := ND hok
 have hev := H.tms.evs hx
 have hcell : ∀ v ∈ vs, v.cells.size = s := fun v hv => Nat.eq_of_beq_eq_true (List.all_eq_true.1 hvl v hv)
 have hpe : (parts.map fun (i, x) => (i, a.eval x)).toList = (vs.zipIdx 0).map fun p => (p.2, p.1) := by
  rw [Array.toList_map, hp, ← hev, List.zipIdx_map, List.map_map, List.map_map]; rfl
 have hcells : (lD k l hss).length = n * s := by
  rw [← hvs, List.length_flatMap, ← hn]
  have : (vs.map fun v => v.cells.toList.length) = List.replicate vs.length s := by
   apply List.ext_getElem?
   intro j
   rw [List.getElem?_map, List.getElem?_replicate]
   by_cases hj : j < vs.length
   ·rw [List.getElem?_eq_getElem hj, if_pos hj]; simp [hcell _ (List.getElem_mem hj)]
   ·rw [List.getElem?_eq_none (by omega), if_neg hj]; rfl
  rw [this]; simp
 have hr : (Instr.buildSlice t n (parts.map fun (i, x) => (i, a.eval x))).run P w = .ok (.slice (some ⟨w.heap.size, 0, none⟩) n n) (w.alloc (.cells (lD k l hss).toArray e)) := by
  have hsm' := Nat.le_of_ble_eq_true hsm
  by_cases h0 : n = 0
  ·subst h0
   have hv0 : vs = [] := List.eq_nil_of_length_eq_zero hn
   have hc0 : lD k l hss = [] := List.eq_nil_of_length_eq_zero (by rw [hcells]; omega)
   rw [hc0]
   simp [Instr.buildSlice, run_underlying hu, sizeOf, typeInfo, hi, hpe, hv0, Instr.fill, newRow]
   have : parts.map (fun (i, x) => (i, a.eval x)) = #[] := by
    apply Array.toList_inj.1; rw [hpe, hv0]; rfl
   simp at this
   have hz : Array.range 0 = #[] := by decide
   simp [this, Instr.fill, hz]
  ·have hf := Great.fill_whole (s := s) hpos vs ((Array.range (n * s)).map (zz.cells[· % zz.cells.size]!)) hcell (by simp [hn])
   rw [hvs] at hf
   subst hsz
   exact run_buildSlice w t e n _ _ i zz hu hi hzz (by omega) (by have := Nat.mul_pos (Nat.pos_of_ne_zero h0) hpos; omega) (by rw [hpe]; exact hf)
 unfold Oper.wp
 have hr' : (execOp a.eval ⟨d, .buildSlice t n parts, ty, pos, af, g⟩).run P w = .ok (.value (.slice (some ⟨w.heap.size, 0, none⟩) n n)) (w.alloc (.cells (lD k l hss).toArray e)) := by
  simp only [execOp]
  rw [Sem.run_bind, hr]; rfl
 rw [hr']
 obtain ⟨bss, F, Hd⟩ := W.facts hsub
 have hold : ∀ b, b < w.heap.size → (w.alloc (.cells (lD k l hss).toArray e)).heap[b]? = w.heap[b]? := fun b hb => by rw [qx, if_neg (by omega)]
 have hltb : ∀ b ∈ bss.flatten, b < w.heap.size := fun b hb => by obtain ⟨p, _, hf⟩ := Hd.mem b hb; exact (W.lt _ b hf).1
 have F' : kn (w.alloc (.cells (lD k l hss).toArray e)) (Gc k 1 m true l hss) bss := by
  have key : ∀ {es : List cz} {bss : List (List Nat)}, kn w es bss → (∀ b ∈ bss.flatten, b < w.heap.size) → kn (w.alloc (.cells (lD k l hss).toArray e)) es bss := by
   intro es bss f
   induction f with
   | nil => intro _; exact .nil
   | cons h k ih => intro hb; exact .cons (cz.fact_keep (fun b hbb => hold b (hb b (by rw [List.flatten_cons]; exact List.mem_append_left _ hbb))) h) (ih (fun b hbb => hb b (by rw [List.flatten_cons]; exact List.mem_append_right _ hbb)))
  exact key F hltb
 have Ee := dw.closed k hk F'
 have hfact : (cz.sl 2 k (some ⟨w.heap.size, 0, none⟩) n l m true).fact (w.alloc (.cells (lD k l hss).toArray e)) (w.heap.size :: bss.flatten) :=
  ⟨by omega, .inr (.inr ⟨w.heap.size, 0, (lD k l hss).toArray, e, (0, 0), lD k l hss, _, rfl, by rw [qx, if_pos rfl], Ee, fun j v hv => by rw [Nat.zero_add]; simpa using hv, rfl,
   fun _ => ⟨rfl, by rw [hs]; simp [hcells], by have := Nat.le_of_ble_eq_true hsm; have := Nat.le_mul_of_pos_right n hpos; unfold maxLen; omega⟩, fun _ => ⟨rfl, by rw [hs]; simp [hcells]⟩⟩)⟩
 have W1 := (W.map (Cy (is.map (iL S.en)) m) (T8 hcs) (RE hm0)).blk (c := m) (w' := w.alloc (.cells (lD k l hss).toArray e)) hm0 (by simp) H.size hold
 have W2 := W1.add hfact (fun b hb => by
  rcases List.mem_cons.1 hb with hb | hb
  ·exact .inr ⟨rfl, hb⟩
  ·obtain ⟨p, hp, hf⟩ := Hd.mem b hb
   refine .inl ⟨_, RF ?_, hf⟩
   obtain ⟨i, hi, rfl⟩ := List.mem_map.1 hp
   exact List.mem_map.2 ⟨i, hi, rfl⟩) (fun _ => by
  rw [List.nodup_cons]
  refine ⟨fun hm' => Nat.lt_irrefl _ (hltb _ hm'), Hd.nodup W.sole (fun p hp => by obtain ⟨i, _, rfl⟩ := List.mem_map.1 hp; rfl) ?_⟩
  rw [RA, List.map_map]
  exact zP hnd) (fun _ => hm0)
 have := h (some ⟨w.heap.size, 0, none⟩) n _ _ (vP.put (S := ⟨S.tm, S.bx, S.en.map (cz.mgs (is.map (iL S.en)) m) ++ [.sl 2 k (some ⟨w.heap.size, 0, none⟩) n l m true]⟩) ⟨H.tms.same rfl, ⟨_, W2⟩, H.bel.alloc H.size _, H.base⟩ hd)
 rw [hl] at this
 exact this
/-! ### A store into an element -/
theorem bH {α : Type} {n s by_ : Nat} {parts : Array (Nat × Operand)} (k : Kd α) (l : List α) (hss : List (List uG)) (is : List Nat) (m : Nat) (xs : List Operand) {vs : List Value} (hh0 : (parts.toList = (xs.zipIdx 0).map fun p => (p.2, p.1)) ∧ (S.evs xs = some vs) ∧ ((vs.flatMap fun v => v.cells.toList) = lD k l hss) ∧ ((vs.all fun v => Nat.beq v.cells.size s) = true) ∧ (vs.length = n) ∧ (l.length = n) ∧ (Nat.ble (n * s) 16777216 = true) ∧ (k.size = s) ∧ (AV k l hss = true) ∧ (pj S.en (RA m is) = some (Gc k 1 m true l hss)) ∧ ((is.map (iL S.en)).all (fun c => !Nat.beq c 0) = true) ∧ (kd (is.map (iL S.en)) = true) ∧ (Gy m S.en = true)) (hm0 : m ≠ 0) (hd : d.all (Nat.blt · C.n) = true) (h : ∀ A c, df C (St.put ⟨S.tm, S.bx, S.en.map (cz.mgs (is.map (iL S.en)) m) ++ [.sl 2 k A c l m true]⟩ d (.slice A l.length c)) K) (hok : H5 P t s by_ = true := by kernel_rfl) :
  df C S (fun a w => Oper.wp P ⟨d, .buildSlice t n parts, ty, pos, af, g⟩ a w K Q) := ZP k l hss is m xs hh0.1 hh0.2.1 hh0.2.2.1 hh0.2.2.2.1 hh0.2.2.2.2.1 hh0.2.2.2.2.2.1 hh0.2.2.2.2.2.2.1 hh0.2.2.2.2.2.2.2.1 hh0.2.2.2.2.2.2.2.2.1 hh0.2.2.2.2.2.2.2.2.2.1 hh0.2.2.2.2.2.2.2.2.2.2.1 hh0.2.2.2.2.2.2.2.2.2.2.2.1 hh0.2.2.2.2.2.2.2.2.2.2.2.2 hm0 hd h (hok := hok)
theorem dw.set {α : Type} {R : List Value → α → List Nat → Prop} : ∀ {l : List α} {p c q : List Value} {b1 b b2 : List Nat} (i : Nat) (x : α), i < l.length → R c x b → dw R p (l.take i) b1 → dw R q (l.drop (i + 1)) b2 → dw R (p ++ (c ++ q)) (l.set i x) (b1 ++ (b ++ b2))
 | [], _, _, _, _, _, _, i, x, h, _, _, _ => by simp at h
 | y :: ys, p, c, q, b1, b, b2, 0, x, _, hr, hp, hq => by
  obtain ⟨e1, e2⟩ := hp
  subst e1 e2
  exact ⟨c, q, b, b2, rfl, rfl, hr, by simpa using hq⟩
 | y :: ys, p, c, q, b1, b, b2, i + 1, x, h, hr, hp, hq => by
  obtain ⟨c1, c2, u1, u2, e1, e2, h1, h2⟩ := hp
  subst e1 e2
  exact ⟨c1, c2 ++ (c ++ q), u1, u2 ++ (b ++ b2), by simp, by simp, h1, dw.set i x (by simpa using h) hr h2 (by simpa using hq)⟩
theorem ZO {α : Type} {o : Nat} {k : Kd α} {A : Option Addr} {c s sz : Nat} {l : List α} {cls : Nat} {lin : Bool} {p : Addr} (i : Int) (off : Nat) (j : Nat) (dd x' : α) (he : S.en[j]? = some (.sl o k A c l cls lin)) (hx : S.ev x = some (.pointer (some p))) (hy : S.ev y = some v)
  (hp : p = (eA A (i.toNat * s)).add off) (h0 : 0 ≤ i) (h1 : i < (l.length : Int)) (hs : k.size = s) (hk : k.hd = 0) (hv : Ro (k.cells (l.getD i.toNat dd) []) off v = some (k.cells x' [])) (hvs : v.cells.toList.length = sz) (ho : o ≠ 0) (hd : d = none)
  (h : df C ⟨S.tm, S.bx, S.en.filter (Cw cls) ++ [.sl o k A c (l.set i.toNat x') cls true]⟩ K) (hsz : vK P t sz = true := by kernel_rfl) :
  df C S (fun a w => Oper.wp P ⟨d, .store t x y, ty, pos, af, g⟩ a w K Q) := fun a w H => by
 obtain ⟨fp, W⟩ := H.wl
 subst hd
 obtain ⟨bs, f, hb, hn, hoc⟩ := W.ent _ (List.mem_of_getElem? he)
 have hi : i.toNat < l.length := by omega
 have hcz : cls ≠ 0 := hoc ho
 obtain ⟨hle, f⟩ := f
 rcases f with ⟨_, f, _⟩ | ⟨f, _⟩ | ⟨gb, of, cur, e, fr, cs, bs', rfl, hg, hE, hc, rfl, hw1, hw2⟩
 ·omega
 ·exact absurd f ho
 ·obtain ⟨rfl, hin, hmax⟩ := hw1 (by omega)
  obtain ⟨pp, cc, qq, b1, b', b2, rfl, rfl, hr, hpp, hqq⟩ := dw.split i.toNat _ (Di (d := dd) h0 h1) hE
  obtain ⟨hs', hl', hcs', _⟩ := k.opened cls lin (Nat.min_le_right o 1) hr
  rw [hk] at hl'
  have : hs' = [] := List.eq_nil_of_length_eq_zero hl'
  subst this
  have hpl : pp.length = i.toNat * k.size := by rw [dw.len (fun _ _ _ => k.rep_len) hpp, List.length_take, Nat.min_eq_left (by omega)]
  have D7 : cc.length = k.size := k.rep_len hr
  rw [← hcs'] at hv
  unfold Ro at hv
  cases hbb : (Nat.ble (off + v.cells.toList.length) cc.length && v.cells.toList.all (·.oneCell')) with
  | false => rw [hbb] at hv; cases hv
  | true =>
   rw [hbb] at hv
   simp only [cond_true, Option.some.injEq] at hv
   rw [Bool.and_eq_true] at hbb
   have hfit := Nat.le_of_ble_eq_true hbb.1
   have hone : ∀ u ∈ v.cells.toList, u.oneCell' = true := List.all_eq_true.1 hbb.2
   rw [show (eA (some ⟨gb, of, none⟩) (i.toNat * s)).add off = ⟨gb, of + i.toNat * s + off, none⟩ by simp [eA, kO]] at hp
   subst hp
   have hEl := dw.len (fun _ _ _ => k.rep_len) hE
   have hcapk : of + i.toNat * s + s ≤ cur.size := by
    have h2 : (i.toNat + 1) * k.size ≤ c * k.size := Nat.mul_le_mul_right _ (by omega)
    rw [Nat.succ_mul, hs] at h2; rw [hs] at hin; omega
   have hst := run_storeCells_at P gb (of + i.toNat * s + off) e v.cells.toList 0 cur w hg (by omega) hone
   simp only [Nat.add_zero] at hst
   generalize hnew : (cur.toList.take (of + i.toNat * s + off) ++ v.cells.toList ++ cur.toList.drop (of + i.toNat * s + off + v.cells.toList.length)).toArray = new at hst
   have hrun : (execOp a.eval ⟨none, .store t x y, ty, pos, af, g⟩).run P w = .ok .skip (w.setRow gb new) := by
    have hsz' := uA hsz w
    have hvs' : v.cells.size = sz := by rw [← hvs]; simp
    simp [execOp, Instr.storeAt, Instr.sureAddr, H.tms.ev hx, H.tms.ev hy, storeVar, hsz', hvs', hst]
   unfold Oper.wp
   rw [hrun]
   have hoth : ∀ b, b ≠ gb → (w.setRow gb new).heap[b]? = w.heap[b]? := fun b hb => setRow_other w gb b _ hb
   have hgfp : fp cls gb := hb gb (List.mem_cons_self ..)
   have hrow : (w.setRow gb new).heap[gb]? = some (.cells new e (0, 0)) := setRow_heap w gb cur _ e _ hg
   -- flat: no blocks in the elements
   have hflat := dw.flat k hk (o' := min o 1) (w' := w.setRow gb new) hE
   have hb1 := dw.flat k hk (o' := min o 1) (w' := w.setRow gb new) hpp
   have hb2 := dw.flat k hk (o' := min o 1) (w' := w.setRow gb new) hqq
   have hx' : k.rep (min o 1) (w.setRow gb new) (k.cells x' []) x' [] := by
    have := k.closed (o := min o 1) (w := w.setRow gb new) (x := x') (hs := []) (bs := []) cls lin (Nat.min_le_right o 1) (by rw [hk]; rfl) (by
     have hz : k.subs (min o 1) cls lin x' [] = [] := by
      have key : ∀ {β : Type} (k : Kd β) (q : Nat) (x : β) (hs : List uG), k.hd = 0 → k.subs q cls lin x hs = [] := by
       intro β k
       induction k with
       | int | bool | str => intros; rfl
       | pair a b iha ihb => intro q x hs hk; have hk' : a.hd + b.hd = 0 := hk; show a.subs q cls lin x.1 hs ++ b.subs q cls lin x.2 (hs.drop a.hd) = []; rw [iha _ _ _ (by omega), ihb _ _ _ (by omega)]; rfl
       | iso f g fg a ih => intro q x hs hk; exact ih q (g x) hs hk
       | slice a ih => intro q x hs hk; cases hk
      exact key k _ _ _ hk
     rw [hz]; exact .nil)
    simpa using this
   have hE' := dw.set (l := l) i.toNat x' hi hx' hb1.2 hb2.2
   have hfact : (cz.sl o k (some ⟨gb, of, none⟩) c (l.set i.toNat x') cls true).fact (w.setRow gb new) [gb] := by
    refine ⟨by rw [List.length_set]; exact hle, .inr (.inr ⟨gb, of, new, e, (0, 0), _, [], rfl, hrow, by simpa using hE', fun q u hu => ?_, rfl, fun _ => ⟨rfl, ?_, hmax⟩, fun h2 => ⟨(hw2 h2).1, ?_⟩⟩)⟩
    ·-- the cells, read one by one
     have hcq : ∀ q u, (pp ++ (cc ++ qq))[q]? = some u → cur[of + q]? = some u := hc
     rw [← hv] at hu
     have hcur : ∀ q, new[q]? = if q < of + i.toNat * s + off then cur[q]? else if q < of + i.toNat * s + off + v.cells.toList.length then v.cells.toList[q - (of + i.toNat * s + off)]? else cur[q]? := fun q => by
      rw [← hnew, List.getElem?_toArray, List.append_assoc]
      by_cases h1 : q < of + i.toNat * s + off
      ·rw [if_pos h1, List.getElem?_append_left (by simp; omega), List.getElem?_take, if_pos h1]; simp
      ·rw [if_neg h1, List.getElem?_append_right (by simp; omega)]
       have hl0 : (cur.toList.take (of + i.toNat * s + off)).length = of + i.toNat * s + off := by simp; omega
       rw [hl0]
       by_cases h2 : q < of + i.toNat * s + off + v.cells.toList.length
       ·rw [if_pos h2, List.getElem?_append_left (by omega)]
       ·rw [if_neg h2, List.getElem?_append_right (by omega), List.getElem?_drop]
        simp only [Array.getElem?_toList]
        congr 1; omega
     have hpl' : pp.length = i.toNat * s := by rw [hpl, hs]
     have hcl' : cc.length = s := by rw [D7, hs]
     rw [hcur]
     by_cases q1 : q < pp.length
     ·rw [List.getElem?_append_left q1] at hu
      rw [if_pos (by omega)]
      exact hcq q u (by rw [List.getElem?_append_left q1]; exact hu)
     ·rw [List.getElem?_append_right (by omega)] at hu
      by_cases q2 : q - pp.length < s
      ·rw [List.getElem?_append_left (by simp; omega)] at hu
       by_cases q3 : q - pp.length < off
       ·rw [List.getElem?_append_left (by simp; omega), List.getElem?_take, if_pos q3] at hu
        rw [if_pos (by omega)]
        exact hcq q u (by rw [List.getElem?_append_right (by omega), List.getElem?_append_left (by omega)]; exact hu)
       ·have ho' : (cc.take off).length = off := by simp; omega
        rw [List.getElem?_append_right (by omega), ho'] at hu
        rw [if_neg (by omega)]
        by_cases q4 : q - pp.length - off < v.cells.toList.length
        ·rw [List.getElem?_append_left q4] at hu
         rw [if_pos (by omega)]
         rw [← hu]; congr 1; omega
        ·rw [List.getElem?_append_right (by omega), List.getElem?_drop] at hu
         rw [if_neg (by omega)]
         refine hcq q u ?_
         rw [List.getElem?_append_right (by omega), List.getElem?_append_left (by omega), ← hu]
         congr 1; omega
      ·have hn1 : (cc.take off ++ (v.cells.toList ++ cc.drop (off + v.cells.toList.length))).length = s := by simp; simp at hfit; omega
       rw [List.getElem?_append_right (by omega), hn1] at hu
       rw [if_neg (by omega), if_neg (by omega)]
       refine hcq q u ?_
       rw [List.getElem?_append_right (by omega), List.getElem?_append_right (by omega), hcl']
       exact hu
    ·rw [← hnew]; simp only [List.size_toArray, List.length_append, List.length_take, List.length_drop, Array.length_toList]; omega
    ·rw [← hnew]; have h3 := (hw2 h2).2; have h4 : off + v.cells.toList.length ≤ s := by rw [← hs, ← D7]; exact hfit
     simp only [List.size_toArray, List.length_append, List.length_take, List.length_drop, Array.length_toList]
     rw [← h3]; simp only [Array.length_toList] at h4; omega
   have W1 := ((W.drop cls).upd (w' := w.setRow gb new) hgfp RD (by simp) hoth).add hfact (fun b hb => by rw [List.mem_singleton] at hb; subst hb; exact hgfp) (fun _ => by simp) (fun _ => hcz)
   exact h _ _ ⟨H.tms.same rfl, ⟨_, W1⟩, H.bel.write ((W.lt _ _ hgfp).2 hcz) rfl rfl rfl (by simp) (fun q _ hq => hoth q hq) H.size, H.base⟩
end
end Go.Proofs.YtfoblaonklkaoaaGreat.K
