/- FormatRollup of the program returns what the reference's returns, for all arguments (the pure statement). No condition. -/
import Derived.Test.YtnllplklggoabaaP4c0
import Derived.Test.YtnllplklggoabaaP6fc0
import Derived.Test.YtnllplklggoabaaP7fc0
import Derived.Test.YtnllplklggoabaaSayFnExactFormatRollup
namespace Go.Proofs.Ytnllplklggoabaa.Pure
open Go.RowKit Go.Proofs.YtnllplklggoabaaW.PrintWords Go.Proofs.YtnllplklggoabaaW.PrintLast Go.Proofs.Ytnllplklggoabaa.P
set_option linter.unusedVariables false
set_option linter.unusedSimpArgs false

theorem succ_of {k n : Nat} (h : n < k) : ∃ m, k = m + 1 ∧ n ≤ m := ⟨k - 1, by omega, by omega⟩
theorem drop_nil' {α : Type} {l : List α} {i : Nat} (h : l.drop i = []) : l.length ≤ i := List.drop_eq_nil_iff.1 h
theorem drop_cons' {α : Type} {l : List α} {i : Nat} {x : α} {t : List α} (h : l.drop i = x :: t) : i < l.length ∧ l.drop (i + 1) = t ∧ (∀ d, l.getD i d = x) ∧ l.length = i + 1 + t.length := by
  have hl := congrArg List.length h
  rw [List.length_drop, List.length_cons] at hl
  refine ⟨by omega, ?_, fun d => ?_, by omega⟩
  · rw [← List.drop_drop, h]; rfl
  · have : l[i]? = some x := by rw [← List.head?_drop, h]; rfl
    rw [List.getD_eq_getElem?_getD, this]; rfl
theorem w64 {x : Int} (h0 : -9223372036854775808 ≤ x) (h1 : x ≤ 9223372036854775807) : wrap64 x = x := by unfold wrap64; omega
theorem w64s {i n : Nat} (h : i < n) (hn : n ≤ 9223372036854775807) : wrap64 ((i : Int) + 1) = ((i + 1 : Nat) : Int) := by rw [w64 (by omega) (by omega)]; rfl
theorem big_k (P : Nat → Prop) (h : ∀ k, 1099511627776 ≤ k → P k) : ∃ k, P k := ⟨1099511627776, h _ (Nat.le_refl _)⟩
theorem wf64 {n : Int} (h : (Lit.int .i64 n).wf = true) : (-9223372036854775808 : Int) ≤ n ∧ n ≤ 9223372036854775807 := by
  simp [Lit.wf, IntKind.min, IntKind.max, IntKind.signed, IntKind.bits] at h
  exact h
/-- A step of a chain, by an equation (never by unfolding: the kernel would compute). -/
theorem ob {α β : Type} {o : Option α} {a : α} {f : α → Option β} (h : o = some a) : o.bind f = f a := by subst h; rfl
theorem obs {α β : Type} {a : α} {f : α → Option β} : (some a).bind f = f a := ob (o := some a) (a := a) (f := f) rfl
theorem w64u {x : Int} (h0 : 0 ≤ x) (h1 : x < 18446744073709551616) : IntKind.u64.wrap x = x := by
  simp only [IntKind.wrap, IntKind.signed, IntKind.bits, Bool.false_and, Bool.false_eq_true, if_false]
  omega
theorem w64n {x : Int} (h0 : -9223372036854775808 ≤ x) (h1 : x < 0) : IntKind.u64.wrap (-(IntKind.u64.wrap x)) = -x := by
  simp only [IntKind.wrap, IntKind.signed, IntKind.bits, Bool.false_and, Bool.false_eq_true, if_false]
  omega
def dig (n : Nat) : ByteArray := ⟨#[UInt8.ofNat (48 + n)]⟩
theorem dig_size (n : Nat) : (dig n).size = 1 := rfl
def dec (n : Nat) : ByteArray := if h : n < 10 then dig n else dec (n / 10) ++ dig (n % 10)
  termination_by n
theorem dec_lt {n : Nat} (h : n < 10) : dec n = dig n := by rw [dec]; exact dif_pos h
theorem dec_ge {n : Nat} (h : ¬ n < 10) : dec n = dec (n / 10) ++ dig (n % 10) := by rw [dec]; exact dif_neg h
theorem dec_size : ∀ (d n : Nat), n < 10 ^ (d + 1) → (dec n).size ≤ d + 1 ∧ 1 ≤ (dec n).size
  | 0, n, h => by rw [dec_lt (by omega), dig_size]; omega
  | d + 1, n, h => by
    by_cases c : n < 10
    · rw [dec_lt c, dig_size]; omega
    · have := dec_size d (n / 10) (by rw [Nat.pow_succ] at h; omega)
      rw [dec_ge c, ByteArray.size_append, dig_size]
      omega
theorem strDig (n : Nat) (h : n < 10) : strOfNums [wrap64 (48 + (n : Int)) % 256] = dig n := by
  rw [w64 (by omega) (by omega), show (48 + (n : Int)) % 256 = ((48 + n : Nat) : Int) by omega]
  rfl
theorem strDigU (n : Nat) (h : n < 10) : strOfNums [IntKind.u64.wrap (48 + (n : Int)) % 256] = dig n := by
  rw [w64u (by omega) (by omega), show (48 + (n : Int)) % 256 = ((48 + n : Nat) : Int) by omega]
  rfl
theorem impl_decimal_eq : ∀ (d n k : Nat), n < 10 ^ (d + 1) → n < 18446744073709551616 → d ≤ 30 → d < k → impl_decimal.f k (n : Int) = some (dec n) := by
  intro d
  induction d with
  | zero =>
    intro n k h h2 h3 hk
    obtain ⟨k, rfl, -⟩ := succ_of hk
    simp only [impl_decimal.f]
    rw [if_pos (by omega), strDigU n (by omega), dec_lt (by omega)]
  | succ d ih =>
    intro n k h h2 h3 hk
    obtain ⟨k, rfl, hk'⟩ := succ_of hk
    simp only [impl_decimal.f]
    by_cases c : n < 10
    · rw [if_pos (by omega), strDigU n c, dec_lt c]
    · have hp : n / 10 < 10 ^ (d + 1) := by rw [Nat.pow_succ] at h; omega
      have hs := dec_size d (n / 10) hp
      rw [if_neg (by omega), show Int.tdiv (n : Int) 10 = ((n / 10 : Nat) : Int) from rfl, w64u (x := ((n / 10 : Nat) : Int)) (by omega) (by omega), ob (ih (n / 10) k hp (by omega) (by omega) (by omega)), show Int.tmod (n : Int) 10 = ((n % 10 : Nat) : Int) from rfl, obs, strDigU (n % 10) (by omega), dig_size, if_pos (by omega), dec_ge c]
def neg1 (b : Bool) : ByteArray := if b = true then ⟨#[45]⟩ else ⟨#[]⟩
def fmtI (a : Int) : ByteArray := if a < 0 then (⟨#[45]⟩ : ByteArray) ++ dec (-a).toNat else dec a.toNat
theorem pow20 : 10 ^ (19 + 1) = 100000000000000000000 := by decide
theorem fmtI_size (a : Int) (h0 : -9223372036854775808 ≤ a) (h1 : a ≤ 9223372036854775807) : (fmtI a).size ≤ 21 ∧ 1 ≤ (fmtI a).size := by
  unfold fmtI
  split
  · have := dec_size 19 (-a).toNat (by rw [pow20]; omega)
    rw [ByteArray.size_append, show (⟨#[45]⟩ : ByteArray).size = 1 from rfl]; omega
  · have := dec_size 19 a.toNat (by rw [pow20]; omega)
    omega
theorem impl_FormatInt_eq (a : Int) (k : Nat) (h0 : -9223372036854775808 ≤ a) (h1 : a ≤ 9223372036854775807) (hk : 100 ≤ k) : impl_FormatInt.f k a = some (fmtI a) := by
  unfold impl_FormatInt.f fmtI
  by_cases c : a < 0
  · have e : -a = (((-a).toNat : Nat) : Int) := by omega
    have hp : (-a).toNat < 10 ^ (19 + 1) := by rw [pow20]; omega
    have hs := dec_size 19 (-a).toNat hp
    have hd := impl_decimal_eq 19 (-a).toNat k hp (by omega) (by omega) (by omega)
    rw [← e] at hd
    rw [if_pos c, if_pos c, w64n h0 c, ob hd, if_pos (by omega)]
  · have e : a = ((a.toNat : Nat) : Int) := by omega
    have hp : a.toNat < 10 ^ (19 + 1) := by rw [pow20]; omega
    have hd := impl_decimal_eq 19 a.toNat k hp (by omega) (by omega) (by omega)
    rw [← e] at hd
    rw [if_neg c, if_neg c, w64u (by omega) (by omega), ob hd]
def decz (n : Nat) : ByteArray := if n = 0 then ⟨#[]⟩ else dec n
theorem decz_pos {n : Nat} (h : n ≠ 0) : decz n = dec n := if_neg h
theorem decz_step (n : Nat) (h : n ≠ 0) (acc : ByteArray) : decz (n / 10) ++ (dig (n % 10) ++ acc) = decz n ++ acc := by
  unfold decz
  rw [if_neg h]
  by_cases c : n < 10
  · rw [if_pos (by omega), show n % 10 = n by omega, dec_lt c]
    exact ByteArray.empty_append
  · rw [if_neg (by omega), dec_ge c, ByteArray.append_assoc]
theorem spec_FormatInt_l0 : ∀ (d n k : Nat) (x : Int) (acc : ByteArray) (b : Bool), (x = (n : Int) ∨ x = -(n : Int)) → n < 10 ^ d → n ≤ 9223372036854775808 → d ≤ 30 → d < k → acc.size + d ≤ 1000 → spec_FormatInt.l0 k x acc b = some (neg1 b ++ (decz n ++ acc)) := by
  intro d
  induction d with
  | zero =>
    intro n k x acc b hx h h2 h3 hk ha
    obtain ⟨k, rfl, -⟩ := succ_of hk
    have hn : n = 0 := by simpa using h
    subst hn
    simp only [spec_FormatInt.l0, decz, neg1, if_true]
    rw [if_pos (by omega)]
    cases b
    · rw [if_neg (by simp), if_neg (by simp)]; exact congrArg some (ByteArray.empty_append.trans ByteArray.empty_append).symm
    · simp only [if_true]; rw [if_pos (by omega)]; exact congrArg some (congrArg _ ByteArray.empty_append.symm)
  | succ d ih =>
    intro n k x acc b hx h h2 h3 hk ha
    obtain ⟨k, rfl, hk'⟩ := succ_of hk
    simp only [spec_FormatInt.l0]
    by_cases hn : n = 0
    · subst hn
      rw [if_pos (by omega)]
      simp only [decz, neg1, if_true]
      cases b
      · rw [if_neg (by simp), if_neg (by simp)]; exact congrArg some (ByteArray.empty_append.trans ByteArray.empty_append).symm
      · simp only [if_true]; rw [if_pos (by omega)]; exact congrArg some (congrArg _ ByteArray.empty_append.symm)
    · have hp : n / 10 < 10 ^ d := by rw [Nat.pow_succ] at h; omega
      rw [if_neg (by omega)]
      rcases hx with rfl | rfl
      · rw [show Int.tdiv (n : Int) 10 = ((n / 10 : Nat) : Int) from rfl, show Int.tmod (n : Int) 10 = ((n % 10 : Nat) : Int) from rfl, if_neg (by omega), obs, strDig (n % 10) (by omega), dig_size, if_pos (by omega), w64 (by omega) (by omega), ih (n / 10) k _ _ b (.inl rfl) hp (by omega) (by omega) (by omega) (by rw [ByteArray.size_append, dig_size]; omega), decz_step n hn]
      · rw [Int.neg_tdiv, Int.neg_tmod, show Int.tdiv (n : Int) 10 = ((n / 10 : Nat) : Int) from rfl, show Int.tmod (n : Int) 10 = ((n % 10 : Nat) : Int) from rfl, Int.neg_neg, w64 (x := ((n % 10 : Nat) : Int)) (by omega) (by omega), obs, obs]
        have e0 : ∀ m : Nat, m = 0 → -((m : Nat) : Int) = ((m : Nat) : Int) := by omega
        by_cases c : n % 10 = 0
        · rw [if_neg (by omega), e0 _ c, strDig (n % 10) (by omega), dig_size, if_pos (by omega), w64 (by omega) (by omega), ih (n / 10) k _ _ b (.inr rfl) hp (by omega) (by omega) (by omega) (by rw [ByteArray.size_append, dig_size]; omega), decz_step n hn]
        · rw [if_pos (by omega), strDig (n % 10) (by omega), dig_size, if_pos (by omega), w64 (by omega) (by omega), ih (n / 10) k _ _ b (.inr rfl) hp (by omega) (by omega) (by omega) (by rw [ByteArray.size_append, dig_size]; omega), decz_step n hn]
theorem spec_FormatInt_eq (a : Int) (k : Nat) (h0 : -9223372036854775808 ≤ a) (h1 : a ≤ 9223372036854775807) (hk : 100 ≤ k) : spec_FormatInt.f k a = some (fmtI a) := by
  unfold spec_FormatInt.f fmtI
  by_cases z : a = 0
  · subst z
    rw [if_pos rfl, if_neg (by omega), show (0 : Int).toNat = 0 from rfl, dec_lt (by omega)]
    rfl
  · rw [if_neg z]
    by_cases c : a < 0
    · have e : a = -((-a).toNat : Int) := by omega
      rw [if_pos c, spec_FormatInt_l0 20 (-a).toNat k a ⟨#[]⟩ (decide (a < 0)) (.inr e) (by rw [pow20]; omega) (by omega) (by omega) (by omega) (by decide), decide_eq_true c]
      rw [decz_pos (by omega)]
      exact congrArg some (congrArg (fun z : ByteArray => (⟨#[45]⟩ : ByteArray) ++ z) ByteArray.append_empty)
    · have e : a = (a.toNat : Int) := by omega
      rw [if_neg c, spec_FormatInt_l0 20 a.toNat k a ⟨#[]⟩ (decide (a < 0)) (.inl e) (by rw [pow20]; omega) (by omega) (by omega) (by omega) (by decide), decide_eq_false c]
      rw [decz_pos (by omega)]
      exact congrArg some (ByteArray.empty_append.trans ByteArray.append_empty)
/-- The texts, each behind the separator. -/
def jl (sep acc : ByteArray) : List ByteArray → ByteArray
  | [] => acc
  | x :: t => jl sep ((acc ++ sep) ++ x) t
def jn (sep : ByteArray) : List ByteArray → ByteArray
  | [] => ⟨#[]⟩
  | x :: t => jl sep ((⟨#[]⟩ : ByteArray) ++ x) t
def sz1 : List ByteArray → Nat
  | [] => 0
  | x :: t => x.size + 1 + sz1 t
theorem sz1_append : ∀ (a b : List ByteArray), sz1 (a ++ b) = sz1 a + sz1 b
  | [], b => by simp [sz1]
  | x :: t, b => by rw [List.cons_append]; simp only [sz1]; rw [sz1_append t b]; omega
theorem rdB (l : List ByteArray) (i : Nat) : rdOf ByteArray.empty l (i : Int) = l.getD i ByteArray.empty := rfl
theorem impl_joined_l0 (sep : ByteArray) (hsep : sep.size = 1) (l : List ByteArray) (hl : l.length ≤ 1000000000) : ∀ (s : List ByteArray) (k i : Nat) (acc : ByteArray), l.drop i = s → 0 < i → s.length < k → acc.size + sz1 s ≤ 9000000000000000 → impl_joined.l0 k sep acc l (l.length : Int) (i : Int) = some (jl sep acc s) := by
  intro s
  induction s with
  | nil =>
    intro k i acc hd h0 hk ha
    obtain ⟨k, rfl, -⟩ := succ_of hk
    have := drop_nil' hd
    simp only [impl_joined.l0]
    rw [if_neg (by omega)]
    rfl
  | cons x t ih =>
    intro k i acc hd h0 hk ha
    obtain ⟨k, rfl, hk'⟩ := succ_of hk
    obtain ⟨hi, hd', hx, -⟩ := drop_cons' hd
    simp only [List.length_cons, sz1] at hk' ha
    have e : (acc ++ sep).size = acc.size + 1 := by rw [ByteArray.size_append, hsep]
    simp only [impl_joined.l0]
    rw [if_pos (by omega), if_pos (by omega), if_pos (by omega), if_pos (by omega), rdB, hx, if_pos (by omega), if_pos (by omega), w64s hi (by omega), ih _ _ _ hd' (by omega) (by omega) (by rw [ByteArray.size_append, e]; omega)]
    rfl
theorem impl_joined_eq (sep : ByteArray) (hsep : sep.size = 1) (l : List ByteArray) (k : Nat) (hl : l.length ≤ 1000000000) (hs : sz1 l ≤ 1000000000000000) (hk : 2000000000 ≤ k) : impl_joined.f k l sep = some (jn sep l) := by
  unfold impl_joined.f
  obtain ⟨k, rfl⟩ : ∃ m, k = m + 1 := ⟨k - 1, by omega⟩
  cases l with
  | nil => simp only [impl_joined.l0]; rw [if_neg (by simp)]; rfl
  | cons x t =>
    have hl' : t.length + 1 ≤ 1000000000 := by simpa using hl
    have := impl_joined_l0 sep hsep (x :: t) hl t k 1 ((⟨#[]⟩ : ByteArray) ++ x) rfl (by omega) (by omega) (by rw [ByteArray.size_append, show (⟨#[]⟩ : ByteArray).size = 0 from rfl]; simp only [sz1] at hs; omega)
    have e : rdOf ByteArray.empty (x :: t) 0 = x := rfl
    simp only [impl_joined.l0]
    rw [if_pos (by simp <;> omega), if_pos (by omega), if_pos (by simp <;> omega), if_neg (by omega), e, if_pos (by rw [show (⟨#[]⟩ : ByteArray).size = 0 from rfl]; simp only [sz1] at hs; omega), w64 (by omega) (by omega)]
    exact this
def slash : ByteArray := ⟨#[47]⟩
def cvGr (x : S81) : S75 := ⟨x.f0, x.f1, x.f2, x.f3, x.f4⟩
def cvRR (x : S83) : S77 := ⟨x.f0, cvGr x.f1⟩
theorem rdRR (l : List S77) (i : Nat) : rd_T77 l (i : Int) = l.getD i z77 := rfl
theorem rdLRR (l : List S83) (i : Nat) : rd_T83 l (i : Int) = l.getD i z83 := rfl
theorem szRollupRowS_eq (l : List S83) (n : Int) (h0 : 0 ≤ n) (h1 : n ≤ 1048576) (hl : l.length ≤ maxLen) : laws_szRollupRowS.f l n = some (-1) ∨ (laws_szRollupRowS.f l n = some (n - l.length) ∧ (l.length : Int) ≤ n) := by
  have hl' : l.length ≤ 9223372036854775807 := hl
  unfold laws_szRollupRowS.f
  rw [w64 (by omega) (by omega)]
  by_cases c : n - l.length < 0
  · left; rw [if_pos c]
  · right; rw [if_neg c]; exact ⟨rfl, by omega⟩
theorem toRollupRowS_l0 (l : List S83) (hl : l.length ≤ 1048576) : ∀ (s : List S83) (k i : Nat) (acc : List S77), l.drop i = s → acc.length = l.length → s.length < k → laws_toRollupRowS.l0 k l acc (i : Int) = some (acc.take i ++ s.map cvRR) := by
  intro s
  induction s with
  | nil =>
    intro k i acc hd ha hk
    obtain ⟨k, rfl, -⟩ := succ_of hk
    have := drop_nil' hd
    simp only [laws_toRollupRowS.l0]
    rw [if_neg (by omega), List.take_of_length_le (by omega)]
    simp
  | cons x t ih =>
    intro k i acc hd ha hk
    obtain ⟨k, rfl, hk'⟩ := succ_of hk
    obtain ⟨hi, hd', hx, -⟩ := drop_cons' hd
    simp only [List.length_cons] at hk'
    have e : laws_toRollupRow.f x.f0 x.f1.f0 x.f1.f1 x.f1.f2 x.f1.f3 x.f1.f4 = some (x.f0, x.f1.f0, x.f1.f1, x.f1.f2, x.f1.f3, x.f1.f4) := rfl
    simp only [laws_toRollupRowS.l0]
    rw [if_pos (by omega), if_pos (by omega), rdLRR, hx, ob e, if_pos (by omega), w64s hi (by omega), ih _ _ _ hd' (by simp [ha]) (by omega)]
    congr 1
    simp only [Int.toNat_natCast, List.map_cons]
    rw [List.take_succ_eq_append_getElem (by simp; omega), List.take_set_of_le (Nat.le_refl _)]
    simp [cvRR, cvGr]
theorem toRollupRowS_eq (l : List S83) (hl : l.length ≤ 1048576) (k : Nat) (hk : 2000000 ≤ k) : laws_toRollupRowS.f k l = some (l.map cvRR) := by
  unfold laws_toRollupRowS.f
  rw [if_pos (by omega), if_pos (by simp; omega)]
  have := toRollupRowS_l0 l hl l k 0 (List.replicate l.length z77) rfl (by simp) (by omega)
  simpa using this
theorem eqRollupRowS_l0 (l : List S77) (hl : l.length ≤ 9223372036854775807) : ∀ (s : List S77) (k i : Nat), l.drop i = s → s.length < k → laws_eqRollupRowS.l0 k l l (i : Int) = some true := by
  intro s
  induction s with
  | nil =>
    intro k i hd hk
    obtain ⟨k, rfl, -⟩ := succ_of hk
    have := drop_nil' hd
    simp only [laws_eqRollupRowS.l0]
    rw [if_neg (by omega)]
  | cons x t ih =>
    intro k i hd hk
    obtain ⟨k, rfl, hk'⟩ := succ_of hk
    obtain ⟨hi, hd', hx, -⟩ := drop_cons' hd
    simp only [List.length_cons] at hk'
    have e : laws_eqRollupRow.f x.f0 x.f1.f0 x.f1.f1 x.f1.f2 x.f1.f3 x.f1.f4 x.f0 x.f1.f0 x.f1.f1 x.f1.f2 x.f1.f3 x.f1.f4 = some true := by simp [laws_eqRollupRow.f, laws_eqGroup.f]
    simp only [laws_eqRollupRowS.l0]
    rw [if_pos (by omega), if_pos (by omega), if_pos (by omega), rdRR, hx, ob e, if_pos rfl, w64s hi (by omega), ih _ _ hd' (by omega)]
theorem eqRollupRowS_refl (l : List S77) (hl : l.length ≤ 1048576) (k : Nat) (hk : 2000000 ≤ k) : laws_eqRollupRowS.f k l l = some true := by
  unfold laws_eqRollupRowS.f
  rw [if_pos rfl]
  exact eqRollupRowS_l0 l (by omega) l k 0 rfl (by omega)
def wfI (n : Int) : Prop := -9223372036854775808 ≤ n ∧ n ≤ 9223372036854775807
def wfG (g : S75) : Prop := wfI g.f0 ∧ wfI g.f1 ∧ wfI g.f2 ∧ wfI g.f3 ∧ wfI g.f4
def colon : ByteArray := ⟨#[58]⟩
def comma : ByteArray := ⟨#[44]⟩
def fGr (g : S75) : ByteArray := (((((((fmtI g.f0 ++ colon) ++ fmtI g.f1) ++ comma) ++ fmtI g.f2) ++ comma) ++ fmtI g.f3) ++ comma) ++ fmtI g.f4
theorem fGr_size (g : S75) (h : wfG g) : (fGr g).size ≤ 109 := by
  obtain ⟨⟨h0, h0'⟩, ⟨h1, h1'⟩, ⟨h2, h2'⟩, ⟨h3, h3'⟩, ⟨h4, h4'⟩⟩ := h
  have s0 := fmtI_size g.f0 h0 h0'
  have s1 := fmtI_size g.f1 h1 h1'
  have s2 := fmtI_size g.f2 h2 h2'
  have s3 := fmtI_size g.f3 h3 h3'
  have s4 := fmtI_size g.f4 h4 h4'
  unfold fGr
  simp only [ByteArray.size_append, show colon.size = 1 from rfl, show comma.size = 1 from rfl]
  omega
theorem impl_groupText_eq (g : S75) (h : wfG g) (k : Nat) (hk : 100 ≤ k) : impl_groupText.f k g.f0 g.f1 g.f2 g.f3 g.f4 = some (fGr g) := by
  obtain ⟨⟨h0, h0'⟩, ⟨h1, h1'⟩, ⟨h2, h2'⟩, ⟨h3, h3'⟩, ⟨h4, h4'⟩⟩ := h
  have s0 := fmtI_size g.f0 h0 h0'
  have s1 := fmtI_size g.f1 h1 h1'
  have s2 := fmtI_size g.f2 h2 h2'
  have s3 := fmtI_size g.f3 h3 h3'
  have s4 := fmtI_size g.f4 h4 h4'
  unfold impl_groupText.f
  rw [ob (impl_FormatInt_eq g.f0 k h0 h0' hk), ob (impl_FormatInt_eq g.f1 k h1 h1' hk), ob (impl_FormatInt_eq g.f2 k h2 h2' hk), ob (impl_FormatInt_eq g.f3 k h3 h3' hk), ob (impl_FormatInt_eq g.f4 k h4 h4' hk)]
  simp only [ByteArray.size_append, show (⟨#[58]⟩ : ByteArray).size = 1 from rfl, show (⟨#[44]⟩ : ByteArray).size = 1 from rfl]
  rw [if_pos (by omega), if_pos (by omega), if_pos (by omega), if_pos (by omega), if_pos (by omega), if_pos (by omega), if_pos (by omega), if_pos (by omega)]
  rfl
theorem spec_FormatGroups_one (g : S75) (h : wfG g) (k : Nat) (hk : 200 ≤ k) : spec_FormatGroups.f k [g] = some (fGr g) := by
  obtain ⟨⟨h0, h0'⟩, ⟨h1, h1'⟩, ⟨h2, h2'⟩, ⟨h3, h3'⟩, ⟨h4, h4'⟩⟩ := h
  have s0 := fmtI_size g.f0 h0 h0'
  have s1 := fmtI_size g.f1 h1 h1'
  have s2 := fmtI_size g.f2 h2 h2'
  have s3 := fmtI_size g.f3 h3 h3'
  have s4 := fmtI_size g.f4 h4 h4'
  obtain ⟨k, rfl⟩ : ∃ m, k = m + 3 := ⟨k - 3, by omega⟩
  have e : rd_T75 [g] 0 = g := rfl
  have f0 : (⟨#[]⟩ : ByteArray) ++ fmtI g.f0 = fmtI g.f0 := ByteArray.empty_append
  have z : (⟨#[]⟩ : ByteArray).size = 0 := rfl
  have l1 : ((([g] : List S75).length : Nat) : Int) = 1 := rfl
  unfold spec_FormatGroups.f
  simp only [spec_FormatGroups.l0, spec_FormatGroups.j1, l1, e]
  rw [if_pos (by omega), if_neg (by omega), if_pos (by omega), if_pos (by omega), ob (spec_FormatInt_eq g.f0 (k + 1) h0 h0' (by omega)), ob (spec_FormatInt_eq g.f1 (k + 1) h1 h1' (by omega)), ob (spec_FormatInt_eq g.f2 (k + 1) h2 h2' (by omega)), ob (spec_FormatInt_eq g.f3 (k + 1) h3 h3' (by omega)), ob (spec_FormatInt_eq g.f4 (k + 1) h4 h4' (by omega)), f0]
  simp only [ByteArray.size_append, z, show (⟨#[58]⟩ : ByteArray).size = 1 from rfl, show (⟨#[44]⟩ : ByteArray).size = 1 from rfl]
  rw [if_pos (by omega), if_pos (by omega), if_pos (by omega), if_pos (by omega), if_pos (by omega), if_pos (by omega), if_pos (by omega), if_pos (by omega), if_pos (by omega), w64 (by omega) (by omega), if_neg (by omega)]
  rfl
def fRR (x : S77) : ByteArray := (fmtI x.f0 ++ slash) ++ fGr x.f1
theorem fRR_size (x : S77) (h : wfI x.f0 ∧ wfG x.f1) : (fRR x).size ≤ 140 := by
  have a := fmtI_size x.f0 h.1.1 h.1.2
  have b := fGr_size x.f1 h.2
  unfold fRR
  simp only [ByteArray.size_append, show slash.size = 1 from rfl]
  omega
theorem spec_FormatRollup_l0 (l : List S77) (hl : l.length ≤ 1048576) : ∀ (s : List S77) (k i : Nat) (acc : ByteArray), l.drop i = s → (∀ x ∈ s, wfI x.f0 ∧ wfG x.f1) → 0 < i → 1000 + s.length < k → acc.size + 141 * s.length ≤ 9000000000000000 → spec_FormatRollup.l0 k l acc (i : Int) = some (jl ⟨#[32]⟩ acc (s.map fRR)) := by
  intro s
  induction s with
  | nil =>
    intro k i acc hd hf h0 hk ha
    obtain ⟨k, rfl, -⟩ := succ_of hk
    have := drop_nil' hd
    simp only [spec_FormatRollup.l0]
    rw [if_neg (by omega)]
    rfl
  | cons x t ih =>
    intro k i acc hd hf h0 hk ha
    obtain ⟨k, rfl, hk'⟩ := succ_of hk
    obtain ⟨hi, hd', hx, -⟩ := drop_cons' hd
    simp only [List.length_cons] at hk' ha
    have hw := hf x (List.mem_cons_self ..)
    have b1 : (i : Int) < (l.length : Int) := by omega
    have b0 : (i : Int) > 0 := by omega
    have b2 : (0 : Int) ≤ (i : Int) := by omega
    have b3 : l.length ≤ 9223372036854775807 := Nat.le_trans hl (by decide)
    have b4 : 1000 ≤ k := Nat.le_trans (Nat.le_add_right _ _) hk'
    have b5 : 1000 + t.length < k := hk'
    have b6 : 100 ≤ k := Nat.le_trans (by decide) b4
    have b7 : 200 ≤ k := Nat.le_trans (by decide) b4
    have key : ∀ n m : Nat, n ≤ 21 → m ≤ 109 → acc.size + 1 ≤ 9223372036854775807 ∧ acc.size + 1 + n ≤ 9223372036854775807 ∧ acc.size + 1 + n + 1 ≤ 9223372036854775807 ∧ acc.size + 1 + n + 1 + m ≤ 9223372036854775807 ∧ acc.size + 1 + n + 1 + m + 141 * t.length ≤ 9000000000000000 := by intro n m hn hm; omega
    obtain ⟨s1, s2, s3, s4, s5⟩ := key _ _ (fmtI_size x.f0 hw.1.1 hw.1.2).1 (fGr_size x.f1 hw.2)
    have e1 : (acc ++ (⟨#[32]⟩ : ByteArray)).size = acc.size + 1 := ByteArray.size_append
    have e2 : ∀ y : ByteArray, (y ++ (⟨#[47]⟩ : ByteArray)).size = y.size + 1 := fun y => ByteArray.size_append
    rw [← e1] at s2 s3 s4 s5
    rw [← ByteArray.size_append] at s3 s4 s5
    rw [← e2] at s4 s5
    rw [← ByteArray.size_append] at s5
    have e : (((acc ++ (⟨#[32]⟩ : ByteArray)) ++ fmtI x.f0) ++ (⟨#[47]⟩ : ByteArray)) ++ fGr x.f1 = (acc ++ (⟨#[32]⟩ : ByteArray)) ++ fRR x := by
      unfold fRR slash
      simp only [ByteArray.append_assoc]
    simp only [spec_FormatRollup.l0]
    rw [if_pos b1, if_pos b0, if_pos s1, if_pos b2, rdRR, hx, ob (spec_FormatInt_eq x.f0 k hw.1.1 hw.1.2 b6), if_pos s2, if_pos s3, ob (spec_FormatGroups_one x.f1 hw.2 k b7), if_pos s4, w64s hi b3, ih _ _ _ hd' (fun y hy => hf y (List.mem_cons_of_mem _ hy)) (Nat.succ_pos i) b5 s5, e]
    rfl
theorem spec_FormatRollup_eq (l : List S77) (hl : l.length ≤ 1048576) (hf : ∀ x ∈ l, wfI x.f0 ∧ wfG x.f1) (k : Nat) (hk : 2000000000 ≤ k) : spec_FormatRollup.f k l = some (jn ⟨#[32]⟩ (l.map fRR)) := by
  unfold spec_FormatRollup.f
  obtain ⟨k, rfl⟩ : ∃ m, k = m + 1 := ⟨k - 1, by omega⟩
  cases l with
  | nil => simp only [spec_FormatRollup.l0]; rw [if_neg (by simp)]; rfl
  | cons x t =>
    have hl' : t.length + 1 ≤ 1048576 := by simpa using hl
    have hw := hf x (List.mem_cons_self ..)
    have b1 : (0 : Int) < ((x :: t).length : Int) := by simp <;> omega
    have b5 : 1000 + t.length < k := by omega
    have b6 : 100 ≤ k := by omega
    have b7 : 200 ≤ k := by omega
    have key : ∀ n m : Nat, n ≤ 21 → m ≤ 109 → n ≤ 9223372036854775807 ∧ n + 1 ≤ 9223372036854775807 ∧ n + 1 + m ≤ 9223372036854775807 ∧ n + 1 + m + 141 * t.length ≤ 9000000000000000 := by intro n m hn hm; omega
    obtain ⟨s2, s3, s4, s5⟩ := key _ _ (fmtI_size x.f0 hw.1.1 hw.1.2).1 (fGr_size x.f1 hw.2)
    have e0 : (⟨#[]⟩ : ByteArray) ++ fmtI x.f0 = fmtI x.f0 := ByteArray.empty_append
    have e2 : ∀ y : ByteArray, (y ++ (⟨#[47]⟩ : ByteArray)).size = y.size + 1 := fun y => ByteArray.size_append
    have z : (⟨#[]⟩ : ByteArray).size + (fmtI x.f0).size ≤ 9223372036854775807 := by rw [show (⟨#[]⟩ : ByteArray).size = 0 from rfl, Nat.zero_add]; exact s2
    rw [← e2] at s4 s5
    rw [← ByteArray.size_append] at s5
    have e : rd_T77 (x :: t) 0 = x := rfl
    have w1 : wrap64 ((0 : Int) + 1) = ((1 : Nat) : Int) := w64 (by omega) (by omega)
    have := spec_FormatRollup_l0 (x :: t) hl t k 1 ((fmtI x.f0 ++ (⟨#[47]⟩ : ByteArray)) ++ fGr x.f1) rfl (fun y hy => hf y (List.mem_cons_of_mem _ hy)) (by omega) b5 s5
    simp only [spec_FormatRollup.l0]
    rw [if_pos b1, if_neg (by omega), if_pos (by omega), e, ob (spec_FormatInt_eq x.f0 k hw.1.1 hw.1.2 b6), if_pos z, e0, if_pos s3, ob (spec_FormatGroups_one x.f1 hw.2 k b7), if_pos s4, w1, this]
    have e9 : (⟨#[]⟩ : ByteArray) ++ fRR x = fRR x := ByteArray.empty_append
    rw [show jn ⟨#[32]⟩ ((x :: t).map fRR) = jl ⟨#[32]⟩ ((⟨#[]⟩ : ByteArray) ++ fRR x) (t.map fRR) from rfl, e9]
    rfl
theorem impl_FormatRollup_l0 (l : List S77) (hl : l.length ≤ 1048576) : ∀ (s : List S77) (k i : Nat) (acc : List ByteArray), l.drop i = s → (∀ x ∈ s, wfI x.f0 ∧ wfG x.f1) → 2000000000 + s.length < k → acc.length ≤ i → i ≤ l.length → sz1 acc ≤ 141 * i → impl_FormatRollup.l0 k acc l (l.length : Int) (i : Int) = some (jn ⟨#[32]⟩ (acc ++ s.map fRR)) := by
  intro s
  induction s with
  | nil =>
    intro k i acc hd hf hk ha hi hz
    obtain ⟨k, rfl, -⟩ := succ_of hk
    have := drop_nil' hd
    simp only [impl_FormatRollup.l0]
    rw [if_neg (by omega), ob (impl_joined_eq ⟨#[32]⟩ rfl acc k (by omega) (by omega) (by simp at hk; omega)), List.map_nil, List.append_nil]
  | cons x t ih =>
    intro k i acc hd hf hk ha hi hz
    obtain ⟨k, rfl, hk'⟩ := succ_of hk
    obtain ⟨hi', hd', hx, -⟩ := drop_cons' hd
    simp only [List.length_cons] at hk'
    have hw := hf x (List.mem_cons_self ..)
    have b1 : (i : Int) < (l.length : Int) := by omega
    have b2 : (0 : Int) ≤ (i : Int) := by omega
    have b3 : l.length ≤ 9223372036854775807 := Nat.le_trans hl (by decide)
    have b5 : 2000000000 + t.length < k := hk'
    have b6 : 100 ≤ k := Nat.le_trans (by decide) (Nat.le_trans (Nat.le_add_right _ _) hk')
    have b8 : acc.length < 8796093022208 := by omega
    have key : ∀ n m : Nat, n ≤ 21 → m ≤ 109 → n + 1 ≤ 9223372036854775807 ∧ n + 1 + m ≤ 9223372036854775807 := by intro n m hn hm; omega
    obtain ⟨s1, s2⟩ := key _ _ (fmtI_size x.f0 hw.1.1 hw.1.2).1 (fGr_size x.f1 hw.2)
    have e2 : ∀ y : ByteArray, (y ++ (⟨#[47]⟩ : ByteArray)).size = y.size + 1 := fun y => ByteArray.size_append
    rw [← e2] at s2
    have key2 : ∀ n : Nat, n ≤ 140 → sz1 acc + (n + 1 + 0) ≤ 141 * (i + 1) := by intro n hn; omega
    have s3 := key2 _ (fRR_size x hw)
    have e : (fmtI x.f0 ++ (⟨#[47]⟩ : ByteArray)) ++ fGr x.f1 = fRR x := rfl
    simp only [impl_FormatRollup.l0]
    rw [if_pos b1, if_pos b2, if_pos b1, rdRR, hx, ob (impl_FormatInt_eq x.f0 k hw.1.1 hw.1.2 b6), if_pos s1, ob (impl_groupText_eq x.f1 hw.2 k b6), if_pos s2, if_pos b8, e, w64s hi' b3, ih _ _ _ hd' (fun y hy => hf y (List.mem_cons_of_mem _ hy)) b5 (by rw [List.length_append, List.length_singleton]; exact Nat.add_le_add ha (Nat.le_refl 1)) hi' (by rw [sz1_append]; exact s3), List.append_assoc, List.map_cons]
    rfl
theorem impl_FormatRollup_eq (l : List S77) (hl : l.length ≤ 1048576) (hf : ∀ x ∈ l, wfI x.f0 ∧ wfG x.f1) (k : Nat) (hk : 3000000000 ≤ k) : impl_FormatRollup.f k l = some (jn ⟨#[32]⟩ (l.map fRR)) := by
  have := impl_FormatRollup_l0 l hl l k 0 [] rfl hf (by omega) (by simp) (by omega) (by simp [sz1])
  unfold impl_FormatRollup.f
  simpa using this

theorem FnExactFormatRollup : laws_FnExactFormatRollup.Pure := by
  intro l ⟨hg, hf⟩
  refine big_k _ (fun k hk => ?_)
  unfold laws_FnExactFormatRollup.f
  rcases szRollupRowS_eq l 1048576 (by omega) (by omega) hg with e | ⟨e, h⟩
  · simp only [ob e, if_pos (show (-1 : Int) < 0 by omega)]
  rw [ob e, if_neg (by omega)]
  have hm : (l.map cvRR).length = l.length := List.length_map ..
  have hl : l.length ≤ 1048576 := by omega
  have hw : ∀ x ∈ l.map cvRR, wfI x.f0 ∧ wfG x.f1 := by
    intro x hx
    obtain ⟨y, hy, rfl⟩ := List.mem_map.1 hx
    obtain ⟨g0, g1, g2, g3, g4, g5⟩ := hf y hy
    exact ⟨wf64 g0, wf64 g1, wf64 g2, wf64 g3, wf64 g4, wf64 g5⟩
  simp only [ob (toRollupRowS_eq l hl k (by omega)), ob (spec_FormatRollup_eq (l.map cvRR) (by omega) hw k (by omega)), ob (impl_FormatRollup_eq (l.map cvRR) (by omega) hw k (by omega)), ob (eqRollupRowS_refl (l.map cvRR) (by omega) k (by omega)), if_true]

end Go.Proofs.Ytnllplklggoabaa.Pure
