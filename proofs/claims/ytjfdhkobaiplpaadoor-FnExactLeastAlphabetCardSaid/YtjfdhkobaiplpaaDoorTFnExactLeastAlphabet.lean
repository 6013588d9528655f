/- The pure side of FnExactLeastAlphabet: the law's plain function answers true at all inputs; before it, all that this needs. -/
import Derived.Test.YtjfdhkobaiplpaaDoorWMore
import Derived.Test.YtjfdhkobaiplpaaDoorWWords
import Derived.Laws.BitsLemmas
import Derived.Lib.TrailingZeros
import Derived.Test.YtjfdhkobaiplpaaDoorGLawFnExactLeastAlphabet
import Derived.Test.YtjfdhkobaiplpaaDoorGQ00
import Derived.Test.YtjfdhkobaiplpaaDoorGQ01a
import Derived.Test.YtjfdhkobaiplpaaDoorGQ01b
import Derived.Test.YtjfdhkobaiplpaaDoorGQ01c
import Derived.Test.YtjfdhkobaiplpaaDoorGQ01d
import Derived.Test.YtjfdhkobaiplpaaDoorGQ01e
import Derived.Test.YtjfdhkobaiplpaaDoorGQ01f
import Derived.Test.YtjfdhkobaiplpaaDoorGQ01g
import Derived.Test.YtjfdhkobaiplpaaDoorGQ01h
import Derived.Test.YtjfdhkobaiplpaaDoorGQ01i
import Derived.Test.YtjfdhkobaiplpaaDoorGQ01j
namespace Go.Proofs.YtjfdhkobaiplpaaDoor.T
open Go Go.RowKit Go.Proofs.YtjfdhkobaiplpaaDoorW.PrintWords Go.Proofs.YtjfdhkobaiplpaaDoorW.PrintMore

theorem wrap_id {x : Int} (h1 : -9223372036854775808 ≤ x) (h2 : x ≤ 9223372036854775807) : wrap64 x = x := by unfold wrap64; omega
theorem i64_id {n : Int} (h1 : -9223372036854775808 ≤ n) (h2 : n ≤ 9223372036854775807) : IntKind.i64.wrap n = n := by rw [IntKind.wrap_i64]; omega
theorem u64_id {n : Int} (h1 : 0 ≤ n) (h2 : n < 18446744073709551616) : IntKind.u64.wrap n = n := by
  simp [IntKind.wrap, IntKind.bits, IntKind.signed]; omega
theorem rd_nat {l : List Int} {i : Nat} (h : i < l.length) : rd l (i : Int) = l[i] := by simp [rd, h]
theorem pow_lt63 {n : Nat} (h : n ≤ 62) : 2 ^ n < 9223372036854775808 := by
  have : 2 ^ n ≤ 2 ^ 62 := Nat.pow_le_pow_right (by decide) h
  have e : 2 ^ 62 = 4611686018427387904 := by decide
  omega
theorem shl_one {n : Nat} (h : n ≤ 62) : shl .i64 1 (n : Int) = ((2 ^ n : Nat) : Int) := by
  unfold shl
  have hb : IntKind.i64.bits = 64 := rfl
  rw [Int.one_mul, hb, Int.toNat_natCast, Nat.min_eq_left (by omega)]
  have := pow_lt63 h
  have e : (2 : Int) ^ n = ((2 ^ n : Nat) : Int) := by push_cast; rfl
  rw [e]
  generalize 2 ^ n = m at this ⊢
  exact i64_id (by omega) (by omega)
theorem band {a b : Nat} (ha : a < 9223372036854775808) (hb : b < 9223372036854775808) : Go.bits .and .i64 (a : Int) (b : Int) = ((a &&& b : Nat) : Int) := by
  have hc : a &&& b < 9223372036854775808 := Nat.lt_of_le_of_lt Nat.and_le_left ha
  have e : (BitVec.ofInt 64 (a : Int) &&& BitVec.ofInt 64 (b : Int)).toNat = a &&& b := by
    rw [BitVec.ofInt_natCast, BitVec.ofInt_natCast, BitVec.toNat_and, BitVec.toNat_ofNat, BitVec.toNat_ofNat, Nat.mod_eq_of_lt (by omega), Nat.mod_eq_of_lt (by omega)]
  show IntKind.i64.wrap (((BitVec.ofInt 64 (a : Int) &&& BitVec.ofInt 64 (b : Int)).toNat : Nat) : Int) = _
  rw [e, i64_id] <;> omega
theorem bor {a b : Nat} (ha : a < 9223372036854775808) (hb : b < 9223372036854775808) : Go.bits .or .i64 (a : Int) (b : Int) = ((a ||| b : Nat) : Int) := by
  have hc : a ||| b < 9223372036854775808 := Nat.or_lt_two_pow (n := 63) ha hb
  have e : (BitVec.ofInt 64 (a : Int) ||| BitVec.ofInt 64 (b : Int)).toNat = a ||| b := by
    rw [BitVec.ofInt_natCast, BitVec.ofInt_natCast, BitVec.toNat_or, BitVec.toNat_ofNat, BitVec.toNat_ofNat, Nat.mod_eq_of_lt (by omega), Nat.mod_eq_of_lt (by omega)]
  show IntKind.i64.wrap (((BitVec.ofInt 64 (a : Int) ||| BitVec.ofInt 64 (b : Int)).toNat : Nat) : Int) = _
  rw [e, i64_id] <;> omega
theorem shr_and_one {m i : Nat} (hm : m < 9223372036854775808) : Go.bits .and .i64 (shr .i64 (m : Int) (i : Int)) 1 = ((if m.testBit i then 1 else 0 : Nat) : Int) := by
  have h0 : shr .i64 (m : Int) (i : Int) = ((m / 2 ^ i : Nat) : Int) := by
    unfold shr
    rw [Int.toNat_natCast, show IntKind.i64.bits = 64 from rfl]
    by_cases hi : i ≤ 64
    · rw [Nat.min_eq_left hi]; simp
    · rw [Nat.min_eq_right (by omega)]
      have h64 : 2 ^ 64 ≤ 2 ^ i := Nat.pow_le_pow_right (by decide) (by omega)
      have e : (2 : Nat) ^ 64 = 18446744073709551616 := by decide
      rw [Nat.div_eq_of_lt (by omega)]
      have : ((2 : Int) ^ 64) = 18446744073709551616 := by decide
      rw [this]; simp only [Int.natCast_zero]; omega
  have hlt : m / 2 ^ i < 9223372036854775808 := Nat.lt_of_le_of_lt (Nat.div_le_self _ _) hm
  rw [h0, show (1 : Int) = ((1 : Nat) : Int) from rfl, band hlt (by decide)]
  congr 1
  rw [Nat.and_one_is_mod, Nat.testBit_eq_decide_div_mod_eq]
  have := Nat.mod_two_eq_zero_or_one (m / 2 ^ i)
  rcases this with h | h <;> simp [h]
/-- From some number of rounds on. -/
theorem Ev.of_all {α : Type} {g : Nat → Option α} {r : α} (h : ∀ k, g k = some r) : Ev g r := ⟨0, fun k _ => h k⟩
end Go.Proofs.YtjfdhkobaiplpaaDoor.T

namespace Go.Proofs.YtjfdhkobaiplpaaDoor.T
open Go Go.RowKit Go.Proofs.YtjfdhkobaiplpaaDoorW.PrintWords Go.Proofs.YtjfdhkobaiplpaaDoorW.PrintMore Go.Proofs.YtjfdhkobaiplpaaDoor.G

theorem l01In_eq (a b c : Int) : spec_l01In.f a b c = some (decide (b ≤ a ∧ a ≤ c)) := by
  unfold spec_l01In.f
  by_cases h : a ≥ b
  · rw [if_pos h]; simp [show b ≤ a from h]
  · rw [if_neg h]; simp [show ¬ b ≤ a from h]
theorem inRange_eq (a b c : Int) : impl_inRange.f a b c = some (decide (b ≤ a ∧ a ≤ c)) := by
  unfold impl_inRange.f
  by_cases h : b ≤ a
  · rw [if_pos h]; simp [h]
  · rw [if_neg h]; simp [h]
theorem l01One_eq {n : Nat} (h : n ≤ 62) : spec_l01One.f (n : Int) = some ((2 ^ n : Nat) : Int) := by
  unfold spec_l01One.f
  rw [u64_id (by omega) (by omega), if_pos (by omega), shl_one h]
theorem one_eq {n : Nat} (h : n ≤ 62) : impl_one.f (n : Int) = some ((2 ^ n : Nat) : Int) := by
  unfold impl_one.f
  rw [if_pos (by omega), shl_one h]
theorem wrap_pow {n : Nat} (h : n ≤ 62) : wrap64 (((2 ^ n : Nat) : Int) - 1) = ((2 ^ n - 1 : Nat) : Int) := by
  have h1 := pow_lt63 h
  have h2 : 0 < 2 ^ n := Nat.two_pow_pos n
  generalize 2 ^ n = m at *
  rw [wrap_id (by omega) (by omega)]
  omega
theorem l01Full_eq {n : Nat} (h : n ≤ 62) : spec_l01Full.f (n : Int) = some ((2 ^ n - 1 : Nat) : Int) := by
  unfold spec_l01Full.f
  rw [l01One_eq h, Option.bind_some, wrap_pow h]
/-- A number is a mask of n elements. -/
def isM (n : Nat) (x : Int) : Bool := decide (0 ≤ x ∧ x ≤ ((2 ^ n - 1 : Nat) : Int))
theorem isM_eq (n : Nat) (x : Int) : isM n x = (decide (0 ≤ x) && decide (x ≤ ((2 ^ n - 1 : Nat) : Int))) := by simp [isM]
theorem l01Masks_loop (n : Nat) (hn : n ≤ 62) (l : List Int) (hl : l.length < 4611686018427387904) : ∀ (d i : Nat), i + d = l.length → (l.take i).all (isM n) = true → Ev (fun k => spec_l01Masks.l0 k (n : Int) l (i : Int)) (l.all (isM n))
  | 0, i, h, ht => by
    refine Ev.step (f := fun _ => some (l.all (isM n))) (fun k => ?_) (Ev.now _)
    obtain rfl : i = l.length := by omega
    simp only [spec_l01Masks.l0]
    rw [if_neg (by omega)]
    rw [List.take_length] at ht
    rw [ht]
  | d + 1, i, h, ht => by
    have hi : i < l.length := by omega
    by_cases e : isM n l[i] = true
    · have ih := l01Masks_loop n hn l hl d (i + 1) (by omega) (by rw [List.take_succ_eq_append_getElem hi, List.all_append, ht]; simp [e])
      refine Ev.step (fun k => ?_) ih
      simp only [spec_l01Masks.l0]
      rw [if_pos (by omega), if_pos (by omega), l01Full_eq hn, Option.bind_some, l01In_eq, Option.bind_some, rd_nat hi]
      unfold isM at e
      rw [e, if_pos rfl, wrap_id (by omega) (by omega)]
      rfl
    · refine Ev.step (f := fun _ => some (l.all (isM n))) (fun k => ?_) (Ev.now _)
      have ha : l.all (isM n) = false := by
        rw [List.all_eq_false]
        exact ⟨_, List.getElem_mem hi, e⟩
      simp only [spec_l01Masks.l0]
      rw [if_pos (by omega), if_pos (by omega), l01Full_eq hn, Option.bind_some, l01In_eq, Option.bind_some, rd_nat hi, ha]
      unfold isM at e
      rw [Bool.not_eq_true] at e
      rw [e]
      rfl
theorem l01Masks_ev (n : Nat) (hn : n ≤ 62) (l : List Int) (hl : l.length < 4611686018427387904) : Ev (fun k => spec_l01Masks.f k (n : Int) l) (l.all (isM n)) := by
  refine Ev.congr (fun k => ?_) (l01Masks_loop n hn l hl l.length 0 (by omega) (by simp))
  rfl
/-- A list is a relation. -/
def isRel (l : List Int) : Bool := decide (l.length ≤ 24) && l.all (isM l.length)
theorem allIn_eq (l : List Int) (a b : Int) : impl_allIn.f l a b = some (l.all fun x => decide (a ≤ x ∧ x ≤ b)) := by
  unfold impl_allIn.f
  rw [List.not_any_eq_all_not]
  simp
theorem implIsRelation_eq (l : List Int) : impl_IsRelation.f l = some (isRel l) := by
  unfold impl_IsRelation.f isRel impl_length_int64.f
  by_cases h : l.length ≤ 24
  · rw [if_pos (by omega), Option.bind_some, one_eq (by omega), Option.bind_some, wrap_pow (by omega), allIn_eq, Option.bind_some]
    simp [h, funext (isM_eq l.length)]
  · rw [if_neg (by omega)]
    simp [h]
end Go.Proofs.YtjfdhkobaiplpaaDoor.T

namespace Go.Proofs.YtjfdhkobaiplpaaDoor.T
open Go Go.RowKit Go.Proofs.YtjfdhkobaiplpaaDoorW.PrintWords Go.Proofs.YtjfdhkobaiplpaaDoorW.PrintMore Go.Proofs.YtjfdhkobaiplpaaDoor.G

/-- The masks of the single letters. -/
def singles (n : Nat) : List Int := (List.range n).map fun i => ((2 ^ i : Nat) : Int)
theorem singles_succ (n : Nat) : singles (n + 1) = singles n ++ [((2 ^ n : Nat) : Int)] := by
  unfold singles
  rw [List.range_succ, List.map_append]
  rfl
theorem singles_length (n : Nat) : (singles n).length = n := by simp [singles]
theorem loose_loop (n : Nat) (hn : n ≤ 62) : ∀ (d i : Nat), i + d = n → Ev (fun k => impl_loose.l0 k (n : Int) (i : Int) (n : Int) (singles i)) ((n : Int), singles n)
  | 0, i, h => by
    refine Ev.step (f := fun _ => some ((n : Int), singles n)) (fun k => ?_) (Ev.now _)
    obtain rfl : i = n := by omega
    simp only [impl_loose.l0]
    rw [if_neg (by omega)]
  | d + 1, i, h => by
    refine Ev.step (fun k => ?_) (loose_loop n hn d (i + 1) (by omega))
    simp only [impl_loose.l0]
    rw [if_pos (by omega), one_eq (by omega), Option.bind_some, if_pos (by rw [singles_length]; omega), wrap_id (by omega) (by omega), ← singles_succ]
    rfl
theorem loose_ev (n : Nat) (hn : n ≤ 62) : Ev (fun k => impl_loose.f k (n : Int)) ((n : Int), singles n) := by
  refine Ev.congr (fun k => ?_) (loose_loop n hn n 0 (by omega))
  rfl
end Go.Proofs.YtjfdhkobaiplpaaDoor.T

namespace Go.Proofs.YtjfdhkobaiplpaaDoor.T
set_option linter.unusedVariables false
set_option linter.unusedSimpArgs false
section
variable {α : Type} [DecidableEq α]

/-- The letters of a word that are a or b. -/
def prj (a b : α) (w : List α) : List α := w.filter fun c => decide (c = a) || decide (c = b)
theorem prj_cons (a b c : α) (w : List α) : prj a b (c :: w) = if c = a ∨ c = b then c :: prj a b w else prj a b w := by
  unfold prj
  rw [List.filter_cons]
  by_cases h : c = a ∨ c = b
  · rw [if_pos h, if_pos (by simpa using h)]
  · rw [if_neg h, if_neg (by simpa using h)]
/-- Two words are the same trace: equal projections on all pairs that depend on each other. -/
def Eqv (D : α → α → Bool) (u v : List α) : Prop := ∀ a b, D a b = true → prj a b u = prj a b v
theorem Eqv.refl (D : α → α → Bool) (u : List α) : Eqv D u u := fun _ _ _ => rfl
theorem Eqv.symm {D : α → α → Bool} {u v : List α} (h : Eqv D u v) : Eqv D v u := fun a b hd => (h a b hd).symm
theorem Eqv.trans {D : α → α → Bool} {u v w : List α} (h : Eqv D u v) (k : Eqv D v w) : Eqv D u w := fun a b hd => (h a b hd).trans (k a b hd)
theorem Eqv.cons {D : α → α → Bool} {u v : List α} (c : α) (h : Eqv D u v) : Eqv D (c :: u) (c :: v) := fun a b hd => by
  rw [prj_cons, prj_cons, h a b hd]
theorem Eqv.count {D : α → α → Bool} (hr : ∀ a, D a a = true) {u v : List α} (h : Eqv D u v) (a : α) : u.count a = v.count a := by
  have e : ∀ w : List α, (prj a a w).length = w.count a := by
    intro w
    unfold prj
    rw [List.count_eq_countP, List.countP_eq_length_filter]
    congr 2
    funext c
    rw [Bool.eq_iff_iff]
    simp
  rw [← e, ← e, h a a (hr a)]
theorem Eqv.perm {D : α → α → Bool} (hr : ∀ a, D a a = true) {u v : List α} (h : Eqv D u v) : u.Perm v := by
  rw [List.perm_iff_count]
  exact fun a => h.count hr a
theorem Eqv.length {D : α → α → Bool} (hr : ∀ a, D a a = true) {u v : List α} (h : Eqv D u v) : u.length = v.length := (h.perm hr).length_eq
theorem Eqv.filter {D : α → α → Bool} {u v : List α} (h : Eqv D u v) (p : α → Bool) : Eqv D (u.filter p) (v.filter p) := fun a b hd => by
  have e : ∀ w : List α, prj a b (w.filter p) = (prj a b w).filter p := by
    intro w
    unfold prj
    rw [List.filter_filter, List.filter_filter]
    congr 1
    funext c
    rw [Bool.and_comm]
  rw [e, e, h a b hd]
/-- What is left of a word behind a letter at its front, if no letter before the letter keeps it from there. -/
def rm (D : α → α → Bool) (a : α) : List α → Option (List α)
  | [] => none
  | x :: v => if x = a then some v else if D x a then none else (rm D a v).map (x :: ·)
end

/-! ### the normal form: always the least letter that can stand at the front -/
/-- The least letter below n that can stand at the front of a word. -/
def lead (D : Nat → Nat → Bool) (n : Nat) (w : List Nat) : Option Nat := (List.range n).find? fun a => (rm D a w).isSome
variable {D : Nat → Nat → Bool} {n : Nat}
end Go.Proofs.YtjfdhkobaiplpaaDoor.T

namespace Go.Proofs.YtjfdhkobaiplpaaDoor.T
set_option linter.unusedVariables false
set_option linter.unusedSimpArgs false

/-- The members of a set, in ascending order. -/
def bitsL (m : Nat) : List Nat := (List.range 64).filter fun i => m.testBit i
theorem bitsL_zero : bitsL 0 = [] := by
  unfold bitsL
  rw [List.filter_eq_nil_iff]
  simp

end Go.Proofs.YtjfdhkobaiplpaaDoor.T

namespace Go.Proofs.YtjfdhkobaiplpaaDoor.T
set_option linter.unusedVariables false
set_option linter.unusedSimpArgs false

/-- The least member of a set (64 if there is none). -/
def low (m : Nat) : Nat := ((List.range 64).find? fun i => m.testBit i).getD 64
theorem exists_bit {m : Nat} (h0 : m ≠ 0) (hm : m < 18446744073709551616) : ∃ i, i < 64 ∧ m.testBit i = true := by
  obtain ⟨i, hi⟩ := Nat.exists_testBit_of_ne_zero h0
  refine ⟨i, ?_, hi⟩
  rcases Nat.lt_or_ge i 64 with h | h
  · exact h
  · exfalso
    rw [Nat.testBit_lt_two_pow (Nat.lt_of_lt_of_le hm (by
      have : 2 ^ 64 ≤ 2 ^ i := Nat.pow_le_pow_right (by decide) h
      have e : 2 ^ 64 = 18446744073709551616 := by decide
      omega))] at hi
    cases hi
theorem low_spec {m : Nat} (h0 : m ≠ 0) (hm : m < 18446744073709551616) : low m < 64 ∧ m.testBit (low m) = true ∧ ∀ j, j < low m → m.testBit j = false := by
  unfold low
  cases h : (List.range 64).find? fun i => m.testBit i with
  | none =>
    rw [List.find?_eq_none] at h
    obtain ⟨i, hi, hb⟩ := exists_bit h0 hm
    exact absurd hb (by simpa using h i (List.mem_range.2 hi))
  | some i =>
    rw [List.find?_range_eq_some] at h
    obtain ⟨h1, h2, h3⟩ := h
    exact ⟨List.mem_range.1 h2, h1, fun j hj => by simpa using h3 j hj⟩
theorem low_form {m l : Nat} (hb : m.testBit l = true) (hz : ∀ j, j < l → m.testBit j = false) : m = 2 ^ (l + 1) * (m / 2 ^ (l + 1)) + 2 ^ l := by
  have : m % 2 ^ (l + 1) = 2 ^ l := by
    apply Nat.eq_of_testBit_eq
    intro j
    rw [Nat.testBit_mod_two_pow, Nat.testBit_two_pow]
    by_cases h1 : j < l
    · simp [hz j h1]; omega
    · by_cases h2 : j = l
      · subst h2; simp [hb]
      · have : ¬ j < l + 1 := by omega
        simp [this]; omega
  have h := Nat.div_add_mod m (2 ^ (l + 1))
  omega
/-- The set without its least member. -/
theorem testBit_clear {m : Nat} (h0 : m ≠ 0) (hm : m < 18446744073709551616) (j : Nat) : (m &&& (m - 1)).testBit j = (m.testBit j && decide (j ≠ low m)) := by
  obtain ⟨_, hb, hz⟩ := low_spec h0 hm
  generalize low m = l at *
  have e := low_form hb hz
  generalize m / 2 ^ (l + 1) = q at e
  have hp : 0 < 2 ^ l := Nat.two_pow_pos l
  have hlt : 2 ^ l < 2 ^ (l + 1) := Nat.pow_lt_pow_right (by decide) (by omega)
  have e1 : m - 1 = 2 ^ (l + 1) * q + (2 ^ l - 1) := by omega
  rw [Nat.testBit_and, e1]
  rw [Nat.testBit_two_pow_mul_add q (by omega) j]
  by_cases h1 : j < l
  · rw [hz j h1]; simp
  · by_cases h2 : j = l
    · subst h2
      rw [if_pos (by omega), Nat.testBit_two_pow_sub_one]
      simp
    · rw [if_neg (by omega)]
      have : m.testBit j = q.testBit (j - (l + 1)) := by
        rw [e, Nat.testBit_two_pow_mul_add q hlt j, if_neg (by omega)]
      rw [this]
      simp [h2]
theorem clear_lt {m : Nat} (h0 : m ≠ 0) : m &&& (m - 1) < m := Nat.lt_of_le_of_lt Nat.and_le_right (by omega)
/-- math/bits' answer is the least member. -/
theorem ctz_low {m : Nat} (h0 : m ≠ 0) (hm : m < 18446744073709551616) : Lib.ctz 64 m = low m := by
  obtain ⟨h1, h2⟩ := Lib.lowest_bit 64 m h0 hm
  have hm' : m < 2 ^ 64 := hm
  symm
  obtain ⟨hl, hb, hz⟩ := low_spec h0 hm
  -- the lowest bit alone is m &&& (2^64 - m)
  have hk : m &&& (18446744073709551616 - m) = 2 ^ Lib.ctz 64 m := h1
  have hbit : m.testBit (Lib.ctz 64 m) = true := by
    have := congrArg (fun x => x.testBit (Lib.ctz 64 m)) hk
    simp only [Nat.testBit_and, Nat.testBit_two_pow_self, Bool.and_eq_true] at this
    exact this.1
  have e := low_form hb hz
  have hmod : (18446744073709551616 - m).testBit (low m) = true := by
    generalize low m = l at *
    generalize hq : m / 2 ^ (l + 1) = q at e
    have hp : 2 ^ (l + 1) ∣ 18446744073709551616 := by
      have : (18446744073709551616 : Nat) = 2 ^ 64 := by decide
      rw [this]
      exact Nat.pow_dvd_pow 2 (by omega)
    obtain ⟨c, hc⟩ := hp
    have hpos : 0 < 2 ^ l := Nat.two_pow_pos l
    have hlt : 2 ^ l < 2 ^ (l + 1) := Nat.pow_lt_pow_right (by decide) (by omega)
    have h2l : 2 ^ (l + 1) = 2 * 2 ^ l := by rw [Nat.pow_succ]; omega
    have hcq : q < c := by
      rcases Nat.lt_or_ge q c with h | h
      · exact h
      · have : 2 ^ (l + 1) * c ≤ 2 ^ (l + 1) * q := Nat.mul_le_mul_left _ h
        omega
    obtain ⟨d, rfl⟩ : ∃ d, c = q + 1 + d := ⟨c - q - 1, by omega⟩
    have hx : 18446744073709551616 - m = 2 ^ (l + 1) * d + 2 ^ l := by
      rw [Nat.mul_add, Nat.mul_add, Nat.mul_one] at hc
      omega
    rw [hx, Nat.testBit_two_pow_mul_add d hlt l, if_pos (by omega), Nat.testBit_two_pow_self]
  have : (2 ^ Lib.ctz 64 m).testBit (low m) = true := by
    rw [← hk, Nat.testBit_and, hb, hmod]; rfl
  rw [Nat.testBit_two_pow] at this
  have := of_decide_eq_true this
  omega
theorem bitsL_cons {m : Nat} (h0 : m ≠ 0) (hm : m < 18446744073709551616) : bitsL m = low m :: bitsL (m &&& (m - 1)) := by
  obtain ⟨hl, hb, hz⟩ := low_spec h0 hm
  unfold bitsL
  have hs : List.range 64 = List.range (low m) ++ (low m :: (List.range (63 - low m)).map fun x => low m + 1 + x) := by
    rw [show 64 = low m + (1 + (63 - low m)) by omega, List.range_add, List.range_add]
    simp [Nat.add_assoc]
  have hc := testBit_clear h0 hm
  rw [hs, List.filter_append, List.filter_append, List.filter_cons, List.filter_cons, if_pos hb, if_neg (by rw [hc]; simp)]
  have e0 : (List.range (low m)).filter (fun i => m.testBit i) = [] := by
    rw [List.filter_eq_nil_iff]
    intro j hj
    rw [hz j (List.mem_range.1 hj)]
    simp
  have e1 : (List.range (low m)).filter (fun i => (m &&& (m - 1)).testBit i) = [] := by
    rw [List.filter_eq_nil_iff]
    intro j hj
    rw [hc, hz j (List.mem_range.1 hj)]
    simp
  rw [e0, e1, List.nil_append, List.nil_append]
  congr 1
  apply List.filter_congr
  intro j hj
  rw [List.mem_map] at hj
  obtain ⟨x, _, rfl⟩ := hj
  rw [hc]
  have : low m + 1 + x ≠ low m := by omega
  simp [this]
end Go.Proofs.YtjfdhkobaiplpaaDoor.T

namespace Go.Proofs.YtjfdhkobaiplpaaDoor.T
set_option linter.unusedVariables false
set_option linter.unusedSimpArgs false

/-- A list is before another one. -/
def lex : List Int → List Int → Bool
  | _, [] => false
  | [], _ :: _ => true
  | a :: u, b :: v => if a < b then true else if b < a then false else lex u v
/-- The least of a list of candidates, an elder one kept where it is no greater. -/
def least (best : List Int) (l : List (List Int)) : List Int := l.foldl (fun b y => if lex y b then y else b) best
theorem least_mem : ∀ (l : List (List Int)) (best : List Int), least best l = best ∨ least best l ∈ l
  | [], best => Or.inl rfl
  | y :: l, best => by
    unfold least
    rw [List.foldl_cons]
    have := least_mem l (if lex y best then y else best)
    unfold least at this
    rcases this with h | h
    · rw [h]
      split
      · exact Or.inr List.mem_cons_self
      · exact Or.inl rfl
    · exact Or.inr (List.mem_cons_of_mem _ h)
end Go.Proofs.YtjfdhkobaiplpaaDoor.T

namespace Go.Proofs.YtjfdhkobaiplpaaDoor.T
set_option linter.unusedVariables false
set_option linter.unusedSimpArgs false
/-- Letters as whole numbers. -/
def ints (w : List Nat) : List Int := w.map fun (x : Nat) => (x : Int)
end Go.Proofs.YtjfdhkobaiplpaaDoor.T

namespace Go.Proofs.YtjfdhkobaiplpaaDoor.T
set_option linter.unusedVariables false
set_option linter.unusedSimpArgs false
open Go Go.RowKit Go.Proofs.YtjfdhkobaiplpaaDoorW.PrintWords Go.Proofs.YtjfdhkobaiplpaaDoorW.PrintMore Go.Proofs.YtjfdhkobaiplpaaDoor.G

theorem least_eq {m : Nat} (h0 : m ≠ 0) (hm : m < 9223372036854775808) : impl_least.f (m : Int) = some ((low m : Nat) : Int) := by
  unfold impl_least.f
  rw [u64_id (by omega) (by omega)]
  unfold bits_TrailingZeros64.f
  rw [if_pos (by omega), Int.toNat_natCast, ctz_low h0 (by omega)]
  rfl
theorem ints_append (u v : List Nat) : ints (u ++ v) = ints u ++ ints v := by unfold ints; rw [List.map_append]
theorem ints_length (u : List Nat) : (ints u).length = u.length := by unfold ints; rw [List.length_map]
theorem ints_cons (a : Nat) (u : List Nat) : ints (a :: u) = (a : Int) :: ints u := rfl
theorem bitsL_length (m : Nat) : (bitsL m).length ≤ 64 := by
  unfold bitsL
  have := List.length_filter_le (fun i => m.testBit i) (List.range 64)
  rwa [List.length_range] at this
theorem members_loop : ∀ (b m : Nat) (out : List Int), m ≤ b → m < 9223372036854775808 → out.length + (bitsL m).length ≤ 1000 → Ev (fun k => impl_members.l0 k (m : Int) out) (out ++ ints (bitsL m))
  | 0, m, out, hb, hm, ho => by
    obtain rfl : m = 0 := by omega
    refine Ev.step (f := fun _ => some (out ++ ints (bitsL 0))) (fun k => ?_) (Ev.now _)
    simp only [impl_members.l0]
    rw [if_pos (by rfl), bitsL_zero]
    simp [ints]
  | b + 1, m, out, hb, hm, ho => by
    by_cases h0 : m = 0
    · subst h0
      refine Ev.step (f := fun _ => some (out ++ ints (bitsL 0))) (fun k => ?_) (Ev.now _)
      simp only [impl_members.l0]
      rw [if_pos (by rfl), bitsL_zero]
      simp [ints]
    · have hlt := clear_lt h0
      have hc := bitsL_cons h0 (by omega : m < 18446744073709551616)
      have hl : (bitsL m).length = (bitsL (m &&& (m - 1))).length + 1 := by rw [hc]; rfl
      have ih := members_loop b (m &&& (m - 1)) (out ++ [((low m : Nat) : Int)]) (by omega) (by omega) (by rw [List.length_append, List.length_singleton]; omega)
      rw [hc, ints_cons, List.append_cons]
      refine Ev.step (fun k => ?_) ih
      simp only [impl_members.l0]
      rw [if_neg (by omega), least_eq h0 hm, Option.bind_some, if_pos (by omega), wrap_id (by omega) (by omega), show ((m : Int) - 1) = ((m - 1 : Nat) : Int) by omega, band hm (by omega)]
theorem members_ev {m : Nat} (hm : m < 9223372036854775808) : Ev (fun k => impl_members.f k (m : Int)) (ints (bitsL m)) := by
  have := members_loop m m [] (Nat.le_refl _) hm (by have := bitsL_length m; simp; omega)
  refine Ev.congr (fun k => ?_) this
  rfl
end Go.Proofs.YtjfdhkobaiplpaaDoor.T

namespace Go.Proofs.YtjfdhkobaiplpaaDoor.T
set_option linter.unusedVariables false
set_option linter.unusedSimpArgs false
open Go Go.RowKit Go.Proofs.YtjfdhkobaiplpaaDoorW.PrintWords Go.Proofs.YtjfdhkobaiplpaaDoorW.PrintMore Go.Proofs.YtjfdhkobaiplpaaDoor.G

/-- A loop that counts up to n. -/
theorem loop_ev {α : Type} (n : Nat) (G : Nat → Nat → Option α) {r : α} (hn : Ev (G n) r) (hs : ∀ i, i < n → Ev (G (i + 1)) r → Ev (G i) r) : Ev (G 0) r := by
  have : ∀ d i, i + d = n → Ev (G i) r := by
    intro d
    induction d with
    | zero => intro i h; obtain rfl : i = n := by omega
              exact hn
    | succ d ih => intro i h; exact hs i (by omega) (ih (i + 1) (by omega))
  exact this n 0 (by omega)
/-- The set of the numbers below n that meet a condition. -/
def setOf : Nat → (Nat → Bool) → Nat
  | 0, _ => 0
  | n + 1, p => if p n then setOf n p ||| 2 ^ n else setOf n p
theorem testBit_setOf (p : Nat → Bool) : ∀ (n i : Nat), (setOf n p).testBit i = (decide (i < n) && p i)
  | 0, i => by simp [setOf]
  | n + 1, i => by
    unfold setOf
    by_cases h : p n = true
    · rw [if_pos h, Nat.testBit_or, testBit_setOf p n i, Nat.testBit_two_pow]
      by_cases e : n = i
      · subst e; simp [h]
      · have : (i < n + 1) ↔ (i < n) := by omega
        simp [e, this]
    · rw [if_neg h, testBit_setOf p n i]
      by_cases e : n = i
      · subst e; simp [h]
      · have : (i < n + 1) ↔ (i < n) := by omega
        simp [this]
theorem setOf_lt (p : Nat → Bool) (n : Nat) : setOf n p < 2 ^ n := by
  apply Nat.lt_pow_two_of_testBit
  intro i hi
  rw [testBit_setOf]
  simp; omega
theorem setOf_congr {n : Nat} {p q : Nat → Bool} (h : ∀ i, i < n → p i = q i) : setOf n p = setOf n q := by
  apply Nat.eq_of_testBit_eq
  intro i
  rw [testBit_setOf, testBit_setOf]
  by_cases hi : i < n
  · rw [h i hi]
  · simp [hi]
theorem two_pow_lt {i n : Nat} (h : i < n) : 2 ^ i < 2 ^ n := Nat.pow_lt_pow_right (by decide) h
theorem pow_24 {n : Nat} (h : n ≤ 24) : 2 ^ n ≤ 16777216 := by
  have : 2 ^ n ≤ 2 ^ 24 := Nat.pow_le_pow_right (by decide) h
  have e : 2 ^ 24 = 16777216 := by decide
  omega
/-- A relation as a list of sets. -/
structure IsRelN (r : List Nat) : Prop where
  len : r.length ≤ 24
  lt : ∀ x ∈ r, x < 2 ^ r.length
theorem IsRelN.small {r : List Nat} (h : IsRelN r) {i : Nat} (hi : i < r.length) : r[i] < 16777216 := by
  have := h.lt _ (List.getElem_mem hi)
  have := pow_24 h.len
  omega
theorem IsRelN.bit {r : List Nat} (h : IsRelN r) {i j : Nat} (hi : i < r.length) (hj : r[i].testBit j = true) : j < r.length := by
  rcases Nat.lt_or_ge j r.length with h1 | h1
  · exact h1
  · rw [Nat.testBit_lt_two_pow (Nat.lt_of_lt_of_le (h.lt _ (List.getElem_mem hi)) (Nat.pow_le_pow_right (by decide) h1))] at hj
    cases hj
theorem ints_surj {l : List Int} : (∀ x ∈ l, 0 ≤ x) → ∃ r : List Nat, l = ints r := by
  induction l with
  | nil => exact fun _ => ⟨[], rfl⟩
  | cons a t ih =>
    intro h
    obtain ⟨r, rfl⟩ := ih (fun x hx => h x (List.mem_cons_of_mem _ hx))
    obtain ⟨n, rfl⟩ := Int.eq_ofNat_of_zero_le (h a List.mem_cons_self)
    exact ⟨n :: r, rfl⟩
theorem mem_ints {r : List Nat} {x : Int} : x ∈ ints r ↔ ∃ n ∈ r, x = (n : Int) := by
  unfold ints
  rw [List.mem_map]
  constructor
  · rintro ⟨n, h1, rfl⟩; exact ⟨n, h1, rfl⟩
  · rintro ⟨n, h1, rfl⟩; exact ⟨n, h1, rfl⟩
theorem rd_ints {r : List Nat} {i : Nat} (h : i < r.length) : rd (ints r) (i : Int) = ((r[i] : Nat) : Int) := by
  rw [rd_nat (by rw [ints_length]; exact h)]
  simp [ints]
theorem ints_set (r : List Nat) (i x : Nat) : (ints r).set i (x : Int) = ints (r.set i x) := by
  unfold ints
  rw [List.map_set]
theorem ints_replicate (n : Nat) : List.replicate n (0 : Int) = ints (List.replicate n 0) := by
  unfold ints
  rw [List.map_replicate]
  rfl
theorem l01Bit_eq {m i : Nat} (hm : m < 9223372036854775808) (hi : i < 9223372036854775808) : spec_l01Bit.f (m : Int) (i : Int) = some (m.testBit i) := by
  unfold spec_l01Bit.f
  rw [u64_id (by omega) (by omega), if_pos (by omega), shr_and_one hm]
  cases m.testBit i <;> rfl
theorem has_eq {m i : Nat} (hm : m < 9223372036854775808) : impl_has.f (m : Int) (i : Int) = some (m.testBit i) := by
  unfold impl_has.f
  rw [if_pos (by omega), shr_and_one hm]
  cases m.testBit i <;> rfl
/-- A row of the converse: the elements that are related to i. -/
def col (r : List Nat) (i n : Nat) : Nat := setOf n fun k => (r.getD k 0).testBit i
def conv (r : List Nat) : List Nat := (List.range r.length).map fun i => col r i r.length
theorem conv_length (r : List Nat) : (conv r).length = r.length := by unfold conv; simp
theorem conv_get (r : List Nat) (i : Nat) (h : i < (conv r).length) : (conv r)[i] = col r i r.length := by
  simp [conv]
theorem conv_bit {r : List Nat} {i j : Nat} (hi : i < r.length) (hj : j < r.length) : ((conv r)[i]'(by rw [conv_length]; exact hi)).testBit j = (r[j]).testBit i := by
  rw [conv_get]
  unfold col
  rw [testBit_setOf]
  simp [hj]
theorem conv_rel {r : List Nat} (h : IsRelN r) : IsRelN (conv r) := by
  refine ⟨by rw [conv_length]; exact h.len, fun x hx => ?_⟩
  rw [conv_length]
  unfold conv at hx
  rw [List.mem_map] at hx
  obtain ⟨i, _, rfl⟩ := hx
  exact setOf_lt _ _
theorem getD_eq {r : List Nat} {i : Nat} (h : i < r.length) : r.getD i 0 = r[i] := by simp [h]
theorem col_succ (r : List Nat) (i k : Nat) (hk : k < r.length) : col r i (k + 1) = if r[k].testBit i then col r i k ||| 2 ^ k else col r i k := by
  unfold col
  rw [setOf, getD_eq hk]
/-- The members of a list get a mark. -/
def marks (out : List Nat) (b : Nat) (ms : List Nat) : List Nat := ms.foldl (fun o m => o.set m (o.getD m 0 ||| b)) out
theorem marks_length (b : Nat) : ∀ (ms out : List Nat), (marks out b ms).length = out.length
  | [], out => rfl
  | m :: ms, out => by
    show (marks (out.set m (out.getD m 0 ||| b)) b ms).length = _
    rw [marks_length b ms, List.length_set]
theorem marks_get (b : Nat) : ∀ (ms out : List Nat) (j : Nat), j < out.length → (marks out b ms).getD j 0 = if j ∈ ms then out.getD j 0 ||| b else out.getD j 0
  | [], out, j, h => by simp [marks]
  | m :: ms, out, j, h => by
    show (marks (out.set m (out.getD m 0 ||| b)) b ms).getD j 0 = _
    rw [marks_get b ms _ j (by rw [List.length_set]; exact h)]
    by_cases e : m = j
    · subst e
      have : (out.set m (out.getD m 0 ||| b)).getD m 0 = out.getD m 0 ||| b := by
        simp [List.getD_eq_getElem?_getD, List.getElem?_set, h]
      rw [this]
      by_cases h2 : m ∈ ms
      · simp [h2, Nat.or_assoc]
      · simp [h2]
    · have : (out.set m (out.getD m 0 ||| b)).getD j 0 = out.getD j 0 := by
        simp [List.getD_eq_getElem?_getD, List.getElem?_set, e]
      rw [this]
      have e2 : ¬ j = m := fun h => e h.symm
      by_cases h2 : j ∈ ms <;> simp [h2, e2]
theorem getD_lt {out : List Nat} {B : Nat} (h : ∀ x ∈ out, x < B) (hB : 0 < B) (m : Nat) : out.getD m 0 < B := by
  rcases Nat.lt_or_ge m out.length with h1 | h1
  · rw [getD_eq h1]; exact h _ (List.getElem_mem h1)
  · simp [List.getD_eq_getElem?_getD, h1, hB]
theorem converse_inner {r : List Nat} (h : IsRelN r) (i : Nat) (hi : i < r.length) : ∀ (ms : List Nat) (n0 : Nat) (pre out : List Nat) {R : List Int}, (∀ m ∈ ms, m < out.length) → out.length ≤ 24 → (∀ x ∈ out, x < 16777216) → pre.length + ms.length ≤ 100 →
    Ev (fun k => impl_converse.l0 k (ints (marks out (2 ^ i) ms)) (ints r) (r.length : Int) ((i + 1 : Nat) : Int)) R →
    Ev (fun k => impl_converse.l1 k (ints out) (i : Int) (ints r) (r.length : Int) (i : Int) (ints (pre ++ ms)) ((pre ++ ms).length : Int) (pre.length : Int)) R
  | [], n0, pre, out, R, hm, hl, hb, hp, hx => by
    refine Ev.step (fun k => ?_) hx
    have := h.len
    simp only [impl_converse.l1]
    rw [if_neg (by simp), wrap_id (by omega) (by omega)]
    rfl
  | m :: ms, n0, pre, out, R, hm, hl, hb, hp, hx => by
    have := h.len
    have hm0 := hm m List.mem_cons_self
    rw [List.length_cons] at hp
    have hg := getD_lt hb (by decide) m
    have h2 := two_pow_lt hi
    have h3 := pow_24 this
    have ho : out.getD m 0 ||| 2 ^ i < 16777216 := by
      have := Nat.or_lt_two_pow (n := 24) (x := out.getD m 0) (y := 2 ^ i) (by have e : 2 ^ 24 = 16777216 := by decide
                                                                               omega) (by have e : 2 ^ 24 = 16777216 := by decide
                                                                                          omega)
      have e : 2 ^ 24 = 16777216 := by decide
      omega
    have ih := converse_inner h i hi ms n0 (pre ++ [m]) (out.set m (out.getD m 0 ||| 2 ^ i)) (R := R) (by intro x hx; rw [List.length_set]; exact hm x (List.mem_cons_of_mem _ hx)) (by rw [List.length_set]; exact hl)
      (by intro x hx
          rcases List.mem_or_eq_of_mem_set hx with h1 | h1
          · exact hb x h1
          · subst h1; exact ho) (by rw [List.length_append, List.length_singleton]; omega) hx
    rw [List.append_assoc, List.singleton_append, @List.length_append _ pre [m], List.length_singleton] at ih
    refine Ev.step (fun k => ?_) ih
    simp only [impl_converse.l1]
    have hpl : pre.length < (pre ++ m :: ms).length := by simp
    have hrd : rd (ints (pre ++ m :: ms)) (pre.length : Int) = (m : Int) := by
      rw [rd_ints hpl]
      simp
    have hl2 : (pre ++ m :: ms).length = pre.length + ms.length + 1 := by simp; omega
    rw [if_pos (by omega), if_pos (by omega), if_pos (by rw [ints_length]; omega), hrd, if_pos (by omega), if_pos (by rw [ints_length]; omega), one_eq (by omega), Option.bind_some, rd_ints hm0, Int.toNat_natCast, wrap_id (by omega) (by omega), ← getD_eq hm0, bor (by omega) (by omega), ints_set]
    rfl
/-- The converse after some rows. -/
def convTo (r : List Nat) (i : Nat) : List Nat := (List.range r.length).map fun k => col r k i
theorem convTo_succ {r : List Nat} (h : IsRelN r) {i : Nat} (hi : i < r.length) : marks (convTo r i) (2 ^ i) (bitsL r[i]) = convTo r (i + 1) := by
  apply List.ext_getElem
  · rw [marks_length]; simp [convTo]
  · intro j h1 h2
    have hj : j < r.length := by rw [marks_length] at h1; simpa [convTo] using h1
    rw [← getD_eq h1, marks_get _ _ _ _ (by simpa [convTo] using hj)]
    have e1 : (convTo r i).getD j 0 = col r j i := by simp [convTo, hj]
    have hs := h.small hi
    rw [e1]
    simp only [convTo, List.getElem_map, List.getElem_range]
    rw [col_succ r j i hi]
    have : (j ∈ bitsL r[i]) ↔ r[i].testBit j = true := by
      unfold bitsL
      rw [List.mem_filter, List.mem_range]
      have := h.len
      constructor
      · exact fun h => h.2
      · exact fun h => ⟨by omega, h⟩
    by_cases hb : r[i].testBit j = true
    · rw [if_pos (this.2 hb), if_pos hb]
    · rw [if_neg (fun h => hb (this.1 h)), if_neg hb]
theorem converse_ev {r : List Nat} (h : IsRelN r) : Ev (fun k => impl_converse.f k (ints r)) (ints (conv r)) := by
  have hlen := h.len
  have : Ev (fun k => impl_converse.l0 k (ints (convTo r 0)) (ints r) (r.length : Int) (0 : Nat)) (ints (conv r)) := by
    refine loop_ev r.length (fun i k => impl_converse.l0 k (ints (convTo r i)) (ints r) (r.length : Int) (i : Int)) ?_ ?_
    · refine Ev.step (f := fun _ => some (ints (conv r))) (fun k => ?_) (Ev.now _)
      simp only [impl_converse.l0]
      rw [if_neg (by omega)]
      rfl
    · intro i hi ih
      have hs := h.small hi
      have hbl := bitsL_length r[i]
      have hin := converse_inner h i hi (bitsL r[i]) 0 [] (convTo r i) (R := ints (conv r)) (by
          intro m hm
          unfold bitsL at hm
          rw [List.mem_filter] at hm
          have := h.bit hi hm.2
          simpa [convTo] using this) (by simp [convTo]; omega) (by
          intro x hx
          unfold convTo at hx
          rw [List.mem_map] at hx
          obtain ⟨j, _, rfl⟩ := hx
          have h1 : col r j i < 2 ^ i := setOf_lt _ _
          have h2 := pow_24 (n := i) (by omega)
          omega) (by simp; omega) (by rw [convTo_succ h hi]; exact ih)
      rw [List.nil_append] at hin
      have hb : Ev (fun k => (impl_members.f k ((r[i] : Nat) : Int)).bind fun t => impl_converse.l1 k (ints (convTo r i)) (i : Int) (ints r) (r.length : Int) (i : Int) t (t.length : Int) 0) (ints (conv r)) := by
        refine Ev.bind (members_ev (by omega)) ?_
        rw [ints_length]
        exact hin
      refine Ev.step (fun k => ?_) hb
      simp only [impl_converse.l0]
      rw [if_pos (by omega), if_pos (by omega), if_pos (by rw [ints_length]; omega), rd_ints hi]
  refine Ev.congr (fun k => ?_) this
  unfold impl_converse.f
  rw [ints_length, if_pos (by omega), Int.toNat_natCast, if_pos (by omega), ints_replicate]
  congr 2
  unfold convTo
  apply List.ext_getElem <;> simp [col, setOf]
theorem toNat_ints (r : List Nat) : (ints r).map Int.toNat = r := by
  unfold ints
  rw [List.map_map]
  exact (List.map_congr_left (fun x _ => by simp)).trans (List.map_id _)
end Go.Proofs.YtjfdhkobaiplpaaDoor.T

namespace Go.Proofs.YtjfdhkobaiplpaaDoor.T
set_option linter.unusedVariables false
set_option linter.unusedSimpArgs false
open Go Go.RowKit Go.Proofs.YtjfdhkobaiplpaaDoorW.PrintWords Go.Proofs.YtjfdhkobaiplpaaDoorW.PrintMore

/-- A loop that looks at all below n, and answers false where a condition fails. -/
theorem all_loop {n : Nat} {G : Nat → Nat → Option Bool} {p : Nat → Bool} {R : Bool} (hn : Ev (G n) R) (hs : ∀ i, i < n → p i = true → ∀ r, Ev (G (i + 1)) r → Ev (G i) r) (hf : ∀ i, i < n → p i = false → Ev (G i) false) : Ev (G 0) ((List.range n).all p && R) := by
  have : ∀ d i, i + d = n → Ev (G i) ((List.range' i d).all p && R) := by
    intro d
    induction d with
    | zero => intro i h; obtain rfl : i = n := by omega
              simpa using hn
    | succ d ih =>
      intro i h
      rw [List.range'_succ, List.all_cons]
      cases hp : p i
      · simpa using hf i (by omega) hp
      · have := hs i (by omega) hp _ (ih (i + 1) (by omega))
        simpa using this
  have h := this n 0 (by omega)
  rwa [← List.range_eq_range'] at h
theorem bit_ltD {r : List Nat} (h : IsRelN r) {i j : Nat} (hi : i < r.length) (hj : (r.getD i 0).testBit j = true) : j < r.length := by
  rw [getD_eq hi] at hj
  exact h.bit hi hj
end Go.Proofs.YtjfdhkobaiplpaaDoor.T

namespace Go.Proofs.YtjfdhkobaiplpaaDoor.T
set_option linter.unusedVariables false
set_option linter.unusedSimpArgs false
open Go Go.RowKit Go.Proofs.YtjfdhkobaiplpaaDoorW.PrintWords Go.Proofs.YtjfdhkobaiplpaaDoorW.PrintMore Go.Proofs.YtjfdhkobaiplpaaDoor.G

/-- Reflexive and symmetric. -/
def symB (r : List Nat) : Bool := (List.range r.length).all fun a => (r.getD a 0).testBit a && (List.range r.length).all fun b => (r.getD a 0).testBit b == (r.getD b 0).testBit a
/-- n letters and their dependence. -/
def isA (n : Int) (l : List Int) : Bool := decide (0 ≤ n ∧ n ≤ 8) && (decide ((l.length : Int) = n) && (l.all (isM l.length) && symB (l.map Int.toNat)))
structure IsAN (r : List Nat) : Prop extends IsRelN r where
  len8 : r.length ≤ 8
  refl : ∀ a, a < r.length → (r.getD a 0).testBit a = true
  symm : ∀ a b, a < r.length → b < r.length → (r.getD a 0).testBit b = (r.getD b 0).testBit a
theorem symB_iff (r : List Nat) : symB r = true ↔ (∀ a, a < r.length → (r.getD a 0).testBit a = true) ∧ ∀ a b, a < r.length → b < r.length → (r.getD a 0).testBit b = (r.getD b 0).testBit a := by
  unfold symB
  simp only [List.all_eq_true, List.mem_range, Bool.and_eq_true, beq_iff_eq]
  constructor
  · exact fun h => ⟨fun a ha => (h a ha).1, fun a b ha hb => (h a ha).2 b hb⟩
  · exact fun h a ha => ⟨h.1 a ha, fun b hb => h.2 a b ha hb⟩
theorem masks_nat {n : Nat} {l : List Int} (h : l.all (isM n) = true) : ∃ r : List Nat, l = ints r ∧ ∀ x ∈ r, x < 2 ^ n := by
  have h2 := List.all_eq_true.1 h
  obtain ⟨r, rfl⟩ := ints_surj (l := l) (fun x hx => (of_decide_eq_true (h2 x hx)).1)
  refine ⟨r, rfl, fun x hx => ?_⟩
  have h3 := of_decide_eq_true (h2 (x : Int) (mem_ints.2 ⟨x, hx, rfl⟩))
  have := Nat.two_pow_pos n
  omega
theorem isA_nat {n : Int} {l : List Int} (h : isA n l = true) : ∃ r : List Nat, l = ints r ∧ n = (r.length : Int) ∧ IsAN r := by
  unfold isA at h
  simp only [Bool.and_eq_true, decide_eq_true_eq] at h
  obtain ⟨h1, h2, h3, h4⟩ := h
  obtain ⟨r, rfl, hr⟩ := masks_nat h3
  rw [ints_length] at h2 hr
  rw [toNat_ints] at h4
  obtain ⟨h5, h6⟩ := (symB_iff r).1 h4
  exact ⟨r, rfl, h2.symm, ⟨⟨by omega, hr⟩, by omega, h5, h6⟩⟩
theorem l02Is_loops {r : List Nat} (hr : IsRelN r) : Ev (fun k => spec_l02Is.l0 k 0 (r.length : Int) (ints r)) (symB r) := by
  have hlen := hr.len
  have := all_loop (n := r.length) (G := fun i k => spec_l02Is.l0 k (i : Int) (r.length : Int) (ints r)) (p := fun a => (r.getD a 0).testBit a && (List.range r.length).all fun b => (r.getD a 0).testBit b == (r.getD b 0).testBit a) (R := true) ?_ ?_ ?_
  · rw [Bool.and_true] at this
    exact this
  · refine Ev.step (f := fun _ => some true) (fun k => ?_) (Ev.now _)
    simp only [spec_l02Is.l0]
    rw [if_neg (by omega)]
  · intro i hi hp R hR
    have hsi := hr.small hi
    rw [Bool.and_eq_true, getD_eq hi] at hp
    have inner := all_loop (n := r.length) (G := fun j k => spec_l02Is.l1 k (i : Int) (j : Int) (r.length : Int) (ints r)) (p := fun b => (r.getD i 0).testBit b == (r.getD b 0).testBit i) (R := R) ?_ ?_ ?_
    · rw [getD_eq hi, hp.2, Bool.true_and] at inner
      refine Ev.step (fun k => ?_) inner
      simp only [spec_l02Is.l0]
      rw [if_pos (by omega), if_pos (by omega), if_pos (by rw [ints_length]; omega), rd_ints hi, l01Bit_eq (by omega) (by omega), Option.bind_some, hp.1, if_pos rfl]
      rfl
    · refine Ev.step (fun k => ?_) hR
      simp only [spec_l02Is.l1]
      rw [if_neg (by omega), wrap_id (by omega) (by omega)]
      rfl
    · intro j hj hq R2 hR2
      have hsj := hr.small hj
      refine Ev.step (fun k => ?_) hR2
      simp only [spec_l02Is.l1]
      rw [getD_eq hi, getD_eq hj, beq_iff_eq] at hq
      rw [if_pos (by omega), if_pos (by omega), if_pos (by rw [ints_length]; omega), rd_ints hi, l01Bit_eq (by omega) (by omega), Option.bind_some, if_pos (by omega), if_pos (by rw [ints_length]; omega), rd_ints hj, l01Bit_eq (by omega) (by omega), Option.bind_some, hq, bne_self_eq_false, if_neg (by simp), wrap_id (by omega) (by omega)]
      rfl
    · intro j hj hq
      have hsj := hr.small hj
      refine Ev.step (f := fun _ => some false) (fun k => ?_) (Ev.now _)
      simp only [spec_l02Is.l1]
      rw [getD_eq hi, getD_eq hj] at hq
      have hq2 : ((r[i].testBit j != r[j].testBit i) = true) := by rw [bne, hq]; rfl
      rw [if_pos (by omega), if_pos (by omega), if_pos (by rw [ints_length]; omega), rd_ints hi, l01Bit_eq (by omega) (by omega), Option.bind_some, if_pos (by omega), if_pos (by rw [ints_length]; omega), rd_ints hj, l01Bit_eq (by omega) (by omega), Option.bind_some, if_pos hq2]
  · intro i hi hp
    have hsi := hr.small hi
    rw [getD_eq hi] at hp
    cases hb : r[i].testBit i
    · refine Ev.step (f := fun _ => some false) (fun k => ?_) (Ev.now _)
      simp only [spec_l02Is.l0]
      rw [if_pos (by omega), if_pos (by omega), if_pos (by rw [ints_length]; omega), rd_ints hi, l01Bit_eq (by omega) (by omega), Option.bind_some, hb, if_neg (by simp)]
    · rw [hb, Bool.true_and] at hp
      obtain ⟨j, hj, hq⟩ : ∃ j, j < r.length ∧ (r[i].testBit j == (r.getD j 0).testBit i) = false := by
        rw [List.all_eq_false] at hp
        obtain ⟨j, hj, h⟩ := hp
        exact ⟨j, List.mem_range.1 hj, by simpa using h⟩
      have hstep : ∀ (d m : Nat), m + d = j → Ev (fun k => spec_l02Is.l1 k (i : Int) (m : Int) (r.length : Int) (ints r)) false := by
        intro d
        induction d with
        | zero =>
          intro m hm
          obtain rfl : m = j := by omega
          have hsj := hr.small hj
          refine Ev.step (f := fun _ => some false) (fun k => ?_) (Ev.now _)
          simp only [spec_l02Is.l1]
          rw [getD_eq hj] at hq
          have hq2 : ((r[i].testBit m != r[m].testBit i) = true) := by rw [bne, hq]; rfl
          rw [if_pos (by omega), if_pos (by omega), if_pos (by rw [ints_length]; omega), rd_ints hi, l01Bit_eq (by omega) (by omega), Option.bind_some, if_pos (by omega), if_pos (by rw [ints_length]; omega), rd_ints hj, l01Bit_eq (by omega) (by omega), Option.bind_some, if_pos hq2]
        | succ d ih =>
          intro m hm
          have hmj : m < r.length := by omega
          have hsm := hr.small hmj
          cases hc : (r[i].testBit m != r[m].testBit i)
          · refine Ev.step (fun k => ?_) (ih (m + 1) (by omega))
            simp only [spec_l02Is.l1]
            rw [if_pos (by omega), if_pos (by omega), if_pos (by rw [ints_length]; omega), rd_ints hi, l01Bit_eq (by omega) (by omega), Option.bind_some, if_pos (by omega), if_pos (by rw [ints_length]; omega), rd_ints hmj, l01Bit_eq (by omega) (by omega), Option.bind_some, hc, if_neg (by simp), wrap_id (by omega) (by omega)]
            rfl
          · refine Ev.step (f := fun _ => some false) (fun k => ?_) (Ev.now _)
            simp only [spec_l02Is.l1]
            rw [if_pos (by omega), if_pos (by omega), if_pos (by rw [ints_length]; omega), rd_ints hi, l01Bit_eq (by omega) (by omega), Option.bind_some, if_pos (by omega), if_pos (by rw [ints_length]; omega), rd_ints hmj, l01Bit_eq (by omega) (by omega), Option.bind_some, hc, if_pos rfl]
      refine Ev.step (fun k => ?_) (hstep j 0 (by omega))
      simp only [spec_l02Is.l0]
      rw [if_pos (by omega), if_pos (by omega), if_pos (by rw [ints_length]; omega), rd_ints hi, l01Bit_eq (by omega) (by omega), Option.bind_some, hb, if_pos rfl]
      rfl
theorem l02Is_ev (n : Int) (l : List Int) : Ev (fun k => spec_l02Is.f k n l) (isA n l) := by
  unfold isA
  by_cases h1 : 0 ≤ n ∧ n ≤ 8
  · by_cases h2 : (l.length : Int) = n
    · subst h2
      have hm := l01Masks_ev l.length (by omega) l (by omega)
      have e : ∀ k, spec_l02Is.f k (l.length : Int) l = (spec_l01Masks.f k (l.length : Int) l).bind fun t => spec_l02Is.j0 k (!t) (l.length : Int) l := by
        intro k
        unfold spec_l02Is.f
        rw [l01In_eq, Option.bind_some, if_pos (by simpa using h1), if_pos rfl]
      refine Ev.congr e ?_
      refine Ev.bind hm ?_
      cases h3 : l.all (isM l.length)
      · refine Ev.step (f := fun _ => some false) (fun k => ?_) ?_
        · simp only [spec_l02Is.j0]; simp
        · simp; exact Ev.now _
      · obtain ⟨r, rfl, hr⟩ := masks_nat h3
        rw [ints_length] at hr h1
        rw [toNat_ints, ints_length]
        have := l02Is_loops (r := r) ⟨by omega, hr⟩
        refine Ev.step (fun k => ?_) (by simpa [h1] using this)
        simp only [spec_l02Is.j0]
        simp
    · refine Ev.congr (f := fun k => spec_l02Is.j0 k true n l) (fun k => ?_) ?_
      · unfold spec_l02Is.f
        rw [l01In_eq, Option.bind_some, if_pos (by simpa using h1), if_neg h2]
      · refine Ev.step (f := fun _ => some false) (fun k => ?_) (by simp [h2]; exact Ev.now _)
        simp only [spec_l02Is.j0]; simp
  · refine Ev.congr (f := fun k => spec_l02Is.j0 k true n l) (fun k => ?_) ?_
    · unfold spec_l02Is.f
      rw [l01In_eq, Option.bind_some, if_neg (by simpa using h1)]
    · refine Ev.step (f := fun _ => some false) (fun k => ?_) (by simp [h1]; exact Ev.now _)
      simp only [spec_l02Is.j0]; simp
theorem symB_conv {r : List Nat} (hr : IsRelN r) : symB r = (List.range r.length).all fun i => decide ((conv r).getD i 0 = r.getD i 0) && (r.getD i 0).testBit i := by
  rw [Bool.eq_iff_iff, symB_iff]
  simp only [List.all_eq_true, List.mem_range, Bool.and_eq_true, decide_eq_true_eq]
  constructor
  · rintro ⟨h1, h2⟩ i hi
    refine ⟨?_, h1 i hi⟩
    rw [getD_eq (by rw [conv_length]; exact hi)]
    apply Nat.eq_of_testBit_eq
    intro j
    by_cases hj : j < r.length
    · rw [conv_bit hi hj, h2 i j hi hj, getD_eq hj]
    · rw [Nat.testBit_lt_two_pow (Nat.lt_of_lt_of_le ((conv_rel hr).lt _ (List.getElem_mem _)) (Nat.pow_le_pow_right (by decide) (by rw [conv_length]; omega))), getD_eq hi, Nat.testBit_lt_two_pow (Nat.lt_of_lt_of_le (hr.lt _ (List.getElem_mem _)) (Nat.pow_le_pow_right (by decide) (by omega)))]
  · intro h
    refine ⟨fun a ha => (h a ha).2, fun a b ha hb => ?_⟩
    rw [← (h a ha).1, getD_eq (by rw [conv_length]; exact ha), conv_bit ha hb, getD_eq hb]
theorem implIs_loop {r : List Nat} (hr : IsRelN r) : Ev (fun k => impl_IsAlphabet.l0 k (ints (conv r)) (r.length : Int) 0 (r.length : Int) (ints r)) (symB r) := by
  have hlen := hr.len
  have hc := conv_length r
  have := all_loop (n := r.length) (G := fun i k => impl_IsAlphabet.l0 k (ints (conv r)) (r.length : Int) (i : Int) (r.length : Int) (ints r)) (p := fun i => decide ((conv r).getD i 0 = r.getD i 0) && (r.getD i 0).testBit i) (R := true) ?_ ?_ ?_
  · rw [Bool.and_true, ← symB_conv hr] at this
    exact this
  · refine Ev.step (f := fun _ => some true) (fun k => ?_) (Ev.now _)
    simp only [impl_IsAlphabet.l0]
    rw [if_neg (by omega)]
  · intro i hi hp R hR
    have hsi := hr.small hi
    rw [Bool.and_eq_true, decide_eq_true_eq, getD_eq hi, getD_eq (by omega)] at hp
    refine Ev.step (fun k => ?_) hR
    simp only [impl_IsAlphabet.l0]
    rw [if_pos (by omega), if_pos (by omega), if_pos (by rw [ints_length]; omega), if_pos (by rw [ints_length]; omega), rd_ints (by omega), rd_ints hi, hp.1, if_pos rfl, has_eq (by omega), Option.bind_some, hp.2, if_pos rfl, wrap_id (by omega) (by omega)]
    rfl
  · intro i hi hp
    have hsi := hr.small hi
    refine Ev.step (f := fun _ => some false) (fun k => ?_) (Ev.now _)
    simp only [impl_IsAlphabet.l0]
    rw [getD_eq hi, getD_eq (by omega)] at hp
    rw [if_pos (by omega), if_pos (by omega), if_pos (by rw [ints_length]; omega), if_pos (by rw [ints_length]; omega), rd_ints (by omega), rd_ints hi]
    by_cases e : (conv r)[i]'(by omega) = r[i]
    · rw [e, decide_eq_true rfl, Bool.true_and] at hp
      rw [e, if_pos rfl, has_eq (by omega), Option.bind_some, hp, if_neg (by simp)]
    · rw [if_neg (by omega)]
theorem implIsAlphabet_ev (n : Int) (l : List Int) : Ev (fun k => impl_IsAlphabet.f k n l) (isA n l) := by
  unfold isA
  by_cases h1 : 0 ≤ n ∧ n ≤ 8
  · by_cases h2 : (l.length : Int) = n
    · subst h2
      have e : ∀ k, impl_IsAlphabet.f k (l.length : Int) l = impl_IsAlphabet.j0 k (!isRel l) (l.length : Int) l := by
        intro k
        unfold impl_IsAlphabet.f impl_length_int64.f
        rw [inRange_eq, Option.bind_some, if_pos (by simpa using h1), Option.bind_some, if_pos rfl, implIsRelation_eq, Option.bind_some]
      refine Ev.congr e ?_
      have hrel : isRel l = l.all (isM l.length) := by
        unfold isRel
        rw [decide_eq_true (by omega), Bool.true_and]
      rw [hrel]
      cases h3 : l.all (isM l.length)
      · refine Ev.step (f := fun _ => some false) (fun k => ?_) ?_
        · simp only [impl_IsAlphabet.j0]; simp
        · simp; exact Ev.now _
      · obtain ⟨r, rfl, hr⟩ := masks_nat h3
        rw [ints_length] at hr h1
        have hrn : IsRelN r := ⟨by omega, hr⟩
        rw [toNat_ints, ints_length]
        have := implIs_loop hrn
        have hb : Ev (fun k => (impl_converse.f k (ints r)).bind fun t => impl_IsAlphabet.l0 k t (t.length : Int) 0 (r.length : Int) (ints r)) (symB r) := by
          refine Ev.bind (converse_ev hrn) ?_
          rw [ints_length, conv_length]
          exact this
        refine Ev.step (fun k => ?_) (by simpa [h1] using hb)
        simp only [impl_IsAlphabet.j0]
        simp
    · refine Ev.congr (f := fun k => impl_IsAlphabet.j0 k true n l) (fun k => ?_) ?_
      · unfold impl_IsAlphabet.f impl_length_int64.f
        rw [inRange_eq, Option.bind_some, if_pos (by simpa using h1), Option.bind_some, if_neg h2]
      · refine Ev.step (f := fun _ => some false) (fun k => ?_) (by simp [h2]; exact Ev.now _)
        simp only [impl_IsAlphabet.j0]; simp
  · refine Ev.congr (f := fun k => impl_IsAlphabet.j0 k true n l) (fun k => ?_) ?_
    · unfold impl_IsAlphabet.f
      rw [inRange_eq, Option.bind_some, if_neg (by simpa using h1)]
    · refine Ev.step (f := fun _ => some false) (fun k => ?_) (by simp [h1]; exact Ev.now _)
      simp only [impl_IsAlphabet.j0]; simp
end Go.Proofs.YtjfdhkobaiplpaaDoor.T

namespace Go.Proofs.YtjfdhkobaiplpaaDoor.T
set_option linter.unusedVariables false
set_option linter.unusedSimpArgs false
open Go Go.RowKit Go.Proofs.YtjfdhkobaiplpaaDoorW.PrintWords Go.Proofs.YtjfdhkobaiplpaaDoorW.PrintMore Go.Proofs.YtjfdhkobaiplpaaDoor.G

/-- Processes as sets. -/
structure IsPr (n : Nat) (r : List Nat) : Prop where
  len : r.length ≤ 16
  n8 : n ≤ 8
  lt : ∀ x ∈ r, x < 2 ^ n
theorem IsPr.small {n : Nat} {r : List Nat} (h : IsPr n r) {i : Nat} (hi : i < r.length) : r[i] < 256 := by
  have := h.lt _ (List.getElem_mem hi)
  have h2 : 2 ^ n ≤ 2 ^ 8 := Nat.pow_le_pow_right (by decide) h.n8
  have e : 2 ^ 8 = 256 := by decide
  omega
end Go.Proofs.YtjfdhkobaiplpaaDoor.T

namespace Go.Proofs.YtjfdhkobaiplpaaDoor.T
set_option linter.unusedVariables false
set_option linter.unusedSimpArgs false
open Go Go.RowKit Go.Proofs.YtjfdhkobaiplpaaDoorW.PrintWords Go.Proofs.YtjfdhkobaiplpaaDoorW.PrintMore Go.Proofs.YtjfdhkobaiplpaaDoor.G

theorem l02Free_ev (n : Nat) (hn : n ≤ 62) : Ev (fun k => spec_l02Free.f k (n : Int)) ((n : Int), singles n) := by
  have := loop_ev n (fun i k => spec_l02Free.l0 k (n : Int) (i : Int) (n : Int) (singles i)) (r := ((n : Int), singles n)) ?_ ?_
  · exact Ev.congr (fun k => rfl) this
  · refine Ev.step (f := fun _ => some ((n : Int), singles n)) (fun k => ?_) (Ev.now _)
    simp only [spec_l02Free.l0]
    rw [if_neg (by omega)]
  · intro i hi ih
    refine Ev.step (fun k => ?_) ih
    simp only [spec_l02Free.l0]
    rw [if_pos (by omega), l01One_eq (by omega), Option.bind_some, if_pos (by rw [singles_length]; omega), wrap_id (by omega) (by omega), ← singles_succ]
    rfl
end Go.Proofs.YtjfdhkobaiplpaaDoor.T

namespace Go.Proofs.YtjfdhkobaiplpaaDoor.T
set_option linter.unusedVariables false
set_option linter.unusedSimpArgs false

/-- From i chains of related elements lead to j. -/
def Reach (r : Nat → Nat) (i j : Nat) : Prop := ∀ S : Nat → Prop, S i → (∀ a b, S a → (r a).testBit b = true → S b) → S j
theorem Reach.refl (r : Nat → Nat) (i : Nat) : Reach r i i := fun _ h _ => h
theorem Reach.step {r : Nat → Nat} {i j k : Nat} (h : Reach r i j) (hk : (r j).testBit k = true) : Reach r i k := fun S h0 hs => hs j k (h S h0 hs) hk
theorem Reach.trans {r : Nat → Nat} {i j k : Nat} (h : Reach r i j) (k' : Reach r j k) : Reach r i k := fun S h0 hs => k' S (h S h0 hs) hs

/-! ### by rounds -/
/-! ### by one pass over the middle elements -/
end Go.Proofs.YtjfdhkobaiplpaaDoor.T

namespace Go.Proofs.YtjfdhkobaiplpaaDoor.T
set_option linter.unusedVariables false
set_option linter.unusedSimpArgs false
open Go Go.RowKit Go.Proofs.YtjfdhkobaiplpaaDoorW.PrintWords Go.Proofs.YtjfdhkobaiplpaaDoorW.PrintMore Go.Proofs.YtjfdhkobaiplpaaDoor.G

/-- A list of numbers by a function. -/
def lst (n : Nat) (f : Nat → Nat) : List Int := ints ((List.range n).map f)
theorem lst_length (n : Nat) (f : Nat → Nat) : (lst n f).length = n := by
  unfold lst
  rw [ints_length, List.length_map, List.length_range]
theorem rd_lst {n : Nat} {f : Nat → Nat} {i : Nat} (h : i < n) : rd (lst n f) (i : Int) = ((f i : Nat) : Int) := by
  unfold lst
  rw [rd_ints (by rw [List.length_map, List.length_range]; exact h)]
  simp
theorem lst_congr {n : Nat} {f g : Nat → Nat} (h : ∀ i, i < n → f i = g i) : lst n f = lst n g := by
  unfold lst
  congr 1
  exact List.map_congr_left (fun i hi => h i (List.mem_range.1 hi))
theorem lst_set {n : Nat} {f : Nat → Nat} (i x : Nat) : (lst n f).set i (x : Int) = lst n (fun a => if a = i then x else f a) := by
  unfold lst
  rw [ints_set]
  congr 1
  apply List.ext_getElem
  · simp
  · intro j h1 h2
    rw [List.getElem_set]
    by_cases e : i = j
    · subst e; simp
    · have e2 : ¬ j = i := fun h => e h.symm
      simp [e, e2]
theorem ints_lst (r : List Nat) : ints r = lst r.length fun a => r.getD a 0 := by
  unfold lst
  congr 1
  apply List.ext_getElem
  · simp
  · intro j h1 h2
    simp [h1]
end Go.Proofs.YtjfdhkobaiplpaaDoor.T

namespace Go.Proofs.YtjfdhkobaiplpaaDoor.T
set_option linter.unusedVariables false
set_option linter.unusedSimpArgs false
open Go Go.RowKit Go.Proofs.YtjfdhkobaiplpaaDoorW.PrintWords Go.Proofs.YtjfdhkobaiplpaaDoorW.PrintMore Go.Proofs.YtjfdhkobaiplpaaDoor.G

theorem singles_lst (n : Nat) : singles n = lst n fun i => 2 ^ i := by
  unfold singles lst ints
  rw [List.map_map]
  rfl
end Go.Proofs.YtjfdhkobaiplpaaDoor.T

namespace Go.Proofs.YtjfdhkobaiplpaaDoor.T
set_option linter.unusedVariables false
set_option linter.unusedSimpArgs false
open Go Go.RowKit Go.Proofs.YtjfdhkobaiplpaaDoorW.PrintWords Go.Proofs.YtjfdhkobaiplpaaDoorW.PrintMore Go.Proofs.YtjfdhkobaiplpaaDoor.G

theorem rd_intsD {r : List Nat} {i : Nat} (h : i < r.length) : rd (ints r) (i : Int) = ((r.getD i 0 : Nat) : Int) := by
  rw [rd_ints h, getD_eq h]
end Go.Proofs.YtjfdhkobaiplpaaDoor.T

namespace Go.Proofs.YtjfdhkobaiplpaaDoor.T
set_option linter.unusedVariables false
set_option linter.unusedSimpArgs false
open Go Go.RowKit Go.Proofs.YtjfdhkobaiplpaaDoorW.PrintWords Go.Proofs.YtjfdhkobaiplpaaDoorW.PrintMore Go.Proofs.YtjfdhkobaiplpaaDoor.G

/-- n rows, each a set below n. -/
def mat (n : Nat) (p : Nat → Nat → Bool) : List Int := lst n fun a => setOf n (p a)
theorem mat_length (n : Nat) (p : Nat → Nat → Bool) : (mat n p).length = n := lst_length n _
theorem rd_mat {n : Nat} {p : Nat → Nat → Bool} {a : Nat} (h : a < n) : rd (mat n p) (a : Int) = ((setOf n (p a) : Nat) : Int) := rd_lst h
theorem mat_congr {n : Nat} {p q : Nat → Nat → Bool} (h : ∀ a j, a < n → j < n → p a j = q a j) : mat n p = mat n q := lst_congr fun a ha => setOf_congr fun j hj => h a j ha hj
theorem mat_bit {n : Nat} {p : Nat → Nat → Bool} {a j : Nat} (hj : j < n) : (setOf n (p a)).testBit j = p a j := by
  rw [testBit_setOf]; simp [hj]
theorem mat_set {n : Nat} {p : Nat → Nat → Bool} {a b : Nat} (hb : b < n) : (mat n p).set a ((setOf n (p a) ||| 2 ^ b : Nat) : Int) = mat n fun c j => p c j || (decide (c = a) && decide (j = b)) := by
  unfold mat
  rw [lst_set]
  apply lst_congr
  intro c hc
  apply Nat.eq_of_testBit_eq
  intro j
  by_cases e : c = a
  · subst e
    rw [if_pos rfl, Nat.testBit_or, testBit_setOf, testBit_setOf, Nat.testBit_two_pow]
    by_cases hj : j < n
    · simp [hj, eq_comm]
    · have : ¬ b = j := by omega
      simp [hj, this]
  · rw [if_neg e, testBit_setOf, testBit_setOf]
    simp [e]
theorem singles_mat (n : Nat) : singles n = mat n fun a j => decide (a = j) := by
  rw [singles_lst]
  apply lst_congr
  intro a ha
  apply Nat.eq_of_testBit_eq
  intro j
  rw [Nat.testBit_two_pow, testBit_setOf]
  by_cases hj : j < n
  · simp [hj]
  · have : ¬ a = j := by omega
    simp [hj, this]
/-- The table of a relation. -/
def tbl (r : List Nat) (a j : Nat) : Bool := (r.getD a 0).testBit j
theorem ints_mat {r : List Nat} (h : IsRelN r) : ints r = mat r.length (tbl r) := by
  rw [ints_lst r]
  apply lst_congr
  intro a ha
  apply Nat.eq_of_testBit_eq
  intro j
  rw [testBit_setOf]
  unfold tbl
  by_cases hj : j < r.length
  · simp [hj]
  · have : (r.getD a 0).testBit j = false := by
      cases hb : (r.getD a 0).testBit j
      · rfl
      · exact absurd (bit_ltD h ha hb) hj
    rw [this]; simp [hj]
/-- Letters a and b come to depend on each other. -/
def joinP (p : Nat → Nat → Bool) (a b c j : Nat) : Bool := p c j || (decide (c = a) && decide (j = b)) || (decide (c = b) && decide (j = a))
theorem l02Join_mat (m : Int) {n : Nat} (hn : n ≤ 24) (p : Nat → Nat → Bool) {a b : Nat} (ha : a < n) (hb : b < n) : spec_l02Join.f m (mat n p) (a : Int) (b : Int) = some (mat n (joinP p a b)) := by
  have h1 := setOf_lt (p a) n
  have hp := pow_24 hn
  have h2 := two_pow_lt ha
  have h3 := two_pow_lt hb
  unfold spec_l02Join.f
  rw [if_pos (by omega), if_pos (by rw [mat_length]; omega), l01One_eq (by omega), Option.bind_some, rd_mat ha, bor (by omega) (by omega), Int.toNat_natCast, mat_set hb, Option.bind_some, if_pos (by omega), if_pos (by rw [mat_length]; omega), l01One_eq (by omega), Option.bind_some, rd_mat hb]
  have h4 := setOf_lt (fun j => p b j || (decide (b = a) && decide (j = b))) n
  rw [bor (by omega) (by omega), Int.toNat_natCast]
  exact congrArg some (mat_set (p := fun c j => p c j || (decide (c = a) && decide (j = b))) (a := b) (b := a) ha)
theorem l02Dep_mat (m : Int) {n : Nat} (hn : n ≤ 24) (p : Nat → Nat → Bool) {a b : Nat} (ha : a < n) (hb : b < n) : spec_l02Dep.f m (mat n p) (a : Int) (b : Int) = some (p a b) := by
  have h1 := setOf_lt (p a) n
  have hp := pow_24 hn
  unfold spec_l02Dep.f
  rw [if_pos (by omega), if_pos (by rw [mat_length]; omega), rd_mat ha, l01Bit_eq (by omega) (by omega), mat_bit hb, Option.bind_some]
theorem depend_mat (m : Int) {n : Nat} (hn : n ≤ 24) (p : Nat → Nat → Bool) {a b : Nat} (ha : a < n) (hb : b < n) : impl_depend.f m (mat n p) (a : Int) (b : Int) = some (p a b) := by
  have h1 := setOf_lt (p a) n
  have hp := pow_24 hn
  unfold impl_depend.f
  rw [if_pos (by omega), if_pos (by rw [mat_length]; omega), rd_mat ha, has_eq (by omega), mat_bit hb, Option.bind_some]
end Go.Proofs.YtjfdhkobaiplpaaDoor.T

namespace Go.Proofs.YtjfdhkobaiplpaaDoor.T
set_option linter.unusedVariables false
set_option linter.unusedSimpArgs false

/-- All orders of n letters that begin with p, f letters longer. -/
def perms (n : Nat) : Nat → List Nat → List (List Nat)
  | 0, p => [p]
  | f + 1, p => ((List.range n).filter fun a => decide (a ∉ p)).flatMap fun a => perms n f (p ++ [a])
theorem mem_perms {n : Nat} : ∀ (f : Nat) (p q : List Nat), p.Nodup → (q ∈ perms n f p ↔ ∃ s, q = p ++ s ∧ s.length = f ∧ q.Nodup ∧ ∀ a ∈ s, a < n)
  | 0, p, q, hp => by
    unfold perms
    rw [List.mem_singleton]
    constructor
    · rintro rfl
      exact ⟨[], by simp, rfl, hp, fun a h => by cases h⟩
    · rintro ⟨s, rfl, hs, _⟩
      rw [List.length_eq_zero_iff.1 hs, List.append_nil]
  | f + 1, p, q, hp => by
    unfold perms
    rw [List.mem_flatMap]
    constructor
    · rintro ⟨a, ha, hq⟩
      rw [List.mem_filter, List.mem_range, decide_eq_true_iff] at ha
      have hpa : (p ++ [a]).Nodup := by
        rw [List.nodup_append]
        refine ⟨hp, by simp, ?_⟩
        intro x hx y hy e
        rw [List.mem_singleton] at hy
        subst hy; subst e
        exact ha.2 hx
      rw [mem_perms f (p ++ [a]) q hpa] at hq
      obtain ⟨s, rfl, hs, hn, hl⟩ := hq
      refine ⟨a :: s, by simp, by simp [hs], hn, fun x hx => ?_⟩
      rcases List.mem_cons.1 hx with rfl | hx
      · exact ha.1
      · exact hl x hx
    · rintro ⟨s, rfl, hs, hn, hl⟩
      cases s with
      | nil => simp at hs
      | cons a s =>
        have hap : a ∉ p := by
          intro h
          rw [List.nodup_append] at hn
          exact hn.2.2 a h a List.mem_cons_self rfl
        refine ⟨a, List.mem_filter.2 ⟨List.mem_range.2 (hl a List.mem_cons_self), decide_eq_true hap⟩, ?_⟩
        have e : p ++ a :: s = (p ++ [a]) ++ s := by simp
        have hpa : (p ++ [a]).Nodup := by
          rw [e, List.nodup_append] at hn
          exact hn.1
        rw [mem_perms f (p ++ [a]) _ hpa]
        refine ⟨s, e, by simpa using hs, hn, fun x hx => hl x (List.mem_cons_of_mem _ hx)⟩
end Go.Proofs.YtjfdhkobaiplpaaDoor.T

namespace Go.Proofs.YtjfdhkobaiplpaaDoor.T
set_option linter.unusedVariables false
set_option linter.unusedSimpArgs false
open Go Go.RowKit Go.Proofs.YtjfdhkobaiplpaaDoorW.PrintWords Go.Proofs.YtjfdhkobaiplpaaDoorW.PrintMore Go.Proofs.YtjfdhkobaiplpaaDoor.G

/-- The pair comes before (i, k). -/
def ltB (i k a b : Nat) : Bool := decide (a < i) || (decide (a = i) && decide (b < k))
theorem ltB_succ (i k a b : Nat) : ltB i (k + 1) a b = (ltB i k a b || (decide (a = i) && decide (b = k))) := by
  unfold ltB
  rw [Bool.eq_iff_iff]
  simp only [Bool.or_eq_true, Bool.and_eq_true, decide_eq_true_eq]
  omega
theorem ltB_row {i n a b : Nat} (hb : b < n) : ltB i n a b = ltB (i + 1) 0 a b := by
  unfold ltB
  rw [Bool.eq_iff_iff]
  simp only [Bool.or_eq_true, Bool.and_eq_true, decide_eq_true_eq]
  omega
theorem ltB_zero (a b : Nat) : ltB 0 0 a b = false := by simp [ltB]
theorem ltB_end {n a : Nat} (b : Nat) (ha : a < n) : ltB n 0 a b = true := by simp [ltB, ha]
/-- All pairs before (i, k) that fulfil a condition are joined. -/
def sweep (c : Nat → Nat → Bool) (i k a b : Nat) : Bool := decide (a = b) || (c a b && ltB i k a b) || (c b a && ltB i k b a)
theorem sweep_yes {c : Nat → Nat → Bool} {i k : Nat} (h : c i k = true) : joinP (sweep c i k) i k = sweep c i (k + 1) := by
  funext a b
  unfold joinP sweep
  rw [ltB_succ, ltB_succ]
  rw [Bool.eq_iff_iff]
  simp only [Bool.or_eq_true, Bool.and_eq_true, decide_eq_true_eq]
  constructor
  · rintro ((((h1 | h1) | h1) | ⟨rfl, rfl⟩) | ⟨rfl, rfl⟩)
    · exact Or.inl (Or.inl h1)
    · exact Or.inl (Or.inr ⟨h1.1, Or.inl h1.2⟩)
    · exact Or.inr ⟨h1.1, Or.inl h1.2⟩
    · exact Or.inl (Or.inr ⟨h, Or.inr ⟨rfl, rfl⟩⟩)
    · exact Or.inr ⟨h, Or.inr ⟨rfl, rfl⟩⟩
  · rintro ((h1 | ⟨h1, h2 | h2⟩) | ⟨h1, h2 | h2⟩)
    · exact Or.inl (Or.inl (Or.inl (Or.inl h1)))
    · exact Or.inl (Or.inl (Or.inl (Or.inr ⟨h1, h2⟩)))
    · exact Or.inl (Or.inr h2)
    · exact Or.inl (Or.inl (Or.inr ⟨h1, h2⟩))
    · exact Or.inr ⟨h2.2, h2.1⟩
theorem sweep_no {c : Nat → Nat → Bool} {i k : Nat} (h : c i k = false) : sweep c i k = sweep c i (k + 1) := by
  funext a b
  unfold sweep
  rw [ltB_succ, ltB_succ]
  have e1 : (c a b && (ltB i k a b || (decide (a = i) && decide (b = k)))) = (c a b && ltB i k a b) := by
    by_cases e : a = i ∧ b = k
    · obtain ⟨rfl, rfl⟩ := e; rw [h]; rfl
    · have : (decide (a = i) && decide (b = k)) = false := by simpa using e
      rw [this, Bool.or_false]
  have e2 : (c b a && (ltB i k b a || (decide (b = i) && decide (a = k)))) = (c b a && ltB i k b a) := by
    by_cases e : b = i ∧ a = k
    · obtain ⟨rfl, rfl⟩ := e; rw [h]; rfl
    · have : (decide (b = i) && decide (a = k)) = false := by simpa using e
      rw [this, Bool.or_false]
  rw [e1, e2]
theorem sweep_row (n : Nat) (c : Nat → Nat → Bool) (i : Nat) : mat n (sweep c i n) = mat n (sweep c (i + 1) 0) := mat_congr fun a j ha hj => by
  unfold sweep
  rw [ltB_row hj, ltB_row ha]
theorem sweep_zero (n : Nat) (c : Nat → Nat → Bool) : mat n (sweep c 0 0) = singles n := by
  rw [singles_mat]
  refine mat_congr fun a j ha hj => ?_
  unfold sweep
  rw [ltB_zero, ltB_zero]
  simp
theorem sweep_end (n : Nat) (c : Nat → Nat → Bool) : mat n (sweep c n 0) = mat n fun a b => decide (a = b) || c a b || c b a := mat_congr fun a j ha hj => by
  unfold sweep
  rw [ltB_end _ ha, ltB_end _ hj]
  simp
/-- The letters of a list, in their order. -/
def arrP (d : Nat → Nat → Bool) (ls : List Nat) (a b : Nat) : Bool := decide (a = b) || d (ls.getD a 0) (ls.getD b 0)
theorem mem_getD {ls : List Nat} {N : Nat} (h : ∀ x ∈ ls, x < N) {i : Nat} (hi : i < ls.length) : ls.getD i 0 < N := by
  rw [getD_eq hi]; exact h _ (List.getElem_mem hi)
theorem l02Part_ev {N : Nat} (hN : N ≤ 24) (d : Nat → Nat → Bool) (hs : ∀ a b, a < N → b < N → d a b = d b a) {ls : List Nat} (hl : ls.length ≤ 24) (hlt : ∀ x ∈ ls, x < N) : Ev (fun k => spec_l02Part.f k (N : Int) (mat N d) (ints ls)) ((ls.length : Int), mat ls.length (arrP d ls)) := by
  unfold spec_l02Part.f
  simp only [ints_length]
  refine Ev.bind (l02Free_ev ls.length (by omega)) ?_
  simp only
  rw [← sweep_zero ls.length (fun a b => d (ls.getD a 0) (ls.getD b 0))]
  refine loop_ev ls.length (fun i k => spec_l02Part.l0 k (ints ls) (i : Int) (N : Int) (mat N d) (ls.length : Int) (mat ls.length (sweep (fun a b => d (ls.getD a 0) (ls.getD b 0)) i 0))) ?_ ?_
  · refine Ev.step (f := fun _ => some ((ls.length : Int), mat ls.length (arrP d ls))) (fun k => ?_) (Ev.now _)
    simp only [spec_l02Part.l0]
    rw [if_neg (by rw [ints_length]; omega), sweep_end]
    congr 2
    refine mat_congr fun a j ha hj => ?_
    unfold arrP
    rw [hs _ _ (mem_getD hlt hj) (mem_getD hlt ha), Bool.or_assoc, Bool.or_self]
  · intro i hi ih
    have inner := loop_ev ls.length (fun j k => spec_l02Part.l1 k (ints ls) (i : Int) (j : Int) (N : Int) (mat N d) (ls.length : Int) (mat ls.length (sweep (fun a b => d (ls.getD a 0) (ls.getD b 0)) i j))) (r := ((ls.length : Int), mat ls.length (arrP d ls))) ?_ ?_
    · refine Ev.step (fun k => ?_) inner
      simp only [spec_l02Part.l0]
      rw [if_pos (by rw [ints_length]; omega)]
      rfl
    · refine Ev.step (fun k => ?_) ih
      simp only [spec_l02Part.l1]
      rw [if_neg (by rw [ints_length]; omega), wrap_id (by omega) (by omega), sweep_row]
      rfl
    · intro j hj ih2
      refine Ev.step (fun k => ?_) ih2
      simp only [spec_l02Part.l1]
      rw [if_pos (by rw [ints_length]; omega), if_pos (by omega), if_pos (by rw [ints_length]; omega), if_pos (by omega), rd_intsD hi, rd_intsD hj, l02Dep_mat _ hN d (mem_getD hlt hi) (mem_getD hlt hj), Option.bind_some, wrap_id (x := (j : Int) + 1) (by omega) (by omega)]
      cases hb : d (ls.getD i 0) (ls.getD j 0)
      · rw [if_neg (by simp), sweep_no (c := fun a b => d (ls.getD a 0) (ls.getD b 0)) hb]
        rfl
      · rw [if_pos rfl, l02Join_mat _ hl _ hi hj, Option.bind_some, sweep_yes (c := fun a b => d (ls.getD a 0) (ls.getD b 0)) hb]
        rfl
/-- The rows of the letters before (i, k). -/
def arrSt (d : Nat → Nat → Bool) (ls : List Nat) (i k a b : Nat) : Bool := decide (a = b) || (d (ls.getD a 0) (ls.getD b 0) && ltB i k a b)
theorem arranged_ev {N : Nat} (hN : N ≤ 24) (d : Nat → Nat → Bool) {ls : List Nat} (hl : ls.length ≤ 24) (hlt : ∀ x ∈ ls, x < N) : Ev (fun k => impl_arranged.f k (N : Int) (mat N d) (ints ls)) ((ls.length : Int), mat ls.length (arrP d ls)) := by
  unfold impl_arranged.f impl_length_int64.f
  simp only [ints_length, Option.bind_some]
  refine Ev.bind (loose_ev ls.length (by omega)) ?_
  simp only
  have e0 : singles ls.length = mat ls.length (arrSt d ls 0 0) := by
    rw [singles_mat]
    refine mat_congr fun a j ha hj => ?_
    unfold arrSt
    rw [ltB_zero]; simp
  rw [e0]
  refine loop_ev ls.length (fun i k => impl_arranged.l0 k (ints ls) (ints ls) (ls.length : Int) (i : Int) (N : Int) (mat N d) (ls.length : Int) (mat ls.length (arrSt d ls i 0))) ?_ ?_
  · refine Ev.step (f := fun _ => some ((ls.length : Int), mat ls.length (arrP d ls))) (fun k => ?_) (Ev.now _)
    simp only [impl_arranged.l0]
    rw [if_neg (by omega)]
    congr 2
    refine mat_congr fun a j ha hj => ?_
    unfold arrSt arrP
    rw [ltB_end _ ha, Bool.and_true]
  · intro i hi ih
    have inner := loop_ev ls.length (fun j k => impl_arranged.l1 k (ints ls) (i : Int) ((ls.getD i 0 : Nat) : Int) (ints ls) (ls.length : Int) (i : Int) (ints ls) (ls.length : Int) (j : Int) (N : Int) (mat N d) (ls.length : Int) (mat ls.length (arrSt d ls i j))) (r := ((ls.length : Int), mat ls.length (arrP d ls))) ?_ ?_
    · refine Ev.step (fun k => ?_) inner
      simp only [impl_arranged.l0]
      rw [if_pos (by omega), if_pos (by omega), if_pos (by rw [ints_length]; omega), rd_intsD hi, ints_length]
      rfl
    · refine Ev.step (fun k => ?_) ih
      simp only [impl_arranged.l1]
      rw [if_neg (by omega), wrap_id (by omega) (by omega)]
      have e : mat ls.length (arrSt d ls i ls.length) = mat ls.length (arrSt d ls (i + 1) 0) := mat_congr fun a j ha hj => by
        unfold arrSt
        rw [ltB_row hj]
      rw [e]
      rfl
    · intro j hj ih2
      have h1 := setOf_lt (arrSt d ls i j i) ls.length
      have hp := pow_24 hl
      have h2 := two_pow_lt hj
      refine Ev.step (fun k => ?_) ih2
      simp only [impl_arranged.l1]
      rw [if_pos (by omega), if_pos (by omega), if_pos (by rw [ints_length]; omega), rd_intsD hj, depend_mat _ hN d (mem_getD hlt hi) (mem_getD hlt hj), Option.bind_some, wrap_id (x := (j : Int) + 1) (by omega) (by omega)]
      cases hb : d (ls.getD i 0) (ls.getD j 0)
      · have e : mat ls.length (arrSt d ls i j) = mat ls.length (arrSt d ls i (j + 1)) := mat_congr fun a b ha hb2 => by
          unfold arrSt
          rw [ltB_succ]
          by_cases e : a = i ∧ b = j
          · obtain ⟨rfl, rfl⟩ := e; rw [hb]; simp
          · have : (decide (a = i) && decide (b = j)) = false := by simpa using e
            rw [this, Bool.or_false]
        rw [if_neg (by simp), e]
        rfl
      · rw [if_pos rfl, if_pos (by omega), if_pos (by rw [mat_length]; omega), one_eq (by omega), Option.bind_some, rd_mat hi, bor (by omega) (by omega), Int.toNat_natCast, mat_set hj]
        have e : mat ls.length (fun c b => arrSt d ls i j c b || (decide (c = i) && decide (b = j))) = mat ls.length (arrSt d ls i (j + 1)) := mat_congr fun a b ha hb2 => by
          unfold arrSt
          rw [ltB_succ]
          by_cases e : a = i ∧ b = j
          · obtain ⟨rfl, rfl⟩ := e; rw [hb]; simp
          · have : (decide (a = i) && decide (b = j)) = false := by simpa using e
            rw [this, Bool.or_false, Bool.or_false]
        rw [e]
        rfl
theorem IsAN.sym {r : List Nat} (h : IsAN r) : ∀ a b, a < r.length → b < r.length → tbl r a b = tbl r b a := h.symm
end Go.Proofs.YtjfdhkobaiplpaaDoor.T

namespace Go.Proofs.YtjfdhkobaiplpaaDoor.T
set_option linter.unusedVariables false
set_option linter.unusedSimpArgs false
open Go Go.RowKit Go.Proofs.YtjfdhkobaiplpaaDoorW.PrintWords Go.Proofs.YtjfdhkobaiplpaaDoorW.PrintMore Go.Proofs.YtjfdhkobaiplpaaDoor.G

theorem l01Own_eq (l : List Int) (hl : l.length < 17592186044416) : spec_l01Own.f l = some l := by
  unfold spec_l01Own.f
  rw [Option.bind_some, if_pos (by simpa using hl)]
  rfl
end Go.Proofs.YtjfdhkobaiplpaaDoor.T

namespace Go.Proofs.YtjfdhkobaiplpaaDoor.T
set_option linter.unusedVariables false
set_option linter.unusedSimpArgs false
open Go Go.RowKit Go.Proofs.YtjfdhkobaiplpaaDoorW.PrintWords Go.Proofs.YtjfdhkobaiplpaaDoorW.PrintMore Go.Proofs.YtjfdhkobaiplpaaDoor.G

theorem lex_cons (a b : Int) (u v : List Int) : lex (a :: u) (b :: v) = if a < b then true else if b < a then false else lex u v := by
  conv => lhs; unfold lex
theorem compare_ev (u v : List Int) (hu : u.length < 4611686018427387904) : ∃ c, Ev (fun k => slices_Compare_int64_int64.f k u v) c ∧ (c < 0 ↔ lex u v = true) := by
  have main : ∀ (d i : Nat), i + d = u.length → ∃ c, Ev (fun k => slices_Compare_int64_int64.l0 k u v u (u.length : Int) (i : Int)) c ∧ (c < 0 ↔ lex (u.drop i) (v.drop i) = true) := by
    intro d
    induction d with
    | zero =>
      intro i hi
      rw [List.drop_of_length_le (by omega)]
      by_cases hlt : (u.length : Int) < (v.length : Int)
      · refine ⟨-1, Ev.step (f := fun _ => some (-1)) (fun k => ?_) (Ev.now _), ?_⟩
        · simp only [slices_Compare_int64_int64.l0]
          rw [if_neg (by omega), if_pos hlt]
        · rw [List.drop_eq_getElem_cons (show i < v.length by omega)]
          simp [lex]
      · refine ⟨0, Ev.step (f := fun _ => some 0) (fun k => ?_) (Ev.now _), ?_⟩
        · simp only [slices_Compare_int64_int64.l0]
          rw [if_neg (by omega), if_neg hlt]
        · rw [List.drop_of_length_le (show v.length ≤ i by omega)]
          simp [lex]
    | succ d ih =>
      intro i hi
      have hi2 : i < u.length := by omega
      rw [List.drop_eq_getElem_cons hi2]
      have eu : rd u (i : Int) = u[i] := rd_nat hi2
      by_cases hv : i < v.length
      · have ev : rd v (i : Int) = v[i] := rd_nat hv
        rw [List.drop_eq_getElem_cons hv, lex_cons]
        obtain ⟨c, hc, hcl⟩ := ih (i + 1) (by omega)
        generalize u[i] = a at eu
        generalize v[i] = b at ev
        have ecmp : cmp_Compare_int64.f a b = some (if a < b then (-1) else if a > b then 1 else 0) := by
          unfold cmp_Compare_int64.f cmp_isNaN_int64.f
          simp only [bne_self_eq_false, Option.bind_some, Bool.false_eq_true, if_false]
          by_cases h1 : a < b
          · rw [if_pos h1, if_pos h1]
          · rw [if_neg h1, if_neg h1]
            by_cases h2 : a > b
            · rw [if_pos h2, if_pos h2]
            · rw [if_neg h2, if_neg h2]
        by_cases h1 : a < b
        · refine ⟨-1, Ev.step (f := fun _ => some (-1)) (fun k => ?_) (Ev.now _), by rw [if_pos h1]; simp⟩
          simp only [slices_Compare_int64_int64.l0]
          rw [if_pos (by omega), if_pos (by omega), if_pos (by omega), if_neg (by omega), if_pos (by omega), eu, ev, ecmp, Option.bind_some, if_pos h1, if_neg (by decide)]
        · by_cases h2 : a > b
          · refine ⟨1, Ev.step (f := fun _ => some 1) (fun k => ?_) (Ev.now _), by rw [if_neg h1, if_pos (show b < a from h2)]; simp⟩
            simp only [slices_Compare_int64_int64.l0]
            rw [if_pos (by omega), if_pos (by omega), if_pos (by omega), if_neg (by omega), if_pos (by omega), eu, ev, ecmp, Option.bind_some, if_neg h1, if_pos h2, if_neg (by decide)]
          · refine ⟨c, Ev.step (fun k => ?_) hc, by rw [if_neg h1, if_neg (show ¬ b < a from h2)]; exact hcl⟩
            simp only [slices_Compare_int64_int64.l0]
            rw [if_pos (by omega), if_pos (by omega), if_pos (by omega), if_neg (by omega), if_pos (by omega), eu, ev, ecmp, Option.bind_some, if_neg h1, if_neg h2, if_pos rfl, wrap_id (x := (i : Int) + 1) (by omega) (by omega)]
            rfl
      · rw [List.drop_of_length_le (show v.length ≤ i by omega)]
        refine ⟨1, Ev.step (f := fun _ => some 1) (fun k => ?_) (Ev.now _), by simp [lex]⟩
        simp only [slices_Compare_int64_int64.l0]
        rw [if_pos (by omega), if_pos (by omega), if_pos (by omega), if_pos (by omega)]
  obtain ⟨c, h1, h2⟩ := main u.length 0 (by omega)
  exact ⟨c, h1, h2⟩
theorem l01Less_ev (u v : List Int) (hu : u.length < 4611686018427387904) : Ev (fun k => spec_l01Less.f k u v) (lex u v) := by
  have main : ∀ (d i : Nat), i + d = u.length → Ev (fun k => spec_l01Less.l0 k u v (i : Int)) (lex (u.drop i) (v.drop i)) := by
    intro d
    induction d with
    | zero =>
      intro i hi
      rw [List.drop_of_length_le (by omega)]
      have e : lex [] (v.drop i) = decide ((u.length : Int) < (v.length : Int)) := by
        by_cases hlt : (u.length : Int) < (v.length : Int)
        · rw [List.drop_eq_getElem_cons (show i < v.length by omega), decide_eq_true hlt]
          simp [lex]
        · rw [List.drop_of_length_le (show v.length ≤ i by omega), decide_eq_false hlt]
          simp [lex]
      rw [e]
      refine Ev.step (f := fun k => spec_l01Less.j1 k u v (i : Int) false) (fun k => ?_) (Ev.step (f := fun _ => some (decide ((u.length : Int) < (v.length : Int)))) (fun k => ?_) (Ev.now _))
      · simp only [spec_l01Less.l0]
        rw [if_neg (by omega)]
      · simp only [spec_l01Less.j1]
        rw [if_neg (by simp)]
    | succ d ih =>
      intro i hi
      have hi2 : i < u.length := by omega
      rw [List.drop_eq_getElem_cons hi2]
      have eu : rd u (i : Int) = u[i] := rd_nat hi2
      by_cases hv : i < v.length
      · have ev : rd v (i : Int) = v[i] := rd_nat hv
        rw [List.drop_eq_getElem_cons hv, lex_cons]
        have hc := ih (i + 1) (by omega)
        generalize u[i] = a at eu
        generalize v[i] = b at ev
        by_cases h1 : a = b
        · rw [if_neg (by omega), if_neg (by omega)]
          refine Ev.step (f := fun k => spec_l01Less.j1 k u v (i : Int) true) (fun k => ?_) (Ev.step (fun k => ?_) hc)
          · simp only [spec_l01Less.l0]
            rw [if_pos (by omega), decide_eq_true (by omega)]
          · simp only [spec_l01Less.j1]
            rw [if_pos trivial, if_pos (by omega), if_pos (by omega), if_pos (by omega), eu, ev, if_pos h1, wrap_id (x := (i : Int) + 1) (by omega) (by omega)]
            rfl
        · have e : (if a < b then true else if b < a then false else lex (u.drop (i + 1)) (v.drop (i + 1))) = decide (a < b) := by
            by_cases h2 : a < b
            · rw [if_pos h2, decide_eq_true h2]
            · rw [if_neg h2, if_pos (by omega), decide_eq_false h2]
          rw [e]
          refine Ev.step (f := fun k => spec_l01Less.j1 k u v (i : Int) true) (fun k => ?_) (Ev.step (f := fun _ => some (decide (a < b))) (fun k => ?_) (Ev.now _))
          · simp only [spec_l01Less.l0]
            rw [if_pos (by omega), decide_eq_true (by omega)]
          · simp only [spec_l01Less.j1]
            rw [if_pos trivial, if_pos (by omega), if_pos (by omega), if_pos (by omega), eu, ev, if_neg h1]
      · rw [List.drop_of_length_le (show v.length ≤ i by omega)]
        have e : lex (u[i] :: u.drop (i + 1)) [] = decide ((u.length : Int) < (v.length : Int)) := by
          rw [decide_eq_false (by omega)]
          simp [lex]
        rw [e]
        refine Ev.step (f := fun k => spec_l01Less.j1 k u v (i : Int) false) (fun k => ?_) (Ev.step (f := fun _ => some (decide ((u.length : Int) < (v.length : Int)))) (fun k => ?_) (Ev.now _))
        · simp only [spec_l01Less.l0]
          rw [if_pos (by omega), decide_eq_false (by omega)]
        · simp only [spec_l01Less.j1]
          rw [if_neg (by simp)]
  exact main u.length 0 (by omega)
theorem contains_ev (p : List Nat) (hp : p.length < 4611686018427387904) (a : Nat) : Ev (fun k => slices_Contains_int64_int64.f k (ints p) (a : Int)) (decide (a ∈ p)) := by
  have main : ∀ (d i : Nat), i + d = p.length → ∃ c, Ev (fun k => slices_Index_int64_int64.l0 k (ints p) (a : Int) (p.length : Int) (i : Int)) c ∧ (c ≥ 0 ↔ a ∈ p.drop i) := by
    intro d
    induction d with
    | zero =>
      intro i hi
      rw [List.drop_of_length_le (by omega)]
      refine ⟨-1, Ev.step (f := fun _ => some (-1)) (fun k => ?_) (Ev.now _), by simp⟩
      simp only [slices_Index_int64_int64.l0]
      rw [if_neg (by omega)]
    | succ d ih =>
      intro i hi
      have hi2 : i < p.length := by omega
      have er : rd (ints p) (i : Int) = ((p[i] : Nat) : Int) := rd_ints hi2
      rw [List.drop_eq_getElem_cons hi2]
      by_cases h : p[i] = a
      · refine ⟨(i : Int), Ev.step (f := fun _ => some (i : Int)) (fun k => ?_) (Ev.now _), by simp [h]⟩
        simp only [slices_Index_int64_int64.l0]
        rw [if_pos (by omega), if_pos (by omega), if_pos (by rw [ints_length]; omega), er, if_pos (by omega)]
      · obtain ⟨c, h1, h2⟩ := ih (i + 1) (by omega)
        refine ⟨c, Ev.step (fun k => ?_) h1, ?_⟩
        · simp only [slices_Index_int64_int64.l0]
          rw [if_pos (by omega), if_pos (by omega), if_pos (by rw [ints_length]; omega), er, if_neg (by omega), wrap_id (x := (i : Int) + 1) (by omega) (by omega)]
          rfl
        · rw [h2, List.mem_cons]
          exact ⟨Or.inr, fun g => g.resolve_left (fun e => h e.symm)⟩
  obtain ⟨c, h1, h2⟩ := main p.length 0 (by omega)
  rw [List.drop_zero] at h2
  have hI : Ev (fun k => slices_Index_int64_int64.f k (ints p) (a : Int)) c := by
    refine Ev.congr (fun k => ?_) h1
    unfold slices_Index_int64_int64.f
    rw [ints_length]
    rfl
  unfold slices_Contains_int64_int64.f
  refine Ev.bind hI ?_
  have e : decide (c ≥ 0) = decide (a ∈ p) := by rw [Bool.eq_iff_iff, decide_eq_true_iff, decide_eq_true_iff]; exact h2
  rw [e]
  exact Ev.now _
theorem l01Has_ev (p : List Nat) (hp : p.length < 4611686018427387904) (a : Nat) : Ev (fun k => spec_l01Has.f k (ints p) (a : Int)) (decide (a ∈ p)) := by
  have main : ∀ (d i : Nat), i + d = p.length → ∃ c, Ev (fun k => spec_l01Index.l0 k (ints p) (a : Int) (i : Int)) c ∧ (c ≥ 0 ↔ a ∈ p.drop i) := by
    intro d
    induction d with
    | zero =>
      intro i hi
      rw [List.drop_of_length_le (by omega)]
      refine ⟨-1, Ev.step (f := fun _ => some (-1)) (fun k => ?_) (Ev.now _), by simp⟩
      simp only [spec_l01Index.l0]
      rw [if_neg (by rw [ints_length]; omega)]
    | succ d ih =>
      intro i hi
      have hi2 : i < p.length := by omega
      have er : rd (ints p) (i : Int) = ((p[i] : Nat) : Int) := rd_ints hi2
      rw [List.drop_eq_getElem_cons hi2]
      by_cases h : p[i] = a
      · refine ⟨(i : Int), Ev.step (f := fun _ => some (i : Int)) (fun k => ?_) (Ev.now _), by simp [h]⟩
        simp only [spec_l01Index.l0]
        rw [if_pos (by rw [ints_length]; omega), if_pos (by omega), er, if_pos (by omega)]
      · obtain ⟨c, h1, h2⟩ := ih (i + 1) (by omega)
        refine ⟨c, Ev.step (fun k => ?_) h1, ?_⟩
        · simp only [spec_l01Index.l0]
          rw [if_pos (by rw [ints_length]; omega), if_pos (by omega), er, if_neg (by omega), wrap_id (x := (i : Int) + 1) (by omega) (by omega)]
          rfl
        · rw [h2, List.mem_cons]
          exact ⟨Or.inr, fun g => g.resolve_left (fun e => h e.symm)⟩
  obtain ⟨c, h1, h2⟩ := main p.length 0 (by omega)
  rw [List.drop_zero] at h2
  have hI : Ev (fun k => spec_l01Index.f k (ints p) (a : Int)) c := Ev.congr (fun k => rfl) h1
  unfold spec_l01Has.f
  refine Ev.bind hI ?_
  have e : decide (c ≥ 0) = decide (a ∈ p) := by rw [Bool.eq_iff_iff, decide_eq_true_iff, decide_eq_true_iff]; exact h2
  rw [e]
  exact Ev.now _
/-- The form that an order of the letters gives. -/
def formOf (r : List Nat) (p : List Nat) : List Int := mat p.length (arrP (tbl r) p)
theorem formOf_length (r p : List Nat) : (formOf r p).length = p.length := mat_length _ _
/-- The candidates that go on from p with a letter below a. -/
def candTo (r : List Nat) (f : Nat) (p : List Nat) (a : Nat) : List (List Int) := (((List.range a).filter fun a => decide (a ∉ p)).flatMap fun a => perms r.length f (p ++ [a])).map (formOf r)
theorem candTo_succ (r : List Nat) (f : Nat) (p : List Nat) (a : Nat) : candTo r f p (a + 1) = if a ∈ p then candTo r f p a else candTo r f p a ++ (perms r.length f (p ++ [a])).map (formOf r) := by
  unfold candTo
  rw [List.range_succ, List.filter_append, List.flatMap_append, List.map_append]
  by_cases h : a ∈ p
  · rw [if_pos h]
    simp [h]
  · rw [if_neg h]
    simp [h]
theorem least_append (b : List Int) (l l' : List (List Int)) : least b (l ++ l') = least (least b l) l' := List.foldl_append
theorem perms_len {n : Nat} {f : Nat} {p q : List Nat} (hp : p.Nodup) (h : q ∈ perms n f p) : q.length = p.length + f := by
  obtain ⟨s, rfl, hs, _⟩ := (mem_perms f p q hp).1 h
  rw [List.length_append, hs]
theorem least_len {b : List Int} {l : List (List Int)} {m : Nat} (hb : b.length ≤ m) (hl : ∀ y ∈ l, y.length ≤ m) : (least b l).length ≤ m := by
  rcases least_mem l b with h | h
  · rw [h]; exact hb
  · exact hl _ h
theorem cand_len {r : List Nat} {f : Nat} {p : List Nat} (hp : p.Nodup) (a : Nat) (hf : p.length + 1 + f ≤ 8) : ∀ y ∈ candTo r f p a, y.length ≤ 8 := by
  intro y hy
  unfold candTo at hy
  rw [List.mem_map] at hy
  obtain ⟨q, hq, rfl⟩ := hy
  rw [List.mem_flatMap] at hq
  obtain ⟨c, hc, hq⟩ := hq
  rw [List.mem_filter, decide_eq_true_iff] at hc
  have hn : (p ++ [c]).Nodup := by
    rw [List.nodup_append]
    exact ⟨hp, List.nodup_cons.2 ⟨by simp, List.nodup_nil⟩, fun x hx y hy e => by rw [List.mem_singleton] at hy; subst e; subst hy; exact hc.2 hx⟩
  have := perms_len hn hq
  rw [List.length_append, List.length_singleton] at this
  rw [formOf_length]
  omega
theorem l02Least_ev {r : List Nat} (h : IsAN r) : ∀ (f : Nat) (p : List Nat) (bD : List Int), p.length + f = r.length → p.Nodup → (∀ a ∈ p, a < r.length) → bD.length ≤ 8 → Ev (fun k => spec_l02Least.f k (r.length : Int) (ints r) (ints p) (r.length : Int) bD) ((r.length : Int), least bD ((perms r.length f p).map (formOf r)))
  | 0, p, bD, hf, hn, hlt, hb => by
    have h8 := h.len8
    have hy := l02Part_ev (N := r.length) (by omega) (tbl r) h.sym (ls := p) (by omega) hlt
    rw [← ints_mat h.toIsRelN] at hy
    have hz := l01Less_ev (formOf r p) bD (by rw [formOf_length]; omega)
    have hE : Ev (fun k => (spec_l02Part.f k (r.length : Int) (ints r) (ints p)).bind fun y => (spec_l01Less.f k y.2 bD).bind fun t => if t = true then some (y.1, y.2) else some ((r.length : Int), bD)) ((r.length : Int), least bD ((perms r.length 0 p).map (formOf r))) := by
      refine Ev.bind hy ?_
      refine Ev.bind hz ?_
      have e : ((r.length : Int), least bD ((perms r.length 0 p).map (formOf r))) = if lex (formOf r p) bD = true then ((p.length : Int), formOf r p) else ((r.length : Int), bD) := by
        show ((r.length : Int), (if lex (formOf r p) bD then formOf r p else bD)) = _
        rw [show p.length = r.length by omega]
        by_cases c : lex (formOf r p) bD = true
        · rw [if_pos c, if_pos c]
        · rw [if_neg c, if_neg c]
      rw [e]
      by_cases c : lex (formOf r p) bD = true
      · simp only [if_pos c]
        exact Ev.now _
      · simp only [if_neg c]
        exact Ev.now _
    refine Ev.step (fun k => ?_) hE
    simp only [spec_l02Least.f]
    rw [if_pos (by rw [ints_length]; omega)]
  | f + 1, p, bD, hf, hn, hlt, hb => by
    have h8 := h.len8
    have main : Ev (fun k => spec_l02Least.l0 k (ints p) ((0 : Nat) : Int) (r.length : Int) (ints r) (r.length : Int) (least bD (candTo r f p 0))) ((r.length : Int), least bD ((perms r.length (f + 1) p).map (formOf r))) := by
      refine loop_ev r.length (fun a k => spec_l02Least.l0 k (ints p) (a : Int) (r.length : Int) (ints r) (r.length : Int) (least bD (candTo r f p a))) ?_ ?_
      · refine Ev.step (f := fun _ => some ((r.length : Int), least bD ((perms r.length (f + 1) p).map (formOf r)))) (fun k => ?_) (Ev.now _)
        simp only [spec_l02Least.l0]
        rw [if_neg (by omega)]
        rfl
      · intro a ha ih
        rw [candTo_succ] at ih
        have hc := l01Has_ev p (by omega) a
        have ea : wrap64 ((a : Int) + 1) = ((a + 1 : Nat) : Int) := by rw [wrap_id (by omega) (by omega)]; rfl
        have hbl := least_len hb (cand_len (r := r) (f := f) hn a (by omega))
        by_cases hm : a ∈ p
        · rw [if_pos hm] at ih
          rw [decide_eq_true hm] at hc
          have hE : Ev (fun k => (spec_l01Has.f k (ints p) (a : Int)).bind fun t => if t = true then spec_l02Least.l0 k (ints p) ((a + 1 : Nat) : Int) (r.length : Int) (ints r) (r.length : Int) (least bD (candTo r f p a)) else none) ((r.length : Int), least bD ((perms r.length (f + 1) p).map (formOf r))) := by
            refine Ev.bind hc ?_
            simp only [if_true]
            exact ih
          obtain ⟨K1, e1⟩ := hc
          obtain ⟨K2, e2⟩ := ih
          refine ⟨K1 + K2 + 1, fun k hk => ?_⟩
          obtain ⟨j, rfl⟩ : ∃ j, k = j + 1 := ⟨k - 1, by omega⟩
          simp only [spec_l02Least.l0]
          have e1' : spec_l01Has.f j (ints p) (a : Int) = some true := e1 j (by omega)
          rw [if_pos (by omega), e1', Option.bind_some, if_pos rfl, ea]
          exact e2 j (by omega)
        · rw [if_neg hm, least_append] at ih
          rw [decide_eq_false hm] at hc
          have hn2 : (p ++ [a]).Nodup := by
            rw [List.nodup_append]
            exact ⟨hn, List.nodup_cons.2 ⟨by simp, List.nodup_nil⟩, fun x hx y hy e => by rw [List.mem_singleton] at hy; subst e; subst hy; exact hm hx⟩
          have hR := l02Least_ev h f (p ++ [a]) (least bD (candTo r f p a)) (by rw [List.length_append, List.length_singleton]; omega) hn2 (fun x hx => by
            rcases List.mem_append.1 hx with g | g
            · exact hlt x g
            · rw [List.mem_singleton] at g; omega) hbl
          obtain ⟨K1, e1⟩ := hc
          obtain ⟨K2, e2⟩ := ih
          obtain ⟨K3, e3⟩ := hR
          refine ⟨K1 + K2 + K3 + 1, fun k hk => ?_⟩
          obtain ⟨j, rfl⟩ : ∃ j, k = j + 1 := ⟨k - 1, by omega⟩
          have eapp : ints p ++ [(a : Int)] = ints (p ++ [a]) := (ints_append p [a]).symm
          simp only [spec_l02Least.l0]
          have e1' : spec_l01Has.f j (ints p) (a : Int) = some false := e1 j (by omega)
          have e3' : spec_l02Least.f j (r.length : Int) (ints r) (ints (p ++ [a])) (r.length : Int) (least bD (candTo r f p a)) = _ := e3 j (by omega)
          rw [if_pos (by omega), e1', Option.bind_some, if_neg (by simp), l01Own_eq _ (by rw [ints_length]; omega), Option.bind_some, Option.bind_some, if_pos (by rw [ints_length]; simp; omega), eapp, e3', Option.bind_some, ea]
          exact e2 j (by omega)
    have e0 : least bD (candTo r f p 0) = bD := rfl
    rw [e0] at main
    refine Ev.step (fun k => ?_) main
    simp only [spec_l02Least.f]
    rw [if_neg (by rw [ints_length]; omega)]
    rfl
/-- What LeastAlphabet returns. -/
def leastOf (n : Int) (l : List Int) : Int × List Int × Int := if isA n l then (n, least l ((perms l.length l.length []).map (formOf (l.map Int.toNat))), 0) else (0, [], 1)
theorem specLeastAlphabet_ev (n : Int) (l : List Int) : Ev (fun k => spec_LeastAlphabet.f k n l) (leastOf n l) := by
  unfold leastOf spec_LeastAlphabet.f
  refine Ev.bind (l02Is_ev n l) ?_
  by_cases h : isA n l = true
  · rw [if_pos h]
    obtain ⟨r, rfl, rfl, hr⟩ := isA_nat h
    have h8 := hr.len8
    simp only [if_pos h]
    have eo : spec_l02Own.f (r.length : Int) (ints r) = some ((r.length : Int), ints r) := by
      unfold spec_l02Own.f
      rw [l01Own_eq _ (by rw [ints_length]; omega), Option.bind_some]
    simp only [eo, Option.bind_some]
    rw [toNat_ints, ints_length]
    exact Ev.bind (l02Least_ev hr r.length [] (ints r) (by simp) List.nodup_nil (fun a ha => by cases ha) (by rw [ints_length]; omega)) (Ev.now _)
  · rw [if_neg h]
    simp only [if_neg h]
    exact Ev.now _
end Go.Proofs.YtjfdhkobaiplpaaDoor.T

namespace Go.Proofs.YtjfdhkobaiplpaaDoor.T
set_option linter.unusedVariables false
set_option linter.unusedSimpArgs false
open Go Go.RowKit Go.Proofs.YtjfdhkobaiplpaaDoorW.PrintWords Go.Proofs.YtjfdhkobaiplpaaDoorW.PrintMore Go.Proofs.YtjfdhkobaiplpaaDoor.G

theorem leastL_ev {r : List Nat} (h : IsAN r) {f : Nat} {p : List Nat} {bD : List Int} (hf : p.length + (f + 1) = r.length) (hn : p.Nodup) (hlt : ∀ a ∈ p, a < r.length) (hb : bD.length ≤ 8)
    (ih : ∀ (p : List Nat) (bD : List Int), p.length + f = r.length → p.Nodup → (∀ a ∈ p, a < r.length) → bD.length ≤ 8 → Ev (fun k => leastF k (r.length : Int) (ints r) (ints p) (r.length : Int) bD) ((r.length : Int), least bD ((perms r.length f p).map (formOf r)))) :
    ∀ (d a : Nat), a + d = r.length → ∃ K0, ∀ K k, K0 ≤ K → K0 ≤ k → leastL (leastF K (r.length : Int) (ints r)) (r.length : Int) (ints p) k (a : Int) (r.length : Int) (least bD (candTo r f p a)) = some ((r.length : Int), least bD ((perms r.length (f + 1) p).map (formOf r)))
  | 0, a, ha => by
    obtain rfl : a = r.length := by omega
    refine ⟨1, fun K k hK hk => ?_⟩
    obtain ⟨j, rfl⟩ : ∃ j, k = j + 1 := ⟨k - 1, by omega⟩
    simp only [leastL]
    rw [if_neg (by omega)]
    rfl
  | d + 1, a, ha => by
    have h8 := h.len8
    obtain ⟨K3, e3⟩ := leastL_ev h hf hn hlt hb ih d (a + 1) (by omega)
    obtain ⟨K1, e1⟩ := contains_ev p (by omega) a
    have ea : wrap64 ((a : Int) + 1) = ((a + 1 : Nat) : Int) := by rw [wrap_id (by omega) (by omega)]; rfl
    have hbl := least_len hb (cand_len (r := r) (f := f) hn a (by omega))
    by_cases hm : a ∈ p
    · refine ⟨K1 + K3 + 1, fun K k hK hk => ?_⟩
      obtain ⟨j, rfl⟩ : ∃ j, k = j + 1 := ⟨k - 1, by omega⟩
      have e1' : slices_Contains_int64_int64.f j (ints p) (a : Int) = some (decide (a ∈ p)) := e1 j (by omega)
      have e3' := e3 K j (by omega) (by omega)
      rw [candTo_succ, if_pos hm] at e3'
      simp only [leastL]
      rw [if_pos (by omega), e1', Option.bind_some, decide_eq_true hm, if_pos rfl, ea]
      exact e3'
    · have hn2 : (p ++ [a]).Nodup := by
        rw [List.nodup_append]
        exact ⟨hn, List.nodup_cons.2 ⟨by simp, List.nodup_nil⟩, fun x hx y hy e => by rw [List.mem_singleton] at hy; subst e; subst hy; exact hm hx⟩
      obtain ⟨K2, e2⟩ := ih (p ++ [a]) (least bD (candTo r f p a)) (by rw [List.length_append, List.length_singleton]; omega) hn2 (fun x hx => by
        rcases List.mem_append.1 hx with g | g
        · exact hlt x g
        · rw [List.mem_singleton] at g; omega) hbl
      refine ⟨K1 + K2 + K3 + 1, fun K k hK hk => ?_⟩
      obtain ⟨j, rfl⟩ : ∃ j, k = j + 1 := ⟨k - 1, by omega⟩
      have e1' : slices_Contains_int64_int64.f j (ints p) (a : Int) = some (decide (a ∈ p)) := e1 j (by omega)
      have e2' : leastF K (r.length : Int) (ints r) (ints (p ++ [a])) (r.length : Int) (least bD (candTo r f p a)) = _ := e2 K (by omega)
      have e3' := e3 K j (by omega) (by omega)
      rw [candTo_succ, if_neg hm, least_append] at e3'
      have eapp : ints p ++ [(a : Int)] = ints (p ++ [a]) := (ints_append p [a]).symm
      simp only [leastL]
      rw [if_pos (by omega), e1', Option.bind_some, decide_eq_false hm, if_neg (by simp), if_pos (by rw [ints_length]; omega), eapp, e2', Option.bind_some, ea]
      exact e3'
theorem leastF_ev {r : List Nat} (h : IsAN r) : ∀ (f : Nat) (p : List Nat) (bD : List Int), p.length + f = r.length → p.Nodup → (∀ a ∈ p, a < r.length) → bD.length ≤ 8 → Ev (fun k => leastF k (r.length : Int) (ints r) (ints p) (r.length : Int) bD) ((r.length : Int), least bD ((perms r.length f p).map (formOf r)))
  | 0, p, bD, hf, hn, hlt, hb => by
    have h8 := h.len8
    have hy := arranged_ev (N := r.length) (by omega) (tbl r) (ls := p) (by omega) hlt
    rw [← ints_mat h.toIsRelN] at hy
    obtain ⟨c, hz, hc⟩ := compare_ev (formOf r p) bD (by rw [formOf_length]; omega)
    have hE : Ev (fun k => (impl_arranged.f k (r.length : Int) (ints r) (ints p)).bind fun y => (slices_Compare_int64_int64.f k y.2 bD).bind fun t => if t < 0 then some y else some ((r.length : Int), bD)) ((r.length : Int), least bD ((perms r.length 0 p).map (formOf r))) := by
      refine Ev.bind hy ?_
      refine Ev.bind hz ?_
      have e : ((r.length : Int), least bD ((perms r.length 0 p).map (formOf r))) = if c < 0 then ((p.length : Int), formOf r p) else ((r.length : Int), bD) := by
        show ((r.length : Int), (if lex (formOf r p) bD then formOf r p else bD)) = _
        rw [show p.length = r.length by omega]
        by_cases g : lex (formOf r p) bD = true
        · rw [if_pos g, if_pos (hc.2 g)]
        · rw [if_neg g, if_neg (fun q => g (hc.1 q))]
      rw [e]
      by_cases g : c < 0
      · simp only [if_pos g]
        exact Ev.now _
      · simp only [if_neg g]
        exact Ev.now _
    refine Ev.step (fun k => ?_) hE
    simp only [leastF]
    rw [if_pos (by rw [ints_length]; omega)]
  | f + 1, p, bD, hf, hn, hlt, hb => by
    have h8 := h.len8
    obtain ⟨K0, e0⟩ := leastL_ev h hf hn hlt hb (leastF_ev h f) r.length 0 (by omega)
    refine ⟨K0 + 1, fun k hk => ?_⟩
    obtain ⟨j, rfl⟩ : ∃ j, k = j + 1 := ⟨k - 1, by omega⟩
    show leastF (j + 1) (r.length : Int) (ints r) (ints p) (r.length : Int) bD = _
    simp only [leastF]
    rw [if_neg (by rw [ints_length]; omega)]
    exact e0 j j (by omega) (by omega)
theorem implLeastAlphabet_ev (n : Int) (l : List Int) : Ev (fun k => impl_LeastAlphabet.f k n l) (leastOf n l) := by
  unfold leastOf impl_LeastAlphabet.f
  refine Ev.bind (implIsAlphabet_ev n l) ?_
  by_cases h : isA n l = true
  · rw [if_pos h]
    obtain ⟨r, rfl, rfl, hr⟩ := isA_nat h
    have h8 := hr.len8
    simp only [if_pos h]
    have eo : slices_Clone_int64_int64.f (ints r) = some (ints r) := by
      unfold slices_Clone_int64_int64.f
      rw [if_pos (by rw [ints_length]; omega)]
    simp only [eo, Option.bind_some]
    rw [toNat_ints, ints_length]
    exact Ev.bind (leastF_ev hr r.length [] (ints r) (by simp) List.nodup_nil (fun a ha => by cases ha) (by rw [ints_length]; omega)) (Ev.now _)
  · rw [if_neg h]
    simp only [if_neg h]
    exact Ev.now _
theorem leastOf_length (n : Int) (l : List Int) : (leastOf n l).2.1.length ≤ 8 := by
  unfold leastOf
  by_cases h : isA n l = true
  · rw [if_pos h]
    obtain ⟨r, rfl, rfl, hr⟩ := isA_nat h
    have h8 := hr.len8
    rw [toNat_ints, ints_length]
    refine least_len (by rw [ints_length]; omega) (fun y hy => ?_)
    obtain ⟨q, hq, rfl⟩ := List.mem_map.1 hy
    have := perms_len List.nodup_nil hq
    rw [formOf_length]
    simp only [List.length_nil] at this
    omega
  · rw [if_neg h]; simp
end Go.Proofs.YtjfdhkobaiplpaaDoor.T

namespace Go.Proofs.YtjfdhkobaiplpaaDoor.T
open Go Go.RowKit Go.Proofs.YtjfdhkobaiplpaaDoorW.PrintWords Go.Proofs.YtjfdhkobaiplpaaDoorW.PrintMore Go.Proofs.YtjfdhkobaiplpaaDoor.G

theorem toInt64S_loop (l : List Int) (hl : l.length ≤ 35184372088832) : ∀ (d i : Nat), i + d = l.length → Ev (fun k => laws_toInt64S.l0 k l (l.take i ++ List.replicate d 0) (i : Int)) l
  | 0, i, h => by
    refine Ev.step (f := fun _ => some l) (fun k => ?_) (Ev.now l)
    obtain rfl : i = l.length := by omega
    simp only [laws_toInt64S.l0]
    rw [if_neg (by omega)]
    simp
  | d + 1, i, h => by
    have ih := toInt64S_loop l hl d (i + 1) (by omega)
    refine Ev.step (fun k => ?_) ih
    have hi : i < l.length := by omega
    simp only [laws_toInt64S.l0]
    rw [if_pos (by omega), if_pos (by omega), if_pos (by simp; omega), Int.toNat_natCast, rd_nat hi, wrap_id (by omega) (by omega)]
    congr 1
    rw [List.set_append_right _ _ (by simp; omega)]
    simp only [List.length_take, Nat.min_eq_left (Nat.le_of_lt hi), Nat.sub_self, List.replicate_succ, List.set_cons_zero]
    rw [List.take_succ_eq_append_getElem hi, List.append_assoc]
    rfl
theorem toInt64S_ev (l : List Int) (hl : l.length ≤ 35184372088832) : Ev (fun k => laws_toInt64S.f k l) l := by
  refine Ev.congr (fun k => ?_) (toInt64S_loop l hl l.length 0 (by omega))
  unfold laws_toInt64S.f
  rw [if_pos (by omega), Int.toNat_natCast, if_pos hl]
  simp

theorem eqInt64S_loop (a b : List Int) (hab : a.length = b.length) (hl : a.length < 4611686018427387904) : ∀ (d i : Nat), i + d = a.length → a.take i = b.take i → Ev (fun k => laws_eqInt64S.l0 k a b (i : Int)) (decide (a = b))
  | 0, i, h, ht => by
    refine Ev.step (f := fun _ => some (decide (a = b))) (fun k => ?_) (Ev.now _)
    obtain rfl : i = a.length := by omega
    simp only [laws_eqInt64S.l0]
    rw [if_neg (by omega)]
    rw [List.take_length, hab, List.take_length] at ht
    simp [ht]
  | d + 1, i, h, ht => by
    have hi : i < a.length := by omega
    have hj : i < b.length := by omega
    by_cases e : a[i] = b[i]
    · have ih := eqInt64S_loop a b hab hl d (i + 1) (by omega) (by rw [List.take_succ_eq_append_getElem hi, List.take_succ_eq_append_getElem hj, ht, e])
      refine Ev.step (fun k => ?_) ih
      simp only [laws_eqInt64S.l0]
      rw [if_pos (by omega), if_pos (by omega), if_pos (by omega), rd_nat hi, rd_nat hj, if_pos e, wrap_id (by omega) (by omega)]
      rfl
    · refine Ev.step (f := fun _ => some (decide (a = b))) (fun k => ?_) (Ev.now _)
      simp only [laws_eqInt64S.l0]
      rw [if_pos (by omega), if_pos (by omega), if_pos (by omega), rd_nat hi, rd_nat hj, if_neg e]
      have : ¬ a = b := by rintro rfl; exact e rfl
      simp [this]
theorem eqInt64S_ev (a b : List Int) (hl : a.length < 4611686018427387904) : Ev (fun k => laws_eqInt64S.f k a b) (decide (a = b)) := by
  by_cases hab : a.length = b.length
  · refine Ev.congr (fun k => ?_) (eqInt64S_loop a b hab hl a.length 0 (by omega) (by simp))
    unfold laws_eqInt64S.f
    rw [if_pos (by omega)]
    rfl
  · refine Ev.of_all fun k => ?_
    unfold laws_eqInt64S.f
    rw [if_neg (by omega)]
    have : ¬ a = b := by rintro rfl; exact hab rfl
    simp [this]

/-- The numbers a, a + 1, .., as many as n. -/
def iota (a n : Nat) : List Int := (List.range n).map fun i => ((a + i : Nat) : Int)
theorem iota_length (a n : Nat) : (iota a n).length = n := by simp [iota]
theorem iota_get (a n i : Nat) (h : i < (iota a n).length) : (iota a n)[i] = ((a + i : Nat) : Int) := by simp [iota]
theorem mark_loop (l : List Int) (a : Nat) (hb : a + l.length < 4611686018427387904) : ∀ (d i : Nat), i + d = l.length → Ev (fun k => laws_markInt64S.l0 k (iota a i ++ l.drop i) ((a + i : Nat) : Int) (i : Int)) (((a + l.length : Nat) : Int), iota a l.length)
  | 0, i, h => by
    refine Ev.step (f := fun _ => some (((a + l.length : Nat) : Int), iota a l.length)) (fun k => ?_) (Ev.now _)
    obtain rfl : i = l.length := by omega
    simp only [laws_markInt64S.l0]
    rw [if_neg (by simp [iota_length])]
    simp
  | d + 1, i, h => by
    have ih := mark_loop l a hb d (i + 1) (by omega)
    refine Ev.step (fun k => ?_) ih
    have hi : i < l.length := by omega
    simp only [laws_markInt64S.l0]
    rw [if_pos (by simp [iota_length]; omega), if_pos (by omega), Int.toNat_natCast, wrap_id (x := (i : Int) + 1) (by omega) (by omega), wrap_id (by omega) (by omega)]
    congr 1
    rw [List.set_append_right _ _ (by simp [iota_length]), iota_length, Nat.sub_self, List.drop_eq_getElem_cons hi, List.set_cons_zero]
    unfold iota
    rw [List.range_succ, List.map_append, List.append_assoc]
    rfl
theorem mark_ev (l : List Int) (a : Nat) (hb : a + l.length < 4611686018427387904) : Ev (fun k => laws_markInt64S.f k l (a : Int)) (((a + l.length : Nat) : Int), iota a l.length) := by
  have := mark_loop l a hb l.length 0 (by omega)
  refine Ev.congr (fun k => ?_) this
  rfl
theorem held_loop (a n : Nat) (hb : a + n < 4611686018427387904) : ∀ (d i : Nat), i + d = n → Ev (fun k => laws_heldInt64S.l0 k (iota a n) ((a + i : Nat) : Int) (i : Int)) ((a + n : Nat) : Int)
  | 0, i, h => by
    refine Ev.step (f := fun _ => some ((a + n : Nat) : Int)) (fun k => ?_) (Ev.now _)
    obtain rfl : i = n := by omega
    simp only [laws_heldInt64S.l0]
    rw [if_neg (by simp [iota_length])]
  | d + 1, i, h => by
    have ih := held_loop a n hb d (i + 1) (by omega)
    refine Ev.step (fun k => ?_) ih
    have hi : i < (iota a n).length := by rw [iota_length]; omega
    simp only [laws_heldInt64S.l0]
    rw [if_pos (by omega), if_pos (by omega), rd_nat hi, iota_get, if_pos rfl, wrap_id (x := (i : Int) + 1) (by omega) (by omega), wrap_id (by omega) (by omega)]
    rfl
theorem held_ev (a n : Nat) (hb : a + n < 4611686018427387904) : Ev (fun k => laws_heldInt64S.f k (iota a n) (a : Int)) ((a + n : Nat) : Int) := by
  refine Ev.congr (fun k => ?_) (held_loop a n hb n 0 (by omega))
  rfl
theorem mark1_ev (l : List Int) (hb : l.length < 4611686018427387903) : Ev (fun k => laws_markInt64S.f k l 1) (1 + (l.length : Int), iota 1 l.length) := by
  have := mark_ev l 1 (by omega)
  rwa [show ((1 + l.length : Nat) : Int) = 1 + (l.length : Int) by push_cast; rfl] at this
theorem held1_ev (n : Nat) (hb : n < 4611686018427387903) : Ev (fun k => laws_heldInt64S.f k (iota 1 n) 1) (1 + (n : Int)) := by
  have := held_ev 1 n (by omega)
  rwa [show ((1 + n : Nat) : Int) = 1 + (n : Int) by push_cast; rfl] at this
theorem eqSelf_ev (l : List Int) (hl : l.length < 4611686018427387904) : Ev (fun k => laws_eqInt64S.f k l l) true := by
  have := eqInt64S_ev l l hl
  rwa [decide_eq_true rfl] at this
theorem szAlphabet_big (a : Int) (l : List Int) (hl : l.length ≤ maxLen) (h : l.length > 1048576) : laws_szAlphabet.f a l 1048576 = some (-1) := by
  unfold maxLen at hl
  unfold laws_szAlphabet.f laws_szInt64S.f
  rw [wrap_id (by omega) (by omega), if_pos (by omega), Option.bind_some, if_pos (by omega)]
theorem szAlphabet_ok (a : Int) (l : List Int) (h : ¬ l.length > 1048576) : laws_szAlphabet.f a l 1048576 = some (1048576 - (l.length : Int)) := by
  unfold laws_szAlphabet.f laws_szInt64S.f
  rw [wrap_id (by omega) (by omega), if_neg (by omega), Option.bind_some, if_neg (by omega)]
theorem toAlphabet_ev (a : Int) (l : List Int) (hl : l.length ≤ 35184372088832) : Ev (fun k => laws_toAlphabet.f k a l) (a, l) := by
  unfold laws_toAlphabet.f
  exact Ev.bind (toInt64S_ev l hl) (Ev.now _)
theorem eqAlphabet_ev (a : Int) (l : List Int) (hl : l.length < 4611686018427387904) : Ev (fun k => laws_eqAlphabet.f k a l a l) true := by
  refine Ev.congr (f := fun k => (laws_eqInt64S.f k l l).bind fun t => if t = true then some true else some false) (fun k => ?_) (Ev.bind (eqSelf_ev l hl) (Ev.now _))
  unfold laws_eqAlphabet.f
  rw [if_pos rfl]
theorem markAlphabet1_ev (a : Int) (l : List Int) (hb : l.length < 4611686018427387903) : Ev (fun k => laws_markAlphabet.f k a l 1) (1 + (l.length : Int), iota 1 l.length) := by
  unfold laws_markAlphabet.f
  exact Ev.bind (mark1_ev l hb) (Ev.now _)
theorem heldAlphabet1_ev (a : Int) (n : Nat) (hb : n < 4611686018427387903) : Ev (fun k => laws_heldAlphabet.f k a (iota 1 n) 1) (1 + (n : Int)) := by
  unfold laws_heldAlphabet.f
  refine Ev.bind (held1_ev n hb) ?_
  have h : ¬ (1 + (n : Int) < 0) := by omega
  simp only [if_neg h]
  exact Ev.now _
end Go.Proofs.YtjfdhkobaiplpaaDoor.T

namespace Go.Proofs.YtjfdhkobaiplpaaDoor.T
set_option linter.unusedVariables false
set_option linter.unusedSimpArgs false
open Go Go.RowKit Go.Proofs.YtjfdhkobaiplpaaDoorW.PrintWords Go.Proofs.YtjfdhkobaiplpaaDoorW.PrintMore Go.Proofs.YtjfdhkobaiplpaaDoor.G
theorem FnExactLeastAlphabet (a0_0 : Int) (l0_1 : List Int) (_ : (Lit.int .i64 a0_0).wf = true) (hb0 : l0_1.length ≤ maxLen) (_ : ∀ x ∈ l0_1, (Lit.int .i64 x).wf = true) : ∃ k, laws_FnExactLeastAlphabet.f k a0_0 l0_1 = some true := by
  by_cases h0_ : l0_1.length > 1048576
  · exact ⟨0, by unfold laws_FnExactLeastAlphabet.f; simp only [szAlphabet_big a0_0 l0_1 hb0 h0_, Option.bind_some]; rfl⟩
  have h0_n : ¬ (1 + (l0_1.length : Int) < 0) := by omega
  have h0_m : ¬ (1048576 - (l0_1.length : Int) < 0) := by omega
  have h0_s := szAlphabet_ok a0_0 l0_1 h0_
  obtain ⟨K1, h1⟩ := specLeastAlphabet_ev a0_0 l0_1
  obtain ⟨K2, h2⟩ := implLeastAlphabet_ev a0_0 l0_1
  have hl := leastOf_length a0_0 l0_1
  generalize leastOf a0_0 l0_1 = r at h1 h2 hl
  obtain ⟨m, l, c⟩ := r
  simp only at hl
  have hn : ¬ (1 + (l.length : Int) < 0) := by omega
  obtain ⟨K3, h3⟩ := toAlphabet_ev a0_0 l0_1 (by omega)
  obtain ⟨K4, h4⟩ := eqAlphabet_ev a0_0 l0_1 (by omega)
  obtain ⟨K5, h5⟩ := markAlphabet1_ev a0_0 l0_1 (by omega)
  obtain ⟨K6, h6⟩ := eqAlphabet_ev m l (by omega)
  obtain ⟨K7, h7⟩ := markAlphabet1_ev m l (by omega)
  obtain ⟨K8, h8⟩ := heldAlphabet1_ev m l.length (by omega)
  have e1 := fun (j : Nat) => h1 (K1 + K2 + K3 + K4 + K5 + K6 + K7 + K8 + j) (by omega)
  have e2 := fun (j : Nat) => h2 (K1 + K2 + K3 + K4 + K5 + K6 + K7 + K8 + j) (by omega)
  have e3 := fun (j : Nat) => h3 (K1 + K2 + K3 + K4 + K5 + K6 + K7 + K8 + j) (by omega)
  have e4 := fun (j : Nat) => h4 (K1 + K2 + K3 + K4 + K5 + K6 + K7 + K8 + j) (by omega)
  have e5 := fun (j : Nat) => h5 (K1 + K2 + K3 + K4 + K5 + K6 + K7 + K8 + j) (by omega)
  have e6 := fun (j : Nat) => h6 (K1 + K2 + K3 + K4 + K5 + K6 + K7 + K8 + j) (by omega)
  have e7 := fun (j : Nat) => h7 (K1 + K2 + K3 + K4 + K5 + K6 + K7 + K8 + j) (by omega)
  have e8 := fun (j : Nat) => h8 (K1 + K2 + K3 + K4 + K5 + K6 + K7 + K8 + j) (by omega)
  generalize K1 + K2 + K3 + K4 + K5 + K6 + K7 + K8 = K at *
  refine ⟨K + 5, ?_⟩
  unfold laws_FnExactLeastAlphabet.f
  simp only [h0_s, Option.bind_some]
  rw [if_neg h0_m]
  simp only [e1, e2, e3, e4, e5, e6, e7, e8, Option.bind_some, if_true, bne_self_eq_false]
  try simp only [laws_FnExactLeastAlphabet.j0, laws_FnExactLeastAlphabet.j1, laws_FnExactLeastAlphabet.j2, e1, e2, e3, e4, e5, e6, e7, e8, Option.bind_some, bne_self_eq_false]
  try simp [h0_n, h0_s, h0_m, hn]
end Go.Proofs.YtjfdhkobaiplpaaDoor.T
