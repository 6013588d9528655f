/- The pure side of FnExactAlphabetOfProcesses: the law's plain function answers true at all inputs; before it, all that this needs. -/
import Derived.Test.YtdbdlhjhacbjoaaDoorWMore
import Derived.Test.YtdbdlhjhacbjoaaDoorWWords
import Derived.Laws.BitsLemmas
import Derived.Lib.TrailingZeros
import Derived.Test.YtdbdlhjhacbjoaaDoorGI01a
import Derived.Test.YtdbdlhjhacbjoaaDoorGI02a
import Derived.Test.YtdbdlhjhacbjoaaDoorGI02b
import Derived.Test.YtdbdlhjhacbjoaaDoorGLawFnExactAlphabetOfProcesses
import Derived.Test.YtdbdlhjhacbjoaaDoorGLawsa
import Derived.Test.YtdbdlhjhacbjoaaDoorGLawsb
import Derived.Test.YtdbdlhjhacbjoaaDoorGS01a
import Derived.Test.YtdbdlhjhacbjoaaDoorGS02a
import Derived.Test.YtdbdlhjhacbjoaaDoorGS02b
import Derived.Test.YtdbdlhjhacbjoaaDoorGStd
namespace Go.Proofs.YtdbdlhjhacbjoaaDoor.T
open Go Go.RowKit Go.Proofs.YtdbdlhjhacbjoaaDoorW.PrintWords Go.Proofs.YtdbdlhjhacbjoaaDoorW.PrintMore

theorem wrap_id {x : Int} (h1 : -9223372036854775808 ≤ x) (h2 : x ≤ 9223372036854775807) : wrap64 x = x := by unfold wrap64; omega
theorem i64_id {n : Int} (h1 : -9223372036854775808 ≤ n) (h2 : n ≤ 9223372036854775807) : IntKind.i64.wrap n = n := by rw [IntKind.wrap_i64]; omega
theorem u64_id {n : Int} (h1 : 0 ≤ n) (h2 : n < 18446744073709551616) : IntKind.u64.wrap n = n := by
  simp [IntKind.wrap, IntKind.bits, IntKind.signed]; omega
theorem rd_nat {l : List Int} {i : Nat} (h : i < l.length) : rd l (i : Int) = l[i] := by simp [rd, h]
theorem pow_lt63 {n : Nat} (h : n ≤ 62) : 2 ^ n < 9223372036854775808 := by
  have : 2 ^ n ≤ 2 ^ 62 := Nat.pow_le_pow_right (by decide) h
  have e : 2 ^ 62 = 4611686018427387904 := by decide
  omega
theorem shl_one {n : Nat} (h : n ≤ 62) : shl .i64 1 (n : Int) = ((2 ^ n : Nat) : Int) := by
  unfold shl
  have hb : IntKind.i64.bits = 64 := rfl
  rw [Int.one_mul, hb, Int.toNat_natCast, Nat.min_eq_left (by omega)]
  have := pow_lt63 h
  have e : (2 : Int) ^ n = ((2 ^ n : Nat) : Int) := by push_cast; rfl
  rw [e]
  generalize 2 ^ n = m at this ⊢
  exact i64_id (by omega) (by omega)
theorem band {a b : Nat} (ha : a < 9223372036854775808) (hb : b < 9223372036854775808) : Go.bits .and .i64 (a : Int) (b : Int) = ((a &&& b : Nat) : Int) := by
  have hc : a &&& b < 9223372036854775808 := Nat.lt_of_le_of_lt Nat.and_le_left ha
  have e : (BitVec.ofInt 64 (a : Int) &&& BitVec.ofInt 64 (b : Int)).toNat = a &&& b := by
    rw [BitVec.ofInt_natCast, BitVec.ofInt_natCast, BitVec.toNat_and, BitVec.toNat_ofNat, BitVec.toNat_ofNat, Nat.mod_eq_of_lt (by omega), Nat.mod_eq_of_lt (by omega)]
  show IntKind.i64.wrap (((BitVec.ofInt 64 (a : Int) &&& BitVec.ofInt 64 (b : Int)).toNat : Nat) : Int) = _
  rw [e, i64_id] <;> omega
theorem bor {a b : Nat} (ha : a < 9223372036854775808) (hb : b < 9223372036854775808) : Go.bits .or .i64 (a : Int) (b : Int) = ((a ||| b : Nat) : Int) := by
  have hc : a ||| b < 9223372036854775808 := Nat.or_lt_two_pow (n := 63) ha hb
  have e : (BitVec.ofInt 64 (a : Int) ||| BitVec.ofInt 64 (b : Int)).toNat = a ||| b := by
    rw [BitVec.ofInt_natCast, BitVec.ofInt_natCast, BitVec.toNat_or, BitVec.toNat_ofNat, BitVec.toNat_ofNat, Nat.mod_eq_of_lt (by omega), Nat.mod_eq_of_lt (by omega)]
  show IntKind.i64.wrap (((BitVec.ofInt 64 (a : Int) ||| BitVec.ofInt 64 (b : Int)).toNat : Nat) : Int) = _
  rw [e, i64_id] <;> omega
theorem shr_and_one {m i : Nat} (hm : m < 9223372036854775808) : Go.bits .and .i64 (shr .i64 (m : Int) (i : Int)) 1 = ((if m.testBit i then 1 else 0 : Nat) : Int) := by
  have h0 : shr .i64 (m : Int) (i : Int) = ((m / 2 ^ i : Nat) : Int) := by
    unfold shr
    rw [Int.toNat_natCast, show IntKind.i64.bits = 64 from rfl]
    by_cases hi : i ≤ 64
    · rw [Nat.min_eq_left hi]; simp
    · rw [Nat.min_eq_right (by omega)]
      have h64 : 2 ^ 64 ≤ 2 ^ i := Nat.pow_le_pow_right (by decide) (by omega)
      have e : (2 : Nat) ^ 64 = 18446744073709551616 := by decide
      rw [Nat.div_eq_of_lt (by omega)]
      have : ((2 : Int) ^ 64) = 18446744073709551616 := by decide
      rw [this]; simp only [Int.natCast_zero]; omega
  have hlt : m / 2 ^ i < 9223372036854775808 := Nat.lt_of_le_of_lt (Nat.div_le_self _ _) hm
  rw [h0, show (1 : Int) = ((1 : Nat) : Int) from rfl, band hlt (by decide)]
  congr 1
  rw [Nat.and_one_is_mod, Nat.testBit_eq_decide_div_mod_eq]
  have := Nat.mod_two_eq_zero_or_one (m / 2 ^ i)
  rcases this with h | h <;> simp [h]
/-- From some number of rounds on. -/
theorem Ev.of_all {α : Type} {g : Nat → Option α} {r : α} (h : ∀ k, g k = some r) : Ev g r := ⟨0, fun k _ => h k⟩
end Go.Proofs.YtdbdlhjhacbjoaaDoor.T

namespace Go.Proofs.YtdbdlhjhacbjoaaDoor.T
open Go Go.RowKit Go.Proofs.YtdbdlhjhacbjoaaDoorW.PrintWords Go.Proofs.YtdbdlhjhacbjoaaDoorW.PrintMore Go.Proofs.YtdbdlhjhacbjoaaDoor.G

theorem l01In_eq (a b c : Int) : spec_l01In.f a b c = some (decide (b ≤ a ∧ a ≤ c)) := by
  unfold spec_l01In.f
  by_cases h : a ≥ b
  · rw [if_pos h]; simp [show b ≤ a from h]
  · rw [if_neg h]; simp [show ¬ b ≤ a from h]
theorem inRange_eq (a b c : Int) : impl_inRange.f a b c = some (decide (b ≤ a ∧ a ≤ c)) := by
  unfold impl_inRange.f
  by_cases h : b ≤ a
  · rw [if_pos h]; simp [h]
  · rw [if_neg h]; simp [h]
theorem l01One_eq {n : Nat} (h : n ≤ 62) : spec_l01One.f (n : Int) = some ((2 ^ n : Nat) : Int) := by
  unfold spec_l01One.f
  rw [u64_id (by omega) (by omega), if_pos (by omega), shl_one h]
theorem one_eq {n : Nat} (h : n ≤ 62) : impl_one.f (n : Int) = some ((2 ^ n : Nat) : Int) := by
  unfold impl_one.f
  rw [if_pos (by omega), shl_one h]
theorem wrap_pow {n : Nat} (h : n ≤ 62) : wrap64 (((2 ^ n : Nat) : Int) - 1) = ((2 ^ n - 1 : Nat) : Int) := by
  have h1 := pow_lt63 h
  have h2 : 0 < 2 ^ n := Nat.two_pow_pos n
  generalize 2 ^ n = m at *
  rw [wrap_id (by omega) (by omega)]
  omega
theorem l01Full_eq {n : Nat} (h : n ≤ 62) : spec_l01Full.f (n : Int) = some ((2 ^ n - 1 : Nat) : Int) := by
  unfold spec_l01Full.f
  rw [l01One_eq h, Option.bind_some, wrap_pow h]
/-- A number is a mask of n elements. -/
def isM (n : Nat) (x : Int) : Bool := decide (0 ≤ x ∧ x ≤ ((2 ^ n - 1 : Nat) : Int))
theorem l01Masks_loop (n : Nat) (hn : n ≤ 62) (l : List Int) (hl : l.length < 4611686018427387904) : ∀ (d i : Nat), i + d = l.length → (l.take i).all (isM n) = true → Ev (fun k => spec_l01Masks.l0 k (n : Int) l (i : Int)) (l.all (isM n))
  | 0, i, h, ht => by
    refine Ev.step (f := fun _ => some (l.all (isM n))) (fun k => ?_) (Ev.now _)
    obtain rfl : i = l.length := by omega
    simp only [spec_l01Masks.l0]
    rw [if_neg (by omega)]
    rw [List.take_length] at ht
    rw [ht]
  | d + 1, i, h, ht => by
    have hi : i < l.length := by omega
    by_cases e : isM n l[i] = true
    · have ih := l01Masks_loop n hn l hl d (i + 1) (by omega) (by rw [List.take_succ_eq_append_getElem hi, List.all_append, ht]; simp [e])
      refine Ev.step (fun k => ?_) ih
      simp only [spec_l01Masks.l0]
      rw [if_pos (by omega), if_pos (by omega), l01Full_eq hn, Option.bind_some, l01In_eq, Option.bind_some, rd_nat hi]
      unfold isM at e
      rw [e, if_pos rfl, wrap_id (by omega) (by omega)]
      rfl
    · refine Ev.step (f := fun _ => some (l.all (isM n))) (fun k => ?_) (Ev.now _)
      have ha : l.all (isM n) = false := by
        rw [List.all_eq_false]
        exact ⟨_, List.getElem_mem hi, e⟩
      simp only [spec_l01Masks.l0]
      rw [if_pos (by omega), if_pos (by omega), l01Full_eq hn, Option.bind_some, l01In_eq, Option.bind_some, rd_nat hi, ha]
      unfold isM at e
      rw [Bool.not_eq_true] at e
      rw [e]
      rfl
theorem l01Masks_ev (n : Nat) (hn : n ≤ 62) (l : List Int) (hl : l.length < 4611686018427387904) : Ev (fun k => spec_l01Masks.f k (n : Int) l) (l.all (isM n)) := by
  refine Ev.congr (fun k => ?_) (l01Masks_loop n hn l hl l.length 0 (by omega) (by simp))
  rfl
theorem allIn_eq (l : List Int) (a b : Int) : impl_allIn.f l a b = some (l.all fun x => decide (a ≤ x ∧ x ≤ b)) := by
  unfold impl_allIn.f
  rw [List.not_any_eq_all_not]
  simp
end Go.Proofs.YtdbdlhjhacbjoaaDoor.T

namespace Go.Proofs.YtdbdlhjhacbjoaaDoor.T
open Go Go.RowKit Go.Proofs.YtdbdlhjhacbjoaaDoorW.PrintWords Go.Proofs.YtdbdlhjhacbjoaaDoorW.PrintMore Go.Proofs.YtdbdlhjhacbjoaaDoor.G

/-- The masks of the single letters. -/
def singles (n : Nat) : List Int := (List.range n).map fun i => ((2 ^ i : Nat) : Int)
theorem singles_succ (n : Nat) : singles (n + 1) = singles n ++ [((2 ^ n : Nat) : Int)] := by
  unfold singles
  rw [List.range_succ, List.map_append]
  rfl
theorem singles_length (n : Nat) : (singles n).length = n := by simp [singles]
theorem loose_loop (n : Nat) (hn : n ≤ 62) : ∀ (d i : Nat), i + d = n → Ev (fun k => impl_loose.l0 k (n : Int) (i : Int) (n : Int) (singles i)) ((n : Int), singles n)
  | 0, i, h => by
    refine Ev.step (f := fun _ => some ((n : Int), singles n)) (fun k => ?_) (Ev.now _)
    obtain rfl : i = n := by omega
    simp only [impl_loose.l0]
    rw [if_neg (by omega)]
  | d + 1, i, h => by
    refine Ev.step (fun k => ?_) (loose_loop n hn d (i + 1) (by omega))
    simp only [impl_loose.l0]
    rw [if_pos (by omega), one_eq (by omega), Option.bind_some, if_pos (by rw [singles_length]; omega), wrap_id (by omega) (by omega), ← singles_succ]
    rfl
theorem loose_ev (n : Nat) (hn : n ≤ 62) : Ev (fun k => impl_loose.f k (n : Int)) ((n : Int), singles n) := by
  refine Ev.congr (fun k => ?_) (loose_loop n hn n 0 (by omega))
  rfl
end Go.Proofs.YtdbdlhjhacbjoaaDoor.T

namespace Go.Proofs.YtdbdlhjhacbjoaaDoor.T
set_option linter.unusedVariables false
set_option linter.unusedSimpArgs false
section
variable {α : Type} [DecidableEq α]

/-- The letters of a word that are a or b. -/
def prj (a b : α) (w : List α) : List α := w.filter fun c => decide (c = a) || decide (c = b)
theorem prj_cons (a b c : α) (w : List α) : prj a b (c :: w) = if c = a ∨ c = b then c :: prj a b w else prj a b w := by
  unfold prj
  rw [List.filter_cons]
  by_cases h : c = a ∨ c = b
  · rw [if_pos h, if_pos (by simpa using h)]
  · rw [if_neg h, if_neg (by simpa using h)]
/-- Two words are the same trace: equal projections on all pairs that depend on each other. -/
def Eqv (D : α → α → Bool) (u v : List α) : Prop := ∀ a b, D a b = true → prj a b u = prj a b v
theorem Eqv.symm {D : α → α → Bool} {u v : List α} (h : Eqv D u v) : Eqv D v u := fun a b hd => (h a b hd).symm
theorem Eqv.trans {D : α → α → Bool} {u v w : List α} (h : Eqv D u v) (k : Eqv D v w) : Eqv D u w := fun a b hd => (h a b hd).trans (k a b hd)
theorem Eqv.cons {D : α → α → Bool} {u v : List α} (c : α) (h : Eqv D u v) : Eqv D (c :: u) (c :: v) := fun a b hd => by
  rw [prj_cons, prj_cons, h a b hd]
theorem Eqv.count {D : α → α → Bool} (hr : ∀ a, D a a = true) {u v : List α} (h : Eqv D u v) (a : α) : u.count a = v.count a := by
  have e : ∀ w : List α, (prj a a w).length = w.count a := by
    intro w
    unfold prj
    rw [List.count_eq_countP, List.countP_eq_length_filter]
    congr 2
    funext c
    rw [Bool.eq_iff_iff]
    simp
  rw [← e, ← e, h a a (hr a)]
theorem Eqv.perm {D : α → α → Bool} (hr : ∀ a, D a a = true) {u v : List α} (h : Eqv D u v) : u.Perm v := by
  rw [List.perm_iff_count]
  exact fun a => h.count hr a
theorem Eqv.length {D : α → α → Bool} (hr : ∀ a, D a a = true) {u v : List α} (h : Eqv D u v) : u.length = v.length := (h.perm hr).length_eq
theorem Eqv.filter {D : α → α → Bool} {u v : List α} (h : Eqv D u v) (p : α → Bool) : Eqv D (u.filter p) (v.filter p) := fun a b hd => by
  have e : ∀ w : List α, prj a b (w.filter p) = (prj a b w).filter p := by
    intro w
    unfold prj
    rw [List.filter_filter, List.filter_filter]
    congr 1
    funext c
    rw [Bool.and_comm]
  rw [e, e, h a b hd]
/-- What is left of a word behind a letter at its front, if no letter before the letter keeps it from there. -/
def rm (D : α → α → Bool) (a : α) : List α → Option (List α)
  | [] => none
  | x :: v => if x = a then some v else if D x a then none else (rm D a v).map (x :: ·)
end

/-! ### the normal form: always the least letter that can stand at the front -/
/-- The least letter below n that can stand at the front of a word. -/
def lead (D : Nat → Nat → Bool) (n : Nat) (w : List Nat) : Option Nat := (List.range n).find? fun a => (rm D a w).isSome
variable {D : Nat → Nat → Bool} {n : Nat}
end Go.Proofs.YtdbdlhjhacbjoaaDoor.T

namespace Go.Proofs.YtdbdlhjhacbjoaaDoor.T
set_option linter.unusedVariables false
set_option linter.unusedSimpArgs false

/-- The members of a set, in ascending order. -/
def bitsL (m : Nat) : List Nat := (List.range 64).filter fun i => m.testBit i
theorem mem_bitsL {m x : Nat} (hm : m < 18446744073709551616) : x ∈ bitsL m ↔ m.testBit x = true := by
  unfold bitsL
  rw [List.mem_filter, List.mem_range]
  constructor
  · exact fun h => h.2
  · intro h
    refine ⟨?_, h⟩
    rcases Nat.lt_or_ge x 64 with hx | hx
    · exact hx
    · exfalso
      have : m.testBit x = false := Nat.testBit_lt_two_pow (Nat.lt_of_lt_of_le hm (by
        have : 2 ^ 64 ≤ 2 ^ x := Nat.pow_le_pow_right (by decide) hx
        have e : 2 ^ 64 = 18446744073709551616 := by decide
        omega))
      rw [this] at h
      cases h
theorem bitsL_zero : bitsL 0 = [] := by
  unfold bitsL
  rw [List.filter_eq_nil_iff]
  simp

end Go.Proofs.YtdbdlhjhacbjoaaDoor.T

namespace Go.Proofs.YtdbdlhjhacbjoaaDoor.T
set_option linter.unusedVariables false
set_option linter.unusedSimpArgs false

/-- The least member of a set (64 if there is none). -/
def low (m : Nat) : Nat := ((List.range 64).find? fun i => m.testBit i).getD 64
theorem exists_bit {m : Nat} (h0 : m ≠ 0) (hm : m < 18446744073709551616) : ∃ i, i < 64 ∧ m.testBit i = true := by
  obtain ⟨i, hi⟩ := Nat.exists_testBit_of_ne_zero h0
  refine ⟨i, ?_, hi⟩
  rcases Nat.lt_or_ge i 64 with h | h
  · exact h
  · exfalso
    rw [Nat.testBit_lt_two_pow (Nat.lt_of_lt_of_le hm (by
      have : 2 ^ 64 ≤ 2 ^ i := Nat.pow_le_pow_right (by decide) h
      have e : 2 ^ 64 = 18446744073709551616 := by decide
      omega))] at hi
    cases hi
theorem low_spec {m : Nat} (h0 : m ≠ 0) (hm : m < 18446744073709551616) : low m < 64 ∧ m.testBit (low m) = true ∧ ∀ j, j < low m → m.testBit j = false := by
  unfold low
  cases h : (List.range 64).find? fun i => m.testBit i with
  | none =>
    rw [List.find?_eq_none] at h
    obtain ⟨i, hi, hb⟩ := exists_bit h0 hm
    exact absurd hb (by simpa using h i (List.mem_range.2 hi))
  | some i =>
    rw [List.find?_range_eq_some] at h
    obtain ⟨h1, h2, h3⟩ := h
    exact ⟨List.mem_range.1 h2, h1, fun j hj => by simpa using h3 j hj⟩
theorem low_form {m l : Nat} (hb : m.testBit l = true) (hz : ∀ j, j < l → m.testBit j = false) : m = 2 ^ (l + 1) * (m / 2 ^ (l + 1)) + 2 ^ l := by
  have : m % 2 ^ (l + 1) = 2 ^ l := by
    apply Nat.eq_of_testBit_eq
    intro j
    rw [Nat.testBit_mod_two_pow, Nat.testBit_two_pow]
    by_cases h1 : j < l
    · simp [hz j h1]; omega
    · by_cases h2 : j = l
      · subst h2; simp [hb]
      · have : ¬ j < l + 1 := by omega
        simp [this]; omega
  have h := Nat.div_add_mod m (2 ^ (l + 1))
  omega
/-- The set without its least member. -/
theorem testBit_clear {m : Nat} (h0 : m ≠ 0) (hm : m < 18446744073709551616) (j : Nat) : (m &&& (m - 1)).testBit j = (m.testBit j && decide (j ≠ low m)) := by
  obtain ⟨_, hb, hz⟩ := low_spec h0 hm
  generalize low m = l at *
  have e := low_form hb hz
  generalize m / 2 ^ (l + 1) = q at e
  have hp : 0 < 2 ^ l := Nat.two_pow_pos l
  have hlt : 2 ^ l < 2 ^ (l + 1) := Nat.pow_lt_pow_right (by decide) (by omega)
  have e1 : m - 1 = 2 ^ (l + 1) * q + (2 ^ l - 1) := by omega
  rw [Nat.testBit_and, e1]
  rw [Nat.testBit_two_pow_mul_add q (by omega) j]
  by_cases h1 : j < l
  · rw [hz j h1]; simp
  · by_cases h2 : j = l
    · subst h2
      rw [if_pos (by omega), Nat.testBit_two_pow_sub_one]
      simp
    · rw [if_neg (by omega)]
      have : m.testBit j = q.testBit (j - (l + 1)) := by
        rw [e, Nat.testBit_two_pow_mul_add q hlt j, if_neg (by omega)]
      rw [this]
      simp [h2]
theorem clear_lt {m : Nat} (h0 : m ≠ 0) : m &&& (m - 1) < m := Nat.lt_of_le_of_lt Nat.and_le_right (by omega)
/-- math/bits' answer is the least member. -/
theorem ctz_low {m : Nat} (h0 : m ≠ 0) (hm : m < 18446744073709551616) : Lib.ctz 64 m = low m := by
  obtain ⟨h1, h2⟩ := Lib.lowest_bit 64 m h0 hm
  have hm' : m < 2 ^ 64 := hm
  symm
  obtain ⟨hl, hb, hz⟩ := low_spec h0 hm
  -- the lowest bit alone is m &&& (2^64 - m)
  have hk : m &&& (18446744073709551616 - m) = 2 ^ Lib.ctz 64 m := h1
  have hbit : m.testBit (Lib.ctz 64 m) = true := by
    have := congrArg (fun x => x.testBit (Lib.ctz 64 m)) hk
    simp only [Nat.testBit_and, Nat.testBit_two_pow_self, Bool.and_eq_true] at this
    exact this.1
  have e := low_form hb hz
  have hmod : (18446744073709551616 - m).testBit (low m) = true := by
    generalize low m = l at *
    generalize hq : m / 2 ^ (l + 1) = q at e
    have hp : 2 ^ (l + 1) ∣ 18446744073709551616 := by
      have : (18446744073709551616 : Nat) = 2 ^ 64 := by decide
      rw [this]
      exact Nat.pow_dvd_pow 2 (by omega)
    obtain ⟨c, hc⟩ := hp
    have hpos : 0 < 2 ^ l := Nat.two_pow_pos l
    have hlt : 2 ^ l < 2 ^ (l + 1) := Nat.pow_lt_pow_right (by decide) (by omega)
    have h2l : 2 ^ (l + 1) = 2 * 2 ^ l := by rw [Nat.pow_succ]; omega
    have hcq : q < c := by
      rcases Nat.lt_or_ge q c with h | h
      · exact h
      · have : 2 ^ (l + 1) * c ≤ 2 ^ (l + 1) * q := Nat.mul_le_mul_left _ h
        omega
    obtain ⟨d, rfl⟩ : ∃ d, c = q + 1 + d := ⟨c - q - 1, by omega⟩
    have hx : 18446744073709551616 - m = 2 ^ (l + 1) * d + 2 ^ l := by
      rw [Nat.mul_add, Nat.mul_add, Nat.mul_one] at hc
      omega
    rw [hx, Nat.testBit_two_pow_mul_add d hlt l, if_pos (by omega), Nat.testBit_two_pow_self]
  have : (2 ^ Lib.ctz 64 m).testBit (low m) = true := by
    rw [← hk, Nat.testBit_and, hb, hmod]; rfl
  rw [Nat.testBit_two_pow] at this
  have := of_decide_eq_true this
  omega
theorem bitsL_cons {m : Nat} (h0 : m ≠ 0) (hm : m < 18446744073709551616) : bitsL m = low m :: bitsL (m &&& (m - 1)) := by
  obtain ⟨hl, hb, hz⟩ := low_spec h0 hm
  unfold bitsL
  have hs : List.range 64 = List.range (low m) ++ (low m :: (List.range (63 - low m)).map fun x => low m + 1 + x) := by
    rw [show 64 = low m + (1 + (63 - low m)) by omega, List.range_add, List.range_add]
    simp [Nat.add_assoc]
  have hc := testBit_clear h0 hm
  rw [hs, List.filter_append, List.filter_append, List.filter_cons, List.filter_cons, if_pos hb, if_neg (by rw [hc]; simp)]
  have e0 : (List.range (low m)).filter (fun i => m.testBit i) = [] := by
    rw [List.filter_eq_nil_iff]
    intro j hj
    rw [hz j (List.mem_range.1 hj)]
    simp
  have e1 : (List.range (low m)).filter (fun i => (m &&& (m - 1)).testBit i) = [] := by
    rw [List.filter_eq_nil_iff]
    intro j hj
    rw [hc, hz j (List.mem_range.1 hj)]
    simp
  rw [e0, e1, List.nil_append, List.nil_append]
  congr 1
  apply List.filter_congr
  intro j hj
  rw [List.mem_map] at hj
  obtain ⟨x, _, rfl⟩ := hj
  rw [hc]
  have : low m + 1 + x ≠ low m := by omega
  simp [this]
end Go.Proofs.YtdbdlhjhacbjoaaDoor.T

namespace Go.Proofs.YtdbdlhjhacbjoaaDoor.T
set_option linter.unusedVariables false
set_option linter.unusedSimpArgs false

/-- A list is before another one. -/
def lex : List Int → List Int → Bool
  | _, [] => false
  | [], _ :: _ => true
  | a :: u, b :: v => if a < b then true else if b < a then false else lex u v
/-- The least of a list of candidates, an elder one kept where it is no greater. -/
def least (best : List Int) (l : List (List Int)) : List Int := l.foldl (fun b y => if lex y b then y else b) best
end Go.Proofs.YtdbdlhjhacbjoaaDoor.T

namespace Go.Proofs.YtdbdlhjhacbjoaaDoor.T
set_option linter.unusedVariables false
set_option linter.unusedSimpArgs false
/-- Letters as whole numbers. -/
def ints (w : List Nat) : List Int := w.map fun (x : Nat) => (x : Int)
end Go.Proofs.YtdbdlhjhacbjoaaDoor.T

namespace Go.Proofs.YtdbdlhjhacbjoaaDoor.T
set_option linter.unusedVariables false
set_option linter.unusedSimpArgs false
open Go Go.RowKit Go.Proofs.YtdbdlhjhacbjoaaDoorW.PrintWords Go.Proofs.YtdbdlhjhacbjoaaDoorW.PrintMore Go.Proofs.YtdbdlhjhacbjoaaDoor.G

theorem least_eq {m : Nat} (h0 : m ≠ 0) (hm : m < 9223372036854775808) : impl_least.f (m : Int) = some ((low m : Nat) : Int) := by
  unfold impl_least.f
  rw [u64_id (by omega) (by omega)]
  unfold bits_TrailingZeros64.f
  rw [if_pos (by omega), Int.toNat_natCast, ctz_low h0 (by omega)]
  rfl
theorem ints_length (u : List Nat) : (ints u).length = u.length := by unfold ints; rw [List.length_map]
theorem ints_cons (a : Nat) (u : List Nat) : ints (a :: u) = (a : Int) :: ints u := rfl
theorem bitsL_length (m : Nat) : (bitsL m).length ≤ 64 := by
  unfold bitsL
  have := List.length_filter_le (fun i => m.testBit i) (List.range 64)
  rwa [List.length_range] at this
theorem members_loop : ∀ (b m : Nat) (out : List Int), m ≤ b → m < 9223372036854775808 → out.length + (bitsL m).length ≤ 1000 → Ev (fun k => impl_members.l0 k (m : Int) out) (out ++ ints (bitsL m))
  | 0, m, out, hb, hm, ho => by
    obtain rfl : m = 0 := by omega
    refine Ev.step (f := fun _ => some (out ++ ints (bitsL 0))) (fun k => ?_) (Ev.now _)
    simp only [impl_members.l0]
    rw [if_pos (by rfl), bitsL_zero]
    simp [ints]
  | b + 1, m, out, hb, hm, ho => by
    by_cases h0 : m = 0
    · subst h0
      refine Ev.step (f := fun _ => some (out ++ ints (bitsL 0))) (fun k => ?_) (Ev.now _)
      simp only [impl_members.l0]
      rw [if_pos (by rfl), bitsL_zero]
      simp [ints]
    · have hlt := clear_lt h0
      have hc := bitsL_cons h0 (by omega : m < 18446744073709551616)
      have hl : (bitsL m).length = (bitsL (m &&& (m - 1))).length + 1 := by rw [hc]; rfl
      have ih := members_loop b (m &&& (m - 1)) (out ++ [((low m : Nat) : Int)]) (by omega) (by omega) (by rw [List.length_append, List.length_singleton]; omega)
      rw [hc, ints_cons, List.append_cons]
      refine Ev.step (fun k => ?_) ih
      simp only [impl_members.l0]
      rw [if_neg (by omega), least_eq h0 hm, Option.bind_some, if_pos (by omega), wrap_id (by omega) (by omega), show ((m : Int) - 1) = ((m - 1 : Nat) : Int) by omega, band hm (by omega)]
theorem members_ev {m : Nat} (hm : m < 9223372036854775808) : Ev (fun k => impl_members.f k (m : Int)) (ints (bitsL m)) := by
  have := members_loop m m [] (Nat.le_refl _) hm (by have := bitsL_length m; simp; omega)
  refine Ev.congr (fun k => ?_) this
  rfl
end Go.Proofs.YtdbdlhjhacbjoaaDoor.T

namespace Go.Proofs.YtdbdlhjhacbjoaaDoor.T
set_option linter.unusedVariables false
set_option linter.unusedSimpArgs false
open Go Go.RowKit Go.Proofs.YtdbdlhjhacbjoaaDoorW.PrintWords Go.Proofs.YtdbdlhjhacbjoaaDoorW.PrintMore Go.Proofs.YtdbdlhjhacbjoaaDoor.G

/-- A loop that counts up to n. -/
theorem loop_ev {α : Type} (n : Nat) (G : Nat → Nat → Option α) {r : α} (hn : Ev (G n) r) (hs : ∀ i, i < n → Ev (G (i + 1)) r → Ev (G i) r) : Ev (G 0) r := by
  have : ∀ d i, i + d = n → Ev (G i) r := by
    intro d
    induction d with
    | zero => intro i h; obtain rfl : i = n := by omega
              exact hn
    | succ d ih => intro i h; exact hs i (by omega) (ih (i + 1) (by omega))
  exact this n 0 (by omega)
theorem two_pow_lt {i n : Nat} (h : i < n) : 2 ^ i < 2 ^ n := Nat.pow_lt_pow_right (by decide) h
theorem pow_62 {n : Nat} (h : n ≤ 62) : 2 ^ n ≤ 4611686018427387904 := by
  have : 2 ^ n ≤ 2 ^ 62 := Nat.pow_le_pow_right (by decide) h
  have e : 2 ^ 62 = 4611686018427387904 := by decide
  omega
/-- A relation as a list of sets. -/
structure IsRelN (r : List Nat) : Prop where
  len : r.length ≤ 24
  lt : ∀ x ∈ r, x < 2 ^ r.length
theorem IsRelN.bit {r : List Nat} (h : IsRelN r) {i j : Nat} (hi : i < r.length) (hj : r[i].testBit j = true) : j < r.length := by
  rcases Nat.lt_or_ge j r.length with h1 | h1
  · exact h1
  · rw [Nat.testBit_lt_two_pow (Nat.lt_of_lt_of_le (h.lt _ (List.getElem_mem hi)) (Nat.pow_le_pow_right (by decide) h1))] at hj
    cases hj
theorem ints_surj {l : List Int} : (∀ x ∈ l, 0 ≤ x) → ∃ r : List Nat, l = ints r := by
  induction l with
  | nil => exact fun _ => ⟨[], rfl⟩
  | cons a t ih =>
    intro h
    obtain ⟨r, rfl⟩ := ih (fun x hx => h x (List.mem_cons_of_mem _ hx))
    obtain ⟨n, rfl⟩ := Int.eq_ofNat_of_zero_le (h a List.mem_cons_self)
    exact ⟨n :: r, rfl⟩
theorem mem_ints {r : List Nat} {x : Int} : x ∈ ints r ↔ ∃ n ∈ r, x = (n : Int) := by
  unfold ints
  rw [List.mem_map]
  constructor
  · rintro ⟨n, h1, rfl⟩; exact ⟨n, h1, rfl⟩
  · rintro ⟨n, h1, rfl⟩; exact ⟨n, h1, rfl⟩
theorem rd_ints {r : List Nat} {i : Nat} (h : i < r.length) : rd (ints r) (i : Int) = ((r[i] : Nat) : Int) := by
  rw [rd_nat (by rw [ints_length]; exact h)]
  simp [ints]
theorem ints_set (r : List Nat) (i x : Nat) : (ints r).set i (x : Int) = ints (r.set i x) := by
  unfold ints
  rw [List.map_set]
theorem l01Bit_eq {m i : Nat} (hm : m < 9223372036854775808) (hi : i < 9223372036854775808) : spec_l01Bit.f (m : Int) (i : Int) = some (m.testBit i) := by
  unfold spec_l01Bit.f
  rw [u64_id (by omega) (by omega), if_pos (by omega), shr_and_one hm]
  cases m.testBit i <;> rfl
theorem getD_eq {r : List Nat} {i : Nat} (h : i < r.length) : r.getD i 0 = r[i] := by simp [h]
/-- The members of a list get a mark. -/
def marks (out : List Nat) (b : Nat) (ms : List Nat) : List Nat := ms.foldl (fun o m => o.set m (o.getD m 0 ||| b)) out
theorem getD_lt {out : List Nat} {B : Nat} (h : ∀ x ∈ out, x < B) (hB : 0 < B) (m : Nat) : out.getD m 0 < B := by
  rcases Nat.lt_or_ge m out.length with h1 | h1
  · rw [getD_eq h1]; exact h _ (List.getElem_mem h1)
  · simp [List.getD_eq_getElem?_getD, h1, hB]
theorem toNat_ints (r : List Nat) : (ints r).map Int.toNat = r := by
  unfold ints
  rw [List.map_map]
  exact (List.map_congr_left (fun x _ => by simp)).trans (List.map_id _)
end Go.Proofs.YtdbdlhjhacbjoaaDoor.T

namespace Go.Proofs.YtdbdlhjhacbjoaaDoor.T
set_option linter.unusedVariables false
set_option linter.unusedSimpArgs false
open Go Go.RowKit Go.Proofs.YtdbdlhjhacbjoaaDoorW.PrintWords Go.Proofs.YtdbdlhjhacbjoaaDoorW.PrintMore Go.Proofs.YtdbdlhjhacbjoaaDoor.G

theorem masks_nat {n : Nat} {l : List Int} (h : l.all (isM n) = true) : ∃ r : List Nat, l = ints r ∧ ∀ x ∈ r, x < 2 ^ n := by
  have h2 := List.all_eq_true.1 h
  obtain ⟨r, rfl⟩ := ints_surj (l := l) (fun x hx => (of_decide_eq_true (h2 x hx)).1)
  refine ⟨r, rfl, fun x hx => ?_⟩
  have h3 := of_decide_eq_true (h2 (x : Int) (mem_ints.2 ⟨x, hx, rfl⟩))
  have := Nat.two_pow_pos n
  omega
end Go.Proofs.YtdbdlhjhacbjoaaDoor.T

namespace Go.Proofs.YtdbdlhjhacbjoaaDoor.T
set_option linter.unusedVariables false
set_option linter.unusedSimpArgs false
open Go Go.RowKit Go.Proofs.YtdbdlhjhacbjoaaDoorW.PrintWords Go.Proofs.YtdbdlhjhacbjoaaDoorW.PrintMore Go.Proofs.YtdbdlhjhacbjoaaDoor.G

def procOk (n : Int) (l : List Int) : Bool := decide (0 ≤ n ∧ n ≤ 8) && l.all (isM n.toNat)
/-- The code for processes. -/
def procCode (n : Int) (l : List Int) : Int := if procOk n l then (if (l.length : Int) > 16 then 3 else 0) else 2
theorem specProcesses_ev (n : Int) (l : List Int) (hl : l.length < 4611686018427387904) : Ev (fun k => spec_l02Processes.f k n l) (procCode n l) := by
  unfold procCode procOk
  by_cases h1 : 0 ≤ n ∧ n ≤ 8
  · obtain ⟨m, rfl⟩ := Int.eq_ofNat_of_zero_le h1.1
    have hm := l01Masks_ev m (by omega) l hl
    have e : ∀ k, spec_l02Processes.f k (m : Int) l = (spec_l01Masks.f k (m : Int) l).bind fun t => spec_l02Processes.j0 k l (!t) := by
      intro k
      unfold spec_l02Processes.f
      rw [l01In_eq, Option.bind_some, if_pos (by simpa using h1)]
    refine Ev.congr e ?_
    refine Ev.bind hm ?_
    rw [Int.toNat_natCast, decide_eq_true h1, Bool.true_and]
    refine Ev.step (f := fun _ => some (if l.all (isM m) = true then (if (l.length : Int) > 16 then 3 else 0) else 2)) (fun k => ?_) (Ev.now _)
    simp only [spec_l02Processes.j0]
    cases l.all (isM m) <;> simp
    split <;> rfl
  · refine Ev.step (f := fun _ => some 2) (g := fun k => spec_l02Processes.f k n l) (fun k => ?_) (by simp [h1]; exact Ev.now _)
    unfold spec_l02Processes.f
    rw [l01In_eq, Option.bind_some, if_neg (by simpa using h1)]
    simp only [spec_l02Processes.j0]
    simp
theorem checkProcesses_ev (n : Int) (l : List Int) : Ev (fun k => impl_checkProcesses.f k n l) (procCode n l) := by
  unfold procCode procOk
  by_cases h1 : 0 ≤ n ∧ n ≤ 8
  · obtain ⟨m, rfl⟩ := Int.eq_ofNat_of_zero_le h1.1
    rw [Int.toNat_natCast, decide_eq_true h1, Bool.true_and]
    refine Ev.step (f := fun _ => some (if l.all (isM m) = true then (if (l.length : Int) > 16 then 3 else 0) else 2)) (g := fun k => impl_checkProcesses.f k (m : Int) l) (fun k => ?_) (Ev.now _)
    have e : (l.all fun x => decide (0 ≤ x ∧ x ≤ ((2 ^ m - 1 : Nat) : Int))) = l.all (isM m) := rfl
    unfold impl_checkProcesses.f
    rw [inRange_eq, Option.bind_some, if_pos (by simpa using h1), one_eq (by omega), Option.bind_some, wrap_pow (by omega), allIn_eq, Option.bind_some, e]
    simp only [impl_checkProcesses.j0]
    cases l.all (isM m) <;> simp
    split <;> rfl
  · refine Ev.step (f := fun _ => some 2) (g := fun k => impl_checkProcesses.f k n l) (fun k => ?_) (by simp [h1]; exact Ev.now _)
    unfold impl_checkProcesses.f
    rw [inRange_eq, Option.bind_some, if_neg (by simpa using h1)]
    simp only [impl_checkProcesses.j0]
    simp
/-- Processes as sets. -/
structure IsPr (n : Nat) (r : List Nat) : Prop where
  len : r.length ≤ 16
  n8 : n ≤ 8
  lt : ∀ x ∈ r, x < 2 ^ n
theorem procCode_nat {n : Int} {l : List Int} (h : procCode n l = 0) : ∃ (m : Nat) (r : List Nat), n = (m : Int) ∧ l = ints r ∧ IsPr m r := by
  unfold procCode at h
  by_cases h1 : procOk n l = true
  · rw [if_pos h1] at h
    unfold procOk at h1
    rw [Bool.and_eq_true, decide_eq_true_eq] at h1
    obtain ⟨m, rfl⟩ := Int.eq_ofNat_of_zero_le h1.1.1
    obtain ⟨r, rfl, hr⟩ := masks_nat h1.2
    rw [ints_length] at h
    refine ⟨m, r, rfl, rfl, ?_, by omega, hr⟩
    split at h
    · simp at h
    · omega
  · rw [if_neg h1] at h
    simp at h
end Go.Proofs.YtdbdlhjhacbjoaaDoor.T

namespace Go.Proofs.YtdbdlhjhacbjoaaDoor.T
set_option linter.unusedVariables false
set_option linter.unusedSimpArgs false
open Go Go.RowKit Go.Proofs.YtdbdlhjhacbjoaaDoorW.PrintWords Go.Proofs.YtdbdlhjhacbjoaaDoorW.PrintMore Go.Proofs.YtdbdlhjhacbjoaaDoor.G

theorem l02Free_ev (n : Nat) (hn : n ≤ 62) : Ev (fun k => spec_l02Free.f k (n : Int)) ((n : Int), singles n) := by
  have := loop_ev n (fun i k => spec_l02Free.l0 k (n : Int) (i : Int) (n : Int) (singles i)) (r := ((n : Int), singles n)) ?_ ?_
  · exact Ev.congr (fun k => rfl) this
  · refine Ev.step (f := fun _ => some ((n : Int), singles n)) (fun k => ?_) (Ev.now _)
    simp only [spec_l02Free.l0]
    rw [if_neg (by omega)]
  · intro i hi ih
    refine Ev.step (fun k => ?_) ih
    simp only [spec_l02Free.l0]
    rw [if_pos (by omega), l01One_eq (by omega), Option.bind_some, if_pos (by rw [singles_length]; omega), wrap_id (by omega) (by omega), ← singles_succ]
    rfl
end Go.Proofs.YtdbdlhjhacbjoaaDoor.T

namespace Go.Proofs.YtdbdlhjhacbjoaaDoor.T
set_option linter.unusedVariables false
set_option linter.unusedSimpArgs false

/-- From i chains of related elements lead to j. -/
def Reach (r : Nat → Nat) (i j : Nat) : Prop := ∀ S : Nat → Prop, S i → (∀ a b, S a → (r a).testBit b = true → S b) → S j
theorem Reach.step {r : Nat → Nat} {i j k : Nat} (h : Reach r i j) (hk : (r j).testBit k = true) : Reach r i k := fun S h0 hs => hs j k (h S h0 hs) hk
theorem Reach.trans {r : Nat → Nat} {i j k : Nat} (h : Reach r i j) (k' : Reach r j k) : Reach r i k := fun S h0 hs => k' S (h S h0 hs) hs

/-! ### by rounds -/
/-! ### by one pass over the middle elements -/
end Go.Proofs.YtdbdlhjhacbjoaaDoor.T

namespace Go.Proofs.YtdbdlhjhacbjoaaDoor.T
set_option linter.unusedVariables false
set_option linter.unusedSimpArgs false
open Go Go.RowKit Go.Proofs.YtdbdlhjhacbjoaaDoorW.PrintWords Go.Proofs.YtdbdlhjhacbjoaaDoorW.PrintMore Go.Proofs.YtdbdlhjhacbjoaaDoor.G

/-- A list of numbers by a function. -/
def lst (n : Nat) (f : Nat → Nat) : List Int := ints ((List.range n).map f)
theorem lst_length (n : Nat) (f : Nat → Nat) : (lst n f).length = n := by
  unfold lst
  rw [ints_length, List.length_map, List.length_range]
theorem rd_lst {n : Nat} {f : Nat → Nat} {i : Nat} (h : i < n) : rd (lst n f) (i : Int) = ((f i : Nat) : Int) := by
  unfold lst
  rw [rd_ints (by rw [List.length_map, List.length_range]; exact h)]
  simp
theorem lst_congr {n : Nat} {f g : Nat → Nat} (h : ∀ i, i < n → f i = g i) : lst n f = lst n g := by
  unfold lst
  congr 1
  exact List.map_congr_left (fun i hi => h i (List.mem_range.1 hi))
theorem lst_set {n : Nat} {f : Nat → Nat} (i x : Nat) : (lst n f).set i (x : Int) = lst n (fun a => if a = i then x else f a) := by
  unfold lst
  rw [ints_set]
  congr 1
  apply List.ext_getElem
  · simp
  · intro j h1 h2
    rw [List.getElem_set]
    by_cases e : i = j
    · subst e; simp
    · have e2 : ¬ j = i := fun h => e h.symm
      simp [e, e2]
end Go.Proofs.YtdbdlhjhacbjoaaDoor.T

namespace Go.Proofs.YtdbdlhjhacbjoaaDoor.T
set_option linter.unusedVariables false
set_option linter.unusedSimpArgs false
open Go Go.RowKit Go.Proofs.YtdbdlhjhacbjoaaDoorW.PrintWords Go.Proofs.YtdbdlhjhacbjoaaDoorW.PrintMore Go.Proofs.YtdbdlhjhacbjoaaDoor.G

theorem mem_take_succ {α : Type} {ms : List α} {i : Nat} {a : α} (hi : i < ms.length) : a ∈ ms.take (i + 1) ↔ a ∈ ms.take i ∨ a = ms[i] := by
  rw [List.take_succ_eq_append_getElem hi, List.mem_append, List.mem_singleton]
/-- A function with marks at the places of a list. -/
def mk (f : Nat → Nat) (b : Nat) (ms : List Nat) (a : Nat) : Nat := if a ∈ ms then f a ||| b else f a
theorem mk_nil (f : Nat → Nat) (b : Nat) : mk f b [] = f := by funext a; simp [mk]
theorem mk_lt {f : Nat → Nat} {b n a : Nat} (ms : List Nat) (hf : f a < 2 ^ n) (hb : b < 2 ^ n) : mk f b ms a < 2 ^ n := by
  unfold mk
  split
  · exact Nat.or_lt_two_pow hf hb
  · exact hf
theorem lst_mk {n : Nat} (f : Nat → Nat) (b : Nat) {ms : List Nat} {i : Nat} (hi : i < ms.length) : (lst n (mk f b (ms.take i))).set ms[i] ((mk f b (ms.take i) ms[i] ||| b : Nat) : Int) = lst n (mk f b (ms.take (i + 1))) := by
  rw [lst_set]
  apply lst_congr
  intro a ha
  unfold mk
  by_cases e : a = ms[i]
  · rw [if_pos e, if_pos ((mem_take_succ hi).2 (Or.inr e)), ← e]
    split
    · rw [Nat.or_assoc, Nat.or_self]
    · rfl
  · rw [if_neg e]
    have : a ∈ ms.take (i + 1) ↔ a ∈ ms.take i := by rw [mem_take_succ hi]; simp [e]
    simp only [this]
theorem mem_bits {m j : Nat} (hm : m < 18446744073709551616) : j ∈ bitsL m ↔ m.testBit j = true := mem_bitsL hm
theorem mk_bits {f : Nat → Nat} {b p : Nat} (hp : p < 18446744073709551616) (a : Nat) : mk f b (bitsL p) a = if p.testBit a = true then f a ||| b else f a := by
  unfold mk
  simp only [mem_bits hp]
theorem bits_lt {m n j : Nat} (hm : m < 2 ^ n) (hn : n ≤ 62) (h : j ∈ bitsL m) : j < n := by
  have hp := pow_62 hn
  rw [mem_bits (by omega)] at h
  rcases Nat.lt_or_ge j n with h1 | h1
  · exact h1
  · rw [Nat.testBit_lt_two_pow (Nat.lt_of_lt_of_le hm (Nat.pow_le_pow_right (by decide) h1))] at h
    cases h
theorem singles_lst (n : Nat) : singles n = lst n fun i => 2 ^ i := by
  unfold singles lst ints
  rw [List.map_map]
  rfl
/-- One place anew: the loop that goes through the places. -/
def upTo (f g : Nat → Nat) (j a : Nat) : Nat := if a < j then g a else f a
theorem upTo_zero (f g : Nat → Nat) : upTo f g 0 = f := by funext a; simp [upTo]
theorem upTo_all (n : Nat) (f g : Nat → Nat) : lst n (upTo f g n) = lst n g := lst_congr fun i hi => if_pos hi
theorem upTo_at (f g : Nat → Nat) (j : Nat) : upTo f g j j = f j := if_neg (Nat.lt_irrefl j)
theorem upTo_set (n : Nat) (f g : Nat → Nat) (j : Nat) : (lst n (upTo f g j)).set j ((g j : Nat) : Int) = lst n (upTo f g (j + 1)) := by
  rw [lst_set]
  apply lst_congr
  intro a ha
  unfold upTo
  by_cases e : a = j
  · subst e; rw [if_pos rfl, if_pos (by omega)]
  · rw [if_neg e]
    by_cases h : a < j
    · rw [if_pos h, if_pos (by omega)]
    · rw [if_neg h, if_neg (by omega)]
theorem upTo_skip (n : Nat) {f g : Nat → Nat} {j : Nat} (h : g j = f j) : lst n (upTo f g j) = lst n (upTo f g (j + 1)) := by
  apply lst_congr
  intro a ha
  unfold upTo
  by_cases e : a = j
  · subst e; rw [if_neg (by omega), if_pos (by omega), h]
  · by_cases h : a < j
    · rw [if_pos h, if_pos (by omega)]
    · rw [if_neg h, if_neg (by omega)]
end Go.Proofs.YtdbdlhjhacbjoaaDoor.T

namespace Go.Proofs.YtdbdlhjhacbjoaaDoor.T
set_option linter.unusedVariables false
set_option linter.unusedSimpArgs false
open Go Go.RowKit Go.Proofs.YtdbdlhjhacbjoaaDoorW.PrintWords Go.Proofs.YtdbdlhjhacbjoaaDoorW.PrintMore Go.Proofs.YtdbdlhjhacbjoaaDoor.G

/-- What a letter depends on by the first i processes. -/
def tieTo (ps : List Nat) : Nat → Nat → Nat
  | 0, a => 2 ^ a
  | i + 1, a => if (ps.getD i 0).testBit a = true then tieTo ps i a ||| ps.getD i 0 else tieTo ps i a
theorem tieTo_succ (ps : List Nat) (i a : Nat) : tieTo ps (i + 1) a = if (ps.getD i 0).testBit a = true then tieTo ps i a ||| ps.getD i 0 else tieTo ps i a := rfl
theorem IsPr.ltD {n : Nat} {r : List Nat} (h : IsPr n r) (i : Nat) : r.getD i 0 < 2 ^ n := getD_lt h.lt (Nat.two_pow_pos n) i
theorem IsPr.p8 {n : Nat} {r : List Nat} (h : IsPr n r) : 2 ^ n ≤ 256 := Nat.pow_le_pow_right (by decide) h.n8
theorem tieTo_lt {n : Nat} {r : List Nat} (h : IsPr n r) {a : Nat} (ha : a < n) : ∀ i, tieTo r i a < 2 ^ n
  | 0 => two_pow_lt ha
  | i + 1 => by
    rw [tieTo_succ]
    split
    · exact Nat.or_lt_two_pow (tieTo_lt h ha i) (h.ltD i)
    · exact tieTo_lt h ha i
def tiesOf (r : List Nat) (n : Nat) : List Int := lst n (tieTo r r.length)
theorem specTies_ev {n : Nat} {r : List Nat} (h : IsPr n r) : Ev (fun k => spec_AlphabetOfProcesses.l0 k (n : Int) (ints r) 0 (n : Int) (singles n)) ((n : Int), tiesOf r n, 0) := by
  have hlen := h.len
  have h8 := h.n8
  have hp8 := h.p8
  rw [singles_lst]
  refine loop_ev r.length (fun i k => spec_AlphabetOfProcesses.l0 k (n : Int) (ints r) (i : Int) (n : Int) (lst n (tieTo r i))) ?_ ?_
  · refine Ev.step (f := fun _ => some ((n : Int), tiesOf r n, 0)) (fun k => ?_) (Ev.now _)
    simp only [spec_AlphabetOfProcesses.l0]
    rw [if_neg (by rw [ints_length]; omega)]
    rfl
  · intro i hi ih
    have inner := loop_ev n (fun j k => spec_AlphabetOfProcesses.l1 k (n : Int) (ints r) (i : Int) (j : Int) (n : Int) (lst n (upTo (tieTo r i) (tieTo r (i + 1)) j))) (r := ((n : Int), tiesOf r n, 0)) ?_ ?_
    · rw [upTo_zero] at inner
      refine Ev.step (fun k => ?_) inner
      simp only [spec_AlphabetOfProcesses.l0]
      rw [if_pos (by rw [ints_length]; omega)]
      rfl
    · refine Ev.step (fun k => ?_) ih
      simp only [spec_AlphabetOfProcesses.l1]
      rw [if_neg (by omega), wrap_id (by omega) (by omega), upTo_all]
      rfl
    · intro j hj ih2
      have h1 := h.ltD i
      have h2 := tieTo_lt h hj i
      refine Ev.step (fun k => ?_) ih2
      simp only [spec_AlphabetOfProcesses.l1]
      rw [if_pos (by omega), if_pos (by omega), if_pos (by rw [ints_length]; omega), rd_ints hi, ← getD_eq hi, l01Bit_eq (by omega) (by omega), Option.bind_some, wrap_id (x := (j : Int) + 1) (by omega) (by omega)]
      cases hb : (r.getD i 0).testBit j
      · rw [if_neg (by simp), upTo_skip n (by rw [tieTo_succ, hb, if_neg (by simp)])]
        rfl
      · rw [if_pos rfl, if_pos (by omega), if_pos (by rw [lst_length]; omega), rd_lst hj, upTo_at, bor (by omega) (by omega), Int.toNat_natCast, ← upTo_set, tieTo_succ, hb, if_pos rfl]
        rfl
theorem implTies_ev {n : Nat} {r : List Nat} (h : IsPr n r) : Ev (fun k => impl_ofProcesses.f k (n : Int) (ints r)) ((n : Int), tiesOf r n) := by
  have hlen := h.len
  have h8 := h.n8
  have hp8 := h.p8
  unfold impl_ofProcesses.f
  refine Ev.bind (loose_ev n (by omega)) ?_
  simp only [ints_length]
  rw [singles_lst]
  refine loop_ev r.length (fun i k => impl_ofProcesses.l0 k (ints r) (r.length : Int) (i : Int) (n : Int) (lst n (tieTo r i))) ?_ ?_
  · refine Ev.step (f := fun _ => some ((n : Int), tiesOf r n)) (fun k => ?_) (Ev.now _)
    simp only [impl_ofProcesses.l0]
    rw [if_neg (by omega)]
    rfl
  · intro i hi ih
    have h1 := h.ltD i
    have hbl := bitsL_length (r.getD i 0)
    have inner := loop_ev (bitsL (r.getD i 0)).length (fun j k => impl_ofProcesses.l1 k ((r.getD i 0 : Nat) : Int) (ints r) (r.length : Int) (i : Int) (ints (bitsL (r.getD i 0))) ((bitsL (r.getD i 0)).length : Int) (j : Int) (n : Int) (lst n (mk (tieTo r i) (r.getD i 0) ((bitsL (r.getD i 0)).take j)))) (r := ((n : Int), tiesOf r n)) ?_ ?_
    · have hb : Ev (fun k => (impl_members.f k ((r.getD i 0 : Nat) : Int)).bind fun t => impl_ofProcesses.l1 k ((r.getD i 0 : Nat) : Int) (ints r) (r.length : Int) (i : Int) t (t.length : Int) 0 (n : Int) (lst n (tieTo r i))) ((n : Int), tiesOf r n) := by
        refine Ev.bind (members_ev (by omega)) ?_
        simp only [List.take_zero, mk_nil] at inner
        rw [ints_length]
        exact inner
      refine Ev.step (fun k => ?_) hb
      simp only [impl_ofProcesses.l0]
      rw [if_pos (by omega), if_pos (by omega), if_pos (by rw [ints_length]; omega), rd_ints hi, ← getD_eq hi]
    · refine Ev.step (fun k => ?_) ih
      simp only [impl_ofProcesses.l1]
      rw [if_neg (by omega), wrap_id (by omega) (by omega), List.take_length]
      have e : lst n (mk (tieTo r i) (r.getD i 0) (bitsL (r.getD i 0))) = lst n (tieTo r (i + 1)) := lst_congr fun a ha => by rw [mk_bits (by omega), tieTo_succ]
      rw [e]
      rfl
    · intro j hj ih2
      have hm : (bitsL (r.getD i 0))[j] < n := bits_lt h1 (by omega) (List.getElem_mem hj)
      have h2 := mk_lt (f := tieTo r i) ((bitsL (r.getD i 0)).take j) (tieTo_lt h hm i) h1
      refine Ev.step (fun k => ?_) ih2
      simp only [impl_ofProcesses.l1]
      rw [if_pos (by omega), if_pos (by omega), if_pos (by rw [ints_length]; omega), rd_ints hj, if_pos (by omega), if_pos (by rw [lst_length]; omega), rd_lst hm, bor (by omega) (by omega), Int.toNat_natCast, lst_mk _ _ hj, wrap_id (x := (j : Int) + 1) (by omega) (by omega)]
      rfl
def alphabetOf (n : Int) (l : List Int) : Int × List Int × Int := if procCode n l = 0 then (n, tiesOf (l.map Int.toNat) n.toNat, 0) else (0, [], procCode n l)
theorem specAlphabetOfProcesses_ev (n : Int) (l : List Int) (hl : l.length < 4611686018427387904) : Ev (fun k => spec_AlphabetOfProcesses.f k n l) (alphabetOf n l) := by
  unfold spec_AlphabetOfProcesses.f alphabetOf
  refine Ev.bind (specProcesses_ev n l hl) ?_
  by_cases h : procCode n l = 0
  · rw [if_pos h]
    simp only [if_pos h]
    obtain ⟨m, r, rfl, rfl, hr⟩ := procCode_nat h
    rw [toNat_ints, Int.toNat_natCast]
    have := hr.n8
    exact Ev.bind (l02Free_ev m (by omega)) (specTies_ev hr)
  · rw [if_neg h]
    simp only [if_neg h]
    exact Ev.now _
theorem implAlphabetOfProcesses_ev (n : Int) (l : List Int) : Ev (fun k => impl_AlphabetOfProcesses.f k n l) (alphabetOf n l) := by
  unfold impl_AlphabetOfProcesses.f alphabetOf
  refine Ev.bind (checkProcesses_ev n l) ?_
  by_cases h : procCode n l = 0
  · rw [if_pos h]
    simp only [if_pos h]
    obtain ⟨m, r, rfl, rfl, hr⟩ := procCode_nat h
    rw [toNat_ints, Int.toNat_natCast]
    exact Ev.bind (implTies_ev hr) (Ev.now _)
  · rw [if_neg h]
    simp only [if_neg h]
    exact Ev.now _
theorem alphabetOf_length (n : Int) (l : List Int) : (alphabetOf n l).2.1.length ≤ 24 := by
  unfold alphabetOf
  by_cases h : procCode n l = 0
  · rw [if_pos h]
    obtain ⟨m, r, rfl, rfl, hr⟩ := procCode_nat h
    have := hr.n8
    rw [toNat_ints, Int.toNat_natCast]
    unfold tiesOf
    rw [lst_length]
    omega
  · rw [if_neg h]; simp
end Go.Proofs.YtdbdlhjhacbjoaaDoor.T

namespace Go.Proofs.YtdbdlhjhacbjoaaDoor.T
open Go Go.RowKit Go.Proofs.YtdbdlhjhacbjoaaDoorW.PrintWords Go.Proofs.YtdbdlhjhacbjoaaDoorW.PrintMore Go.Proofs.YtdbdlhjhacbjoaaDoor.G

theorem toInt64S_loop (l : List Int) (hl : l.length ≤ 35184372088832) : ∀ (d i : Nat), i + d = l.length → Ev (fun k => laws_toInt64S.l0 k l (l.take i ++ List.replicate d 0) (i : Int)) l
  | 0, i, h => by
    refine Ev.step (f := fun _ => some l) (fun k => ?_) (Ev.now l)
    obtain rfl : i = l.length := by omega
    simp only [laws_toInt64S.l0]
    rw [if_neg (by omega)]
    simp
  | d + 1, i, h => by
    have ih := toInt64S_loop l hl d (i + 1) (by omega)
    refine Ev.step (fun k => ?_) ih
    have hi : i < l.length := by omega
    simp only [laws_toInt64S.l0]
    rw [if_pos (by omega), if_pos (by omega), if_pos (by simp; omega), Int.toNat_natCast, rd_nat hi, wrap_id (by omega) (by omega)]
    congr 1
    rw [List.set_append_right _ _ (by simp; omega)]
    simp only [List.length_take, Nat.min_eq_left (Nat.le_of_lt hi), Nat.sub_self, List.replicate_succ, List.set_cons_zero]
    rw [List.take_succ_eq_append_getElem hi, List.append_assoc]
    rfl
theorem toInt64S_ev (l : List Int) (hl : l.length ≤ 35184372088832) : Ev (fun k => laws_toInt64S.f k l) l := by
  refine Ev.congr (fun k => ?_) (toInt64S_loop l hl l.length 0 (by omega))
  unfold laws_toInt64S.f
  rw [if_pos (by omega), Int.toNat_natCast, if_pos hl]
  simp

theorem eqInt64S_loop (a b : List Int) (hab : a.length = b.length) (hl : a.length < 4611686018427387904) : ∀ (d i : Nat), i + d = a.length → a.take i = b.take i → Ev (fun k => laws_eqInt64S.l0 k a b (i : Int)) (decide (a = b))
  | 0, i, h, ht => by
    refine Ev.step (f := fun _ => some (decide (a = b))) (fun k => ?_) (Ev.now _)
    obtain rfl : i = a.length := by omega
    simp only [laws_eqInt64S.l0]
    rw [if_neg (by omega)]
    rw [List.take_length, hab, List.take_length] at ht
    simp [ht]
  | d + 1, i, h, ht => by
    have hi : i < a.length := by omega
    have hj : i < b.length := by omega
    by_cases e : a[i] = b[i]
    · have ih := eqInt64S_loop a b hab hl d (i + 1) (by omega) (by rw [List.take_succ_eq_append_getElem hi, List.take_succ_eq_append_getElem hj, ht, e])
      refine Ev.step (fun k => ?_) ih
      simp only [laws_eqInt64S.l0]
      rw [if_pos (by omega), if_pos (by omega), if_pos (by omega), rd_nat hi, rd_nat hj, if_pos e, wrap_id (by omega) (by omega)]
      rfl
    · refine Ev.step (f := fun _ => some (decide (a = b))) (fun k => ?_) (Ev.now _)
      simp only [laws_eqInt64S.l0]
      rw [if_pos (by omega), if_pos (by omega), if_pos (by omega), rd_nat hi, rd_nat hj, if_neg e]
      have : ¬ a = b := by rintro rfl; exact e rfl
      simp [this]
theorem eqInt64S_ev (a b : List Int) (hl : a.length < 4611686018427387904) : Ev (fun k => laws_eqInt64S.f k a b) (decide (a = b)) := by
  by_cases hab : a.length = b.length
  · refine Ev.congr (fun k => ?_) (eqInt64S_loop a b hab hl a.length 0 (by omega) (by simp))
    unfold laws_eqInt64S.f
    rw [if_pos (by omega)]
    rfl
  · refine Ev.of_all fun k => ?_
    unfold laws_eqInt64S.f
    rw [if_neg (by omega)]
    have : ¬ a = b := by rintro rfl; exact hab rfl
    simp [this]

/-- The numbers a, a + 1, .., as many as n. -/
def iota (a n : Nat) : List Int := (List.range n).map fun i => ((a + i : Nat) : Int)
theorem iota_length (a n : Nat) : (iota a n).length = n := by simp [iota]
theorem iota_get (a n i : Nat) (h : i < (iota a n).length) : (iota a n)[i] = ((a + i : Nat) : Int) := by simp [iota]
theorem mark_loop (l : List Int) (a : Nat) (hb : a + l.length < 4611686018427387904) : ∀ (d i : Nat), i + d = l.length → Ev (fun k => laws_markInt64S.l0 k (iota a i ++ l.drop i) ((a + i : Nat) : Int) (i : Int)) (((a + l.length : Nat) : Int), iota a l.length)
  | 0, i, h => by
    refine Ev.step (f := fun _ => some (((a + l.length : Nat) : Int), iota a l.length)) (fun k => ?_) (Ev.now _)
    obtain rfl : i = l.length := by omega
    simp only [laws_markInt64S.l0]
    rw [if_neg (by simp [iota_length])]
    simp
  | d + 1, i, h => by
    have ih := mark_loop l a hb d (i + 1) (by omega)
    refine Ev.step (fun k => ?_) ih
    have hi : i < l.length := by omega
    simp only [laws_markInt64S.l0]
    rw [if_pos (by simp [iota_length]; omega), if_pos (by omega), Int.toNat_natCast, wrap_id (x := (i : Int) + 1) (by omega) (by omega), wrap_id (by omega) (by omega)]
    congr 1
    rw [List.set_append_right _ _ (by simp [iota_length]), iota_length, Nat.sub_self, List.drop_eq_getElem_cons hi, List.set_cons_zero]
    unfold iota
    rw [List.range_succ, List.map_append, List.append_assoc]
    rfl
theorem mark_ev (l : List Int) (a : Nat) (hb : a + l.length < 4611686018427387904) : Ev (fun k => laws_markInt64S.f k l (a : Int)) (((a + l.length : Nat) : Int), iota a l.length) := by
  have := mark_loop l a hb l.length 0 (by omega)
  refine Ev.congr (fun k => ?_) this
  rfl
theorem held_loop (a n : Nat) (hb : a + n < 4611686018427387904) : ∀ (d i : Nat), i + d = n → Ev (fun k => laws_heldInt64S.l0 k (iota a n) ((a + i : Nat) : Int) (i : Int)) ((a + n : Nat) : Int)
  | 0, i, h => by
    refine Ev.step (f := fun _ => some ((a + n : Nat) : Int)) (fun k => ?_) (Ev.now _)
    obtain rfl : i = n := by omega
    simp only [laws_heldInt64S.l0]
    rw [if_neg (by simp [iota_length])]
  | d + 1, i, h => by
    have ih := held_loop a n hb d (i + 1) (by omega)
    refine Ev.step (fun k => ?_) ih
    have hi : i < (iota a n).length := by rw [iota_length]; omega
    simp only [laws_heldInt64S.l0]
    rw [if_pos (by omega), if_pos (by omega), rd_nat hi, iota_get, if_pos rfl, wrap_id (x := (i : Int) + 1) (by omega) (by omega), wrap_id (by omega) (by omega)]
    rfl
theorem held_ev (a n : Nat) (hb : a + n < 4611686018427387904) : Ev (fun k => laws_heldInt64S.f k (iota a n) (a : Int)) ((a + n : Nat) : Int) := by
  refine Ev.congr (fun k => ?_) (held_loop a n hb n 0 (by omega))
  rfl
theorem mark1_ev (l : List Int) (hb : l.length < 4611686018427387903) : Ev (fun k => laws_markInt64S.f k l 1) (1 + (l.length : Int), iota 1 l.length) := by
  have := mark_ev l 1 (by omega)
  rwa [show ((1 + l.length : Nat) : Int) = 1 + (l.length : Int) by push_cast; rfl] at this
theorem held1_ev (n : Nat) (hb : n < 4611686018427387903) : Ev (fun k => laws_heldInt64S.f k (iota 1 n) 1) (1 + (n : Int)) := by
  have := held_ev 1 n (by omega)
  rwa [show ((1 + n : Nat) : Int) = 1 + (n : Int) by push_cast; rfl] at this
theorem eqSelf_ev (l : List Int) (hl : l.length < 4611686018427387904) : Ev (fun k => laws_eqInt64S.f k l l) true := by
  have := eqInt64S_ev l l hl
  rwa [decide_eq_true rfl] at this
theorem eqAlphabet_ev (a : Int) (l : List Int) (hl : l.length < 4611686018427387904) : Ev (fun k => laws_eqAlphabet.f k a l a l) true := by
  refine Ev.congr (f := fun k => (laws_eqInt64S.f k l l).bind fun t => if t = true then some true else some false) (fun k => ?_) (Ev.bind (eqSelf_ev l hl) (Ev.now _))
  unfold laws_eqAlphabet.f
  rw [if_pos rfl]
theorem markAlphabet1_ev (a : Int) (l : List Int) (hb : l.length < 4611686018427387903) : Ev (fun k => laws_markAlphabet.f k a l 1) (1 + (l.length : Int), iota 1 l.length) := by
  unfold laws_markAlphabet.f
  exact Ev.bind (mark1_ev l hb) (Ev.now _)
theorem heldAlphabet1_ev (a : Int) (n : Nat) (hb : n < 4611686018427387903) : Ev (fun k => laws_heldAlphabet.f k a (iota 1 n) 1) (1 + (n : Int)) := by
  unfold laws_heldAlphabet.f
  refine Ev.bind (held1_ev n hb) ?_
  have h : ¬ (1 + (n : Int) < 0) := by omega
  simp only [if_neg h]
  exact Ev.now _
end Go.Proofs.YtdbdlhjhacbjoaaDoor.T

namespace Go.Proofs.YtdbdlhjhacbjoaaDoor.T
set_option linter.unusedVariables false
set_option linter.unusedSimpArgs false
open Go Go.RowKit Go.Proofs.YtdbdlhjhacbjoaaDoorW.PrintWords Go.Proofs.YtdbdlhjhacbjoaaDoorW.PrintMore Go.Proofs.YtdbdlhjhacbjoaaDoor.G
theorem FnExactAlphabetOfProcesses (a0 : Int) (l1 : List Int) (_ : (Lit.int .i64 a0).wf = true) (_ : l1.length ≤ maxLen) (_ : ∀ x ∈ l1, (Lit.int .i64 x).wf = true) : ∃ k, laws_FnExactAlphabetOfProcesses.f k a0 l1 = some true := by
  by_cases h0_ : (l1.length : Int) > 1048576
  · exact ⟨0, by unfold laws_FnExactAlphabetOfProcesses.f; rw [if_pos h0_]⟩
  have h0_n : ¬ (1 + (l1.length : Int) < 0) := by omega
  obtain ⟨K1, h1⟩ := specAlphabetOfProcesses_ev a0 l1 (by omega)
  obtain ⟨K2, h2⟩ := implAlphabetOfProcesses_ev a0 l1
  have hl := alphabetOf_length a0 l1
  generalize alphabetOf a0 l1 = r at h1 h2 hl
  obtain ⟨m, l, c⟩ := r
  simp only at hl
  have hn : ¬ (1 + (l.length : Int) < 0) := by omega
  obtain ⟨K3, h3⟩ := toInt64S_ev l1 (by omega)
  obtain ⟨K4, h4⟩ := eqSelf_ev l1 (by omega)
  obtain ⟨K5, h5⟩ := mark1_ev l1 (by omega)
  obtain ⟨K6, h6⟩ := eqAlphabet_ev m l (by omega)
  obtain ⟨K7, h7⟩ := markAlphabet1_ev m l (by omega)
  obtain ⟨K8, h8⟩ := heldAlphabet1_ev m l.length (by omega)
  have e1 := fun (j : Nat) => h1 (K1 + K2 + K3 + K4 + K5 + K6 + K7 + K8 + j) (by omega)
  have e2 := fun (j : Nat) => h2 (K1 + K2 + K3 + K4 + K5 + K6 + K7 + K8 + j) (by omega)
  have e3 := fun (j : Nat) => h3 (K1 + K2 + K3 + K4 + K5 + K6 + K7 + K8 + j) (by omega)
  have e4 := fun (j : Nat) => h4 (K1 + K2 + K3 + K4 + K5 + K6 + K7 + K8 + j) (by omega)
  have e5 := fun (j : Nat) => h5 (K1 + K2 + K3 + K4 + K5 + K6 + K7 + K8 + j) (by omega)
  have e6 := fun (j : Nat) => h6 (K1 + K2 + K3 + K4 + K5 + K6 + K7 + K8 + j) (by omega)
  have e7 := fun (j : Nat) => h7 (K1 + K2 + K3 + K4 + K5 + K6 + K7 + K8 + j) (by omega)
  have e8 := fun (j : Nat) => h8 (K1 + K2 + K3 + K4 + K5 + K6 + K7 + K8 + j) (by omega)
  generalize K1 + K2 + K3 + K4 + K5 + K6 + K7 + K8 = K at *
  refine ⟨K + 5, ?_⟩
  unfold laws_FnExactAlphabetOfProcesses.f
  rw [if_neg h0_]
  simp only [e1, e2, e3, e4, e5, e6, e7, e8, Option.bind_some, if_true, bne_self_eq_false]
  try simp only [laws_FnExactAlphabetOfProcesses.j0, laws_FnExactAlphabetOfProcesses.j1, laws_FnExactAlphabetOfProcesses.j2, e1, e2, e3, e4, e5, e6, e7, e8, Option.bind_some, bne_self_eq_false]
  try simp [h0_n, hn]
end Go.Proofs.YtdbdlhjhacbjoaaDoor.T
