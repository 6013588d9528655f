/- The pure side of FnMasks: the law's plain function answers true at all inputs; before it, all that this needs. -/
import Derived.Test.YtdbdlhjhacbjoaaDoorWMore
import Derived.Test.YtdbdlhjhacbjoaaDoorWWords
import Derived.Laws.BitsLemmas
import Derived.Lib.TrailingZeros
import Derived.Test.YtdbdlhjhacbjoaaDoorGLawFnMasks
import Derived.Test.YtdbdlhjhacbjoaaDoorGQ00
import Derived.Test.YtdbdlhjhacbjoaaDoorGQ01
import Derived.Test.YtdbdlhjhacbjoaaDoorGQ02
namespace Go.Proofs.YtdbdlhjhacbjoaaDoor.T
open Go Go.RowKit Go.Proofs.YtdbdlhjhacbjoaaDoorW.PrintWords Go.Proofs.YtdbdlhjhacbjoaaDoorW.PrintMore

theorem wrap_id {x : Int} (h1 : -9223372036854775808 ≤ x) (h2 : x ≤ 9223372036854775807) : wrap64 x = x := by unfold wrap64; omega
theorem i64_id {n : Int} (h1 : -9223372036854775808 ≤ n) (h2 : n ≤ 9223372036854775807) : IntKind.i64.wrap n = n := by rw [IntKind.wrap_i64]; omega
theorem u64_id {n : Int} (h1 : 0 ≤ n) (h2 : n < 18446744073709551616) : IntKind.u64.wrap n = n := by
  simp [IntKind.wrap, IntKind.bits, IntKind.signed]; omega
theorem rd_nat {l : List Int} {i : Nat} (h : i < l.length) : rd l (i : Int) = l[i] := by simp [rd, h]
theorem pow_lt63 {n : Nat} (h : n ≤ 62) : 2 ^ n < 9223372036854775808 := by
  have : 2 ^ n ≤ 2 ^ 62 := Nat.pow_le_pow_right (by decide) h
  have e : 2 ^ 62 = 4611686018427387904 := by decide
  omega
theorem shl_one {n : Nat} (h : n ≤ 62) : shl .i64 1 (n : Int) = ((2 ^ n : Nat) : Int) := by
  unfold shl
  have hb : IntKind.i64.bits = 64 := rfl
  rw [Int.one_mul, hb, Int.toNat_natCast, Nat.min_eq_left (by omega)]
  have := pow_lt63 h
  have e : (2 : Int) ^ n = ((2 ^ n : Nat) : Int) := by push_cast; rfl
  rw [e]
  generalize 2 ^ n = m at this ⊢
  exact i64_id (by omega) (by omega)
theorem band {a b : Nat} (ha : a < 9223372036854775808) (hb : b < 9223372036854775808) : Go.bits .and .i64 (a : Int) (b : Int) = ((a &&& b : Nat) : Int) := by
  have hc : a &&& b < 9223372036854775808 := Nat.lt_of_le_of_lt Nat.and_le_left ha
  have e : (BitVec.ofInt 64 (a : Int) &&& BitVec.ofInt 64 (b : Int)).toNat = a &&& b := by
    rw [BitVec.ofInt_natCast, BitVec.ofInt_natCast, BitVec.toNat_and, BitVec.toNat_ofNat, BitVec.toNat_ofNat, Nat.mod_eq_of_lt (by omega), Nat.mod_eq_of_lt (by omega)]
  show IntKind.i64.wrap (((BitVec.ofInt 64 (a : Int) &&& BitVec.ofInt 64 (b : Int)).toNat : Nat) : Int) = _
  rw [e, i64_id] <;> omega
theorem bor {a b : Nat} (ha : a < 9223372036854775808) (hb : b < 9223372036854775808) : Go.bits .or .i64 (a : Int) (b : Int) = ((a ||| b : Nat) : Int) := by
  have hc : a ||| b < 9223372036854775808 := Nat.or_lt_two_pow (n := 63) ha hb
  have e : (BitVec.ofInt 64 (a : Int) ||| BitVec.ofInt 64 (b : Int)).toNat = a ||| b := by
    rw [BitVec.ofInt_natCast, BitVec.ofInt_natCast, BitVec.toNat_or, BitVec.toNat_ofNat, BitVec.toNat_ofNat, Nat.mod_eq_of_lt (by omega), Nat.mod_eq_of_lt (by omega)]
  show IntKind.i64.wrap (((BitVec.ofInt 64 (a : Int) ||| BitVec.ofInt 64 (b : Int)).toNat : Nat) : Int) = _
  rw [e, i64_id] <;> omega
theorem shr_and_one {m i : Nat} (hm : m < 9223372036854775808) : Go.bits .and .i64 (shr .i64 (m : Int) (i : Int)) 1 = ((if m.testBit i then 1 else 0 : Nat) : Int) := by
  have h0 : shr .i64 (m : Int) (i : Int) = ((m / 2 ^ i : Nat) : Int) := by
    unfold shr
    rw [Int.toNat_natCast, show IntKind.i64.bits = 64 from rfl]
    by_cases hi : i ≤ 64
    · rw [Nat.min_eq_left hi]; simp
    · rw [Nat.min_eq_right (by omega)]
      have h64 : 2 ^ 64 ≤ 2 ^ i := Nat.pow_le_pow_right (by decide) (by omega)
      have e : (2 : Nat) ^ 64 = 18446744073709551616 := by decide
      rw [Nat.div_eq_of_lt (by omega)]
      have : ((2 : Int) ^ 64) = 18446744073709551616 := by decide
      rw [this]; simp only [Int.natCast_zero]; omega
  have hlt : m / 2 ^ i < 9223372036854775808 := Nat.lt_of_le_of_lt (Nat.div_le_self _ _) hm
  rw [h0, show (1 : Int) = ((1 : Nat) : Int) from rfl, band hlt (by decide)]
  congr 1
  rw [Nat.and_one_is_mod, Nat.testBit_eq_decide_div_mod_eq]
  have := Nat.mod_two_eq_zero_or_one (m / 2 ^ i)
  rcases this with h | h <;> simp [h]
/-- From some number of rounds on. -/
theorem Ev.of_all {α : Type} {g : Nat → Option α} {r : α} (h : ∀ k, g k = some r) : Ev g r := ⟨0, fun k _ => h k⟩
end Go.Proofs.YtdbdlhjhacbjoaaDoor.T

namespace Go.Proofs.YtdbdlhjhacbjoaaDoor.T
set_option linter.unusedVariables false
set_option linter.unusedSimpArgs false
open Go Go.RowKit Go.Proofs.YtdbdlhjhacbjoaaDoorW.PrintWords Go.Proofs.YtdbdlhjhacbjoaaDoorW.PrintMore Go.Proofs.YtdbdlhjhacbjoaaDoor.G

theorem u64_range (x : Int) : 0 ≤ IntKind.u64.wrap x ∧ IntKind.u64.wrap x < 18446744073709551616 := by
  rw [IntKind.wrap_u64]; omega
theorem roll_l0 (l : List Int) (hl : l.length < 4611686018427387904) : ∀ (d i : Nat) (s : Int), i + d = l.length → ∃ h, Ev (fun k => laws_roll.l0 k l (i : Int) l 0 s) (l, 0, h)
  | 0, i, s, h => by
    refine ⟨s, Ev.step (f := fun _ => some (l, 0, s)) (fun k => ?_) (Ev.now _)⟩
    simp only [laws_roll.l0]
    rw [if_neg (by omega)]
  | d + 1, i, s, h => by
    obtain ⟨t, ht⟩ := roll_l0 l hl d (i + 1) (IntKind.u64.wrap ((IntKind.u64.wrap ((IntKind.u64.wrap (s * 1099511628211)) + (IntKind.u64.wrap (rd l (i : Int))))) + 5)) (by omega)
    refine ⟨t, Ev.step (fun k => ?_) ht⟩
    simp only [laws_roll.l0]
    rw [if_pos (by omega), if_pos (by omega), wrap_id (x := (i : Int) + 1) (by omega) (by omega)]
    rfl
theorem roll_ev (l : List Int) (hl : l.length < 4611686018427387904) (seed : Int) : ∃ h, Ev (fun k => laws_roll.f k l seed) (l, 0, h) := by
  unfold laws_roll.f
  exact roll_l0 l hl l.length 0 _ (by omega)
/-- A code whose numbers are bytes, and a place in it. -/
structure IsCode (l : List Int) : Prop where
  len : l.length ≤ 4096
  byte : ∀ x ∈ l, 0 ≤ x ∧ x ≤ 255
theorem wf_u8 {x : Int} (h : (Lit.int .u8 x).wf = true) : 0 ≤ x ∧ x ≤ 255 := by
  simp [Lit.wf, IntKind.wrap, IntKind.bits, IntKind.signed] at h
  have h1 : IntKind.u8.min = 0 := by decide
  have h2 : IntKind.u8.max = 255 := by decide
  omega
theorem rd_mem {l : List Int} {i : Int} (h0 : 0 ≤ i) (h : i < (l.length : Int)) : rd l i ∈ l := by
  obtain ⟨n, rfl⟩ := Int.eq_ofNat_of_zero_le h0
  rw [rd_nat (by omega)]
  exact List.getElem_mem _
theorem and_bound (H : Int) (h0 : 0 ≤ H) (h1 : H < 18446744073709551616) : 0 ≤ Go.bits .and .u64 (H / 8589934592) 16777215 ∧ Go.bits .and .u64 (H / 8589934592) 16777215 ≤ 16777215 := by
  obtain ⟨n, rfl⟩ := Int.eq_ofNat_of_zero_le h0
  have e : (n : Int) / 8589934592 = ((n / 8589934592 : Nat) : Int) := by omega
  have hlt : n / 8589934592 < 18446744073709551616 := by omega
  rw [e, show (16777215 : Int) = ((16777215 : Nat) : Int) from rfl, bits_and_u64_nat _ _ hlt (by decide)]
  have := Nat.and_le_right (n := n / 8589934592) (m := 16777215)
  omega
theorem tmod_range {x n : Int} (hx : 0 ≤ x) (hn : 1 ≤ n) : 0 ≤ Int.tmod x n ∧ Int.tmod x n < n := by
  rw [Int.tmod_eq_emod_of_nonneg hx]
  exact ⟨Int.emod_nonneg _ (by omega), Int.emod_lt_of_pos _ (by omega)⟩
theorem dice_below_spec {l : List Int} (hl : IsCode l) {i : Int} (hi : 0 ≤ i ∧ i ≤ (l.length : Int)) (s : Int) {n : Int} (hn : 1 ≤ n) : ∃ x i' s', laws_dice_below.f l i s n = some (x, i', s') ∧ 0 ≤ x ∧ x < n ∧ 0 ≤ i' ∧ i' ≤ (l.length : Int) := by
  have hlen := hl.len
  unfold laws_dice_below.f
  rw [if_neg (by omega)]
  obtain ⟨hH0, hH1⟩ := u64_range ((IntKind.u64.wrap (s * 6364136223846793005)) + 1442695040888963407)
  generalize IntKind.u64.wrap ((IntKind.u64.wrap (s * 6364136223846793005)) + 1442695040888963407) = H at hH0 hH1
  obtain ⟨hb0, hb1⟩ := and_bound H hH0 hH1
  generalize Go.bits .and .u64 (H / 8589934592) 16777215 = y at hb0 hb1
  rw [wrap_id (x := y) (by omega) (by omega)]
  by_cases hlt : i < (l.length : Int)
  · have hr := hl.byte _ (rd_mem hi.1 hlt)
    generalize rd l i = z at hr
    rw [if_pos hlt, if_pos hi.1, if_neg (by omega), wrap_id (x := z) (by omega) (by omega), wrap_id (x := y + z) (by omega) (by omega), wrap_id (x := i + 1) (by omega) (by omega)]
    obtain ⟨h1, h2⟩ := tmod_range (x := y + z) (n := n) (by omega) hn
    exact ⟨_, _, _, rfl, h1, h2, by omega, by omega⟩
  · rw [if_neg hlt, if_neg (by omega)]
    obtain ⟨h1, h2⟩ := tmod_range (x := y) (n := n) hb0 hn
    exact ⟨_, _, _, rfl, h1, h2, hi.1, hi.2⟩
end Go.Proofs.YtdbdlhjhacbjoaaDoor.T

namespace Go.Proofs.YtdbdlhjhacbjoaaDoor.T
open Go Go.RowKit Go.Proofs.YtdbdlhjhacbjoaaDoorW.PrintWords Go.Proofs.YtdbdlhjhacbjoaaDoorW.PrintMore Go.Proofs.YtdbdlhjhacbjoaaDoor.G

theorem inRange_eq (a b c : Int) : impl_inRange.f a b c = some (decide (b ≤ a ∧ a ≤ c)) := by
  unfold impl_inRange.f
  by_cases h : b ≤ a
  · rw [if_pos h]; simp [h]
  · rw [if_neg h]; simp [h]
theorem one_eq {n : Nat} (h : n ≤ 62) : impl_one.f (n : Int) = some ((2 ^ n : Nat) : Int) := by
  unfold impl_one.f
  rw [if_pos (by omega), shl_one h]
theorem wrap_pow {n : Nat} (h : n ≤ 62) : wrap64 (((2 ^ n : Nat) : Int) - 1) = ((2 ^ n - 1 : Nat) : Int) := by
  have h1 := pow_lt63 h
  have h2 : 0 < 2 ^ n := Nat.two_pow_pos n
  generalize 2 ^ n = m at *
  rw [wrap_id (by omega) (by omega)]
  omega
/-- A number is a mask of n elements. -/
def isM (n : Nat) (x : Int) : Bool := decide (0 ≤ x ∧ x ≤ ((2 ^ n - 1 : Nat) : Int))
theorem allIn_eq (l : List Int) (a b : Int) : impl_allIn.f l a b = some (l.all fun x => decide (a ≤ x ∧ x ≤ b)) := by
  unfold impl_allIn.f
  rw [List.not_any_eq_all_not]
  simp
/-- n is a number of elements and m a mask of n elements. -/
def isMask (m n : Int) : Bool := decide (0 ≤ n ∧ n ≤ 24) && isM n.toNat m
theorem implIsMask_eq (m n : Int) : impl_IsMask.f m n = some (isMask m n) := by
  unfold impl_IsMask.f isMask
  rw [inRange_eq, Option.bind_some]
  by_cases h : 0 ≤ n ∧ n ≤ 24
  · obtain ⟨j, rfl⟩ := Int.eq_ofNat_of_zero_le h.1
    rw [if_pos (by simp [h]), one_eq (by omega), Option.bind_some, wrap_pow (by omega), inRange_eq, Option.bind_some]
    simp [h, isM]
  · rw [if_neg (by simp [h])]
    simp [h]
end Go.Proofs.YtdbdlhjhacbjoaaDoor.T

namespace Go.Proofs.YtdbdlhjhacbjoaaDoor.T
set_option linter.unusedVariables false
set_option linter.unusedSimpArgs false
section
variable {α : Type} [DecidableEq α]

/-- The letters of a word that are a or b. -/
def prj (a b : α) (w : List α) : List α := w.filter fun c => decide (c = a) || decide (c = b)
theorem prj_cons (a b c : α) (w : List α) : prj a b (c :: w) = if c = a ∨ c = b then c :: prj a b w else prj a b w := by
  unfold prj
  rw [List.filter_cons]
  by_cases h : c = a ∨ c = b
  · rw [if_pos h, if_pos (by simpa using h)]
  · rw [if_neg h, if_neg (by simpa using h)]
/-- Two words are the same trace: equal projections on all pairs that depend on each other. -/
def Eqv (D : α → α → Bool) (u v : List α) : Prop := ∀ a b, D a b = true → prj a b u = prj a b v
theorem Eqv.symm {D : α → α → Bool} {u v : List α} (h : Eqv D u v) : Eqv D v u := fun a b hd => (h a b hd).symm
theorem Eqv.cons {D : α → α → Bool} {u v : List α} (c : α) (h : Eqv D u v) : Eqv D (c :: u) (c :: v) := fun a b hd => by
  rw [prj_cons, prj_cons, h a b hd]
theorem Eqv.count {D : α → α → Bool} (hr : ∀ a, D a a = true) {u v : List α} (h : Eqv D u v) (a : α) : u.count a = v.count a := by
  have e : ∀ w : List α, (prj a a w).length = w.count a := by
    intro w
    unfold prj
    rw [List.count_eq_countP, List.countP_eq_length_filter]
    congr 2
    funext c
    rw [Bool.eq_iff_iff]
    simp
  rw [← e, ← e, h a a (hr a)]
theorem Eqv.perm {D : α → α → Bool} (hr : ∀ a, D a a = true) {u v : List α} (h : Eqv D u v) : u.Perm v := by
  rw [List.perm_iff_count]
  exact fun a => h.count hr a
theorem Eqv.length {D : α → α → Bool} (hr : ∀ a, D a a = true) {u v : List α} (h : Eqv D u v) : u.length = v.length := (h.perm hr).length_eq
theorem Eqv.filter {D : α → α → Bool} {u v : List α} (h : Eqv D u v) (p : α → Bool) : Eqv D (u.filter p) (v.filter p) := fun a b hd => by
  have e : ∀ w : List α, prj a b (w.filter p) = (prj a b w).filter p := by
    intro w
    unfold prj
    rw [List.filter_filter, List.filter_filter]
    congr 1
    funext c
    rw [Bool.and_comm]
  rw [e, e, h a b hd]
/-- What is left of a word behind a letter at its front, if no letter before the letter keeps it from there. -/
def rm (D : α → α → Bool) (a : α) : List α → Option (List α)
  | [] => none
  | x :: v => if x = a then some v else if D x a then none else (rm D a v).map (x :: ·)
end

/-! ### the normal form: always the least letter that can stand at the front -/
/-- The least letter below n that can stand at the front of a word. -/
def lead (D : Nat → Nat → Bool) (n : Nat) (w : List Nat) : Option Nat := (List.range n).find? fun a => (rm D a w).isSome
variable {D : Nat → Nat → Bool} {n : Nat}
end Go.Proofs.YtdbdlhjhacbjoaaDoor.T

namespace Go.Proofs.YtdbdlhjhacbjoaaDoor.T
set_option linter.unusedVariables false
set_option linter.unusedSimpArgs false

/-- The members of a set, in ascending order. -/
def bitsL (m : Nat) : List Nat := (List.range 64).filter fun i => m.testBit i
theorem mem_bitsL {m x : Nat} (hm : m < 18446744073709551616) : x ∈ bitsL m ↔ m.testBit x = true := by
  unfold bitsL
  rw [List.mem_filter, List.mem_range]
  constructor
  · exact fun h => h.2
  · intro h
    refine ⟨?_, h⟩
    rcases Nat.lt_or_ge x 64 with hx | hx
    · exact hx
    · exfalso
      have : m.testBit x = false := Nat.testBit_lt_two_pow (Nat.lt_of_lt_of_le hm (by
        have : 2 ^ 64 ≤ 2 ^ x := Nat.pow_le_pow_right (by decide) hx
        have e : 2 ^ 64 = 18446744073709551616 := by decide
        omega))
      rw [this] at h
      cases h
theorem bitsL_zero : bitsL 0 = [] := by
  unfold bitsL
  rw [List.filter_eq_nil_iff]
  simp

end Go.Proofs.YtdbdlhjhacbjoaaDoor.T

namespace Go.Proofs.YtdbdlhjhacbjoaaDoor.T
set_option linter.unusedVariables false
set_option linter.unusedSimpArgs false

/-- The least member of a set (64 if there is none). -/
def low (m : Nat) : Nat := ((List.range 64).find? fun i => m.testBit i).getD 64
theorem exists_bit {m : Nat} (h0 : m ≠ 0) (hm : m < 18446744073709551616) : ∃ i, i < 64 ∧ m.testBit i = true := by
  obtain ⟨i, hi⟩ := Nat.exists_testBit_of_ne_zero h0
  refine ⟨i, ?_, hi⟩
  rcases Nat.lt_or_ge i 64 with h | h
  · exact h
  · exfalso
    rw [Nat.testBit_lt_two_pow (Nat.lt_of_lt_of_le hm (by
      have : 2 ^ 64 ≤ 2 ^ i := Nat.pow_le_pow_right (by decide) h
      have e : 2 ^ 64 = 18446744073709551616 := by decide
      omega))] at hi
    cases hi
theorem low_spec {m : Nat} (h0 : m ≠ 0) (hm : m < 18446744073709551616) : low m < 64 ∧ m.testBit (low m) = true ∧ ∀ j, j < low m → m.testBit j = false := by
  unfold low
  cases h : (List.range 64).find? fun i => m.testBit i with
  | none =>
    rw [List.find?_eq_none] at h
    obtain ⟨i, hi, hb⟩ := exists_bit h0 hm
    exact absurd hb (by simpa using h i (List.mem_range.2 hi))
  | some i =>
    rw [List.find?_range_eq_some] at h
    obtain ⟨h1, h2, h3⟩ := h
    exact ⟨List.mem_range.1 h2, h1, fun j hj => by simpa using h3 j hj⟩
theorem low_form {m l : Nat} (hb : m.testBit l = true) (hz : ∀ j, j < l → m.testBit j = false) : m = 2 ^ (l + 1) * (m / 2 ^ (l + 1)) + 2 ^ l := by
  have : m % 2 ^ (l + 1) = 2 ^ l := by
    apply Nat.eq_of_testBit_eq
    intro j
    rw [Nat.testBit_mod_two_pow, Nat.testBit_two_pow]
    by_cases h1 : j < l
    · simp [hz j h1]; omega
    · by_cases h2 : j = l
      · subst h2; simp [hb]
      · have : ¬ j < l + 1 := by omega
        simp [this]; omega
  have h := Nat.div_add_mod m (2 ^ (l + 1))
  omega
/-- The set without its least member. -/
theorem testBit_clear {m : Nat} (h0 : m ≠ 0) (hm : m < 18446744073709551616) (j : Nat) : (m &&& (m - 1)).testBit j = (m.testBit j && decide (j ≠ low m)) := by
  obtain ⟨_, hb, hz⟩ := low_spec h0 hm
  generalize low m = l at *
  have e := low_form hb hz
  generalize m / 2 ^ (l + 1) = q at e
  have hp : 0 < 2 ^ l := Nat.two_pow_pos l
  have hlt : 2 ^ l < 2 ^ (l + 1) := Nat.pow_lt_pow_right (by decide) (by omega)
  have e1 : m - 1 = 2 ^ (l + 1) * q + (2 ^ l - 1) := by omega
  rw [Nat.testBit_and, e1]
  rw [Nat.testBit_two_pow_mul_add q (by omega) j]
  by_cases h1 : j < l
  · rw [hz j h1]; simp
  · by_cases h2 : j = l
    · subst h2
      rw [if_pos (by omega), Nat.testBit_two_pow_sub_one]
      simp
    · rw [if_neg (by omega)]
      have : m.testBit j = q.testBit (j - (l + 1)) := by
        rw [e, Nat.testBit_two_pow_mul_add q hlt j, if_neg (by omega)]
      rw [this]
      simp [h2]
theorem clear_lt {m : Nat} (h0 : m ≠ 0) : m &&& (m - 1) < m := Nat.lt_of_le_of_lt Nat.and_le_right (by omega)
/-- math/bits' answer is the least member. -/
theorem ctz_low {m : Nat} (h0 : m ≠ 0) (hm : m < 18446744073709551616) : Lib.ctz 64 m = low m := by
  obtain ⟨h1, h2⟩ := Lib.lowest_bit 64 m h0 hm
  have hm' : m < 2 ^ 64 := hm
  symm
  obtain ⟨hl, hb, hz⟩ := low_spec h0 hm
  -- the lowest bit alone is m &&& (2^64 - m)
  have hk : m &&& (18446744073709551616 - m) = 2 ^ Lib.ctz 64 m := h1
  have hbit : m.testBit (Lib.ctz 64 m) = true := by
    have := congrArg (fun x => x.testBit (Lib.ctz 64 m)) hk
    simp only [Nat.testBit_and, Nat.testBit_two_pow_self, Bool.and_eq_true] at this
    exact this.1
  have e := low_form hb hz
  have hmod : (18446744073709551616 - m).testBit (low m) = true := by
    generalize low m = l at *
    generalize hq : m / 2 ^ (l + 1) = q at e
    have hp : 2 ^ (l + 1) ∣ 18446744073709551616 := by
      have : (18446744073709551616 : Nat) = 2 ^ 64 := by decide
      rw [this]
      exact Nat.pow_dvd_pow 2 (by omega)
    obtain ⟨c, hc⟩ := hp
    have hpos : 0 < 2 ^ l := Nat.two_pow_pos l
    have hlt : 2 ^ l < 2 ^ (l + 1) := Nat.pow_lt_pow_right (by decide) (by omega)
    have h2l : 2 ^ (l + 1) = 2 * 2 ^ l := by rw [Nat.pow_succ]; omega
    have hcq : q < c := by
      rcases Nat.lt_or_ge q c with h | h
      · exact h
      · have : 2 ^ (l + 1) * c ≤ 2 ^ (l + 1) * q := Nat.mul_le_mul_left _ h
        omega
    obtain ⟨d, rfl⟩ : ∃ d, c = q + 1 + d := ⟨c - q - 1, by omega⟩
    have hx : 18446744073709551616 - m = 2 ^ (l + 1) * d + 2 ^ l := by
      rw [Nat.mul_add, Nat.mul_add, Nat.mul_one] at hc
      omega
    rw [hx, Nat.testBit_two_pow_mul_add d hlt l, if_pos (by omega), Nat.testBit_two_pow_self]
  have : (2 ^ Lib.ctz 64 m).testBit (low m) = true := by
    rw [← hk, Nat.testBit_and, hb, hmod]; rfl
  rw [Nat.testBit_two_pow] at this
  have := of_decide_eq_true this
  omega
theorem bitsL_cons {m : Nat} (h0 : m ≠ 0) (hm : m < 18446744073709551616) : bitsL m = low m :: bitsL (m &&& (m - 1)) := by
  obtain ⟨hl, hb, hz⟩ := low_spec h0 hm
  unfold bitsL
  have hs : List.range 64 = List.range (low m) ++ (low m :: (List.range (63 - low m)).map fun x => low m + 1 + x) := by
    rw [show 64 = low m + (1 + (63 - low m)) by omega, List.range_add, List.range_add]
    simp [Nat.add_assoc]
  have hc := testBit_clear h0 hm
  rw [hs, List.filter_append, List.filter_append, List.filter_cons, List.filter_cons, if_pos hb, if_neg (by rw [hc]; simp)]
  have e0 : (List.range (low m)).filter (fun i => m.testBit i) = [] := by
    rw [List.filter_eq_nil_iff]
    intro j hj
    rw [hz j (List.mem_range.1 hj)]
    simp
  have e1 : (List.range (low m)).filter (fun i => (m &&& (m - 1)).testBit i) = [] := by
    rw [List.filter_eq_nil_iff]
    intro j hj
    rw [hc, hz j (List.mem_range.1 hj)]
    simp
  rw [e0, e1, List.nil_append, List.nil_append]
  congr 1
  apply List.filter_congr
  intro j hj
  rw [List.mem_map] at hj
  obtain ⟨x, _, rfl⟩ := hj
  rw [hc]
  have : low m + 1 + x ≠ low m := by omega
  simp [this]
end Go.Proofs.YtdbdlhjhacbjoaaDoor.T

namespace Go.Proofs.YtdbdlhjhacbjoaaDoor.T
set_option linter.unusedVariables false
set_option linter.unusedSimpArgs false

/-- A list is before another one. -/
def lex : List Int → List Int → Bool
  | _, [] => false
  | [], _ :: _ => true
  | a :: u, b :: v => if a < b then true else if b < a then false else lex u v
/-- The least of a list of candidates, an elder one kept where it is no greater. -/
def least (best : List Int) (l : List (List Int)) : List Int := l.foldl (fun b y => if lex y b then y else b) best
end Go.Proofs.YtdbdlhjhacbjoaaDoor.T

namespace Go.Proofs.YtdbdlhjhacbjoaaDoor.T
set_option linter.unusedVariables false
set_option linter.unusedSimpArgs false
/-- Letters as whole numbers. -/
def ints (w : List Nat) : List Int := w.map fun (x : Nat) => (x : Int)
end Go.Proofs.YtdbdlhjhacbjoaaDoor.T

namespace Go.Proofs.YtdbdlhjhacbjoaaDoor.T
set_option linter.unusedVariables false
set_option linter.unusedSimpArgs false
open Go Go.RowKit Go.Proofs.YtdbdlhjhacbjoaaDoorW.PrintWords Go.Proofs.YtdbdlhjhacbjoaaDoorW.PrintMore Go.Proofs.YtdbdlhjhacbjoaaDoor.G

theorem least_eq {m : Nat} (h0 : m ≠ 0) (hm : m < 9223372036854775808) : impl_least.f (m : Int) = some ((low m : Nat) : Int) := by
  unfold impl_least.f
  rw [u64_id (by omega) (by omega)]
  unfold bits_TrailingZeros64.f
  rw [if_pos (by omega), Int.toNat_natCast, ctz_low h0 (by omega)]
  rfl
theorem ints_append (u v : List Nat) : ints (u ++ v) = ints u ++ ints v := by unfold ints; rw [List.map_append]
theorem ints_length (u : List Nat) : (ints u).length = u.length := by unfold ints; rw [List.length_map]
theorem ints_cons (a : Nat) (u : List Nat) : ints (a :: u) = (a : Int) :: ints u := rfl
theorem bitsL_length (m : Nat) : (bitsL m).length ≤ 64 := by
  unfold bitsL
  have := List.length_filter_le (fun i => m.testBit i) (List.range 64)
  rwa [List.length_range] at this
theorem members_loop : ∀ (b m : Nat) (out : List Int), m ≤ b → m < 9223372036854775808 → out.length + (bitsL m).length ≤ 1000 → Ev (fun k => impl_members.l0 k (m : Int) out) (out ++ ints (bitsL m))
  | 0, m, out, hb, hm, ho => by
    obtain rfl : m = 0 := by omega
    refine Ev.step (f := fun _ => some (out ++ ints (bitsL 0))) (fun k => ?_) (Ev.now _)
    simp only [impl_members.l0]
    rw [if_pos (by rfl), bitsL_zero]
    simp [ints]
  | b + 1, m, out, hb, hm, ho => by
    by_cases h0 : m = 0
    · subst h0
      refine Ev.step (f := fun _ => some (out ++ ints (bitsL 0))) (fun k => ?_) (Ev.now _)
      simp only [impl_members.l0]
      rw [if_pos (by rfl), bitsL_zero]
      simp [ints]
    · have hlt := clear_lt h0
      have hc := bitsL_cons h0 (by omega : m < 18446744073709551616)
      have hl : (bitsL m).length = (bitsL (m &&& (m - 1))).length + 1 := by rw [hc]; rfl
      have ih := members_loop b (m &&& (m - 1)) (out ++ [((low m : Nat) : Int)]) (by omega) (by omega) (by rw [List.length_append, List.length_singleton]; omega)
      rw [hc, ints_cons, List.append_cons]
      refine Ev.step (fun k => ?_) ih
      simp only [impl_members.l0]
      rw [if_neg (by omega), least_eq h0 hm, Option.bind_some, if_pos (by omega), wrap_id (by omega) (by omega), show ((m : Int) - 1) = ((m - 1 : Nat) : Int) by omega, band hm (by omega)]
theorem members_ev {m : Nat} (hm : m < 9223372036854775808) : Ev (fun k => impl_members.f k (m : Int)) (ints (bitsL m)) := by
  have := members_loop m m [] (Nat.le_refl _) hm (by have := bitsL_length m; simp; omega)
  refine Ev.congr (fun k => ?_) this
  rfl
/-- The members below i. -/
def membersTo (m i : Nat) : List Int := ints ((List.range i).filter fun j => m.testBit j)
theorem membersTo_length (m i : Nat) : (membersTo m i).length ≤ i := by
  unfold membersTo
  rw [ints_length]
  have := List.length_filter_le (fun j => m.testBit j) (List.range i)
  rwa [List.length_range] at this
theorem membersTo_succ (m i : Nat) : membersTo m (i + 1) = if m.testBit i then membersTo m i ++ [(i : Int)] else membersTo m i := by
  unfold membersTo
  rw [List.range_succ, List.filter_append, ints_append]
  cases h : m.testBit i <;> simp [h, ints]
theorem membersTo_done {m : Nat} : ∀ (d i : Nat), m / 2 ^ i = 0 → membersTo m (i + d) = membersTo m i
  | 0, i, h => rfl
  | d + 1, i, h => by
    rw [← Nat.add_assoc, membersTo_succ, membersTo_done d i h]
    have hlt : m < 2 ^ (i + d) := by
      have h1 : m < 2 ^ i := by
        rcases Nat.lt_or_ge m (2 ^ i) with h2 | h2
        · exact h2
        · have := Nat.div_pos h2 (Nat.two_pow_pos i); omega
      exact Nat.lt_of_lt_of_le h1 (Nat.pow_le_pow_right (by decide) (by omega))
    rw [Nat.testBit_lt_two_pow hlt]
    rfl
/-- What MembersOf returns. -/
def membersOf (m : Int) : List Int × Int := if isMask m 24 then (ints (bitsL m.toNat), 0) else ([], 2)
theorem isMask_24 {m : Int} (h : isMask m 24 = true) : 0 ≤ m ∧ m < 16777216 := by
  unfold isMask isM at h
  rw [Bool.and_eq_true] at h
  have := of_decide_eq_true h.2
  have e : ((2 ^ (24 : Int).toNat - 1 : Nat) : Int) = 16777215 := by decide
  rw [e] at this
  omega
theorem implMembersOf_ev (m : Int) : Ev (fun k => impl_MembersOf.f k m) (membersOf m) := by
  have hf : ∀ k, impl_MembersOf.f k m = if isMask m 24 = true then ((impl_members.f k m).bind fun t => some (t, 0)) else some ([], 2) := by
    intro k
    unfold impl_MembersOf.f
    rw [implIsMask_eq, Option.bind_some]
  unfold membersOf
  by_cases h : isMask m 24 = true
  · obtain ⟨h1, h2⟩ := isMask_24 h
    obtain ⟨n, rfl⟩ := Int.eq_ofNat_of_zero_le h1
    refine Ev.congr (fun k => by rw [hf k, if_pos h]) ?_
    rw [if_pos h]
    exact Ev.bind (members_ev (by omega)) (Ev.now _)
  · refine Ev.of_all fun k => ?_
    rw [hf k, if_neg h, if_neg h]
end Go.Proofs.YtdbdlhjhacbjoaaDoor.T

namespace Go.Proofs.YtdbdlhjhacbjoaaDoor.T
open Go Go.RowKit Go.Proofs.YtdbdlhjhacbjoaaDoorW.PrintWords Go.Proofs.YtdbdlhjhacbjoaaDoorW.PrintMore Go.Proofs.YtdbdlhjhacbjoaaDoor.G

/-- The set of the elements of a list. -/
def maskN (l : List Int) : Nat := l.foldl (fun m x => m ||| 2 ^ x.toNat) 0
theorem foldl_or_lt {b : Nat} (l : List Int) (hl : ∀ x ∈ l, 0 ≤ x ∧ x < (b : Int)) : ∀ m, m < 2 ^ b → l.foldl (fun m x => m ||| 2 ^ x.toNat) m < 2 ^ b := by
  induction l with
  | nil => intro m hm; exact hm
  | cons x l ih =>
    intro m hm
    have hx := hl x List.mem_cons_self
    exact ih (fun y hy => hl y (List.mem_cons_of_mem _ hy)) _ (Nat.or_lt_two_pow hm (Nat.pow_lt_pow_right (by decide) (by omega)))
theorem maskN_take_succ {l : List Int} {i : Nat} (h : i < l.length) : maskN (l.take (i + 1)) = maskN (l.take i) ||| 2 ^ l[i].toNat := by
  unfold maskN
  rw [List.take_succ_eq_append_getElem h, List.foldl_append]
  rfl
theorem maskN_lt {b : Nat} {l : List Int} (hl : ∀ x ∈ l, 0 ≤ x ∧ x < (b : Int)) (i : Nat) : maskN (l.take i) < 2 ^ b :=
  foldl_or_lt _ (fun x hx => hl x (List.mem_of_mem_take hx)) 0 (Nat.two_pow_pos b)
theorem or_step {l : List Int} {b : Nat} (hb : b ≤ 63) (hl : ∀ x ∈ l, 0 ≤ x ∧ x < (b : Int)) {i : Nat} (hi : i < l.length) :
    Go.bits .or .i64 ((maskN (l.take i) : Nat) : Int) ((2 ^ l[i].toNat : Nat) : Int) = ((maskN (l.take (i + 1)) : Nat) : Int) := by
  have h1 := maskN_lt hl i
  have hp : 2 ^ b ≤ 2 ^ 63 := Nat.pow_le_pow_right (by decide) hb
  have e : 2 ^ 63 = 9223372036854775808 := by decide
  have hx := hl _ (List.getElem_mem hi)
  have h2 : 2 ^ l[i].toNat < 2 ^ b := Nat.pow_lt_pow_right (by decide) (by omega)
  rw [bor (by omega) (by omega), maskN_take_succ hi]
theorem implMask_loop (l : List Int) (hl : l.length < 4611686018427387904) (hr : ∀ x ∈ l, 0 ≤ x ∧ x < (62 : Int)) : ∀ (d i : Nat), i + d = l.length → Ev (fun k => impl_maskOf.l0 k ((maskN (l.take i) : Nat) : Int) l (l.length : Int) (i : Int)) ((maskN l : Nat) : Int)
  | 0, i, h => by
    refine Ev.step (f := fun _ => some ((maskN l : Nat) : Int)) (fun k => ?_) (Ev.now _)
    obtain rfl : i = l.length := by omega
    simp only [impl_maskOf.l0]
    rw [if_neg (by omega), List.take_length]
  | d + 1, i, h => by
    have hi : i < l.length := by omega
    refine Ev.step (fun k => ?_) (implMask_loop l hl hr d (i + 1) (by omega))
    have hx := hr _ (List.getElem_mem hi)
    have ho : impl_one.f l[i] = some ((2 ^ l[i].toNat : Nat) : Int) := by
      have := one_eq (n := l[i].toNat) (by omega)
      rwa [Int.toNat_of_nonneg hx.1] at this
    simp only [impl_maskOf.l0]
    rw [if_pos (by omega), if_pos (by omega), if_pos (by omega), rd_nat hi, ho, Option.bind_some, or_step (b := 62) (by decide) hr hi, wrap_id (by omega) (by omega)]
    rfl
theorem implMask_ev (l : List Int) (hl : l.length < 4611686018427387904) (hr : ∀ x ∈ l, 0 ≤ x ∧ x < (62 : Int)) : Ev (fun k => impl_maskOf.f k l) ((maskN l : Nat) : Int) := by
  refine Ev.congr (fun k => ?_) (implMask_loop l hl hr l.length 0 (by omega))
  rfl
/-- All elements are elements of a set. -/
def inSet (l : List Int) : Bool := l.all fun x => decide (0 ≤ x ∧ x ≤ 23)
theorem implMaskOf_ev (l : List Int) (hl : l.length < 4611686018427387904) : Ev (fun k => impl_MaskOf.f k l) (if inSet l then (((maskN l : Nat) : Int), 0) else (0, 2)) := by
  have hf : ∀ k, impl_MaskOf.f k l = if inSet l then ((impl_maskOf.f k l).bind fun t => some (t, 0)) else some (0, 2) := by
    intro k
    unfold impl_MaskOf.f inSet
    rw [allIn_eq, Option.bind_some]
  by_cases h : inSet l = true
  · refine Ev.congr (fun k => by rw [hf k, if_pos h]) ?_
    rw [if_pos h]
    refine Ev.bind (implMask_ev l hl ?_) (Ev.now _)
    unfold inSet at h
    rw [List.all_eq_true] at h
    intro x hx
    have := of_decide_eq_true (h x hx)
    omega
  · refine Ev.of_all fun k => ?_
    rw [hf k, if_neg h, if_neg h]
end Go.Proofs.YtdbdlhjhacbjoaaDoor.T

namespace Go.Proofs.YtdbdlhjhacbjoaaDoor.T
set_option linter.unusedVariables false
set_option linter.unusedSimpArgs false
open Go Go.RowKit Go.Proofs.YtdbdlhjhacbjoaaDoorW.PrintWords Go.Proofs.YtdbdlhjhacbjoaaDoorW.PrintMore Go.Proofs.YtdbdlhjhacbjoaaDoor.G

/-- A loop that counts up to n. -/
theorem loop_ev {α : Type} (n : Nat) (G : Nat → Nat → Option α) {r : α} (hn : Ev (G n) r) (hs : ∀ i, i < n → Ev (G (i + 1)) r → Ev (G i) r) : Ev (G 0) r := by
  have : ∀ d i, i + d = n → Ev (G i) r := by
    intro d
    induction d with
    | zero => intro i h; obtain rfl : i = n := by omega
              exact hn
    | succ d ih => intro i h; exact hs i (by omega) (ih (i + 1) (by omega))
  exact this n 0 (by omega)
theorem pow_62 {n : Nat} (h : n ≤ 62) : 2 ^ n ≤ 4611686018427387904 := by
  have : 2 ^ n ≤ 2 ^ 62 := Nat.pow_le_pow_right (by decide) h
  have e : 2 ^ 62 = 4611686018427387904 := by decide
  omega
/-- A relation as a list of sets. -/
structure IsRelN (r : List Nat) : Prop where
  len : r.length ≤ 24
  lt : ∀ x ∈ r, x < 2 ^ r.length
theorem IsRelN.bit {r : List Nat} (h : IsRelN r) {i j : Nat} (hi : i < r.length) (hj : r[i].testBit j = true) : j < r.length := by
  rcases Nat.lt_or_ge j r.length with h1 | h1
  · exact h1
  · rw [Nat.testBit_lt_two_pow (Nat.lt_of_lt_of_le (h.lt _ (List.getElem_mem hi)) (Nat.pow_le_pow_right (by decide) h1))] at hj
    cases hj
theorem rd_ints {r : List Nat} {i : Nat} (h : i < r.length) : rd (ints r) (i : Int) = ((r[i] : Nat) : Int) := by
  rw [rd_nat (by rw [ints_length]; exact h)]
  simp [ints]
end Go.Proofs.YtdbdlhjhacbjoaaDoor.T

namespace Go.Proofs.YtdbdlhjhacbjoaaDoor.T
set_option linter.unusedVariables false
set_option linter.unusedSimpArgs false

/-- From i chains of related elements lead to j. -/
def Reach (r : Nat → Nat) (i j : Nat) : Prop := ∀ S : Nat → Prop, S i → (∀ a b, S a → (r a).testBit b = true → S b) → S j
theorem Reach.step {r : Nat → Nat} {i j k : Nat} (h : Reach r i j) (hk : (r j).testBit k = true) : Reach r i k := fun S h0 hs => hs j k (h S h0 hs) hk
/-! ### by rounds -/
/-! ### by one pass over the middle elements -/
end Go.Proofs.YtdbdlhjhacbjoaaDoor.T

namespace Go.Proofs.YtdbdlhjhacbjoaaDoor.T
set_option linter.unusedVariables false
set_option linter.unusedSimpArgs false
open Go Go.RowKit Go.Proofs.YtdbdlhjhacbjoaaDoorW.PrintWords Go.Proofs.YtdbdlhjhacbjoaaDoorW.PrintMore Go.Proofs.YtdbdlhjhacbjoaaDoor.G

theorem mem_bits {m j : Nat} (hm : m < 18446744073709551616) : j ∈ bitsL m ↔ m.testBit j = true := mem_bitsL hm
theorem bits_lt {m n j : Nat} (hm : m < 2 ^ n) (hn : n ≤ 62) (h : j ∈ bitsL m) : j < n := by
  have hp := pow_62 hn
  rw [mem_bits (by omega)] at h
  rcases Nat.lt_or_ge j n with h1 | h1
  · exact h1
  · rw [Nat.testBit_lt_two_pow (Nat.lt_of_lt_of_le hm (Nat.pow_le_pow_right (by decide) h1))] at h
    cases h
end Go.Proofs.YtdbdlhjhacbjoaaDoor.T

namespace Go.Proofs.YtdbdlhjhacbjoaaDoor.T
set_option linter.unusedVariables false
set_option linter.unusedSimpArgs false
open Go Go.RowKit Go.Proofs.YtdbdlhjhacbjoaaDoorW.PrintWords Go.Proofs.YtdbdlhjhacbjoaaDoorW.PrintMore Go.Proofs.YtdbdlhjhacbjoaaDoor.G

theorem bits5_loop {m : Nat} (hm : m < 9223372036854775808) : ∀ (d i : Nat), i + d = 64 → Ev (fun k => laws_bits5.l0 k ((m / 2 ^ i : Nat) : Int) ((membersTo m i).length : Int)) ((bitsL m).length : Int)
  | 0, i, h => by
    obtain rfl : i = 64 := by omega
    refine Ev.step (f := fun _ => some ((bitsL m).length : Int)) (fun k => ?_) (Ev.now _)
    have : m / 2 ^ 64 = 0 := Nat.div_eq_of_lt (by omega)
    simp only [laws_bits5.l0]
    rw [this, if_neg (by simp)]
    have e : membersTo m 64 = ints (bitsL m) := rfl
    rw [e, ints_length]
  | d + 1, i, h => by
    by_cases h0 : m / 2 ^ i = 0
    · refine Ev.step (f := fun _ => some ((bitsL m).length : Int)) (fun k => ?_) (Ev.now _)
      simp only [laws_bits5.l0]
      have e : membersTo m 64 = ints (bitsL m) := rfl
      rw [h0, if_neg (by simp), ← membersTo_done (d + 1) i h0, h, e, ints_length]
    · have ih := bits5_loop hm d (i + 1) (by omega)
      have hle : m / 2 ^ i ≤ m := Nat.div_le_self _ _
      have hdiv : m / 2 ^ (i + 1) = m / 2 ^ i / 2 := by rw [Nat.pow_succ, Nat.div_div_eq_div_mul]
      have hbit : m.testBit i = decide (m / 2 ^ i % 2 = 1) := Nat.testBit_eq_decide_div_mod_eq
      have hl := membersTo_length m i
      have e1 : Int.tdiv ((m / 2 ^ i : Nat) : Int) 2 = ((m / 2 ^ (i + 1) : Nat) : Int) := by
        rw [hdiv]
        exact (Int.ofNat_tdiv _ _).symm
      have e2 : Int.tmod ((m / 2 ^ i : Nat) : Int) 2 = ((m / 2 ^ i % 2 : Nat) : Int) := (Int.ofNat_tmod _ _).symm
      have hle2 : m / 2 ^ (i + 1) ≤ m := Nat.div_le_self _ _
      have hs := membersTo_succ m i
      rw [hbit] at hs
      rw [hs] at ih
      clear hs hbit hdiv
      generalize m / 2 ^ (i + 1) = q' at *
      generalize m / 2 ^ i = q at *
      refine Ev.step (fun k => ?_) ih
      simp only [laws_bits5.l0]
      rw [if_pos (by omega), e1, e2, wrap_id (x := ((q' : Nat) : Int)) (by omega) (by omega), wrap_id (x := ((membersTo m i).length : Int) + _) (by omega) (by omega)]
      by_cases hb : q % 2 = 1
      · rw [if_pos (decide_eq_true hb), List.length_append, hb]
        rfl
      · rw [if_neg (by simpa using hb), show q % 2 = 0 by omega]
        simp
theorem bits5_ev {m : Nat} (hm : m < 9223372036854775808) : Ev (fun k => laws_bits5.f k (m : Int)) ((bitsL m).length : Int) := by
  have := bits5_loop hm 64 0 (by omega)
  refine Ev.congr (fun k => ?_) this
  unfold laws_bits5.f
  simp [membersTo, ints]
theorem bitsL_sorted (m : Nat) : (bitsL m).Pairwise (· < ·) := List.Pairwise.filter _ List.pairwise_lt_range
theorem testBit_foldl_maskN (j : Nat) : ∀ (l : List Int) (m : Nat), (l.foldl (fun m x => m ||| 2 ^ x.toNat) m).testBit j = (m.testBit j || l.any fun x => decide (x.toNat = j))
  | [], m => by simp
  | x :: l, m => by
    rw [List.foldl_cons, testBit_foldl_maskN j l, Nat.testBit_or, Nat.testBit_two_pow, List.any_cons, Bool.or_assoc]
theorem maskN_of {m : Nat} {mixed : List Int} (h1 : ∀ x ∈ mixed, ∃ j : Nat, x = (j : Int) ∧ m.testBit j = true) (h2 : ∀ j, m.testBit j = true → (j : Int) ∈ mixed) : maskN mixed = m := by
  apply Nat.eq_of_testBit_eq
  intro j
  unfold maskN
  rw [testBit_foldl_maskN, Nat.zero_testBit, Bool.false_or, Bool.eq_iff_iff, List.any_eq_true]
  constructor
  · rintro ⟨x, hx, he⟩
    obtain ⟨i, rfl, hi⟩ := h1 x hx
    rw [decide_eq_true_eq, Int.toNat_natCast] at he
    rwa [← he]
  · intro h
    exact ⟨_, h2 j h, by simp⟩
theorem maskLoop1 {l : List Int} (hl : IsCode l) {m : Nat} (hm : m < 16777216) : ∀ (j : Nat) (mixed : List Int) (i s : Int), j ≤ (bitsL m).length → 0 ≤ i ∧ i ≤ (l.length : Int) → mixed.length + 2 * j ≤ 1000 →
    (∀ x ∈ mixed, ∃ t : Nat, x = (t : Int) ∧ m.testBit t = true) → (∀ t (ht : t < (bitsL m).length), j ≤ t → (((bitsL m)[t] : Nat) : Int) ∈ mixed) →
    Ev (fun k => laws_FnMasks.l1 k (m : Int) (ints (bitsL m)) mixed ((j : Int) - 1) l i s) true
  | 0, mixed, i, s, hj, hi, hlen, h1, h2 => by
    have hall : inSet mixed = true := by
      unfold inSet
      rw [List.all_eq_true]
      intro x hx
      obtain ⟨t, rfl, ht⟩ := h1 x hx
      have := bits_lt (m := m) (n := 24) hm (by decide) ((mem_bits (by omega)).2 ht)
      rw [decide_eq_true_eq]
      omega
    have hb : Ev (fun k => (impl_MaskOf.f k mixed).bind fun bt => if bt.2 = 0 then some (bt.1 == (m : Int)) else some false) true := by
      refine Ev.bind (implMaskOf_ev mixed (by omega)) ?_
      rw [if_pos hall]
      have e : maskN mixed = m := maskN_of h1 (fun t ht => by
        have hm' : t ∈ bitsL m := (mem_bits (by omega)).2 ht
        obtain ⟨q, hq, e⟩ := List.getElem_of_mem hm'
        have := h2 q hq (Nat.zero_le _)
        rwa [e] at this)
      rw [e]
      simp
      exact Ev.now _
    refine Ev.step (fun k => ?_) hb
    simp only [laws_FnMasks.l1]
    rw [if_neg (by omega)]
  | j + 1, mixed, i, s, hj, hi, hlen, h1, h2 => by
    have hlt : j < (bitsL m).length := by omega
    have hbl := bitsL_length m
    have hin : ∀ t (ht : t < (bitsL m).length), m.testBit ((bitsL m)[t]) = true := fun t ht => (mem_bits (by omega)).1 (List.getElem_mem ht)
    obtain ⟨x1, i1, s1, e1, _, _, hi1⟩ := dice_below_spec hl hi s (n := 3) (by decide)
    by_cases hx : x1 = 0
    · obtain ⟨x2, i2, s2, e2, h20, h2n, hi2⟩ := dice_below_spec hl hi1 s1 (n := ((bitsL m).length : Int)) (by omega)
      obtain ⟨y, rfl⟩ := Int.eq_ofNat_of_zero_le h20
      have hy : y < (bitsL m).length := by omega
      have ih := maskLoop1 hl hm j (mixed ++ [(((bitsL m)[j] : Nat) : Int)] ++ [(((bitsL m)[y] : Nat) : Int)]) i2 s2 (by omega) hi2 (by simp; omega)
        (by
          intro x hx'
          rw [List.mem_append, List.mem_append, List.mem_singleton, List.mem_singleton] at hx'
          rcases hx' with (hx' | rfl) | rfl
          · exact h1 x hx'
          · exact ⟨_, rfl, hin j hlt⟩
          · exact ⟨_, rfl, hin y hy⟩)
        (by
          intro t ht hjt
          rw [List.mem_append, List.mem_append, List.mem_singleton]
          by_cases e : t = j
          · subst e; exact Or.inl (Or.inr rfl)
          · exact Or.inl (Or.inl (h2 t ht (by omega))))
      refine Ev.step (fun k => ?_) ih
      simp only [laws_FnMasks.l1]
      rw [show (((j + 1 : Nat) : Int) - 1) = (j : Int) by omega, if_pos (by omega), if_pos (by omega), if_pos (by rw [ints_length]; omega), if_pos (by omega), Option.bind_some, e1, Option.bind_some, if_pos hx, ints_length, e2, Option.bind_some, if_pos (by omega), if_pos (by omega), if_pos (by simp; omega), rd_ints hlt, rd_ints hy, wrap_id (by omega) (by omega)]
    · have ih := maskLoop1 hl hm j (mixed ++ [(((bitsL m)[j] : Nat) : Int)]) i1 s1 (by omega) hi1 (by simp; omega)
        (by
          intro x hx'
          rw [List.mem_append, List.mem_singleton] at hx'
          rcases hx' with hx' | rfl
          · exact h1 x hx'
          · exact ⟨_, rfl, hin j hlt⟩)
        (by
          intro t ht hjt
          rw [List.mem_append, List.mem_singleton]
          by_cases e : t = j
          · subst e; exact Or.inr rfl
          · exact Or.inl (h2 t ht (by omega)))
      refine Ev.step (fun k => ?_) ih
      simp only [laws_FnMasks.l1]
      rw [show (((j + 1 : Nat) : Int) - 1) = (j : Int) by omega, if_pos (by omega), if_pos (by omega), if_pos (by rw [ints_length]; omega), if_pos (by omega), Option.bind_some, e1, Option.bind_some, if_neg hx, rd_ints hlt, wrap_id (by omega) (by omega)]
theorem maskLoop0 {l : List Int} (hl : IsCode l) {m : Nat} (hm : m < 16777216) {i : Int} (hi : 0 ≤ i ∧ i ≤ (l.length : Int)) (s : Int) : Ev (fun k => laws_FnMasks.l0 k (m : Int) (ints (bitsL m)) 0 l i s) true := by
  have hbl := bitsL_length m
  refine loop_ev (bitsL m).length (fun t k => laws_FnMasks.l0 k (m : Int) (ints (bitsL m)) (t : Int) l i s) ?_ ?_
  · refine Ev.step (fun k => ?_) (maskLoop1 hl hm (bitsL m).length [] i s (Nat.le_refl _) hi (by simp; omega) (by simp) (fun t ht h => absurd ht (by omega)))
    simp only [laws_FnMasks.l0]
    rw [if_neg (by rw [ints_length]; omega), ints_length, wrap_id (by omega) (by omega)]
  · intro t ht ih
    have hb : m.testBit ((bitsL m)[t]) = true := (mem_bits (by omega)).1 (List.getElem_mem ht)
    have hlt := bits_lt (m := m) (n := 24) hm (by decide) (List.getElem_mem ht)
    refine Ev.step (fun k => ?_) ih
    simp only [laws_FnMasks.l0]
    rw [if_pos (by rw [ints_length]; omega), if_pos (by omega), rd_ints ht, u64_id (by omega) (by omega), if_pos (by omega), shr_and_one (by omega), hb, if_neg (by simp)]
    by_cases h0 : t = 0
    · subst h0
      rw [if_neg (by simp), wrap_id (by omega) (by omega)]
      rfl
    · have hp : t - 1 < (bitsL m).length := by omega
      have hlt2 : (bitsL m)[t - 1] < (bitsL m)[t] := List.pairwise_iff_getElem.1 (bitsL_sorted m) (t - 1) t hp ht (by omega)
      rw [if_pos (by omega), wrap_id (x := (t : Int) - 1) (by omega) (by omega), show (t : Int) - 1 = ((t - 1 : Nat) : Int) by omega, if_pos (by omega), if_pos (by rw [ints_length]; omega), rd_ints hp, if_neg (by omega), wrap_id (x := (t : Int) + 1) (by omega) (by omega)]
      rfl
theorem masks_yes {m : Nat} (hm : m < 16777216) : isMask (m : Int) 24 = true := by
  unfold isMask isM
  have e : ((2 ^ (24 : Int).toNat - 1 : Nat) : Int) = 16777215 := by decide
  rw [e, Bool.and_eq_true, decide_eq_true_eq, decide_eq_true_eq]
  omega
theorem masks_no {m : Nat} (hm : m < 16777216) : isMask (Go.bits .or .i64 (m : Int) 16777216) 24 = false := by
  have e0 : Go.bits .or .i64 (m : Int) 16777216 = ((m ||| 16777216 : Nat) : Int) := bor (b := 16777216) (by omega) (by omega)
  have hge : 16777216 ≤ m ||| 16777216 := Nat.right_le_or
  rw [e0]
  generalize m ||| 16777216 = x at hge
  unfold isMask isM
  have e : ((2 ^ (24 : Int).toNat - 1 : Nat) : Int) = 16777215 := by decide
  rw [e, Bool.and_eq_false_iff]
  refine Or.inr ?_
  rw [decide_eq_false_iff_not]
  omega
theorem masks_mem {m : Nat} (hm : m < 16777216) : Ev (fun k => impl_MembersOf.f k (m : Int)) (ints (bitsL m), 0) := by
  have := implMembersOf_ev (m : Int)
  unfold membersOf at this
  rwa [if_pos (masks_yes hm), Int.toNat_natCast] at this
theorem masks_main {l0 : List Int} (hl : IsCode l0) (m : Nat) (hm : m < 16777216) {i : Int} (hi : 0 ≤ i ∧ i ≤ (l0.length : Int)) (s : Int) : Ev (fun k => (impl_MembersOf.f k (m : Int)).bind fun bt134 => (if bt134.2 = 0 then ((laws_bits5.f k (m : Int)).bind fun t138 => (if (bt134.1.length : Int) = t138 then ((impl_IsMask.f (m : Int) 24).bind fun t139 => (if t139 = true then ((impl_IsMask.f (Go.bits .or .i64 (m : Int) 16777216) 24).bind fun t140 => (laws_FnMasks.j0 k (m : Int) bt134.1 t140 l0 i s)) else (laws_FnMasks.j0 k (m : Int) bt134.1 true l0 i s))) else (laws_FnMasks.j0 k (m : Int) bt134.1 true l0 i s))) else (laws_FnMasks.j0 k (m : Int) bt134.1 true l0 i s))) true := by
  refine Ev.bind (masks_mem hm) ?_
  simp only [if_true]
  refine Ev.bind (bits5_ev (by omega)) ?_
  simp only [ints_length, if_true, implIsMask_eq, masks_yes hm, masks_no hm, Option.bind_some]
  refine Ev.step (fun k => ?_) (maskLoop0 hl hm hi s)
  simp only [laws_FnMasks.j0]
  simp
theorem masks_em {a b : Nat} (ha : (a : Int) < 4096) (hb : (b : Int) < 4096) : wrap64 ((wrap64 ((a : Int) * 4096)) + (b : Int)) = ((a * 4096 + b : Nat) : Int) := by
  rw [wrap_id (x := (a : Int) * 4096) (by omega) (by omega), wrap_id (by omega) (by omega)]
  omega
theorem FnMasks (l0 : List Int) (_ : l0.length ≤ maxLen) (hw : ∀ x ∈ l0, (Lit.int .u8 x).wf = true) : ∃ k, laws_FnMasks.f k l0 = some true := by
  by_cases hbig : (l0.length : Int) > 4096
  · refine ⟨0, ?_⟩
    unfold laws_FnMasks.f laws_big.f
    rw [decide_eq_true hbig, Option.bind_some, if_pos rfl]
  have hl : IsCode l0 := ⟨by omega, fun x hx => wf_u8 (hw x hx)⟩
  refine Ev.rounds (g := fun k => laws_FnMasks.f k l0) ?_
  obtain ⟨h, hroll⟩ := roll_ev l0 (by omega) 502
  unfold laws_FnMasks.f laws_big.f
  simp only [decide_eq_false hbig, Option.bind_some, Bool.false_eq_true, if_false]
  refine Ev.bind hroll ?_
  simp only
  obtain ⟨x1, i1, s1, e1, h10, h1n, hi1⟩ := dice_below_spec hl (i := 0) ⟨by omega, by omega⟩ h (n := 4096) (by omega)
  obtain ⟨x2, i2, s2, e2, h20, h2n, hi2⟩ := dice_below_spec hl hi1 s1 (n := 4096) (by omega)
  obtain ⟨a, rfl⟩ := Int.eq_ofNat_of_zero_le h10
  obtain ⟨b, rfl⟩ := Int.eq_ofNat_of_zero_le h20
  refine Ev.congr (fun k => ?_) (masks_main hl (a * 4096 + b) (by omega) hi2 s2)
  rw [e1, Option.bind_some, e2, Option.bind_some, masks_em h1n h2n]
end Go.Proofs.YtdbdlhjhacbjoaaDoor.T
