/- The pure side of FnExactNeighboursOf: the law's plain function answers true at all inputs; before it, all that this needs. -/
import Derived.Test.YtclabhnloohccaaDoorWMore
import Derived.Test.YtclabhnloohccaaDoorWWords
import Derived.Laws.BitsLemmas
import Derived.Lib.TrailingZeros
import Derived.Test.YtclabhnloohccaaDoorGLawFnExactNeighboursOf
import Derived.Test.YtclabhnloohccaaDoorGQ00a
import Derived.Test.YtclabhnloohccaaDoorGQ00b
import Derived.Test.YtclabhnloohccaaDoorGQ00c
import Derived.Test.YtclabhnloohccaaDoorGQ00d
import Derived.Test.YtclabhnloohccaaDoorGQ00e
import Derived.Test.YtclabhnloohccaaDoorGQ01
import Derived.Test.YtclabhnloohccaaDoorGQ04
import Derived.Test.YtclabhnloohccaaDoorGQ05
import Derived.Test.YtclabhnloohccaaDoorGQ10
import Derived.Test.YtclabhnloohccaaDoorGQ11a
import Derived.Test.YtclabhnloohccaaDoorGQ11b
import Derived.Test.YtclabhnloohccaaDoorGQ11c
namespace Go.Proofs.YtclabhnloohccaaDoor.T
open Go Go.RowKit Go.Proofs.YtclabhnloohccaaDoorW.PrintWords Go.Proofs.YtclabhnloohccaaDoorW.PrintMore

theorem wrap_id {x : Int} (h1 : -9223372036854775808 ≤ x) (h2 : x ≤ 9223372036854775807) : wrap64 x = x := by unfold wrap64; omega
theorem i64_id {n : Int} (h1 : -9223372036854775808 ≤ n) (h2 : n ≤ 9223372036854775807) : IntKind.i64.wrap n = n := by rw [IntKind.wrap_i64]; omega
theorem u64_id {n : Int} (h1 : 0 ≤ n) (h2 : n < 18446744073709551616) : IntKind.u64.wrap n = n := by
  simp [IntKind.wrap, IntKind.bits, IntKind.signed]; omega
theorem rd_nat {l : List Int} {i : Nat} (h : i < l.length) : rd l (i : Int) = l[i] := by simp [rd, h]
theorem pow_lt63 {n : Nat} (h : n ≤ 62) : 2 ^ n < 9223372036854775808 := by
  have : 2 ^ n ≤ 2 ^ 62 := Nat.pow_le_pow_right (by decide) h
  have e : 2 ^ 62 = 4611686018427387904 := by decide
  omega
theorem shl_one {n : Nat} (h : n ≤ 62) : shl .i64 1 (n : Int) = ((2 ^ n : Nat) : Int) := by
  unfold shl
  have hb : IntKind.i64.bits = 64 := rfl
  rw [Int.one_mul, hb, Int.toNat_natCast, Nat.min_eq_left (by omega)]
  have := pow_lt63 h
  have e : (2 : Int) ^ n = ((2 ^ n : Nat) : Int) := by push_cast; rfl
  rw [e]
  generalize 2 ^ n = m at this ⊢
  exact i64_id (by omega) (by omega)
theorem band {a b : Nat} (ha : a < 9223372036854775808) (hb : b < 9223372036854775808) : Go.bits .and .i64 (a : Int) (b : Int) = ((a &&& b : Nat) : Int) := by
  have hc : a &&& b < 9223372036854775808 := Nat.lt_of_le_of_lt Nat.and_le_left ha
  have e : (BitVec.ofInt 64 (a : Int) &&& BitVec.ofInt 64 (b : Int)).toNat = a &&& b := by
    rw [BitVec.ofInt_natCast, BitVec.ofInt_natCast, BitVec.toNat_and, BitVec.toNat_ofNat, BitVec.toNat_ofNat, Nat.mod_eq_of_lt (by omega), Nat.mod_eq_of_lt (by omega)]
  show IntKind.i64.wrap (((BitVec.ofInt 64 (a : Int) &&& BitVec.ofInt 64 (b : Int)).toNat : Nat) : Int) = _
  rw [e, i64_id] <;> omega
theorem bor {a b : Nat} (ha : a < 9223372036854775808) (hb : b < 9223372036854775808) : Go.bits .or .i64 (a : Int) (b : Int) = ((a ||| b : Nat) : Int) := by
  have hc : a ||| b < 9223372036854775808 := Nat.or_lt_two_pow (n := 63) ha hb
  have e : (BitVec.ofInt 64 (a : Int) ||| BitVec.ofInt 64 (b : Int)).toNat = a ||| b := by
    rw [BitVec.ofInt_natCast, BitVec.ofInt_natCast, BitVec.toNat_or, BitVec.toNat_ofNat, BitVec.toNat_ofNat, Nat.mod_eq_of_lt (by omega), Nat.mod_eq_of_lt (by omega)]
  show IntKind.i64.wrap (((BitVec.ofInt 64 (a : Int) ||| BitVec.ofInt 64 (b : Int)).toNat : Nat) : Int) = _
  rw [e, i64_id] <;> omega
theorem shr_and_one {m i : Nat} (hm : m < 9223372036854775808) : Go.bits .and .i64 (shr .i64 (m : Int) (i : Int)) 1 = ((if m.testBit i then 1 else 0 : Nat) : Int) := by
  have h0 : shr .i64 (m : Int) (i : Int) = ((m / 2 ^ i : Nat) : Int) := by
    unfold shr
    rw [Int.toNat_natCast, show IntKind.i64.bits = 64 from rfl]
    by_cases hi : i ≤ 64
    · rw [Nat.min_eq_left hi]; simp
    · rw [Nat.min_eq_right (by omega)]
      have h64 : 2 ^ 64 ≤ 2 ^ i := Nat.pow_le_pow_right (by decide) (by omega)
      have e : (2 : Nat) ^ 64 = 18446744073709551616 := by decide
      rw [Nat.div_eq_of_lt (by omega)]
      have : ((2 : Int) ^ 64) = 18446744073709551616 := by decide
      rw [this]; simp only [Int.natCast_zero]; omega
  have hlt : m / 2 ^ i < 9223372036854775808 := Nat.lt_of_le_of_lt (Nat.div_le_self _ _) hm
  rw [h0, show (1 : Int) = ((1 : Nat) : Int) from rfl, band hlt (by decide)]
  congr 1
  rw [Nat.and_one_is_mod, Nat.testBit_eq_decide_div_mod_eq]
  have := Nat.mod_two_eq_zero_or_one (m / 2 ^ i)
  rcases this with h | h <;> simp [h]
/-- From some number of rounds on. -/
theorem Ev.of_all {α : Type} {g : Nat → Option α} {r : α} (h : ∀ k, g k = some r) : Ev g r := ⟨0, fun k _ => h k⟩
end Go.Proofs.YtclabhnloohccaaDoor.T

namespace Go.Proofs.YtclabhnloohccaaDoor.T
open Go Go.RowKit Go.Proofs.YtclabhnloohccaaDoorW.PrintWords Go.Proofs.YtclabhnloohccaaDoorW.PrintMore Go.Proofs.YtclabhnloohccaaDoor.G

theorem l01In_eq (a b c : Int) : spec_l01In.f a b c = some (decide (b ≤ a ∧ a ≤ c)) := by
  unfold spec_l01In.f
  by_cases h : a ≥ b
  · rw [if_pos h]; simp [show b ≤ a from h]
  · rw [if_neg h]; simp [show ¬ b ≤ a from h]
theorem inRange_eq (a b c : Int) : impl_inRange.f a b c = some (decide (b ≤ a ∧ a ≤ c)) := by
  unfold impl_inRange.f
  by_cases h : b ≤ a
  · rw [if_pos h]; simp [h]
  · rw [if_neg h]; simp [h]
theorem l01One_eq {n : Nat} (h : n ≤ 62) : spec_l01One.f (n : Int) = some ((2 ^ n : Nat) : Int) := by
  unfold spec_l01One.f
  rw [u64_id (by omega) (by omega), if_pos (by omega), shl_one h]
theorem one_eq {n : Nat} (h : n ≤ 62) : impl_one.f (n : Int) = some ((2 ^ n : Nat) : Int) := by
  unfold impl_one.f
  rw [if_pos (by omega), shl_one h]
theorem wrap_pow {n : Nat} (h : n ≤ 62) : wrap64 (((2 ^ n : Nat) : Int) - 1) = ((2 ^ n - 1 : Nat) : Int) := by
  have h1 := pow_lt63 h
  have h2 : 0 < 2 ^ n := Nat.two_pow_pos n
  generalize 2 ^ n = m at *
  rw [wrap_id (by omega) (by omega)]
  omega
theorem l01Full_eq {n : Nat} (h : n ≤ 62) : spec_l01Full.f (n : Int) = some ((2 ^ n - 1 : Nat) : Int) := by
  unfold spec_l01Full.f
  rw [l01One_eq h, Option.bind_some, wrap_pow h]
/-- A number is a mask of n elements. -/
def isM (n : Nat) (x : Int) : Bool := decide (0 ≤ x ∧ x ≤ ((2 ^ n - 1 : Nat) : Int))
theorem isM_eq (n : Nat) (x : Int) : isM n x = (decide (0 ≤ x) && decide (x ≤ ((2 ^ n - 1 : Nat) : Int))) := by simp [isM]
theorem l01Masks_loop (n : Nat) (hn : n ≤ 62) (l : List Int) (hl : l.length < 4611686018427387904) : ∀ (d i : Nat), i + d = l.length → (l.take i).all (isM n) = true → Ev (fun k => spec_l01Masks.l0 k (n : Int) l (i : Int)) (l.all (isM n))
  | 0, i, h, ht => by
    refine Ev.step (f := fun _ => some (l.all (isM n))) (fun k => ?_) (Ev.now _)
    obtain rfl : i = l.length := by omega
    simp only [spec_l01Masks.l0]
    rw [if_neg (by omega)]
    rw [List.take_length] at ht
    rw [ht]
  | d + 1, i, h, ht => by
    have hi : i < l.length := by omega
    by_cases e : isM n l[i] = true
    · have ih := l01Masks_loop n hn l hl d (i + 1) (by omega) (by rw [List.take_succ_eq_append_getElem hi, List.all_append, ht]; simp [e])
      refine Ev.step (fun k => ?_) ih
      simp only [spec_l01Masks.l0]
      rw [if_pos (by omega), if_pos (by omega), l01Full_eq hn, Option.bind_some, l01In_eq, Option.bind_some, rd_nat hi]
      unfold isM at e
      rw [e, if_pos rfl, wrap_id (by omega) (by omega)]
      rfl
    · refine Ev.step (f := fun _ => some (l.all (isM n))) (fun k => ?_) (Ev.now _)
      have ha : l.all (isM n) = false := by
        rw [List.all_eq_false]
        exact ⟨_, List.getElem_mem hi, e⟩
      simp only [spec_l01Masks.l0]
      rw [if_pos (by omega), if_pos (by omega), l01Full_eq hn, Option.bind_some, l01In_eq, Option.bind_some, rd_nat hi, ha]
      unfold isM at e
      rw [Bool.not_eq_true] at e
      rw [e]
      rfl
theorem l01Masks_ev (n : Nat) (hn : n ≤ 62) (l : List Int) (hl : l.length < 4611686018427387904) : Ev (fun k => spec_l01Masks.f k (n : Int) l) (l.all (isM n)) := by
  refine Ev.congr (fun k => ?_) (l01Masks_loop n hn l hl l.length 0 (by omega) (by simp))
  rfl
/-- A list is a relation. -/
def isRel (l : List Int) : Bool := decide (l.length ≤ 24) && l.all (isM l.length)
theorem allIn_eq (l : List Int) (a b : Int) : impl_allIn.f l a b = some (l.all fun x => decide (a ≤ x ∧ x ≤ b)) := by
  unfold impl_allIn.f
  rw [List.not_any_eq_all_not]
  simp
theorem implIsRelation_eq (l : List Int) : impl_IsRelation.f l = some (isRel l) := by
  unfold impl_IsRelation.f isRel impl_length_int64.f
  by_cases h : l.length ≤ 24
  · rw [if_pos (by omega), Option.bind_some, one_eq (by omega), Option.bind_some, wrap_pow (by omega), allIn_eq, Option.bind_some]
    simp [h, funext (isM_eq l.length)]
  · rw [if_neg (by omega)]
    simp [h]
end Go.Proofs.YtclabhnloohccaaDoor.T

namespace Go.Proofs.YtclabhnloohccaaDoor.T
open Go Go.RowKit Go.Proofs.YtclabhnloohccaaDoorW.PrintWords Go.Proofs.YtclabhnloohccaaDoorW.PrintMore Go.Proofs.YtclabhnloohccaaDoor.G

/-- A list is a word of n letters. -/
def isW (n : Int) (l : List Int) : Bool := decide (l.length ≤ 24) && l.all fun x => decide (0 ≤ x ∧ x ≤ n - 1)
theorem l03Word_loop (n : Int) (hn : -9223372036854775808 < n ∧ n ≤ 9223372036854775807) (l : List Int) (hl : l.length ≤ 24) : ∀ (d i : Nat), i + d = l.length → (∀ x ∈ l.take i, 0 ≤ x ∧ x ≤ n - 1) → Ev (fun k => spec_l03Word.l0 k n l (i : Int)) (isW n l)
  | 0, i, h, ht => by
    refine Ev.step (f := fun _ => some (isW n l)) (fun k => ?_) (Ev.now _)
    obtain rfl : i = l.length := by omega
    rw [List.take_length] at ht
    have : isW n l = true := by
      unfold isW
      rw [decide_eq_true hl, Bool.true_and, List.all_eq_true]
      intro x hx
      exact decide_eq_true (ht x hx)
    simp only [spec_l03Word.l0]
    rw [if_neg (by omega), this]
  | d + 1, i, h, ht => by
    have hi : i < l.length := by omega
    by_cases e : 0 ≤ l[i] ∧ l[i] ≤ n - 1
    · have ht' : ∀ x ∈ l.take (i + 1), 0 ≤ x ∧ x ≤ n - 1 := by
        intro x hx
        rw [List.take_succ_eq_append_getElem hi, List.mem_append, List.mem_singleton] at hx
        rcases hx with hx | rfl
        · exact ht x hx
        · exact e
      refine Ev.step (fun k => ?_) (l03Word_loop n hn l hl d (i + 1) (by omega) ht')
      simp only [spec_l03Word.l0]
      rw [if_pos (by omega), if_pos (by omega), l01In_eq, Option.bind_some, rd_nat hi, wrap_id (x := n - 1) (by omega) (by omega), if_pos (by simpa using e), wrap_id (by omega) (by omega)]
      rfl
    · refine Ev.step (f := fun _ => some (isW n l)) (fun k => ?_) (Ev.now _)
      have : isW n l = false := by
        unfold isW
        rw [decide_eq_true hl, Bool.true_and, List.all_eq_false]
        exact ⟨_, List.getElem_mem hi, by simpa using e⟩
      simp only [spec_l03Word.l0]
      rw [if_pos (by omega), if_pos (by omega), l01In_eq, Option.bind_some, rd_nat hi, wrap_id (x := n - 1) (by omega) (by omega), if_neg (by simpa using e), this]
theorem l03Word_ev (n : Int) (hn : -9223372036854775808 < n ∧ n ≤ 9223372036854775807) (l : List Int) : Ev (fun k => spec_l03Word.f k n l) (isW n l) := by
  by_cases hl : l.length ≤ 24
  · refine Ev.congr (fun k => ?_) (l03Word_loop n hn l hl l.length 0 (by omega) (by simp))
    unfold spec_l03Word.f
    rw [if_neg (by omega)]
    rfl
  · refine Ev.of_all fun k => ?_
    unfold spec_l03Word.f isW
    rw [if_pos (by omega)]
    simp [hl]
end Go.Proofs.YtclabhnloohccaaDoor.T

namespace Go.Proofs.YtclabhnloohccaaDoor.T
set_option linter.unusedVariables false
set_option linter.unusedSimpArgs false
section
variable {α : Type} [DecidableEq α]

/-- The letters of a word that are a or b. -/
def prj (a b : α) (w : List α) : List α := w.filter fun c => decide (c = a) || decide (c = b)
theorem prj_cons (a b c : α) (w : List α) : prj a b (c :: w) = if c = a ∨ c = b then c :: prj a b w else prj a b w := by
  unfold prj
  rw [List.filter_cons]
  by_cases h : c = a ∨ c = b
  · rw [if_pos h, if_pos (by simpa using h)]
  · rw [if_neg h, if_neg (by simpa using h)]
/-- Two words are the same trace: equal projections on all pairs that depend on each other. -/
def Eqv (D : α → α → Bool) (u v : List α) : Prop := ∀ a b, D a b = true → prj a b u = prj a b v
theorem Eqv.refl (D : α → α → Bool) (u : List α) : Eqv D u u := fun _ _ _ => rfl
theorem Eqv.symm {D : α → α → Bool} {u v : List α} (h : Eqv D u v) : Eqv D v u := fun a b hd => (h a b hd).symm
theorem Eqv.trans {D : α → α → Bool} {u v w : List α} (h : Eqv D u v) (k : Eqv D v w) : Eqv D u w := fun a b hd => (h a b hd).trans (k a b hd)
theorem Eqv.cons {D : α → α → Bool} {u v : List α} (c : α) (h : Eqv D u v) : Eqv D (c :: u) (c :: v) := fun a b hd => by
  rw [prj_cons, prj_cons, h a b hd]
theorem Eqv.swap {D : α → α → Bool} (hs : ∀ a b, D a b = D b a) {x y : α} (hxy : D x y = false) (w : List α) : Eqv D (x :: y :: w) (y :: x :: w) := fun a b hd => by
  rw [prj_cons, prj_cons, prj_cons, prj_cons]
  by_cases hx : x = a ∨ x = b
  · by_cases hy : y = a ∨ y = b
    · by_cases e : x = y
      · subst e; rfl
      · exfalso
        rcases hx with rfl | rfl <;> rcases hy with rfl | rfl
        · exact e rfl
        · rw [hd] at hxy; cases hxy
        · rw [hs, hd] at hxy; cases hxy
        · exact e rfl
    · rw [if_pos hx, if_neg hy, if_neg hy, if_pos hx]
  · rw [if_neg hx, if_neg hx]
theorem Eqv.count {D : α → α → Bool} (hr : ∀ a, D a a = true) {u v : List α} (h : Eqv D u v) (a : α) : u.count a = v.count a := by
  have e : ∀ w : List α, (prj a a w).length = w.count a := by
    intro w
    unfold prj
    rw [List.count_eq_countP, List.countP_eq_length_filter]
    congr 2
    funext c
    rw [Bool.eq_iff_iff]
    simp
  rw [← e, ← e, h a a (hr a)]
theorem Eqv.perm {D : α → α → Bool} (hr : ∀ a, D a a = true) {u v : List α} (h : Eqv D u v) : u.Perm v := by
  rw [List.perm_iff_count]
  exact fun a => h.count hr a
theorem Eqv.length {D : α → α → Bool} (hr : ∀ a, D a a = true) {u v : List α} (h : Eqv D u v) : u.length = v.length := (h.perm hr).length_eq
theorem Eqv.filter {D : α → α → Bool} {u v : List α} (h : Eqv D u v) (p : α → Bool) : Eqv D (u.filter p) (v.filter p) := fun a b hd => by
  have e : ∀ w : List α, prj a b (w.filter p) = (prj a b w).filter p := by
    intro w
    unfold prj
    rw [List.filter_filter, List.filter_filter]
    congr 1
    funext c
    rw [Bool.and_comm]
  rw [e, e, h a b hd]
/-- What is left of a word behind a letter at its front, if no letter before the letter keeps it from there. -/
def rm (D : α → α → Bool) (a : α) : List α → Option (List α)
  | [] => none
  | x :: v => if x = a then some v else if D x a then none else (rm D a v).map (x :: ·)
end

/-! ### the normal form: always the least letter that can stand at the front -/
/-- The least letter below n that can stand at the front of a word. -/
def lead (D : Nat → Nat → Bool) (n : Nat) (w : List Nat) : Option Nat := (List.range n).find? fun a => (rm D a w).isSome
variable {D : Nat → Nat → Bool} {n : Nat}
end Go.Proofs.YtclabhnloohccaaDoor.T

namespace Go.Proofs.YtclabhnloohccaaDoor.T
set_option linter.unusedVariables false
set_option linter.unusedSimpArgs false

/-- The members of a set, in ascending order. -/
def bitsL (m : Nat) : List Nat := (List.range 64).filter fun i => m.testBit i
theorem bitsL_zero : bitsL 0 = [] := by
  unfold bitsL
  rw [List.filter_eq_nil_iff]
  simp

end Go.Proofs.YtclabhnloohccaaDoor.T

namespace Go.Proofs.YtclabhnloohccaaDoor.T
set_option linter.unusedVariables false
set_option linter.unusedSimpArgs false

/-- The least member of a set (64 if there is none). -/
def low (m : Nat) : Nat := ((List.range 64).find? fun i => m.testBit i).getD 64
theorem exists_bit {m : Nat} (h0 : m ≠ 0) (hm : m < 18446744073709551616) : ∃ i, i < 64 ∧ m.testBit i = true := by
  obtain ⟨i, hi⟩ := Nat.exists_testBit_of_ne_zero h0
  refine ⟨i, ?_, hi⟩
  rcases Nat.lt_or_ge i 64 with h | h
  · exact h
  · exfalso
    rw [Nat.testBit_lt_two_pow (Nat.lt_of_lt_of_le hm (by
      have : 2 ^ 64 ≤ 2 ^ i := Nat.pow_le_pow_right (by decide) h
      have e : 2 ^ 64 = 18446744073709551616 := by decide
      omega))] at hi
    cases hi
theorem low_spec {m : Nat} (h0 : m ≠ 0) (hm : m < 18446744073709551616) : low m < 64 ∧ m.testBit (low m) = true ∧ ∀ j, j < low m → m.testBit j = false := by
  unfold low
  cases h : (List.range 64).find? fun i => m.testBit i with
  | none =>
    rw [List.find?_eq_none] at h
    obtain ⟨i, hi, hb⟩ := exists_bit h0 hm
    exact absurd hb (by simpa using h i (List.mem_range.2 hi))
  | some i =>
    rw [List.find?_range_eq_some] at h
    obtain ⟨h1, h2, h3⟩ := h
    exact ⟨List.mem_range.1 h2, h1, fun j hj => by simpa using h3 j hj⟩
theorem low_form {m l : Nat} (hb : m.testBit l = true) (hz : ∀ j, j < l → m.testBit j = false) : m = 2 ^ (l + 1) * (m / 2 ^ (l + 1)) + 2 ^ l := by
  have : m % 2 ^ (l + 1) = 2 ^ l := by
    apply Nat.eq_of_testBit_eq
    intro j
    rw [Nat.testBit_mod_two_pow, Nat.testBit_two_pow]
    by_cases h1 : j < l
    · simp [hz j h1]; omega
    · by_cases h2 : j = l
      · subst h2; simp [hb]
      · have : ¬ j < l + 1 := by omega
        simp [this]; omega
  have h := Nat.div_add_mod m (2 ^ (l + 1))
  omega
/-- The set without its least member. -/
theorem testBit_clear {m : Nat} (h0 : m ≠ 0) (hm : m < 18446744073709551616) (j : Nat) : (m &&& (m - 1)).testBit j = (m.testBit j && decide (j ≠ low m)) := by
  obtain ⟨_, hb, hz⟩ := low_spec h0 hm
  generalize low m = l at *
  have e := low_form hb hz
  generalize m / 2 ^ (l + 1) = q at e
  have hp : 0 < 2 ^ l := Nat.two_pow_pos l
  have hlt : 2 ^ l < 2 ^ (l + 1) := Nat.pow_lt_pow_right (by decide) (by omega)
  have e1 : m - 1 = 2 ^ (l + 1) * q + (2 ^ l - 1) := by omega
  rw [Nat.testBit_and, e1]
  rw [Nat.testBit_two_pow_mul_add q (by omega) j]
  by_cases h1 : j < l
  · rw [hz j h1]; simp
  · by_cases h2 : j = l
    · subst h2
      rw [if_pos (by omega), Nat.testBit_two_pow_sub_one]
      simp
    · rw [if_neg (by omega)]
      have : m.testBit j = q.testBit (j - (l + 1)) := by
        rw [e, Nat.testBit_two_pow_mul_add q hlt j, if_neg (by omega)]
      rw [this]
      simp [h2]
theorem clear_lt {m : Nat} (h0 : m ≠ 0) : m &&& (m - 1) < m := Nat.lt_of_le_of_lt Nat.and_le_right (by omega)
/-- math/bits' answer is the least member. -/
theorem ctz_low {m : Nat} (h0 : m ≠ 0) (hm : m < 18446744073709551616) : Lib.ctz 64 m = low m := by
  obtain ⟨h1, h2⟩ := Lib.lowest_bit 64 m h0 hm
  have hm' : m < 2 ^ 64 := hm
  symm
  obtain ⟨hl, hb, hz⟩ := low_spec h0 hm
  -- the lowest bit alone is m &&& (2^64 - m)
  have hk : m &&& (18446744073709551616 - m) = 2 ^ Lib.ctz 64 m := h1
  have hbit : m.testBit (Lib.ctz 64 m) = true := by
    have := congrArg (fun x => x.testBit (Lib.ctz 64 m)) hk
    simp only [Nat.testBit_and, Nat.testBit_two_pow_self, Bool.and_eq_true] at this
    exact this.1
  have e := low_form hb hz
  have hmod : (18446744073709551616 - m).testBit (low m) = true := by
    generalize low m = l at *
    generalize hq : m / 2 ^ (l + 1) = q at e
    have hp : 2 ^ (l + 1) ∣ 18446744073709551616 := by
      have : (18446744073709551616 : Nat) = 2 ^ 64 := by decide
      rw [this]
      exact Nat.pow_dvd_pow 2 (by omega)
    obtain ⟨c, hc⟩ := hp
    have hpos : 0 < 2 ^ l := Nat.two_pow_pos l
    have hlt : 2 ^ l < 2 ^ (l + 1) := Nat.pow_lt_pow_right (by decide) (by omega)
    have h2l : 2 ^ (l + 1) = 2 * 2 ^ l := by rw [Nat.pow_succ]; omega
    have hcq : q < c := by
      rcases Nat.lt_or_ge q c with h | h
      · exact h
      · have : 2 ^ (l + 1) * c ≤ 2 ^ (l + 1) * q := Nat.mul_le_mul_left _ h
        omega
    obtain ⟨d, rfl⟩ : ∃ d, c = q + 1 + d := ⟨c - q - 1, by omega⟩
    have hx : 18446744073709551616 - m = 2 ^ (l + 1) * d + 2 ^ l := by
      rw [Nat.mul_add, Nat.mul_add, Nat.mul_one] at hc
      omega
    rw [hx, Nat.testBit_two_pow_mul_add d hlt l, if_pos (by omega), Nat.testBit_two_pow_self]
  have : (2 ^ Lib.ctz 64 m).testBit (low m) = true := by
    rw [← hk, Nat.testBit_and, hb, hmod]; rfl
  rw [Nat.testBit_two_pow] at this
  have := of_decide_eq_true this
  omega
theorem bitsL_cons {m : Nat} (h0 : m ≠ 0) (hm : m < 18446744073709551616) : bitsL m = low m :: bitsL (m &&& (m - 1)) := by
  obtain ⟨hl, hb, hz⟩ := low_spec h0 hm
  unfold bitsL
  have hs : List.range 64 = List.range (low m) ++ (low m :: (List.range (63 - low m)).map fun x => low m + 1 + x) := by
    rw [show 64 = low m + (1 + (63 - low m)) by omega, List.range_add, List.range_add]
    simp [Nat.add_assoc]
  have hc := testBit_clear h0 hm
  rw [hs, List.filter_append, List.filter_append, List.filter_cons, List.filter_cons, if_pos hb, if_neg (by rw [hc]; simp)]
  have e0 : (List.range (low m)).filter (fun i => m.testBit i) = [] := by
    rw [List.filter_eq_nil_iff]
    intro j hj
    rw [hz j (List.mem_range.1 hj)]
    simp
  have e1 : (List.range (low m)).filter (fun i => (m &&& (m - 1)).testBit i) = [] := by
    rw [List.filter_eq_nil_iff]
    intro j hj
    rw [hc, hz j (List.mem_range.1 hj)]
    simp
  rw [e0, e1, List.nil_append, List.nil_append]
  congr 1
  apply List.filter_congr
  intro j hj
  rw [List.mem_map] at hj
  obtain ⟨x, _, rfl⟩ := hj
  rw [hc]
  have : low m + 1 + x ≠ low m := by omega
  simp [this]
end Go.Proofs.YtclabhnloohccaaDoor.T

namespace Go.Proofs.YtclabhnloohccaaDoor.T
set_option linter.unusedVariables false
set_option linter.unusedSimpArgs false

/-- A list is before another one. -/
def lex : List Int → List Int → Bool
  | _, [] => false
  | [], _ :: _ => true
  | a :: u, b :: v => if a < b then true else if b < a then false else lex u v
/-- The least of a list of candidates, an elder one kept where it is no greater. -/
def least (best : List Int) (l : List (List Int)) : List Int := l.foldl (fun b y => if lex y b then y else b) best
end Go.Proofs.YtclabhnloohccaaDoor.T

namespace Go.Proofs.YtclabhnloohccaaDoor.T
set_option linter.unusedVariables false
set_option linter.unusedSimpArgs false
/-- Letters as whole numbers. -/
def ints (w : List Nat) : List Int := w.map fun (x : Nat) => (x : Int)
end Go.Proofs.YtclabhnloohccaaDoor.T

namespace Go.Proofs.YtclabhnloohccaaDoor.T
set_option linter.unusedVariables false
set_option linter.unusedSimpArgs false
open Go Go.RowKit Go.Proofs.YtclabhnloohccaaDoorW.PrintWords Go.Proofs.YtclabhnloohccaaDoorW.PrintMore Go.Proofs.YtclabhnloohccaaDoor.G

theorem least_eq {m : Nat} (h0 : m ≠ 0) (hm : m < 9223372036854775808) : impl_least.f (m : Int) = some ((low m : Nat) : Int) := by
  unfold impl_least.f
  rw [u64_id (by omega) (by omega)]
  unfold bits_TrailingZeros64.f
  rw [if_pos (by omega), Int.toNat_natCast, ctz_low h0 (by omega)]
  rfl
theorem ints_length (u : List Nat) : (ints u).length = u.length := by unfold ints; rw [List.length_map]
theorem ints_cons (a : Nat) (u : List Nat) : ints (a :: u) = (a : Int) :: ints u := rfl
theorem bitsL_length (m : Nat) : (bitsL m).length ≤ 64 := by
  unfold bitsL
  have := List.length_filter_le (fun i => m.testBit i) (List.range 64)
  rwa [List.length_range] at this
theorem members_loop : ∀ (b m : Nat) (out : List Int), m ≤ b → m < 9223372036854775808 → out.length + (bitsL m).length ≤ 1000 → Ev (fun k => impl_members.l0 k (m : Int) out) (out ++ ints (bitsL m))
  | 0, m, out, hb, hm, ho => by
    obtain rfl : m = 0 := by omega
    refine Ev.step (f := fun _ => some (out ++ ints (bitsL 0))) (fun k => ?_) (Ev.now _)
    simp only [impl_members.l0]
    rw [if_pos (by rfl), bitsL_zero]
    simp [ints]
  | b + 1, m, out, hb, hm, ho => by
    by_cases h0 : m = 0
    · subst h0
      refine Ev.step (f := fun _ => some (out ++ ints (bitsL 0))) (fun k => ?_) (Ev.now _)
      simp only [impl_members.l0]
      rw [if_pos (by rfl), bitsL_zero]
      simp [ints]
    · have hlt := clear_lt h0
      have hc := bitsL_cons h0 (by omega : m < 18446744073709551616)
      have hl : (bitsL m).length = (bitsL (m &&& (m - 1))).length + 1 := by rw [hc]; rfl
      have ih := members_loop b (m &&& (m - 1)) (out ++ [((low m : Nat) : Int)]) (by omega) (by omega) (by rw [List.length_append, List.length_singleton]; omega)
      rw [hc, ints_cons, List.append_cons]
      refine Ev.step (fun k => ?_) ih
      simp only [impl_members.l0]
      rw [if_neg (by omega), least_eq h0 hm, Option.bind_some, if_pos (by omega), wrap_id (by omega) (by omega), show ((m : Int) - 1) = ((m - 1 : Nat) : Int) by omega, band hm (by omega)]
theorem members_ev {m : Nat} (hm : m < 9223372036854775808) : Ev (fun k => impl_members.f k (m : Int)) (ints (bitsL m)) := by
  have := members_loop m m [] (Nat.le_refl _) hm (by have := bitsL_length m; simp; omega)
  refine Ev.congr (fun k => ?_) this
  rfl
end Go.Proofs.YtclabhnloohccaaDoor.T

namespace Go.Proofs.YtclabhnloohccaaDoor.T
set_option linter.unusedVariables false
set_option linter.unusedSimpArgs false
open Go Go.RowKit Go.Proofs.YtclabhnloohccaaDoorW.PrintWords Go.Proofs.YtclabhnloohccaaDoorW.PrintMore Go.Proofs.YtclabhnloohccaaDoor.G

/-- A loop that counts up to n. -/
theorem loop_ev {α : Type} (n : Nat) (G : Nat → Nat → Option α) {r : α} (hn : Ev (G n) r) (hs : ∀ i, i < n → Ev (G (i + 1)) r → Ev (G i) r) : Ev (G 0) r := by
  have : ∀ d i, i + d = n → Ev (G i) r := by
    intro d
    induction d with
    | zero => intro i h; obtain rfl : i = n := by omega
              exact hn
    | succ d ih => intro i h; exact hs i (by omega) (ih (i + 1) (by omega))
  exact this n 0 (by omega)
/-- The set of the numbers below n that meet a condition. -/
def setOf : Nat → (Nat → Bool) → Nat
  | 0, _ => 0
  | n + 1, p => if p n then setOf n p ||| 2 ^ n else setOf n p
theorem testBit_setOf (p : Nat → Bool) : ∀ (n i : Nat), (setOf n p).testBit i = (decide (i < n) && p i)
  | 0, i => by simp [setOf]
  | n + 1, i => by
    unfold setOf
    by_cases h : p n = true
    · rw [if_pos h, Nat.testBit_or, testBit_setOf p n i, Nat.testBit_two_pow]
      by_cases e : n = i
      · subst e; simp [h]
      · have : (i < n + 1) ↔ (i < n) := by omega
        simp [e, this]
    · rw [if_neg h, testBit_setOf p n i]
      by_cases e : n = i
      · subst e; simp [h]
      · have : (i < n + 1) ↔ (i < n) := by omega
        simp [this]
theorem setOf_lt (p : Nat → Bool) (n : Nat) : setOf n p < 2 ^ n := by
  apply Nat.lt_pow_two_of_testBit
  intro i hi
  rw [testBit_setOf]
  simp; omega
theorem two_pow_lt {i n : Nat} (h : i < n) : 2 ^ i < 2 ^ n := Nat.pow_lt_pow_right (by decide) h
theorem pow_24 {n : Nat} (h : n ≤ 24) : 2 ^ n ≤ 16777216 := by
  have : 2 ^ n ≤ 2 ^ 24 := Nat.pow_le_pow_right (by decide) h
  have e : 2 ^ 24 = 16777216 := by decide
  omega
/-- A relation as a list of sets. -/
structure IsRelN (r : List Nat) : Prop where
  len : r.length ≤ 24
  lt : ∀ x ∈ r, x < 2 ^ r.length
theorem IsRelN.small {r : List Nat} (h : IsRelN r) {i : Nat} (hi : i < r.length) : r[i] < 16777216 := by
  have := h.lt _ (List.getElem_mem hi)
  have := pow_24 h.len
  omega
theorem IsRelN.bit {r : List Nat} (h : IsRelN r) {i j : Nat} (hi : i < r.length) (hj : r[i].testBit j = true) : j < r.length := by
  rcases Nat.lt_or_ge j r.length with h1 | h1
  · exact h1
  · rw [Nat.testBit_lt_two_pow (Nat.lt_of_lt_of_le (h.lt _ (List.getElem_mem hi)) (Nat.pow_le_pow_right (by decide) h1))] at hj
    cases hj
theorem ints_surj {l : List Int} : (∀ x ∈ l, 0 ≤ x) → ∃ r : List Nat, l = ints r := by
  induction l with
  | nil => exact fun _ => ⟨[], rfl⟩
  | cons a t ih =>
    intro h
    obtain ⟨r, rfl⟩ := ih (fun x hx => h x (List.mem_cons_of_mem _ hx))
    obtain ⟨n, rfl⟩ := Int.eq_ofNat_of_zero_le (h a List.mem_cons_self)
    exact ⟨n :: r, rfl⟩
theorem mem_ints {r : List Nat} {x : Int} : x ∈ ints r ↔ ∃ n ∈ r, x = (n : Int) := by
  unfold ints
  rw [List.mem_map]
  constructor
  · rintro ⟨n, h1, rfl⟩; exact ⟨n, h1, rfl⟩
  · rintro ⟨n, h1, rfl⟩; exact ⟨n, h1, rfl⟩
theorem rd_ints {r : List Nat} {i : Nat} (h : i < r.length) : rd (ints r) (i : Int) = ((r[i] : Nat) : Int) := by
  rw [rd_nat (by rw [ints_length]; exact h)]
  simp [ints]
theorem ints_set (r : List Nat) (i x : Nat) : (ints r).set i (x : Int) = ints (r.set i x) := by
  unfold ints
  rw [List.map_set]
theorem ints_replicate (n : Nat) : List.replicate n (0 : Int) = ints (List.replicate n 0) := by
  unfold ints
  rw [List.map_replicate]
  rfl
theorem l01Bit_eq {m i : Nat} (hm : m < 9223372036854775808) (hi : i < 9223372036854775808) : spec_l01Bit.f (m : Int) (i : Int) = some (m.testBit i) := by
  unfold spec_l01Bit.f
  rw [u64_id (by omega) (by omega), if_pos (by omega), shr_and_one hm]
  cases m.testBit i <;> rfl
theorem has_eq {m i : Nat} (hm : m < 9223372036854775808) : impl_has.f (m : Int) (i : Int) = some (m.testBit i) := by
  unfold impl_has.f
  rw [if_pos (by omega), shr_and_one hm]
  cases m.testBit i <;> rfl
/-- A row of the converse: the elements that are related to i. -/
def col (r : List Nat) (i n : Nat) : Nat := setOf n fun k => (r.getD k 0).testBit i
def conv (r : List Nat) : List Nat := (List.range r.length).map fun i => col r i r.length
theorem conv_length (r : List Nat) : (conv r).length = r.length := by unfold conv; simp
theorem conv_get (r : List Nat) (i : Nat) (h : i < (conv r).length) : (conv r)[i] = col r i r.length := by
  simp [conv]
theorem conv_bit {r : List Nat} {i j : Nat} (hi : i < r.length) (hj : j < r.length) : ((conv r)[i]'(by rw [conv_length]; exact hi)).testBit j = (r[j]).testBit i := by
  rw [conv_get]
  unfold col
  rw [testBit_setOf]
  simp [hj]
theorem conv_rel {r : List Nat} (h : IsRelN r) : IsRelN (conv r) := by
  refine ⟨by rw [conv_length]; exact h.len, fun x hx => ?_⟩
  rw [conv_length]
  unfold conv at hx
  rw [List.mem_map] at hx
  obtain ⟨i, _, rfl⟩ := hx
  exact setOf_lt _ _
theorem getD_eq {r : List Nat} {i : Nat} (h : i < r.length) : r.getD i 0 = r[i] := by simp [h]
theorem col_succ (r : List Nat) (i k : Nat) (hk : k < r.length) : col r i (k + 1) = if r[k].testBit i then col r i k ||| 2 ^ k else col r i k := by
  unfold col
  rw [setOf, getD_eq hk]
/-- The members of a list get a mark. -/
def marks (out : List Nat) (b : Nat) (ms : List Nat) : List Nat := ms.foldl (fun o m => o.set m (o.getD m 0 ||| b)) out
theorem marks_length (b : Nat) : ∀ (ms out : List Nat), (marks out b ms).length = out.length
  | [], out => rfl
  | m :: ms, out => by
    show (marks (out.set m (out.getD m 0 ||| b)) b ms).length = _
    rw [marks_length b ms, List.length_set]
theorem marks_get (b : Nat) : ∀ (ms out : List Nat) (j : Nat), j < out.length → (marks out b ms).getD j 0 = if j ∈ ms then out.getD j 0 ||| b else out.getD j 0
  | [], out, j, h => by simp [marks]
  | m :: ms, out, j, h => by
    show (marks (out.set m (out.getD m 0 ||| b)) b ms).getD j 0 = _
    rw [marks_get b ms _ j (by rw [List.length_set]; exact h)]
    by_cases e : m = j
    · subst e
      have : (out.set m (out.getD m 0 ||| b)).getD m 0 = out.getD m 0 ||| b := by
        simp [List.getD_eq_getElem?_getD, List.getElem?_set, h]
      rw [this]
      by_cases h2 : m ∈ ms
      · simp [h2, Nat.or_assoc]
      · simp [h2]
    · have : (out.set m (out.getD m 0 ||| b)).getD j 0 = out.getD j 0 := by
        simp [List.getD_eq_getElem?_getD, List.getElem?_set, e]
      rw [this]
      have e2 : ¬ j = m := fun h => e h.symm
      by_cases h2 : j ∈ ms <;> simp [h2, e2]
theorem getD_lt {out : List Nat} {B : Nat} (h : ∀ x ∈ out, x < B) (hB : 0 < B) (m : Nat) : out.getD m 0 < B := by
  rcases Nat.lt_or_ge m out.length with h1 | h1
  · rw [getD_eq h1]; exact h _ (List.getElem_mem h1)
  · simp [List.getD_eq_getElem?_getD, h1, hB]
theorem converse_inner {r : List Nat} (h : IsRelN r) (i : Nat) (hi : i < r.length) : ∀ (ms : List Nat) (n0 : Nat) (pre out : List Nat) {R : List Int}, (∀ m ∈ ms, m < out.length) → out.length ≤ 24 → (∀ x ∈ out, x < 16777216) → pre.length + ms.length ≤ 100 →
    Ev (fun k => impl_converse.l0 k (ints (marks out (2 ^ i) ms)) (ints r) (r.length : Int) ((i + 1 : Nat) : Int)) R →
    Ev (fun k => impl_converse.l1 k (ints out) (i : Int) (ints r) (r.length : Int) (i : Int) (ints (pre ++ ms)) ((pre ++ ms).length : Int) (pre.length : Int)) R
  | [], n0, pre, out, R, hm, hl, hb, hp, hx => by
    refine Ev.step (fun k => ?_) hx
    have := h.len
    simp only [impl_converse.l1]
    rw [if_neg (by simp), wrap_id (by omega) (by omega)]
    rfl
  | m :: ms, n0, pre, out, R, hm, hl, hb, hp, hx => by
    have := h.len
    have hm0 := hm m List.mem_cons_self
    rw [List.length_cons] at hp
    have hg := getD_lt hb (by decide) m
    have h2 := two_pow_lt hi
    have h3 := pow_24 this
    have ho : out.getD m 0 ||| 2 ^ i < 16777216 := by
      have := Nat.or_lt_two_pow (n := 24) (x := out.getD m 0) (y := 2 ^ i) (by have e : 2 ^ 24 = 16777216 := by decide
                                                                               omega) (by have e : 2 ^ 24 = 16777216 := by decide
                                                                                          omega)
      have e : 2 ^ 24 = 16777216 := by decide
      omega
    have ih := converse_inner h i hi ms n0 (pre ++ [m]) (out.set m (out.getD m 0 ||| 2 ^ i)) (R := R) (by intro x hx; rw [List.length_set]; exact hm x (List.mem_cons_of_mem _ hx)) (by rw [List.length_set]; exact hl)
      (by intro x hx
          rcases List.mem_or_eq_of_mem_set hx with h1 | h1
          · exact hb x h1
          · subst h1; exact ho) (by rw [List.length_append, List.length_singleton]; omega) hx
    rw [List.append_assoc, List.singleton_append, @List.length_append _ pre [m], List.length_singleton] at ih
    refine Ev.step (fun k => ?_) ih
    simp only [impl_converse.l1]
    have hpl : pre.length < (pre ++ m :: ms).length := by simp
    have hrd : rd (ints (pre ++ m :: ms)) (pre.length : Int) = (m : Int) := by
      rw [rd_ints hpl]
      simp
    have hl2 : (pre ++ m :: ms).length = pre.length + ms.length + 1 := by simp; omega
    rw [if_pos (by omega), if_pos (by omega), if_pos (by rw [ints_length]; omega), hrd, if_pos (by omega), if_pos (by rw [ints_length]; omega), one_eq (by omega), Option.bind_some, rd_ints hm0, Int.toNat_natCast, wrap_id (by omega) (by omega), ← getD_eq hm0, bor (by omega) (by omega), ints_set]
    rfl
/-- The converse after some rows. -/
def convTo (r : List Nat) (i : Nat) : List Nat := (List.range r.length).map fun k => col r k i
theorem convTo_succ {r : List Nat} (h : IsRelN r) {i : Nat} (hi : i < r.length) : marks (convTo r i) (2 ^ i) (bitsL r[i]) = convTo r (i + 1) := by
  apply List.ext_getElem
  · rw [marks_length]; simp [convTo]
  · intro j h1 h2
    have hj : j < r.length := by rw [marks_length] at h1; simpa [convTo] using h1
    rw [← getD_eq h1, marks_get _ _ _ _ (by simpa [convTo] using hj)]
    have e1 : (convTo r i).getD j 0 = col r j i := by simp [convTo, hj]
    have hs := h.small hi
    rw [e1]
    simp only [convTo, List.getElem_map, List.getElem_range]
    rw [col_succ r j i hi]
    have : (j ∈ bitsL r[i]) ↔ r[i].testBit j = true := by
      unfold bitsL
      rw [List.mem_filter, List.mem_range]
      have := h.len
      constructor
      · exact fun h => h.2
      · exact fun h => ⟨by omega, h⟩
    by_cases hb : r[i].testBit j = true
    · rw [if_pos (this.2 hb), if_pos hb]
    · rw [if_neg (fun h => hb (this.1 h)), if_neg hb]
theorem converse_ev {r : List Nat} (h : IsRelN r) : Ev (fun k => impl_converse.f k (ints r)) (ints (conv r)) := by
  have hlen := h.len
  have : Ev (fun k => impl_converse.l0 k (ints (convTo r 0)) (ints r) (r.length : Int) (0 : Nat)) (ints (conv r)) := by
    refine loop_ev r.length (fun i k => impl_converse.l0 k (ints (convTo r i)) (ints r) (r.length : Int) (i : Int)) ?_ ?_
    · refine Ev.step (f := fun _ => some (ints (conv r))) (fun k => ?_) (Ev.now _)
      simp only [impl_converse.l0]
      rw [if_neg (by omega)]
      rfl
    · intro i hi ih
      have hs := h.small hi
      have hbl := bitsL_length r[i]
      have hin := converse_inner h i hi (bitsL r[i]) 0 [] (convTo r i) (R := ints (conv r)) (by
          intro m hm
          unfold bitsL at hm
          rw [List.mem_filter] at hm
          have := h.bit hi hm.2
          simpa [convTo] using this) (by simp [convTo]; omega) (by
          intro x hx
          unfold convTo at hx
          rw [List.mem_map] at hx
          obtain ⟨j, _, rfl⟩ := hx
          have h1 : col r j i < 2 ^ i := setOf_lt _ _
          have h2 := pow_24 (n := i) (by omega)
          omega) (by simp; omega) (by rw [convTo_succ h hi]; exact ih)
      rw [List.nil_append] at hin
      have hb : Ev (fun k => (impl_members.f k ((r[i] : Nat) : Int)).bind fun t => impl_converse.l1 k (ints (convTo r i)) (i : Int) (ints r) (r.length : Int) (i : Int) t (t.length : Int) 0) (ints (conv r)) := by
        refine Ev.bind (members_ev (by omega)) ?_
        rw [ints_length]
        exact hin
      refine Ev.step (fun k => ?_) hb
      simp only [impl_converse.l0]
      rw [if_pos (by omega), if_pos (by omega), if_pos (by rw [ints_length]; omega), rd_ints hi]
  refine Ev.congr (fun k => ?_) this
  unfold impl_converse.f
  rw [ints_length, if_pos (by omega), Int.toNat_natCast, if_pos (by omega), ints_replicate]
  congr 2
  unfold convTo
  apply List.ext_getElem <;> simp [col, setOf]
theorem toNat_ints (r : List Nat) : (ints r).map Int.toNat = r := by
  unfold ints
  rw [List.map_map]
  exact (List.map_congr_left (fun x _ => by simp)).trans (List.map_id _)
end Go.Proofs.YtclabhnloohccaaDoor.T

namespace Go.Proofs.YtclabhnloohccaaDoor.T
set_option linter.unusedVariables false
set_option linter.unusedSimpArgs false
open Go Go.RowKit Go.Proofs.YtclabhnloohccaaDoorW.PrintWords Go.Proofs.YtclabhnloohccaaDoorW.PrintMore

/-- A loop that looks at all below n, and answers false where a condition fails. -/
theorem all_loop {n : Nat} {G : Nat → Nat → Option Bool} {p : Nat → Bool} {R : Bool} (hn : Ev (G n) R) (hs : ∀ i, i < n → p i = true → ∀ r, Ev (G (i + 1)) r → Ev (G i) r) (hf : ∀ i, i < n → p i = false → Ev (G i) false) : Ev (G 0) ((List.range n).all p && R) := by
  have : ∀ d i, i + d = n → Ev (G i) ((List.range' i d).all p && R) := by
    intro d
    induction d with
    | zero => intro i h; obtain rfl : i = n := by omega
              simpa using hn
    | succ d ih =>
      intro i h
      rw [List.range'_succ, List.all_cons]
      cases hp : p i
      · simpa using hf i (by omega) hp
      · have := hs i (by omega) hp _ (ih (i + 1) (by omega))
        simpa using this
  have h := this n 0 (by omega)
  rwa [← List.range_eq_range'] at h
theorem bit_ltD {r : List Nat} (h : IsRelN r) {i j : Nat} (hi : i < r.length) (hj : (r.getD i 0).testBit j = true) : j < r.length := by
  rw [getD_eq hi] at hj
  exact h.bit hi hj
end Go.Proofs.YtclabhnloohccaaDoor.T

namespace Go.Proofs.YtclabhnloohccaaDoor.T
set_option linter.unusedVariables false
set_option linter.unusedSimpArgs false
open Go Go.RowKit Go.Proofs.YtclabhnloohccaaDoorW.PrintWords Go.Proofs.YtclabhnloohccaaDoorW.PrintMore Go.Proofs.YtclabhnloohccaaDoor.G

/-- Reflexive and symmetric. -/
def symB (r : List Nat) : Bool := (List.range r.length).all fun a => (r.getD a 0).testBit a && (List.range r.length).all fun b => (r.getD a 0).testBit b == (r.getD b 0).testBit a
/-- n letters and their dependence. -/
def isA (n : Int) (l : List Int) : Bool := decide (0 ≤ n ∧ n ≤ 8) && (decide ((l.length : Int) = n) && (l.all (isM l.length) && symB (l.map Int.toNat)))
structure IsAN (r : List Nat) : Prop extends IsRelN r where
  len8 : r.length ≤ 8
  refl : ∀ a, a < r.length → (r.getD a 0).testBit a = true
  symm : ∀ a b, a < r.length → b < r.length → (r.getD a 0).testBit b = (r.getD b 0).testBit a
theorem symB_iff (r : List Nat) : symB r = true ↔ (∀ a, a < r.length → (r.getD a 0).testBit a = true) ∧ ∀ a b, a < r.length → b < r.length → (r.getD a 0).testBit b = (r.getD b 0).testBit a := by
  unfold symB
  simp only [List.all_eq_true, List.mem_range, Bool.and_eq_true, beq_iff_eq]
  constructor
  · exact fun h => ⟨fun a ha => (h a ha).1, fun a b ha hb => (h a ha).2 b hb⟩
  · exact fun h a ha => ⟨h.1 a ha, fun b hb => h.2 a b ha hb⟩
theorem masks_nat {n : Nat} {l : List Int} (h : l.all (isM n) = true) : ∃ r : List Nat, l = ints r ∧ ∀ x ∈ r, x < 2 ^ n := by
  have h2 := List.all_eq_true.1 h
  obtain ⟨r, rfl⟩ := ints_surj (l := l) (fun x hx => (of_decide_eq_true (h2 x hx)).1)
  refine ⟨r, rfl, fun x hx => ?_⟩
  have h3 := of_decide_eq_true (h2 (x : Int) (mem_ints.2 ⟨x, hx, rfl⟩))
  have := Nat.two_pow_pos n
  omega
theorem isA_nat {n : Int} {l : List Int} (h : isA n l = true) : ∃ r : List Nat, l = ints r ∧ n = (r.length : Int) ∧ IsAN r := by
  unfold isA at h
  simp only [Bool.and_eq_true, decide_eq_true_eq] at h
  obtain ⟨h1, h2, h3, h4⟩ := h
  obtain ⟨r, rfl, hr⟩ := masks_nat h3
  rw [ints_length] at h2 hr
  rw [toNat_ints] at h4
  obtain ⟨h5, h6⟩ := (symB_iff r).1 h4
  exact ⟨r, rfl, h2.symm, ⟨⟨by omega, hr⟩, by omega, h5, h6⟩⟩
theorem l02Is_loops {r : List Nat} (hr : IsRelN r) : Ev (fun k => spec_l02Is.l0 k 0 (r.length : Int) (ints r)) (symB r) := by
  have hlen := hr.len
  have := all_loop (n := r.length) (G := fun i k => spec_l02Is.l0 k (i : Int) (r.length : Int) (ints r)) (p := fun a => (r.getD a 0).testBit a && (List.range r.length).all fun b => (r.getD a 0).testBit b == (r.getD b 0).testBit a) (R := true) ?_ ?_ ?_
  · rw [Bool.and_true] at this
    exact this
  · refine Ev.step (f := fun _ => some true) (fun k => ?_) (Ev.now _)
    simp only [spec_l02Is.l0]
    rw [if_neg (by omega)]
  · intro i hi hp R hR
    have hsi := hr.small hi
    rw [Bool.and_eq_true, getD_eq hi] at hp
    have inner := all_loop (n := r.length) (G := fun j k => spec_l02Is.l1 k (i : Int) (j : Int) (r.length : Int) (ints r)) (p := fun b => (r.getD i 0).testBit b == (r.getD b 0).testBit i) (R := R) ?_ ?_ ?_
    · rw [getD_eq hi, hp.2, Bool.true_and] at inner
      refine Ev.step (fun k => ?_) inner
      simp only [spec_l02Is.l0]
      rw [if_pos (by omega), if_pos (by omega), if_pos (by rw [ints_length]; omega), rd_ints hi, l01Bit_eq (by omega) (by omega), Option.bind_some, hp.1, if_pos rfl]
      rfl
    · refine Ev.step (fun k => ?_) hR
      simp only [spec_l02Is.l1]
      rw [if_neg (by omega), wrap_id (by omega) (by omega)]
      rfl
    · intro j hj hq R2 hR2
      have hsj := hr.small hj
      refine Ev.step (fun k => ?_) hR2
      simp only [spec_l02Is.l1]
      rw [getD_eq hi, getD_eq hj, beq_iff_eq] at hq
      rw [if_pos (by omega), if_pos (by omega), if_pos (by rw [ints_length]; omega), rd_ints hi, l01Bit_eq (by omega) (by omega), Option.bind_some, if_pos (by omega), if_pos (by rw [ints_length]; omega), rd_ints hj, l01Bit_eq (by omega) (by omega), Option.bind_some, hq, bne_self_eq_false, if_neg (by simp), wrap_id (by omega) (by omega)]
      rfl
    · intro j hj hq
      have hsj := hr.small hj
      refine Ev.step (f := fun _ => some false) (fun k => ?_) (Ev.now _)
      simp only [spec_l02Is.l1]
      rw [getD_eq hi, getD_eq hj] at hq
      have hq2 : ((r[i].testBit j != r[j].testBit i) = true) := by rw [bne, hq]; rfl
      rw [if_pos (by omega), if_pos (by omega), if_pos (by rw [ints_length]; omega), rd_ints hi, l01Bit_eq (by omega) (by omega), Option.bind_some, if_pos (by omega), if_pos (by rw [ints_length]; omega), rd_ints hj, l01Bit_eq (by omega) (by omega), Option.bind_some, if_pos hq2]
  · intro i hi hp
    have hsi := hr.small hi
    rw [getD_eq hi] at hp
    cases hb : r[i].testBit i
    · refine Ev.step (f := fun _ => some false) (fun k => ?_) (Ev.now _)
      simp only [spec_l02Is.l0]
      rw [if_pos (by omega), if_pos (by omega), if_pos (by rw [ints_length]; omega), rd_ints hi, l01Bit_eq (by omega) (by omega), Option.bind_some, hb, if_neg (by simp)]
    · rw [hb, Bool.true_and] at hp
      obtain ⟨j, hj, hq⟩ : ∃ j, j < r.length ∧ (r[i].testBit j == (r.getD j 0).testBit i) = false := by
        rw [List.all_eq_false] at hp
        obtain ⟨j, hj, h⟩ := hp
        exact ⟨j, List.mem_range.1 hj, by simpa using h⟩
      have hstep : ∀ (d m : Nat), m + d = j → Ev (fun k => spec_l02Is.l1 k (i : Int) (m : Int) (r.length : Int) (ints r)) false := by
        intro d
        induction d with
        | zero =>
          intro m hm
          obtain rfl : m = j := by omega
          have hsj := hr.small hj
          refine Ev.step (f := fun _ => some false) (fun k => ?_) (Ev.now _)
          simp only [spec_l02Is.l1]
          rw [getD_eq hj] at hq
          have hq2 : ((r[i].testBit m != r[m].testBit i) = true) := by rw [bne, hq]; rfl
          rw [if_pos (by omega), if_pos (by omega), if_pos (by rw [ints_length]; omega), rd_ints hi, l01Bit_eq (by omega) (by omega), Option.bind_some, if_pos (by omega), if_pos (by rw [ints_length]; omega), rd_ints hj, l01Bit_eq (by omega) (by omega), Option.bind_some, if_pos hq2]
        | succ d ih =>
          intro m hm
          have hmj : m < r.length := by omega
          have hsm := hr.small hmj
          cases hc : (r[i].testBit m != r[m].testBit i)
          · refine Ev.step (fun k => ?_) (ih (m + 1) (by omega))
            simp only [spec_l02Is.l1]
            rw [if_pos (by omega), if_pos (by omega), if_pos (by rw [ints_length]; omega), rd_ints hi, l01Bit_eq (by omega) (by omega), Option.bind_some, if_pos (by omega), if_pos (by rw [ints_length]; omega), rd_ints hmj, l01Bit_eq (by omega) (by omega), Option.bind_some, hc, if_neg (by simp), wrap_id (by omega) (by omega)]
            rfl
          · refine Ev.step (f := fun _ => some false) (fun k => ?_) (Ev.now _)
            simp only [spec_l02Is.l1]
            rw [if_pos (by omega), if_pos (by omega), if_pos (by rw [ints_length]; omega), rd_ints hi, l01Bit_eq (by omega) (by omega), Option.bind_some, if_pos (by omega), if_pos (by rw [ints_length]; omega), rd_ints hmj, l01Bit_eq (by omega) (by omega), Option.bind_some, hc, if_pos rfl]
      refine Ev.step (fun k => ?_) (hstep j 0 (by omega))
      simp only [spec_l02Is.l0]
      rw [if_pos (by omega), if_pos (by omega), if_pos (by rw [ints_length]; omega), rd_ints hi, l01Bit_eq (by omega) (by omega), Option.bind_some, hb, if_pos rfl]
      rfl
theorem l02Is_ev (n : Int) (l : List Int) : Ev (fun k => spec_l02Is.f k n l) (isA n l) := by
  unfold isA
  by_cases h1 : 0 ≤ n ∧ n ≤ 8
  · by_cases h2 : (l.length : Int) = n
    · subst h2
      have hm := l01Masks_ev l.length (by omega) l (by omega)
      have e : ∀ k, spec_l02Is.f k (l.length : Int) l = (spec_l01Masks.f k (l.length : Int) l).bind fun t => spec_l02Is.j0 k (!t) (l.length : Int) l := by
        intro k
        unfold spec_l02Is.f
        rw [l01In_eq, Option.bind_some, if_pos (by simpa using h1), if_pos rfl]
      refine Ev.congr e ?_
      refine Ev.bind hm ?_
      cases h3 : l.all (isM l.length)
      · refine Ev.step (f := fun _ => some false) (fun k => ?_) ?_
        · simp only [spec_l02Is.j0]; simp
        · simp; exact Ev.now _
      · obtain ⟨r, rfl, hr⟩ := masks_nat h3
        rw [ints_length] at hr h1
        rw [toNat_ints, ints_length]
        have := l02Is_loops (r := r) ⟨by omega, hr⟩
        refine Ev.step (fun k => ?_) (by simpa [h1] using this)
        simp only [spec_l02Is.j0]
        simp
    · refine Ev.congr (f := fun k => spec_l02Is.j0 k true n l) (fun k => ?_) ?_
      · unfold spec_l02Is.f
        rw [l01In_eq, Option.bind_some, if_pos (by simpa using h1), if_neg h2]
      · refine Ev.step (f := fun _ => some false) (fun k => ?_) (by simp [h2]; exact Ev.now _)
        simp only [spec_l02Is.j0]; simp
  · refine Ev.congr (f := fun k => spec_l02Is.j0 k true n l) (fun k => ?_) ?_
    · unfold spec_l02Is.f
      rw [l01In_eq, Option.bind_some, if_neg (by simpa using h1)]
    · refine Ev.step (f := fun _ => some false) (fun k => ?_) (by simp [h1]; exact Ev.now _)
      simp only [spec_l02Is.j0]; simp
theorem symB_conv {r : List Nat} (hr : IsRelN r) : symB r = (List.range r.length).all fun i => decide ((conv r).getD i 0 = r.getD i 0) && (r.getD i 0).testBit i := by
  rw [Bool.eq_iff_iff, symB_iff]
  simp only [List.all_eq_true, List.mem_range, Bool.and_eq_true, decide_eq_true_eq]
  constructor
  · rintro ⟨h1, h2⟩ i hi
    refine ⟨?_, h1 i hi⟩
    rw [getD_eq (by rw [conv_length]; exact hi)]
    apply Nat.eq_of_testBit_eq
    intro j
    by_cases hj : j < r.length
    · rw [conv_bit hi hj, h2 i j hi hj, getD_eq hj]
    · rw [Nat.testBit_lt_two_pow (Nat.lt_of_lt_of_le ((conv_rel hr).lt _ (List.getElem_mem _)) (Nat.pow_le_pow_right (by decide) (by rw [conv_length]; omega))), getD_eq hi, Nat.testBit_lt_two_pow (Nat.lt_of_lt_of_le (hr.lt _ (List.getElem_mem _)) (Nat.pow_le_pow_right (by decide) (by omega)))]
  · intro h
    refine ⟨fun a ha => (h a ha).2, fun a b ha hb => ?_⟩
    rw [← (h a ha).1, getD_eq (by rw [conv_length]; exact ha), conv_bit ha hb, getD_eq hb]
theorem implIs_loop {r : List Nat} (hr : IsRelN r) : Ev (fun k => impl_IsAlphabet.l0 k (ints (conv r)) (r.length : Int) 0 (r.length : Int) (ints r)) (symB r) := by
  have hlen := hr.len
  have hc := conv_length r
  have := all_loop (n := r.length) (G := fun i k => impl_IsAlphabet.l0 k (ints (conv r)) (r.length : Int) (i : Int) (r.length : Int) (ints r)) (p := fun i => decide ((conv r).getD i 0 = r.getD i 0) && (r.getD i 0).testBit i) (R := true) ?_ ?_ ?_
  · rw [Bool.and_true, ← symB_conv hr] at this
    exact this
  · refine Ev.step (f := fun _ => some true) (fun k => ?_) (Ev.now _)
    simp only [impl_IsAlphabet.l0]
    rw [if_neg (by omega)]
  · intro i hi hp R hR
    have hsi := hr.small hi
    rw [Bool.and_eq_true, decide_eq_true_eq, getD_eq hi, getD_eq (by omega)] at hp
    refine Ev.step (fun k => ?_) hR
    simp only [impl_IsAlphabet.l0]
    rw [if_pos (by omega), if_pos (by omega), if_pos (by rw [ints_length]; omega), if_pos (by rw [ints_length]; omega), rd_ints (by omega), rd_ints hi, hp.1, if_pos rfl, has_eq (by omega), Option.bind_some, hp.2, if_pos rfl, wrap_id (by omega) (by omega)]
    rfl
  · intro i hi hp
    have hsi := hr.small hi
    refine Ev.step (f := fun _ => some false) (fun k => ?_) (Ev.now _)
    simp only [impl_IsAlphabet.l0]
    rw [getD_eq hi, getD_eq (by omega)] at hp
    rw [if_pos (by omega), if_pos (by omega), if_pos (by rw [ints_length]; omega), if_pos (by rw [ints_length]; omega), rd_ints (by omega), rd_ints hi]
    by_cases e : (conv r)[i]'(by omega) = r[i]
    · rw [e, decide_eq_true rfl, Bool.true_and] at hp
      rw [e, if_pos rfl, has_eq (by omega), Option.bind_some, hp, if_neg (by simp)]
    · rw [if_neg (by omega)]
theorem implIsAlphabet_ev (n : Int) (l : List Int) : Ev (fun k => impl_IsAlphabet.f k n l) (isA n l) := by
  unfold isA
  by_cases h1 : 0 ≤ n ∧ n ≤ 8
  · by_cases h2 : (l.length : Int) = n
    · subst h2
      have e : ∀ k, impl_IsAlphabet.f k (l.length : Int) l = impl_IsAlphabet.j0 k (!isRel l) (l.length : Int) l := by
        intro k
        unfold impl_IsAlphabet.f impl_length_int64.f
        rw [inRange_eq, Option.bind_some, if_pos (by simpa using h1), Option.bind_some, if_pos rfl, implIsRelation_eq, Option.bind_some]
      refine Ev.congr e ?_
      have hrel : isRel l = l.all (isM l.length) := by
        unfold isRel
        rw [decide_eq_true (by omega), Bool.true_and]
      rw [hrel]
      cases h3 : l.all (isM l.length)
      · refine Ev.step (f := fun _ => some false) (fun k => ?_) ?_
        · simp only [impl_IsAlphabet.j0]; simp
        · simp; exact Ev.now _
      · obtain ⟨r, rfl, hr⟩ := masks_nat h3
        rw [ints_length] at hr h1
        have hrn : IsRelN r := ⟨by omega, hr⟩
        rw [toNat_ints, ints_length]
        have := implIs_loop hrn
        have hb : Ev (fun k => (impl_converse.f k (ints r)).bind fun t => impl_IsAlphabet.l0 k t (t.length : Int) 0 (r.length : Int) (ints r)) (symB r) := by
          refine Ev.bind (converse_ev hrn) ?_
          rw [ints_length, conv_length]
          exact this
        refine Ev.step (fun k => ?_) (by simpa [h1] using hb)
        simp only [impl_IsAlphabet.j0]
        simp
    · refine Ev.congr (f := fun k => impl_IsAlphabet.j0 k true n l) (fun k => ?_) ?_
      · unfold impl_IsAlphabet.f impl_length_int64.f
        rw [inRange_eq, Option.bind_some, if_pos (by simpa using h1), Option.bind_some, if_neg h2]
      · refine Ev.step (f := fun _ => some false) (fun k => ?_) (by simp [h2]; exact Ev.now _)
        simp only [impl_IsAlphabet.j0]; simp
  · refine Ev.congr (f := fun k => impl_IsAlphabet.j0 k true n l) (fun k => ?_) ?_
    · unfold impl_IsAlphabet.f
      rw [inRange_eq, Option.bind_some, if_neg (by simpa using h1)]
    · refine Ev.step (f := fun _ => some false) (fun k => ?_) (by simp [h1]; exact Ev.now _)
      simp only [impl_IsAlphabet.j0]; simp
theorem getD_ints (r : List Nat) (i : Nat) : (ints r).getD i 0 = ((r.getD i 0 : Nat) : Int) := by
  unfold ints
  rcases Nat.lt_or_ge i r.length with h | h
  · simp [h]
  · simp [List.getD_eq_getElem?_getD, h]
end Go.Proofs.YtclabhnloohccaaDoor.T

namespace Go.Proofs.YtclabhnloohccaaDoor.T
set_option linter.unusedVariables false
set_option linter.unusedSimpArgs false
open Go Go.RowKit Go.Proofs.YtclabhnloohccaaDoorW.PrintWords Go.Proofs.YtclabhnloohccaaDoorW.PrintMore Go.Proofs.YtclabhnloohccaaDoor.G

/-- Processes as sets. -/
structure IsPr (n : Nat) (r : List Nat) : Prop where
  len : r.length ≤ 16
  n8 : n ≤ 8
  lt : ∀ x ∈ r, x < 2 ^ n
theorem IsPr.small {n : Nat} {r : List Nat} (h : IsPr n r) {i : Nat} (hi : i < r.length) : r[i] < 256 := by
  have := h.lt _ (List.getElem_mem hi)
  have h2 : 2 ^ n ≤ 2 ^ 8 := Nat.pow_le_pow_right (by decide) h.n8
  have e : 2 ^ 8 = 256 := by decide
  omega
end Go.Proofs.YtclabhnloohccaaDoor.T

namespace Go.Proofs.YtclabhnloohccaaDoor.T
set_option linter.unusedVariables false
set_option linter.unusedSimpArgs false

/-- From i chains of related elements lead to j. -/
def Reach (r : Nat → Nat) (i j : Nat) : Prop := ∀ S : Nat → Prop, S i → (∀ a b, S a → (r a).testBit b = true → S b) → S j
theorem Reach.refl (r : Nat → Nat) (i : Nat) : Reach r i i := fun _ h _ => h
theorem Reach.step {r : Nat → Nat} {i j k : Nat} (h : Reach r i j) (hk : (r j).testBit k = true) : Reach r i k := fun S h0 hs => hs j k (h S h0 hs) hk
theorem Reach.trans {r : Nat → Nat} {i j k : Nat} (h : Reach r i j) (k' : Reach r j k) : Reach r i k := fun S h0 hs => k' S (h S h0 hs) hs

/-! ### by rounds -/
/-! ### by one pass over the middle elements -/
end Go.Proofs.YtclabhnloohccaaDoor.T

namespace Go.Proofs.YtclabhnloohccaaDoor.T
set_option linter.unusedVariables false
set_option linter.unusedSimpArgs false
open Go Go.RowKit Go.Proofs.YtclabhnloohccaaDoorW.PrintWords Go.Proofs.YtclabhnloohccaaDoorW.PrintMore Go.Proofs.YtclabhnloohccaaDoor.G

/-- A list of numbers by a function. -/
def lst (n : Nat) (f : Nat → Nat) : List Int := ints ((List.range n).map f)
theorem lst_length (n : Nat) (f : Nat → Nat) : (lst n f).length = n := by
  unfold lst
  rw [ints_length, List.length_map, List.length_range]
theorem rd_lst {n : Nat} {f : Nat → Nat} {i : Nat} (h : i < n) : rd (lst n f) (i : Int) = ((f i : Nat) : Int) := by
  unfold lst
  rw [rd_ints (by rw [List.length_map, List.length_range]; exact h)]
  simp
theorem lst_congr {n : Nat} {f g : Nat → Nat} (h : ∀ i, i < n → f i = g i) : lst n f = lst n g := by
  unfold lst
  congr 1
  exact List.map_congr_left (fun i hi => h i (List.mem_range.1 hi))
theorem ints_lst (r : List Nat) : ints r = lst r.length fun a => r.getD a 0 := by
  unfold lst
  congr 1
  apply List.ext_getElem
  · simp
  · intro j h1 h2
    simp [h1]
end Go.Proofs.YtclabhnloohccaaDoor.T

namespace Go.Proofs.YtclabhnloohccaaDoor.T
set_option linter.unusedVariables false
set_option linter.unusedSimpArgs false
open Go Go.RowKit Go.Proofs.YtclabhnloohccaaDoorW.PrintWords Go.Proofs.YtclabhnloohccaaDoorW.PrintMore Go.Proofs.YtclabhnloohccaaDoor.G

/-- n rows, each a set below n. -/
def mat (n : Nat) (p : Nat → Nat → Bool) : List Int := lst n fun a => setOf n (p a)
theorem mat_length (n : Nat) (p : Nat → Nat → Bool) : (mat n p).length = n := lst_length n _
theorem rd_mat {n : Nat} {p : Nat → Nat → Bool} {a : Nat} (h : a < n) : rd (mat n p) (a : Int) = ((setOf n (p a) : Nat) : Int) := rd_lst h
theorem mat_bit {n : Nat} {p : Nat → Nat → Bool} {a j : Nat} (hj : j < n) : (setOf n (p a)).testBit j = p a j := by
  rw [testBit_setOf]; simp [hj]
/-- The table of a relation. -/
def tbl (r : List Nat) (a j : Nat) : Bool := (r.getD a 0).testBit j
theorem ints_mat {r : List Nat} (h : IsRelN r) : ints r = mat r.length (tbl r) := by
  rw [ints_lst r]
  apply lst_congr
  intro a ha
  apply Nat.eq_of_testBit_eq
  intro j
  rw [testBit_setOf]
  unfold tbl
  by_cases hj : j < r.length
  · simp [hj]
  · have : (r.getD a 0).testBit j = false := by
      cases hb : (r.getD a 0).testBit j
      · rfl
      · exact absurd (bit_ltD h ha hb) hj
    rw [this]; simp [hj]
theorem l02Dep_mat (m : Int) {n : Nat} (hn : n ≤ 24) (p : Nat → Nat → Bool) {a b : Nat} (ha : a < n) (hb : b < n) : spec_l02Dep.f m (mat n p) (a : Int) (b : Int) = some (p a b) := by
  have h1 := setOf_lt (p a) n
  have hp := pow_24 hn
  unfold spec_l02Dep.f
  rw [if_pos (by omega), if_pos (by rw [mat_length]; omega), rd_mat ha, l01Bit_eq (by omega) (by omega), mat_bit hb, Option.bind_some]
theorem depend_mat (m : Int) {n : Nat} (hn : n ≤ 24) (p : Nat → Nat → Bool) {a b : Nat} (ha : a < n) (hb : b < n) : impl_depend.f m (mat n p) (a : Int) (b : Int) = some (p a b) := by
  have h1 := setOf_lt (p a) n
  have hp := pow_24 hn
  unfold impl_depend.f
  rw [if_pos (by omega), if_pos (by rw [mat_length]; omega), rd_mat ha, has_eq (by omega), mat_bit hb, Option.bind_some]
end Go.Proofs.YtclabhnloohccaaDoor.T

namespace Go.Proofs.YtclabhnloohccaaDoor.T
set_option linter.unusedVariables false
set_option linter.unusedSimpArgs false
open Go Go.RowKit Go.Proofs.YtclabhnloohccaaDoorW.PrintWords Go.Proofs.YtclabhnloohccaaDoorW.PrintMore Go.Proofs.YtclabhnloohccaaDoor.G

theorem lex_cons (a b : Int) (u v : List Int) : lex (a :: u) (b :: v) = if a < b then true else if b < a then false else lex u v := by
  conv => lhs; unfold lex
theorem l01Less_ev (u v : List Int) (hu : u.length < 4611686018427387904) : Ev (fun k => spec_l01Less.f k u v) (lex u v) := by
  have main : ∀ (d i : Nat), i + d = u.length → Ev (fun k => spec_l01Less.l0 k u v (i : Int)) (lex (u.drop i) (v.drop i)) := by
    intro d
    induction d with
    | zero =>
      intro i hi
      rw [List.drop_of_length_le (by omega)]
      have e : lex [] (v.drop i) = decide ((u.length : Int) < (v.length : Int)) := by
        by_cases hlt : (u.length : Int) < (v.length : Int)
        · rw [List.drop_eq_getElem_cons (show i < v.length by omega), decide_eq_true hlt]
          simp [lex]
        · rw [List.drop_of_length_le (show v.length ≤ i by omega), decide_eq_false hlt]
          simp [lex]
      rw [e]
      refine Ev.step (f := fun k => spec_l01Less.j1 k u v (i : Int) false) (fun k => ?_) (Ev.step (f := fun _ => some (decide ((u.length : Int) < (v.length : Int)))) (fun k => ?_) (Ev.now _))
      · simp only [spec_l01Less.l0]
        rw [if_neg (by omega)]
      · simp only [spec_l01Less.j1]
        rw [if_neg (by simp)]
    | succ d ih =>
      intro i hi
      have hi2 : i < u.length := by omega
      rw [List.drop_eq_getElem_cons hi2]
      have eu : rd u (i : Int) = u[i] := rd_nat hi2
      by_cases hv : i < v.length
      · have ev : rd v (i : Int) = v[i] := rd_nat hv
        rw [List.drop_eq_getElem_cons hv, lex_cons]
        have hc := ih (i + 1) (by omega)
        generalize u[i] = a at eu
        generalize v[i] = b at ev
        by_cases h1 : a = b
        · rw [if_neg (by omega), if_neg (by omega)]
          refine Ev.step (f := fun k => spec_l01Less.j1 k u v (i : Int) true) (fun k => ?_) (Ev.step (fun k => ?_) hc)
          · simp only [spec_l01Less.l0]
            rw [if_pos (by omega), decide_eq_true (by omega)]
          · simp only [spec_l01Less.j1]
            rw [if_pos trivial, if_pos (by omega), if_pos (by omega), if_pos (by omega), eu, ev, if_pos h1, wrap_id (x := (i : Int) + 1) (by omega) (by omega)]
            rfl
        · have e : (if a < b then true else if b < a then false else lex (u.drop (i + 1)) (v.drop (i + 1))) = decide (a < b) := by
            by_cases h2 : a < b
            · rw [if_pos h2, decide_eq_true h2]
            · rw [if_neg h2, if_pos (by omega), decide_eq_false h2]
          rw [e]
          refine Ev.step (f := fun k => spec_l01Less.j1 k u v (i : Int) true) (fun k => ?_) (Ev.step (f := fun _ => some (decide (a < b))) (fun k => ?_) (Ev.now _))
          · simp only [spec_l01Less.l0]
            rw [if_pos (by omega), decide_eq_true (by omega)]
          · simp only [spec_l01Less.j1]
            rw [if_pos trivial, if_pos (by omega), if_pos (by omega), if_pos (by omega), eu, ev, if_neg h1]
      · rw [List.drop_of_length_le (show v.length ≤ i by omega)]
        have e : lex (u[i] :: u.drop (i + 1)) [] = decide ((u.length : Int) < (v.length : Int)) := by
          rw [decide_eq_false (by omega)]
          simp [lex]
        rw [e]
        refine Ev.step (f := fun k => spec_l01Less.j1 k u v (i : Int) false) (fun k => ?_) (Ev.step (f := fun _ => some (decide ((u.length : Int) < (v.length : Int)))) (fun k => ?_) (Ev.now _))
        · simp only [spec_l01Less.l0]
          rw [if_pos (by omega), decide_eq_false (by omega)]
        · simp only [spec_l01Less.j1]
          rw [if_neg (by simp)]
  exact main u.length 0 (by omega)
end Go.Proofs.YtclabhnloohccaaDoor.T

namespace Go.Proofs.YtclabhnloohccaaDoor.T
set_option linter.unusedVariables false
set_option linter.unusedSimpArgs false
open Go Go.RowKit Go.Proofs.YtclabhnloohccaaDoorW.PrintWords Go.Proofs.YtclabhnloohccaaDoorW.PrintMore Go.Proofs.YtclabhnloohccaaDoor.G

theorem cmpL_cons (a b : Int) (u v : List Int) : cmpL (a :: u) (b :: v) = if a < b then -1 else if b < a then 1 else cmpL u v := by rw [cmpL]
theorem cmpL_neg : ∀ u v, cmpL v u = - cmpL u v
  | [], [] => rfl
  | [], _ :: _ => rfl
  | _ :: _, [] => rfl
  | a :: u, b :: v => by
    unfold cmpL
    by_cases h1 : a < b
    · rw [if_pos h1, if_neg (by omega), if_pos h1]; rfl
    · by_cases h2 : b < a
      · rw [if_pos h2, if_neg h1, if_pos h2]
      · rw [if_neg h1, if_neg h2, if_neg h2, if_neg h1]
        exact cmpL_neg u v
theorem cmpL_eq : ∀ u v, cmpL u v = 0 → u = v
  | [], [], _ => rfl
  | [], _ :: _, h => by simp [cmpL] at h
  | _ :: _, [], h => by simp [cmpL] at h
  | a :: u, b :: v, h => by
    unfold cmpL at h
    by_cases h1 : a < b
    · rw [if_pos h1] at h; simp at h
    · rw [if_neg h1] at h
      by_cases h2 : b < a
      · rw [if_pos h2] at h; simp at h
      · rw [if_neg h2] at h
        have e : a = b := by omega
        rw [e, cmpL_eq u v h]
theorem cmpL_le : ∀ u v t, cmpL u v ≤ 0 → cmpL v t ≤ 0 → cmpL u t ≤ 0
  | [], _, [], _, _ => by simp [cmpL]
  | [], _, _ :: _, _, _ => by simp [cmpL]
  | _ :: _, [], _, h, _ => by simp [cmpL] at h
  | _ :: _, _ :: _, [], _, h => by simp [cmpL] at h
  | a :: u, b :: v, c :: t, h1, h2 => by
    unfold cmpL at h1 h2 ⊢
    by_cases a1 : a < b
    · by_cases b1 : b < c
      · rw [if_pos (by omega)]; omega
      · rw [if_neg b1] at h2
        by_cases b2 : c < b
        · rw [if_pos b2] at h2; omega
        · rw [if_pos (by omega)]; omega
    · rw [if_neg a1] at h1
      by_cases a2 : b < a
      · rw [if_pos a2] at h1; omega
      · rw [if_neg a2] at h1
        by_cases b1 : b < c
        · rw [if_pos (by omega)]; omega
        · rw [if_neg b1] at h2
          by_cases b2 : c < b
          · rw [if_pos b2] at h2; omega
          · rw [if_neg b2] at h2
            rw [if_neg (by omega), if_neg (by omega)]
            exact cmpL_le u v t h1 h2
theorem ltL_anti (u v : List Int) (h1 : ltL u v = false) (h2 : ltL v u = false) : u = v := by
  have a := of_decide_eq_false h1
  have b := of_decide_eq_false h2
  rw [cmpL_neg u v] at b
  exact cmpL_eq u v (by omega)
theorem ltL_swo : (∀ u, ltL u u = false) ∧ (∀ u v t, ltL u v = true → ltL v t = true → ltL u t = true) ∧ (∀ u v t, ltL u v = false → ltL v t = false → ltL u t = false) := by
  refine ⟨fun u => ?_, fun u v t h1 h2 => ?_, fun u v t h1 h2 => ?_⟩
  · exact decide_eq_false (by have := cmpL_neg u u; omega)
  ·
    have a := of_decide_eq_true h1
    have b := of_decide_eq_true h2
    refine decide_eq_true ?_
    have c := cmpL_le u v t (by omega) (by omega)
    rcases Int.lt_or_eq_of_le c with c | c
    · exact c
    · have e := cmpL_eq u t c
      subst e
      rw [cmpL_neg u v] at b
      omega
  ·
    have a := of_decide_eq_false h1
    have b := of_decide_eq_false h2
    refine decide_eq_false ?_
    have c := cmpL_le t v u (by have := cmpL_neg v t; omega) (by have := cmpL_neg u v; omega)
    have := cmpL_neg t u
    omega
theorem sortL_uniq {l l' : List (List Int)} (hp : l'.Perm l) (hs : l'.Pairwise fun u v => cmpL u v ≤ 0) : l' = sortL l := by
  refine List.Perm.eq_of_pairwise (le := fun x y => (!ltL y x) = true) ?_ ?_ ?_ (hp.trans (List.mergeSort_perm _ _).symm)
  · intro a b _ _ h1 h2
    simp only [Bool.not_eq_true'] at h1 h2
    exact ltL_anti a b h2 h1
  · refine hs.imp (fun {u v} h => ?_)
    simp only [Bool.not_eq_true']
    exact decide_eq_false (by have := cmpL_neg u v; omega)
  · refine List.pairwise_mergeSort (fun a b c h1 h2 => ?_) (fun a b => ?_) l
    · simp only [Bool.not_eq_true'] at h1 h2 ⊢
      exact ltL_swo.2.2 c b a h2 h1
    · cases h : ltL b a
      · rfl
      · have : ltL a b = false := decide_eq_false (by have := of_decide_eq_true h; have := cmpL_neg a b; omega)
        rw [this]; rfl
/-- A list laid at its place among ascending ones. -/
def insS (v : List Int) : List (List Int) → List (List Int)
  | [] => [v]
  | a :: t => if ltL a v then a :: insS v t else if a = v then a :: t else v :: a :: t
theorem insS_perm {v : List Int} : ∀ {l : List (List Int)}, v ∉ l → (insS v l).Perm (v :: l)
  | [], _ => List.Perm.refl _
  | a :: t, h => by
    have h1 : a ≠ v := fun e => h (by rw [e]; exact List.mem_cons_self)
    unfold insS
    split
    · exact ((insS_perm (fun hm => h (List.mem_cons_of_mem _ hm))).cons a).trans (List.Perm.swap v a t)
    · first | exact List.Perm.refl _ | (rw [if_neg h1])
theorem insS_mem {v x : List Int} : ∀ {l : List (List Int)}, x ∈ insS v l → x = v ∨ x ∈ l
  | [], h => by simp [insS] at h; exact .inl h
  | a :: t, h => by
    unfold insS at h
    split at h
    · rcases List.mem_cons.1 h with h | h
      · exact .inr (by rw [h]; exact List.mem_cons_self)
      · rcases insS_mem h with h | h
        · exact .inl h
        · exact .inr (List.mem_cons_of_mem _ h)
    · split at h
      · exact .inr h
      · rcases List.mem_cons.1 h with h | h
        · exact .inl h
        · exact .inr h
theorem ltL_le {u v : List Int} (h : ltL u v = true) : cmpL u v ≤ 0 := by have := of_decide_eq_true h; omega
theorem ltL_ge {u v : List Int} (h : ¬ ltL u v = true) : cmpL v u ≤ 0 := by
  have h1 := of_decide_eq_false (by simpa using h : ltL u v = false)
  have := cmpL_neg u v
  omega
theorem insS_sorted {v : List Int} : ∀ {l : List (List Int)}, (l.Pairwise fun x y => cmpL x y ≤ 0) → (insS v l).Pairwise fun x y => cmpL x y ≤ 0
  | [], _ => by simp [insS]
  | a :: t, h => by
    obtain ⟨h1, h2⟩ := List.pairwise_cons.1 h
    unfold insS
    split
    · rename_i c
      refine List.pairwise_cons.2 ⟨fun x hx => ?_, insS_sorted h2⟩
      rcases insS_mem hx with e | e
      · rw [e]; exact ltL_le c
      · exact h1 x e
    · rename_i c
      split
      · exact h
      · refine List.pairwise_cons.2 ⟨fun x hx => ?_, h⟩
        rcases List.mem_cons.1 hx with e | e
        · rw [e]; exact ltL_ge c
        · exact cmpL_le v a x (ltL_ge c) (h1 x e)
theorem sortL_perm (l : List (List Int)) : (sortL l).Perm l := List.mergeSort_perm _ _
theorem sortL_sorted (l : List (List Int)) : (sortL l).Pairwise fun x y => cmpL x y ≤ 0 := by
  have h := List.pairwise_mergeSort (le := fun x y => !ltL y x) (fun a b c h1 h2 => by
    simp only [Bool.not_eq_true'] at h1 h2 ⊢
    exact ltL_swo.2.2 c b a h2 h1) (fun a b => by
    cases h : ltL b a
    · rfl
    · have : ltL a b = false := decide_eq_false (by have := of_decide_eq_true h; have := cmpL_neg a b; omega)
      rw [this]; rfl) l
  refine h.imp (fun {a b} h => ?_)
  exact ltL_ge (by simpa using h)
/-- Ascending lists with one more. -/
theorem insS_sortL {v : List Int} {l : List (List Int)} (h : v ∉ l) : insS v (sortL l) = sortL (l ++ [v]) := by
  refine sortL_uniq ?_ (insS_sorted (sortL_sorted l))
  have h1 : v ∉ sortL l := fun hm => h ((sortL_perm l).mem_iff.1 hm)
  exact (insS_perm h1).trans (((sortL_perm l).cons v).trans (List.perm_append_singleton v l).symm)
theorem sortL_nil : sortL [] = [] := by simp [sortL]
theorem lex_ltL : ∀ u v : List Int, lex u v = ltL u v
  | [], [] => by simp [lex, ltL, cmpL]
  | [], _ :: _ => by simp [lex, ltL, cmpL]
  | _ :: _, [] => by simp [lex, ltL, cmpL]
  | a :: u, b :: v => by
    rw [lex_cons, lex_ltL u v]
    unfold ltL
    rw [cmpL_cons]
    by_cases h1 : a < b
    · rw [if_pos h1, if_pos h1]; rfl
    · rw [if_neg h1, if_neg h1]
      by_cases h2 : b < a
      · rw [if_pos h2, if_pos h2]; rfl
      · rw [if_neg h2, if_neg h2]
end Go.Proofs.YtclabhnloohccaaDoor.T

namespace Go.Proofs.YtclabhnloohccaaDoor.T
set_option linter.unusedVariables false
set_option linter.unusedSimpArgs false
open Go Go.RowKit Go.Proofs.YtclabhnloohccaaDoorW.PrintWords Go.Proofs.YtclabhnloohccaaDoorW.PrintMore Go.Proofs.YtclabhnloohccaaDoor.G
theorem isA_le {n : Int} {l : List Int} (h : isA n l = true) : 0 ≤ n ∧ n ≤ 8 := by
  obtain ⟨r, rfl, rfl, hr⟩ := isA_nat h
  have := hr.len8
  omega
end Go.Proofs.YtclabhnloohccaaDoor.T

namespace Go.Proofs.YtclabhnloohccaaDoor.T
set_option linter.unusedVariables false
set_option linter.unusedSimpArgs false
open Go Go.RowKit Go.Proofs.YtclabhnloohccaaDoorW.PrintWords Go.Proofs.YtclabhnloohccaaDoorW.PrintMore Go.Proofs.YtclabhnloohccaaDoor.G

/-- The dependence of an alphabet, told for all numbers. -/
def depD (r : List Nat) (a b : Nat) : Bool := if a < r.length ∧ b < r.length then tbl r a b else decide (a = b)
theorem depD_in {r : List Nat} {a b : Nat} (ha : a < r.length) (hb : b < r.length) : depD r a b = tbl r a b := if_pos ⟨ha, hb⟩
theorem depD_refl {r : List Nat} (h : IsAN r) (a : Nat) : depD r a a = true := by
  unfold depD
  split
  · rename_i h1; exact h.refl a h1.1
  · simp
theorem l02Dep_D {r : List Nat} (h : IsAN r) (n : Int) {a b : Nat} (ha : a < r.length) (hb : b < r.length) : spec_l02Dep.f n (ints r) (a : Int) (b : Int) = some (depD r a b) := by
  have h8 := h.len8
  rw [ints_mat h.toIsRelN, l02Dep_mat n (by omega) (tbl r) ha hb, depD_in ha hb]
end Go.Proofs.YtclabhnloohccaaDoor.T

namespace Go.Proofs.YtclabhnloohccaaDoor.T
set_option linter.unusedVariables false
set_option linter.unusedSimpArgs false
open Go Go.RowKit Go.Proofs.YtclabhnloohccaaDoorW.PrintWords Go.Proofs.YtclabhnloohccaaDoorW.PrintMore Go.Proofs.YtclabhnloohccaaDoor.G

/-- The code of an alphabet and words. -/
def codeOf (n : Int) (l : List Int) (ws : List (List Int)) : Int := if isA n l = true then (if ws.all (isW n) = true then 0 else 2) else 1
theorem l03Code_ev (n : Int) (l u v : List Int) : Ev (fun k => spec_l03Code.f k n l u v) (codeOf n l [u, v]) := by
  unfold spec_l03Code.f codeOf
  refine Ev.bind (l02Is_ev n l) ?_
  by_cases h : isA n l = true
  · have hn := isA_le h
    simp only [if_pos h]
    refine Ev.bind (l03Word_ev n (by omega) u) ?_
    cases hu : isW n u
    · simp [hu]
      exact Ev.now _
    · simp only [if_true]
      refine Ev.bind (l03Word_ev n (by omega) v) ?_
      cases hv : isW n v
      · simp [hu, hv]
        exact Ev.now _
      · simp [hu, hv]
        exact Ev.now _
  · simp only [if_neg h]
    exact Ev.now _
theorem isWB_isW {n : Int} (hn : 0 ≤ n ∧ n ≤ 8) (w : List Int) : isWB n w = isW n w := by
  unfold isWB isW
  rw [wrap_id (by omega) (by omega)]
  have e1 : decide ((w.length : Int) ≤ 24) = decide (w.length ≤ 24) := by
    rw [Bool.eq_iff_iff, decide_eq_true_eq, decide_eq_true_eq]; omega
  have e2 : (!(w.any fun x => !decide (0 ≤ x ∧ x ≤ n - 1))) = w.all fun x => decide (0 ≤ x ∧ x ≤ n - 1) := by
    rw [Bool.eq_iff_iff]
    simp
  rw [e1, e2]
theorem checkWords_ev (n : Int) (l : List Int) (ws : List (List Int)) : Ev (fun k => impl_checkWords.f k n l ws) (codeOf n l ws) := by
  unfold impl_checkWords.f codeOf
  refine Ev.bind (implIsAlphabet_ev n l) ?_
  by_cases h : isA n l = true
  · have hn := isA_le h
    simp only [if_pos h]
    have e : (ws.any fun w => !isWB n w) = !(ws.all (isW n)) := by
      rw [Bool.eq_iff_iff]
      simp [isWB_isW hn]
    rw [e]
    cases ws.all (isW n)
    · exact Ev.now _
    · exact Ev.now _
  · simp only [if_neg h]
    exact Ev.now _
theorem code_two (n : Int) (l w : List Int) : codeOf n l [w, w] = codeOf n l [w] := by
  unfold codeOf
  simp
theorem isW_nat {n : Nat} {w : List Int} (h : isW (n : Int) w = true) : ∃ u : List Nat, w = ints u ∧ u.length ≤ 24 ∧ ∀ x ∈ u, x < n := by
  unfold isW at h
  rw [Bool.and_eq_true, decide_eq_true_eq, List.all_eq_true] at h
  obtain ⟨u, rfl⟩ := ints_surj (l := w) (fun x hx => (of_decide_eq_true (h.2 x hx)).1)
  refine ⟨u, rfl, by rw [← ints_length]; exact h.1, fun x hx => ?_⟩
  have := of_decide_eq_true (h.2 (x : Int) (mem_ints.2 ⟨x, hx, rfl⟩))
  omega
/-- What the code 0 tells: an alphabet and a word of it. -/
theorem code_nat {n : Int} {l w : List Int} (h : codeOf n l [w] = 0) : ∃ r u : List Nat, l = ints r ∧ n = (r.length : Int) ∧ IsAN r ∧ w = ints u ∧ u.length ≤ 24 ∧ ∀ x ∈ u, x < r.length := by
  unfold codeOf at h
  by_cases h1 : isA n l = true
  · rw [if_pos h1] at h
    by_cases h2 : isW n w = true
    · obtain ⟨r, rfl, rfl, hr⟩ := isA_nat h1
      obtain ⟨u, rfl, h3, h4⟩ := isW_nat h2
      exact ⟨r, u, rfl, rfl, hr, rfl, h3, h4⟩
    · rw [if_neg (by simp [h2])] at h
      simp at h
  · rw [if_neg h1] at h
    simp at h
/-- Where a letter stands that can come to the front. -/
def fst (D : Nat → Nat → Bool) (a : Nat) : List Nat → Option Nat
  | [] => none
  | x :: v => if x = a then some 0 else if D x a then none else (fst D a v).map (· + 1)
/-- A letter can stand at the front. -/
def can (D : Nat → Nat → Bool) (w : List Nat) (a : Nat) : Bool := (fst D a w).isSome
end Go.Proofs.YtclabhnloohccaaDoor.T

namespace Go.Proofs.YtclabhnloohccaaDoor.T
set_option linter.unusedVariables false
set_option linter.unusedSimpArgs false
open Go Go.RowKit Go.Proofs.YtclabhnloohccaaDoorW.PrintWords Go.Proofs.YtclabhnloohccaaDoorW.PrintMore Go.Proofs.YtclabhnloohccaaDoor.G

theorem depend_D {r : List Nat} (h : IsAN r) (n : Int) {a b : Nat} (ha : a < r.length) (hb : b < r.length) : impl_depend.f n (ints r) (a : Int) (b : Int) = some (depD r a b) := by
  have h8 := h.len8
  rw [ints_mat h.toIsRelN, depend_mat n (by omega) (tbl r) ha hb, depD_in ha hb]
end Go.Proofs.YtclabhnloohccaaDoor.T

namespace Go.Proofs.YtclabhnloohccaaDoor.T
set_option linter.unusedVariables false
set_option linter.unusedSimpArgs false
open Go Go.RowKit Go.Proofs.YtclabhnloohccaaDoorW.PrintWords Go.Proofs.YtclabhnloohccaaDoorW.PrintMore Go.Proofs.YtclabhnloohccaaDoor.G

theorem specSame_ev (a b : List Int) (hl : a.length < 4611686018427387904) : Ev (fun k => spec_l01Same.f k a b) (decide (a = b)) := by
  by_cases hab : a.length = b.length
  · have := all_loop (n := a.length) (G := fun i k => spec_l01Same.l0 k a b (i : Int)) (p := fun i => decide (a.getD i 0 = b.getD i 0)) (R := true) ?_ ?_ ?_
    · have e : ((List.range a.length).all (fun i => decide (a.getD i 0 = b.getD i 0)) && true) = decide (a = b) := by
        rw [Bool.and_true, Bool.eq_iff_iff, List.all_eq_true, decide_eq_true_eq]
        constructor
        · intro h
          apply List.ext_getElem hab
          intro i h1 h2
          have := h i (List.mem_range.2 h1)
          simpa [h1, h2] using this
        · rintro rfl i _
          simp
      rw [e] at this
      refine Ev.congr (fun k => ?_) this
      unfold spec_l01Same.f
      rw [if_pos (by omega)]
      rfl
    · refine Ev.step (f := fun _ => some true) (fun k => ?_) (Ev.now _)
      simp only [spec_l01Same.l0]
      rw [if_neg (by omega)]
    · intro i hi hp R hR
      have hj : i < b.length := by omega
      refine Ev.step (fun k => ?_) hR
      rw [decide_eq_true_eq] at hp
      simp only [spec_l01Same.l0]
      rw [if_pos (by omega), if_pos (by omega), if_pos (by omega), rd_nat hi, rd_nat hj, if_pos (by simpa [hi, hj] using hp), wrap_id (by omega) (by omega)]
      rfl
    · intro i hi hp
      have hj : i < b.length := by omega
      refine Ev.step (f := fun _ => some false) (fun k => ?_) (Ev.now _)
      rw [decide_eq_false_iff_not] at hp
      simp only [spec_l01Same.l0]
      rw [if_pos (by omega), if_pos (by omega), if_pos (by omega), rd_nat hi, rd_nat hj, if_neg (by simpa [hi, hj] using hp)]
  · refine Ev.of_all fun k => ?_
    unfold spec_l01Same.f
    rw [if_neg (by omega)]
    have : ¬ a = b := by rintro rfl; exact hab rfl
    simp [this]
end Go.Proofs.YtclabhnloohccaaDoor.T

namespace Go.Proofs.YtclabhnloohccaaDoor.T
set_option linter.unusedVariables false
set_option linter.unusedSimpArgs false
open Go Go.RowKit Go.Proofs.YtclabhnloohccaaDoorW.PrintWords Go.Proofs.YtclabhnloohccaaDoorW.PrintMore Go.Proofs.YtclabhnloohccaaDoor.G

/-- A word with two letters that follow each other exchanged. -/
def swI (u : List Nat) (i : Nat) : List Int := ((ints u).set i ((u.getD (i + 1) 0 : Nat) : Int)).set (i + 1) ((u.getD i 0 : Nat) : Int)
/-- The words that come out of a word by one exchange at a place before i. -/
def nbN (D : Nat → Nat → Bool) (u : List Nat) : Nat → List (List Int)
  | 0 => []
  | i + 1 => if D (u.getD i 0) (u.getD (i + 1) 0) = true then nbN D u i else nbN D u i ++ [swI u i]
theorem swI_length (u : List Nat) (i : Nat) : (swI u i).length = u.length := by simp [swI, ints_length]
theorem nbN_length (D : Nat → Nat → Bool) (u : List Nat) : ∀ i, (nbN D u i).length ≤ i
  | 0 => Nat.le_refl _
  | i + 1 => by
    unfold nbN
    have := nbN_length D u i
    split
    · omega
    · rw [List.length_append, List.length_singleton]; omega
theorem nbN_mem (D : Nat → Nat → Bool) (u : List Nat) : ∀ i x, x ∈ nbN D u i → ∃ j, j < i ∧ x = swI u j ∧ ¬ D (u.getD j 0) (u.getD (j + 1) 0) = true
  | 0, x, h => by simp [nbN] at h
  | i + 1, x, h => by
    unfold nbN at h
    split at h
    · obtain ⟨j, h1, h2⟩ := nbN_mem D u i x h
      exact ⟨j, by omega, h2⟩
    · rename_i c
      rcases List.mem_append.1 h with h | h
      · obtain ⟨j, h1, h2⟩ := nbN_mem D u i x h
        exact ⟨j, by omega, h2⟩
      · rw [List.mem_singleton] at h
        exact ⟨i, by omega, h, c⟩
theorem nbN_small (D : Nat → Nat → Bool) (u : List Nat) (i : Nat) : ∀ x ∈ nbN D u i, x.length = u.length := fun x hx => by
  obtain ⟨j, _, e, _⟩ := nbN_mem D u i x hx
  rw [e, swI_length]
theorem swI_fresh {D : Nat → Nat → Bool} (hD : ∀ a, D a a = true) {u : List Nat} {i : Nat} (hi : i + 1 < u.length) : swI u i ∉ nbN D u i := fun h => by
  obtain ⟨j, hj, e, hd⟩ := nbN_mem D u i _ h
  have e1 : (swI u i)[j]? = (swI u j)[j]? := by rw [e]
  unfold swI at e1
  rw [List.getElem?_set_ne (by omega), List.getElem?_set_ne (by omega), List.getElem?_set_ne (by omega), List.getElem?_set_self (by rw [ints_length]; omega)] at e1
  have hj1 : j < u.length := by omega
  have e2 : (ints u)[j]? = some ((u.getD j 0 : Nat) : Int) := by
    unfold ints
    simp [hj1]
  rw [e2] at e1
  injection e1 with e1
  have e3 : u.getD j 0 = u.getD (j + 1) 0 := by omega
  rw [← e3] at hd
  exact hd (hD _)
theorem getD_memN {u : List Nat} {i : Nat} (h : i < u.length) : u.getD i 0 ∈ u := by simp [h]
theorem rdD {u : List Nat} {i : Nat} (h : i < u.length) : rd (ints u) (i : Int) = ((u.getD i 0 : Nat) : Int) := by
  show (ints u).getD (i : Int).toNat 0 = _
  rw [Int.toNat_natCast]
  exact getD_ints u i
theorem nbImpl_ev {r u : List Nat} (h : IsAN r) (hu : ∀ x ∈ u, x < r.length) (hl : u.length ≤ 24) : Ev (fun k => impl_NeighboursOf.l0 k (r.length : Int) (ints r) (ints u) 1 []) (nbN (depD r) u (u.length - 1)) := by
  refine loop_ev (u.length - 1) (fun i k => impl_NeighboursOf.l0 k (r.length : Int) (ints r) (ints u) ((i + 1 : Nat) : Int) (nbN (depD r) u i)) ?_ ?_
  · refine Ev.step (f := fun _ => some (nbN (depD r) u (u.length - 1))) (fun k => ?_) (Ev.now _)
    simp only [impl_NeighboursOf.l0]
    rw [if_neg (by rw [ints_length]; omega)]
  · intro i hi ih
    refine Ev.step (fun k => ?_) ih
    have hw1 : wrap64 (((i + 1 : Nat) : Int) - 1) = (i : Int) := by rw [wrap_id (by omega) (by omega)]; omega
    have hw2 : wrap64 (((i + 1 : Nat) : Int) + 1) = ((i + 1 + 1 : Nat) : Int) := by rw [wrap_id (by omega) (by omega)]; omega
    have hlen := nbN_length (depD r) u i
    simp only [impl_NeighboursOf.l0]
    rw [hw1, hw2, if_pos (by rw [ints_length]; omega), if_pos (by omega), if_pos (by omega), rdD (show i < u.length by omega), rdD (show i + 1 < u.length by omega), depend_D h _ (hu _ (getD_memN (by omega))) (hu _ (getD_memN (by omega))), Option.bind_some, Int.toNat_natCast, Int.toNat_natCast]
    by_cases hd : depD r (u.getD i 0) (u.getD (i + 1) 0) = true
    · rw [if_pos hd]
      simp only [nbN, if_pos hd]
    · rw [if_neg hd, if_pos (by omega)]
      simp only [nbN, if_neg hd]
      rfl
/-- What reference and program answer. -/
def nbOf (n : Int) (l w : List Int) : List (List Int) × Int := if codeOf n l [w] = 0 then (sortL (nbN (depD (l.map Int.toNat)) (w.map Int.toNat) (w.length - 1)), 0) else ([], codeOf n l [w])
theorem toNat_intsN (u : List Nat) : (ints u).map Int.toNat = u := toNat_ints u
theorem implNeighboursOf_ev (n : Int) (l w : List Int) : Ev (fun k => impl_NeighboursOf.f k n l w) (nbOf n l w) := by
  unfold impl_NeighboursOf.f nbOf
  refine Ev.bind (checkWords_ev n l [w]) ?_
  by_cases h : codeOf n l [w] = 0
  · rw [if_pos h]
    simp only [if_pos h]
    obtain ⟨r, u, rfl, rfl, hr, rfl, hl, hu⟩ := code_nat h
    rw [toNat_intsN, toNat_intsN, ints_length]
    simp only [if_pos (show u.length ≤ 1048576 by omega)]
    refine Ev.bind (nbImpl_ev hr hu hl) ?_
    refine ⟨25, fun k hk => ?_⟩
    have h1 := nbN_length (depD r) u (u.length - 1)
    have h2 := nbN_small (depD r) u (u.length - 1)
    show (if _ then _ else _) = _
    rw [if_pos ⟨by omega, by omega, fun x hx => by rw [h2 x hx]; omega⟩]
  · rw [if_neg h]
    simp only [if_neg h]
    exact Ev.now _
theorem insert_ev (v : List Int) (hv : v.length ≤ 24) (L : List (List Int)) (hL : L.length ≤ 1000) (hs : ∀ x ∈ L, x.length ≤ 24) : Ev (fun k => spec_l03Insert.f k L v) (insS v L) := by
  have main : ∀ (d i : Nat), i + d = L.length → Ev (fun k => spec_l03Insert.l0 k L v (i : Int)) (L.take i ++ insS v (L.drop i)) := by
    intro d
    induction d with
    | zero =>
      intro i hi
      rw [List.drop_of_length_le (by omega), List.take_of_length_le (by omega)]
      refine Ev.step (f := fun _ => some (L ++ insS v [])) (fun k => ?_) (Ev.now _)
      simp only [spec_l03Insert.l0]
      rw [if_neg (by omega)]
      simp only [Option.bind_some, Int.toNat_natCast]
      rw [if_pos (by omega), if_pos (by omega), if_pos (by simp; omega), if_pos (by simp; omega), if_pos (by simp; omega), List.drop_of_length_le (by omega), List.take_of_length_le (by omega)]
      simp [insS]
    | succ d ih =>
      intro i hi
      have hi2 : i < L.length := by omega
      have eL : rd_L1 L (i : Int) = L[i] := by unfold rd_L1; rw [Int.toNat_natCast]; simp [hi2]
      have hm : L[i].length ≤ 24 := hs _ (List.getElem_mem hi2)
      have hless := l01Less_ev L[i] v (by omega)
      have hsame := specSame_ev L[i] v (by omega)
      rw [List.drop_eq_getElem_cons hi2]
      by_cases h1 : ltL L[i] v = true
      · have e : L.take i ++ insS v (L[i] :: L.drop (i + 1)) = L.take (i + 1) ++ insS v (L.drop (i + 1)) := by
          rw [List.take_succ_eq_append_getElem hi2, List.append_assoc]
          simp [insS, h1]
        rw [e]
        have hn : Ev (fun k => (spec_l01Less.f k L[i] v).bind fun t => if t = true then spec_l03Insert.l0 k L v ((i + 1 : Nat) : Int) else none) (L.take (i + 1) ++ insS v (L.drop (i + 1))) := by
          refine Ev.bind hless ?_
          rw [lex_ltL, h1]
          simp only [if_pos rfl]
          exact ih (i + 1) (by omega)
        obtain ⟨K, hK⟩ := hn
        refine ⟨K + 1, fun k hk => ?_⟩
        obtain ⟨k1, rfl⟩ : ∃ k1, k = k1 + 1 := ⟨k - 1, by omega⟩
        have h3 := hK k1 (by omega)
        simp only at h3
        simp only [spec_l03Insert.l0]
        rw [if_pos (by omega), if_pos (by omega), eL, wrap_id (x := (i : Int) + 1) (by omega) (by omega)]
        obtain ⟨t, ht, h4⟩ := Option.bind_eq_some_iff.1 h3
        rw [ht, Option.bind_some]
        cases t with
        | true =>
          rw [if_pos rfl] at h4 ⊢
          exact h4
        | false => simp at h4
      · have h1' : ltL L[i] v = false := by simpa using h1
        obtain ⟨K1, hK1⟩ := hless
        obtain ⟨K2, hK2⟩ := hsame
        refine ⟨K1 + K2 + 1, fun k hk => ?_⟩
        obtain ⟨k1, rfl⟩ : ∃ k1, k = k1 + 1 := ⟨k - 1, by omega⟩
        have e1 : spec_l01Less.f k1 L[i] v = some (lex L[i] v) := hK1 k1 (by omega)
        have e2 : spec_l01Same.f k1 L[i] v = some (decide (L[i] = v)) := hK2 k1 (by omega)
        simp only [spec_l03Insert.l0]
        rw [if_pos (by omega), if_pos (by omega), eL, e1, Option.bind_some, lex_ltL, h1', if_neg (by decide), e2, Option.bind_some]
        by_cases h2 : L[i] = v
        · rw [if_pos (decide_eq_true h2)]
          unfold insS
          rw [h1', if_neg (by decide), if_pos h2, ← List.drop_eq_getElem_cons hi2, List.take_append_drop]
        · rw [if_neg (by simpa using h2)]
          simp only [Option.bind_some, Int.toNat_natCast]
          rw [if_pos (by omega), if_pos (by simp; omega), if_pos (by simp; omega), if_pos (by simp; omega)]
          unfold insS
          rw [h1', if_neg (by decide), if_neg h2, ← List.drop_eq_getElem_cons hi2]
          simp
  have := main L.length 0 (by omega)
  rw [List.take_zero, List.nil_append, List.drop_zero] at this
  exact this
theorem nbSpec_ev {r u : List Nat} (h : IsAN r) (hu : ∀ x ∈ u, x < r.length) (hl : u.length ≤ 24) : Ev (fun k => spec_NeighboursOf.l0 k (ints u) [] 1 (r.length : Int) (ints r)) (sortL (nbN (depD r) u (u.length - 1)), 0) := by
  have h8 := h.len8
  have main := loop_ev (u.length - 1) (fun i k => spec_NeighboursOf.l0 k (ints u) (sortL (nbN (depD r) u i)) ((i + 1 : Nat) : Int) (r.length : Int) (ints r)) (r := (sortL (nbN (depD r) u (u.length - 1)), 0)) ?_ ?_
  · simpa [nbN, sortL_nil] using main
  · refine Ev.step (f := fun _ => some (sortL (nbN (depD r) u (u.length - 1)), 0)) (fun k => ?_) (Ev.now _)
    simp only [spec_NeighboursOf.l0]
    rw [if_neg (by rw [ints_length]; omega)]
  · intro i hi ih
    have hw1 : wrap64 (((i + 1 : Nat) : Int) - 1) = (i : Int) := by rw [wrap_id (by omega) (by omega)]; omega
    have hw2 : wrap64 (((i + 1 : Nat) : Int) + 1) = ((i + 1 + 1 : Nat) : Int) := by rw [wrap_id (by omega) (by omega)]; omega
    have hlen := nbN_length (depD r) u i
    have hown : spec_l01Own.f (ints u) = some (ints u) := by
      unfold spec_l01Own.f
      rw [Option.bind_some, if_pos (by simp [ints_length]; omega)]
      rfl
    have hstep : Ev (fun k => if depD r (u.getD i 0) (u.getD (i + 1) 0) = true then spec_NeighboursOf.l0 k (ints u) (sortL (nbN (depD r) u i)) ((i + 1 + 1 : Nat) : Int) (r.length : Int) (ints r) else (spec_l03Insert.f k (sortL (nbN (depD r) u i)) (swI u i)).bind fun t => spec_NeighboursOf.l0 k (ints u) t ((i + 1 + 1 : Nat) : Int) (r.length : Int) (ints r)) (sortL (nbN (depD r) u (u.length - 1)), 0) := by
      by_cases hd : depD r (u.getD i 0) (u.getD (i + 1) 0) = true
      · simp only [if_pos hd]
        simp only [nbN, if_pos hd] at ih
        exact ih
      · simp only [if_neg hd]
        have hp := sortL_perm (nbN (depD r) u i)
        refine Ev.bind (insert_ev (swI u i) (by rw [swI_length]; omega) _ (by have := hp.length_eq; omega) (fun x hx => by rw [nbN_small _ _ _ x (hp.mem_iff.1 hx)]; omega)) ?_
        rw [insS_sortL (swI_fresh (depD_refl h) (by omega))]
        simp only [nbN, if_neg hd] at ih
        exact ih
    refine Ev.step (fun k => ?_) hstep
    simp only [spec_NeighboursOf.l0]
    rw [hw1, hw2, if_pos (by rw [ints_length]; omega), if_pos (by omega), if_pos (by rw [ints_length]; omega), if_pos (by omega), rdD (show i < u.length by omega), rdD (show i + 1 < u.length by omega), l02Dep_D h _ (hu _ (getD_memN (by omega))) (hu _ (getD_memN (by omega))), Option.bind_some]
    by_cases hd : depD r (u.getD i 0) (u.getD (i + 1) 0) = true
    · rw [if_pos hd, if_pos hd]
    · rw [if_neg hd, if_neg hd, hown, Option.bind_some, if_pos (by rw [ints_length]; omega), if_pos (by rw [ints_length]; omega)]
      rfl
theorem specNeighboursOf_ev (n : Int) (l w : List Int) : Ev (fun k => spec_NeighboursOf.f k n l w) (nbOf n l w) := by
  unfold spec_NeighboursOf.f nbOf
  refine Ev.bind (l03Code_ev n l w w) ?_
  rw [code_two]
  by_cases h : codeOf n l [w] = 0
  · rw [if_pos h]
    simp only [if_pos h]
    obtain ⟨r, u, rfl, rfl, hr, rfl, hl, hu⟩ := code_nat h
    rw [toNat_intsN, toNat_intsN, ints_length]
    exact nbSpec_ev hr hu hl
  · rw [if_neg h]
    simp only [if_neg h]
    exact Ev.now _
theorem nbOf_small (n : Int) (l w : List Int) : (nbOf n l w).1.length ≤ 1000000 ∧ ∀ r ∈ (nbOf n l w).1, r.length ≤ 1000 := by
  unfold nbOf
  by_cases h : codeOf n l [w] = 0
  · rw [if_pos h]
    obtain ⟨r, u, rfl, rfl, hr, rfl, hl, hu⟩ := code_nat h
    rw [toNat_intsN, toNat_intsN, ints_length]
    have hp := sortL_perm (nbN (depD r) u (u.length - 1))
    have h1 := nbN_length (depD r) u (u.length - 1)
    refine ⟨by have := hp.length_eq; simp only; omega, fun x hx => ?_⟩
    have h2 := nbN_small _ _ _ x (hp.mem_iff.1 hx)
    omega
  · rw [if_neg h]
    simp
end Go.Proofs.YtclabhnloohccaaDoor.T

namespace Go.Proofs.YtclabhnloohccaaDoor.T
open Go Go.RowKit Go.Proofs.YtclabhnloohccaaDoorW.PrintWords Go.Proofs.YtclabhnloohccaaDoorW.PrintMore Go.Proofs.YtclabhnloohccaaDoor.G

theorem toInt64S_loop (l : List Int) (hl : l.length ≤ 35184372088832) : ∀ (d i : Nat), i + d = l.length → Ev (fun k => laws_toInt64S.l0 k l (l.take i ++ List.replicate d 0) (i : Int)) l
  | 0, i, h => by
    refine Ev.step (f := fun _ => some l) (fun k => ?_) (Ev.now l)
    obtain rfl : i = l.length := by omega
    simp only [laws_toInt64S.l0]
    rw [if_neg (by omega)]
    simp
  | d + 1, i, h => by
    have ih := toInt64S_loop l hl d (i + 1) (by omega)
    refine Ev.step (fun k => ?_) ih
    have hi : i < l.length := by omega
    simp only [laws_toInt64S.l0]
    rw [if_pos (by omega), if_pos (by omega), if_pos (by simp; omega), Int.toNat_natCast, rd_nat hi, wrap_id (by omega) (by omega)]
    congr 1
    rw [List.set_append_right _ _ (by simp; omega)]
    simp only [List.length_take, Nat.min_eq_left (Nat.le_of_lt hi), Nat.sub_self, List.replicate_succ, List.set_cons_zero]
    rw [List.take_succ_eq_append_getElem hi, List.append_assoc]
    rfl
theorem toInt64S_ev (l : List Int) (hl : l.length ≤ 35184372088832) : Ev (fun k => laws_toInt64S.f k l) l := by
  refine Ev.congr (fun k => ?_) (toInt64S_loop l hl l.length 0 (by omega))
  unfold laws_toInt64S.f
  rw [if_pos (by omega), Int.toNat_natCast, if_pos hl]
  simp

theorem eqInt64S_loop (a b : List Int) (hab : a.length = b.length) (hl : a.length < 4611686018427387904) : ∀ (d i : Nat), i + d = a.length → a.take i = b.take i → Ev (fun k => laws_eqInt64S.l0 k a b (i : Int)) (decide (a = b))
  | 0, i, h, ht => by
    refine Ev.step (f := fun _ => some (decide (a = b))) (fun k => ?_) (Ev.now _)
    obtain rfl : i = a.length := by omega
    simp only [laws_eqInt64S.l0]
    rw [if_neg (by omega)]
    rw [List.take_length, hab, List.take_length] at ht
    simp [ht]
  | d + 1, i, h, ht => by
    have hi : i < a.length := by omega
    have hj : i < b.length := by omega
    by_cases e : a[i] = b[i]
    · have ih := eqInt64S_loop a b hab hl d (i + 1) (by omega) (by rw [List.take_succ_eq_append_getElem hi, List.take_succ_eq_append_getElem hj, ht, e])
      refine Ev.step (fun k => ?_) ih
      simp only [laws_eqInt64S.l0]
      rw [if_pos (by omega), if_pos (by omega), if_pos (by omega), rd_nat hi, rd_nat hj, if_pos e, wrap_id (by omega) (by omega)]
      rfl
    · refine Ev.step (f := fun _ => some (decide (a = b))) (fun k => ?_) (Ev.now _)
      simp only [laws_eqInt64S.l0]
      rw [if_pos (by omega), if_pos (by omega), if_pos (by omega), rd_nat hi, rd_nat hj, if_neg e]
      have : ¬ a = b := by rintro rfl; exact e rfl
      simp [this]
theorem eqInt64S_ev (a b : List Int) (hl : a.length < 4611686018427387904) : Ev (fun k => laws_eqInt64S.f k a b) (decide (a = b)) := by
  by_cases hab : a.length = b.length
  · refine Ev.congr (fun k => ?_) (eqInt64S_loop a b hab hl a.length 0 (by omega) (by simp))
    unfold laws_eqInt64S.f
    rw [if_pos (by omega)]
    rfl
  · refine Ev.of_all fun k => ?_
    unfold laws_eqInt64S.f
    rw [if_neg (by omega)]
    have : ¬ a = b := by rintro rfl; exact hab rfl
    simp [this]

/-- The numbers a, a + 1, .., as many as n. -/
def iota (a n : Nat) : List Int := (List.range n).map fun i => ((a + i : Nat) : Int)
theorem iota_length (a n : Nat) : (iota a n).length = n := by simp [iota]
theorem iota_get (a n i : Nat) (h : i < (iota a n).length) : (iota a n)[i] = ((a + i : Nat) : Int) := by simp [iota]
theorem mark_loop (l : List Int) (a : Nat) (hb : a + l.length < 4611686018427387904) : ∀ (d i : Nat), i + d = l.length → Ev (fun k => laws_markInt64S.l0 k (iota a i ++ l.drop i) ((a + i : Nat) : Int) (i : Int)) (((a + l.length : Nat) : Int), iota a l.length)
  | 0, i, h => by
    refine Ev.step (f := fun _ => some (((a + l.length : Nat) : Int), iota a l.length)) (fun k => ?_) (Ev.now _)
    obtain rfl : i = l.length := by omega
    simp only [laws_markInt64S.l0]
    rw [if_neg (by simp [iota_length])]
    simp
  | d + 1, i, h => by
    have ih := mark_loop l a hb d (i + 1) (by omega)
    refine Ev.step (fun k => ?_) ih
    have hi : i < l.length := by omega
    simp only [laws_markInt64S.l0]
    rw [if_pos (by simp [iota_length]; omega), if_pos (by omega), Int.toNat_natCast, wrap_id (x := (i : Int) + 1) (by omega) (by omega), wrap_id (by omega) (by omega)]
    congr 1
    rw [List.set_append_right _ _ (by simp [iota_length]), iota_length, Nat.sub_self, List.drop_eq_getElem_cons hi, List.set_cons_zero]
    unfold iota
    rw [List.range_succ, List.map_append, List.append_assoc]
    rfl
theorem mark_ev (l : List Int) (a : Nat) (hb : a + l.length < 4611686018427387904) : Ev (fun k => laws_markInt64S.f k l (a : Int)) (((a + l.length : Nat) : Int), iota a l.length) := by
  have := mark_loop l a hb l.length 0 (by omega)
  refine Ev.congr (fun k => ?_) this
  rfl
theorem held_loop (a n : Nat) (hb : a + n < 4611686018427387904) : ∀ (d i : Nat), i + d = n → Ev (fun k => laws_heldInt64S.l0 k (iota a n) ((a + i : Nat) : Int) (i : Int)) ((a + n : Nat) : Int)
  | 0, i, h => by
    refine Ev.step (f := fun _ => some ((a + n : Nat) : Int)) (fun k => ?_) (Ev.now _)
    obtain rfl : i = n := by omega
    simp only [laws_heldInt64S.l0]
    rw [if_neg (by simp [iota_length])]
  | d + 1, i, h => by
    have ih := held_loop a n hb d (i + 1) (by omega)
    refine Ev.step (fun k => ?_) ih
    have hi : i < (iota a n).length := by rw [iota_length]; omega
    simp only [laws_heldInt64S.l0]
    rw [if_pos (by omega), if_pos (by omega), rd_nat hi, iota_get, if_pos rfl, wrap_id (x := (i : Int) + 1) (by omega) (by omega), wrap_id (by omega) (by omega)]
    rfl
theorem held_ev (a n : Nat) (hb : a + n < 4611686018427387904) : Ev (fun k => laws_heldInt64S.f k (iota a n) (a : Int)) ((a + n : Nat) : Int) := by
  refine Ev.congr (fun k => ?_) (held_loop a n hb n 0 (by omega))
  rfl
theorem mark1_ev (l : List Int) (hb : l.length < 4611686018427387903) : Ev (fun k => laws_markInt64S.f k l 1) (1 + (l.length : Int), iota 1 l.length) := by
  have := mark_ev l 1 (by omega)
  rwa [show ((1 + l.length : Nat) : Int) = 1 + (l.length : Int) by push_cast; rfl] at this
theorem markAt_ev (l : List Int) (s : Int) (h0 : 0 ≤ s) (hb : s + (l.length : Int) < 4611686018427387903) : Ev (fun k => laws_markInt64S.f k l s) (s + (l.length : Int), iota s.toNat l.length) := by
  have := mark_ev l s.toNat (by omega)
  rwa [show ((s.toNat + l.length : Nat) : Int) = s + (l.length : Int) by omega, show ((s.toNat : Nat) : Int) = s by omega] at this
theorem eqSelf_ev (l : List Int) (hl : l.length < 4611686018427387904) : Ev (fun k => laws_eqInt64S.f k l l) true := by
  have := eqInt64S_ev l l hl
  rwa [decide_eq_true rfl] at this
theorem szAlphabet_big (a : Int) (l : List Int) (hl : l.length ≤ maxLen) (h : l.length > 1048576) : laws_szAlphabet.f a l 1048576 = some (-1) := by
  unfold maxLen at hl
  unfold laws_szAlphabet.f laws_szInt64S.f
  rw [wrap_id (by omega) (by omega), if_pos (by omega), Option.bind_some, if_pos (by omega)]
theorem szAlphabet_ok (a : Int) (l : List Int) (h : ¬ l.length > 1048576) : laws_szAlphabet.f a l 1048576 = some (1048576 - (l.length : Int)) := by
  unfold laws_szAlphabet.f laws_szInt64S.f
  rw [wrap_id (by omega) (by omega), if_neg (by omega), Option.bind_some, if_neg (by omega)]
theorem toAlphabet_ev (a : Int) (l : List Int) (hl : l.length ≤ 35184372088832) : Ev (fun k => laws_toAlphabet.f k a l) (a, l) := by
  unfold laws_toAlphabet.f
  exact Ev.bind (toInt64S_ev l hl) (Ev.now _)
theorem eqAlphabet_ev (a : Int) (l : List Int) (hl : l.length < 4611686018427387904) : Ev (fun k => laws_eqAlphabet.f k a l a l) true := by
  refine Ev.congr (f := fun k => (laws_eqInt64S.f k l l).bind fun t => if t = true then some true else some false) (fun k => ?_) (Ev.bind (eqSelf_ev l hl) (Ev.now _))
  unfold laws_eqAlphabet.f
  rw [if_pos rfl]
theorem markAlphabet1_ev (a : Int) (l : List Int) (hb : l.length < 4611686018427387903) : Ev (fun k => laws_markAlphabet.f k a l 1) (1 + (l.length : Int), iota 1 l.length) := by
  unfold laws_markAlphabet.f
  exact Ev.bind (mark1_ev l hb) (Ev.now _)
end Go.Proofs.YtclabhnloohccaaDoor.T

namespace Go.Proofs.YtclabhnloohccaaDoor.T
set_option linter.unusedVariables false
set_option linter.unusedSimpArgs false
open Go Go.RowKit Go.Proofs.YtclabhnloohccaaDoorW.PrintWords Go.Proofs.YtclabhnloohccaaDoorW.PrintMore Go.Proofs.YtclabhnloohccaaDoor.G
/-- How many numbers lie in rows. -/
def totR : List (List Int) → Nat
  | [] => 0
  | r :: S => r.length + totR S
/-- Rows of the same lengths, full of the numbers from a on. -/
def mkR (a : Nat) : List (List Int) → List (List Int)
  | [] => []
  | r :: S => iota a r.length :: mkR (a + r.length) S
theorem totR_bound (S : List (List Int)) (h : ∀ r ∈ S, r.length ≤ 1000) : totR S ≤ S.length * 1000 := by
  induction S with
  | nil => simp [totR]
  | cons r S ih =>
    have h1 := h r List.mem_cons_self
    have h2 := ih (fun x hx => h x (List.mem_cons_of_mem _ hx))
    simp only [totR, List.length_cons, Nat.succ_mul]
    omega
theorem rdL1_at (P : List (List Int)) (r : List Int) (R : List (List Int)) (i : Int) (h : i = (P.length : Int)) : (P ++ r :: R).getD i.toNat [] = r := by
  subst h
  rw [Int.toNat_natCast, List.getD_eq_getElem?_getD, List.getElem?_append_right (Nat.le_refl _), Nat.sub_self]
  rfl
theorem rdL1_L (P : List (List Int)) (r : List Int) (R : List (List Int)) : rd_L1 (P ++ r :: R) (P.length : Int) = r := rdL1_at P r R _ rfl
theorem eqSS_loop (P R : List (List Int)) (hl : (P ++ R).length < 4611686018427387904) (hr : ∀ r ∈ R, r.length < 4611686018427387904) : Ev (fun k => laws_eqInt64SS.l0 k (P ++ R) (P ++ R) (P.length : Int)) true := by
  induction R generalizing P with
  | nil =>
    refine Ev.step (f := fun _ => some true) (fun k => ?_) (Ev.now _)
    simp only [laws_eqInt64SS.l0]
    rw [if_neg (by simp)]
  | cons r R ih =>
    have h1 := eqSelf_ev r (hr r List.mem_cons_self)
    have h2 := ih (P ++ [r]) (by rw [List.append_assoc]; exact hl) (fun x hx => hr x (List.mem_cons_of_mem _ hx))
    rw [List.append_assoc, List.singleton_append, List.length_append, List.length_singleton] at h2
    rw [List.length_append, List.length_cons] at hl
    have main : Ev (fun k => (laws_eqInt64S.f k r r).bind fun t => if t = true then laws_eqInt64SS.l0 k (P ++ r :: R) (P ++ r :: R) ((P.length + 1 : Nat) : Int) else some false) true := Ev.bind h1 (by simp only [if_true]; exact h2)
    refine Ev.step (fun k => ?_) main
    simp only [laws_eqInt64SS.l0]
    rw [if_pos (by rw [List.length_append, List.length_cons]; omega), if_pos (by omega), if_pos (by rw [List.length_append, List.length_cons]; omega), rdL1_L P r R, wrap_id (by omega) (by omega)]
    rfl
theorem eqSS_ev (S : List (List Int)) (hl : S.length < 4611686018427387904) (hr : ∀ r ∈ S, r.length < 4611686018427387904) : Ev (fun k => laws_eqInt64SS.f k S S) true := by
  refine Ev.congr (fun k => ?_) (eqSS_loop [] S hl hr)
  unfold laws_eqInt64SS.f
  rw [if_pos rfl]
  rfl
theorem markSS_loop (P : List (List Int)) (R : List (List Int)) (a : Nat) (hl : (P ++ R).length < 4611686018427387904) (hb : a + totR R < 4611686018427387904) : Ev (fun k => laws_markInt64SS.l0 k (P ++ R) (a : Int) (P.length : Int)) (((a + totR R : Nat) : Int), P ++ mkR a R) := by
  induction R generalizing P a with
  | nil =>
    refine Ev.step (f := fun _ => some (((a + totR [] : Nat) : Int), P ++ mkR a [])) (fun k => ?_) (Ev.now _)
    simp only [laws_markInt64SS.l0]
    rw [if_neg (by simp)]
    simp [totR, mkR]
  | cons r R ih =>
    simp only [totR] at hb
    have h1 := mark_ev r a (by omega)
    have h2 := ih (P ++ [iota a r.length]) (a + r.length) (by rw [List.append_assoc]; simpa using hl) (by omega)
    rw [List.append_assoc, List.append_assoc, List.singleton_append, List.singleton_append, List.length_append, List.length_singleton] at h2
    rw [List.length_append, List.length_cons] at hl
    have e1 : a + r.length + totR R = a + totR (r :: R) := by simp only [totR]; omega
    have e2 : P ++ iota a r.length :: mkR (a + r.length) R = P ++ mkR a (r :: R) := rfl
    rw [e1, e2] at h2
    have e3 : (P ++ r :: R).set P.length (iota a r.length) = P ++ iota a r.length :: R := by
      rw [List.set_append_right _ _ (Nat.le_refl _), Nat.sub_self, List.set_cons_zero]
    have main : Ev (fun k => (laws_markInt64S.f k r (a : Int)).bind fun t => laws_markInt64SS.l0 k ((P ++ r :: R).set P.length t.2) t.1 ((P.length + 1 : Nat) : Int)) (((a + totR (r :: R) : Nat) : Int), P ++ mkR a (r :: R)) := Ev.bind h1 (by simp only [e3]; exact h2)
    refine Ev.step (fun k => ?_) main
    simp only [laws_markInt64SS.l0]
    rw [if_pos (by rw [List.length_append, List.length_cons]; omega), if_pos (by omega), rdL1_at P r R _ rfl, Int.toNat_natCast, wrap_id (x := (P.length : Int) + 1) (by omega) (by omega)]
    rfl
theorem markSS_ev (S : List (List Int)) (hl : S.length < 4611686018427387904) (hb : 1 + totR S < 4611686018427387904) : Ev (fun k => laws_markInt64SS.f k S 1) (((1 + totR S : Nat) : Int), mkR 1 S) :=
  Ev.congr (fun k => rfl) (markSS_loop [] S 1 hl hb)
theorem heldSS_loop (P : List (List Int)) (R : List (List Int)) (a : Nat) (hl : (P ++ R).length < 4611686018427387904) (hb : a + totR R < 4611686018427387904) : Ev (fun k => laws_heldInt64SS.l0 k (P ++ mkR a R) (a : Int) (P.length : Int)) ((a + totR R : Nat) : Int) := by
  induction R generalizing P a with
  | nil =>
    refine Ev.step (f := fun _ => some ((a + totR [] : Nat) : Int)) (fun k => ?_) (Ev.now _)
    rw [show mkR a [] = [] from rfl, List.append_nil]
    simp only [laws_heldInt64SS.l0]
    rw [if_neg (by omega)]
    simp [totR]
  | cons r R ih =>
    simp only [totR] at hb
    have h1 := held_ev a r.length (by omega)
    have h2 := ih (P ++ [iota a r.length]) (a + r.length) (by rw [List.append_assoc]; simpa using hl) (by omega)
    rw [List.append_assoc, List.singleton_append, List.length_append, List.length_singleton] at h2
    rw [List.length_append, List.length_cons] at hl
    have e1 : a + r.length + totR R = a + totR (r :: R) := by simp only [totR]; omega
    rw [e1] at h2
    have main : Ev (fun k => (laws_heldInt64S.f k (iota a r.length) (a : Int)).bind fun t => if t < 0 then some (-1) else laws_heldInt64SS.l0 k (P ++ iota a r.length :: mkR (a + r.length) R) t ((P.length + 1 : Nat) : Int)) ((a + totR (r :: R) : Nat) : Int) := by
      refine Ev.bind h1 ?_
      simp only [if_neg (show ¬ ((a + r.length : Nat) : Int) < 0 by omega)]
      exact h2
    refine Ev.step (fun k => ?_) main
    rw [show mkR a (r :: R) = iota a r.length :: mkR (a + r.length) R from rfl]
    simp only [laws_heldInt64SS.l0]
    rw [if_pos (by rw [List.length_append, List.length_cons]; omega), if_pos (by omega), rdL1_L P _ _, wrap_id (x := (P.length : Int) + 1) (by omega) (by omega)]
    rfl
theorem heldSS_ev (S : List (List Int)) (hl : S.length < 4611686018427387904) (hb : 1 + totR S < 4611686018427387904) : Ev (fun k => laws_heldInt64SS.f k (mkR 1 S) 1) ((1 + totR S : Nat) : Int) :=
  Ev.congr (fun k => rfl) (heldSS_loop [] S 1 hl hb)
end Go.Proofs.YtclabhnloohccaaDoor.T

namespace Go.Proofs.YtclabhnloohccaaDoor.T
set_option linter.unusedVariables false
set_option linter.unusedSimpArgs false
open Go Go.RowKit Go.Proofs.YtclabhnloohccaaDoorW.PrintWords Go.Proofs.YtclabhnloohccaaDoorW.PrintMore Go.Proofs.YtclabhnloohccaaDoor.G
theorem FnExactNeighboursOf (a0_0 : Int) (l0_1 : List Int) (l1 : List Int) (_ : (Lit.int .i64 a0_0).wf = true) (hb0 : l0_1.length ≤ maxLen) (_ : ∀ x ∈ l0_1, (Lit.int .i64 x).wf = true) (_ : l1.length ≤ maxLen) (_ : ∀ x ∈ l1, (Lit.int .i64 x).wf = true) : ∃ k, laws_FnExactNeighboursOf.f k a0_0 l0_1 l1 = some true := by
  by_cases h0_ : (l1.length : Int) > 1048576
  · exact ⟨0, by unfold laws_FnExactNeighboursOf.f; rw [if_pos h0_]⟩
  by_cases h1_ : l0_1.length > 1048576
  · exact ⟨0, by unfold laws_FnExactNeighboursOf.f; rw [if_neg h0_]; simp only [szAlphabet_big a0_0 l0_1 hb0 h1_, Option.bind_some]; rfl⟩
  have h1_m : ¬ (1048576 - (l0_1.length : Int) < 0) := by omega
  have h1_s := szAlphabet_ok a0_0 l0_1 h1_
  obtain ⟨K1, h1⟩ := specNeighboursOf_ev a0_0 l0_1 l1
  obtain ⟨K2, h2⟩ := implNeighboursOf_ev a0_0 l0_1 l1
  obtain ⟨hs1, hs2⟩ := nbOf_small a0_0 l0_1 l1
  generalize nbOf a0_0 l0_1 l1 = r at h1 h2 hs1 hs2
  obtain ⟨S, c⟩ := r
  simp only at hs1 hs2
  have ht := totR_bound S hs2
  obtain ⟨K3, h3⟩ := toAlphabet_ev a0_0 l0_1 (by omega)
  obtain ⟨K4, h4⟩ := eqAlphabet_ev a0_0 l0_1 (by omega)
  obtain ⟨K5, h5⟩ := markAlphabet1_ev a0_0 l0_1 (by omega)
  obtain ⟨K6, h6⟩ := toInt64S_ev l1 (by omega)
  obtain ⟨K7, h7⟩ := eqSelf_ev l1 (by omega)
  obtain ⟨K8, h8⟩ := markAt_ev l1 (1 + (l0_1.length : Int)) (by omega) (by omega)
  obtain ⟨K9, h9⟩ := eqSS_ev S (by omega) (fun r hr => by have := hs2 r hr; omega)
  obtain ⟨K10, h10⟩ := markSS_ev S (by omega) (by omega)
  obtain ⟨K11, h11⟩ := heldSS_ev S (by omega) (by omega)
  refine ⟨K1 + K2 + K3 + K4 + K5 + K6 + K7 + K8 + K9 + K10 + K11, ?_⟩
  unfold laws_FnExactNeighboursOf.f
  have e1 : spec_NeighboursOf.f (K1 + K2 + K3 + K4 + K5 + K6 + K7 + K8 + K9 + K10 + K11) a0_0 l0_1 l1 = some (S, c) := h1 _ (by omega)
  have e5 : laws_markAlphabet.f (K1 + K2 + K3 + K4 + K5 + K6 + K7 + K8 + K9 + K10 + K11) a0_0 l0_1 1 = some _ := h5 _ (by omega)
  have e8 : laws_markInt64S.f (K1 + K2 + K3 + K4 + K5 + K6 + K7 + K8 + K9 + K10 + K11) l1 (1 + (l0_1.length : Int)) = some _ := h8 _ (by omega)
  have e10 : laws_markInt64SS.f (K1 + K2 + K3 + K4 + K5 + K6 + K7 + K8 + K9 + K10 + K11) S 1 = some _ := h10 _ (by omega)
  rw [if_neg h0_, h1_s, Option.bind_some, if_neg h1_m, e1, Option.bind_some, e5, Option.bind_some, e8, Option.bind_some, e10, Option.bind_some]
  rw [if_pos ⟨h3 _ (by omega), h6 _ (by omega), h2 _ (by omega), h9 _ (by omega), h4 _ (by omega), h7 _ (by omega), by simp only; omega, h11 _ (by omega), by simp only; omega⟩]
end Go.Proofs.YtclabhnloohccaaDoor.T
