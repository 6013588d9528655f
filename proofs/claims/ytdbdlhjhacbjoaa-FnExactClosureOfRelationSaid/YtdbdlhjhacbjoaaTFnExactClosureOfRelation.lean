/- The pure side of FnExactClosureOfRelation: the law's plain function answers true at all inputs; before it, all that this needs. -/
import Derived.Test.YtdbdlhjhacbjoaaWMore
import Derived.Test.YtdbdlhjhacbjoaaWWords
import Derived.Laws.BitsLemmas
import Derived.Test.YtdbdlhjhacbjoaaGLawFnExactClosureOfRelation
import Derived.Test.YtdbdlhjhacbjoaaGQ00
import Derived.Test.YtdbdlhjhacbjoaaGQ01a
import Derived.Test.YtdbdlhjhacbjoaaGQ01b
import Derived.Test.YtdbdlhjhacbjoaaGQ01c
namespace Go.Proofs.Ytdbdlhjhacbjoaa.T
open Go Go.RowKit Go.Proofs.YtdbdlhjhacbjoaaW.PrintWords Go.Proofs.YtdbdlhjhacbjoaaW.PrintMore

theorem wrap_id {x : Int} (h1 : -9223372036854775808 ≤ x) (h2 : x ≤ 9223372036854775807) : wrap64 x = x := by unfold wrap64; omega
theorem i64_id {n : Int} (h1 : -9223372036854775808 ≤ n) (h2 : n ≤ 9223372036854775807) : IntKind.i64.wrap n = n := by rw [IntKind.wrap_i64]; omega
theorem u64_id {n : Int} (h1 : 0 ≤ n) (h2 : n < 18446744073709551616) : IntKind.u64.wrap n = n := by
  simp [IntKind.wrap, IntKind.bits, IntKind.signed]; omega
theorem rd_nat {l : List Int} {i : Nat} (h : i < l.length) : rd l (i : Int) = l[i] := by simp [rd, h]
theorem pow_lt63 {n : Nat} (h : n ≤ 62) : 2 ^ n < 9223372036854775808 := by
  have : 2 ^ n ≤ 2 ^ 62 := Nat.pow_le_pow_right (by decide) h
  have e : 2 ^ 62 = 4611686018427387904 := by decide
  omega
theorem shl_one {n : Nat} (h : n ≤ 62) : shl .i64 1 (n : Int) = ((2 ^ n : Nat) : Int) := by
  unfold shl
  have hb : IntKind.i64.bits = 64 := rfl
  rw [Int.one_mul, hb, Int.toNat_natCast, Nat.min_eq_left (by omega)]
  have := pow_lt63 h
  have e : (2 : Int) ^ n = ((2 ^ n : Nat) : Int) := by push_cast; rfl
  rw [e]
  generalize 2 ^ n = m at this ⊢
  exact i64_id (by omega) (by omega)
theorem band {a b : Nat} (ha : a < 9223372036854775808) (hb : b < 9223372036854775808) : Go.bits .and .i64 (a : Int) (b : Int) = ((a &&& b : Nat) : Int) := by
  have hc : a &&& b < 9223372036854775808 := Nat.lt_of_le_of_lt Nat.and_le_left ha
  have e : (BitVec.ofInt 64 (a : Int) &&& BitVec.ofInt 64 (b : Int)).toNat = a &&& b := by
    rw [BitVec.ofInt_natCast, BitVec.ofInt_natCast, BitVec.toNat_and, BitVec.toNat_ofNat, BitVec.toNat_ofNat, Nat.mod_eq_of_lt (by omega), Nat.mod_eq_of_lt (by omega)]
  show IntKind.i64.wrap (((BitVec.ofInt 64 (a : Int) &&& BitVec.ofInt 64 (b : Int)).toNat : Nat) : Int) = _
  rw [e, i64_id] <;> omega
theorem bor {a b : Nat} (ha : a < 9223372036854775808) (hb : b < 9223372036854775808) : Go.bits .or .i64 (a : Int) (b : Int) = ((a ||| b : Nat) : Int) := by
  have hc : a ||| b < 9223372036854775808 := Nat.or_lt_two_pow (n := 63) ha hb
  have e : (BitVec.ofInt 64 (a : Int) ||| BitVec.ofInt 64 (b : Int)).toNat = a ||| b := by
    rw [BitVec.ofInt_natCast, BitVec.ofInt_natCast, BitVec.toNat_or, BitVec.toNat_ofNat, BitVec.toNat_ofNat, Nat.mod_eq_of_lt (by omega), Nat.mod_eq_of_lt (by omega)]
  show IntKind.i64.wrap (((BitVec.ofInt 64 (a : Int) ||| BitVec.ofInt 64 (b : Int)).toNat : Nat) : Int) = _
  rw [e, i64_id] <;> omega
theorem shr_and_one {m i : Nat} (hm : m < 9223372036854775808) : Go.bits .and .i64 (shr .i64 (m : Int) (i : Int)) 1 = ((if m.testBit i then 1 else 0 : Nat) : Int) := by
  have h0 : shr .i64 (m : Int) (i : Int) = ((m / 2 ^ i : Nat) : Int) := by
    unfold shr
    rw [Int.toNat_natCast, show IntKind.i64.bits = 64 from rfl]
    by_cases hi : i ≤ 64
    · rw [Nat.min_eq_left hi]; simp
    · rw [Nat.min_eq_right (by omega)]
      have h64 : 2 ^ 64 ≤ 2 ^ i := Nat.pow_le_pow_right (by decide) (by omega)
      have e : (2 : Nat) ^ 64 = 18446744073709551616 := by decide
      rw [Nat.div_eq_of_lt (by omega)]
      have : ((2 : Int) ^ 64) = 18446744073709551616 := by decide
      rw [this]; simp only [Int.natCast_zero]; omega
  have hlt : m / 2 ^ i < 9223372036854775808 := Nat.lt_of_le_of_lt (Nat.div_le_self _ _) hm
  rw [h0, show (1 : Int) = ((1 : Nat) : Int) from rfl, band hlt (by decide)]
  congr 1
  rw [Nat.and_one_is_mod, Nat.testBit_eq_decide_div_mod_eq]
  have := Nat.mod_two_eq_zero_or_one (m / 2 ^ i)
  rcases this with h | h <;> simp [h]
/-- From some number of rounds on. -/
theorem Ev.of_all {α : Type} {g : Nat → Option α} {r : α} (h : ∀ k, g k = some r) : Ev g r := ⟨0, fun k _ => h k⟩
end Go.Proofs.Ytdbdlhjhacbjoaa.T

namespace Go.Proofs.Ytdbdlhjhacbjoaa.T
open Go Go.RowKit Go.Proofs.YtdbdlhjhacbjoaaW.PrintWords Go.Proofs.YtdbdlhjhacbjoaaW.PrintMore Go.Proofs.Ytdbdlhjhacbjoaa.G

theorem l01In_eq (a b c : Int) : spec_l01In.f a b c = some (decide (b ≤ a ∧ a ≤ c)) := by
  unfold spec_l01In.f
  by_cases h : a ≥ b
  · rw [if_pos h]; simp [show b ≤ a from h]
  · rw [if_neg h]; simp [show ¬ b ≤ a from h]
theorem l01One_eq {n : Nat} (h : n ≤ 62) : spec_l01One.f (n : Int) = some ((2 ^ n : Nat) : Int) := by
  unfold spec_l01One.f
  rw [u64_id (by omega) (by omega), if_pos (by omega), shl_one h]
theorem one_eq {n : Nat} (h : n ≤ 62) : impl_one.f (n : Int) = some ((2 ^ n : Nat) : Int) := by
  unfold impl_one.f
  rw [if_pos (by omega), shl_one h]
theorem wrap_pow {n : Nat} (h : n ≤ 62) : wrap64 (((2 ^ n : Nat) : Int) - 1) = ((2 ^ n - 1 : Nat) : Int) := by
  have h1 := pow_lt63 h
  have h2 : 0 < 2 ^ n := Nat.two_pow_pos n
  generalize 2 ^ n = m at *
  rw [wrap_id (by omega) (by omega)]
  omega
theorem l01Full_eq {n : Nat} (h : n ≤ 62) : spec_l01Full.f (n : Int) = some ((2 ^ n - 1 : Nat) : Int) := by
  unfold spec_l01Full.f
  rw [l01One_eq h, Option.bind_some, wrap_pow h]
/-- A number is a mask of n elements. -/
def isM (n : Nat) (x : Int) : Bool := decide (0 ≤ x ∧ x ≤ ((2 ^ n - 1 : Nat) : Int))
theorem isM_eq (n : Nat) (x : Int) : isM n x = (decide (0 ≤ x) && decide (x ≤ ((2 ^ n - 1 : Nat) : Int))) := by simp [isM]
theorem l01Masks_loop (n : Nat) (hn : n ≤ 62) (l : List Int) (hl : l.length < 4611686018427387904) : ∀ (d i : Nat), i + d = l.length → (l.take i).all (isM n) = true → Ev (fun k => spec_l01Masks.l0 k (n : Int) l (i : Int)) (l.all (isM n))
  | 0, i, h, ht => by
    refine Ev.step (f := fun _ => some (l.all (isM n))) (fun k => ?_) (Ev.now _)
    obtain rfl : i = l.length := by omega
    simp only [spec_l01Masks.l0]
    rw [if_neg (by omega)]
    rw [List.take_length] at ht
    rw [ht]
  | d + 1, i, h, ht => by
    have hi : i < l.length := by omega
    by_cases e : isM n l[i] = true
    · have ih := l01Masks_loop n hn l hl d (i + 1) (by omega) (by rw [List.take_succ_eq_append_getElem hi, List.all_append, ht]; simp [e])
      refine Ev.step (fun k => ?_) ih
      simp only [spec_l01Masks.l0]
      rw [if_pos (by omega), if_pos (by omega), l01Full_eq hn, Option.bind_some, l01In_eq, Option.bind_some, rd_nat hi]
      unfold isM at e
      rw [e, if_pos rfl, wrap_id (by omega) (by omega)]
      rfl
    · refine Ev.step (f := fun _ => some (l.all (isM n))) (fun k => ?_) (Ev.now _)
      have ha : l.all (isM n) = false := by
        rw [List.all_eq_false]
        exact ⟨_, List.getElem_mem hi, e⟩
      simp only [spec_l01Masks.l0]
      rw [if_pos (by omega), if_pos (by omega), l01Full_eq hn, Option.bind_some, l01In_eq, Option.bind_some, rd_nat hi, ha]
      unfold isM at e
      rw [Bool.not_eq_true] at e
      rw [e]
      rfl
theorem l01Masks_ev (n : Nat) (hn : n ≤ 62) (l : List Int) (hl : l.length < 4611686018427387904) : Ev (fun k => spec_l01Masks.f k (n : Int) l) (l.all (isM n)) := by
  refine Ev.congr (fun k => ?_) (l01Masks_loop n hn l hl l.length 0 (by omega) (by simp))
  rfl
/-- A list is a relation. -/
def isRel (l : List Int) : Bool := decide (l.length ≤ 24) && l.all (isM l.length)
theorem specIsRelation_ev (l : List Int) : Ev (fun k => spec_IsRelation.f k l) (isRel l) := by
  by_cases h : l.length ≤ 24
  · have := l01Masks_ev l.length (by omega) l (by omega)
    have h2 : Ev (fun k => (spec_l01Masks.f k (l.length : Int) l).bind fun t => some t) (l.all (isM l.length)) := Ev.bind this (Ev.now _)
    refine Ev.congr (fun k => ?_) (r := isRel l) (f := fun k => (spec_l01Masks.f k (l.length : Int) l).bind fun t => some t) (by unfold isRel; simpa [h] using h2)
    unfold spec_IsRelation.f
    rw [if_pos (by omega)]
  · refine Ev.of_all fun k => ?_
    unfold spec_IsRelation.f isRel
    rw [if_neg (by omega)]
    simp [h]
theorem allIn_eq (l : List Int) (a b : Int) : impl_allIn.f l a b = some (l.all fun x => decide (a ≤ x ∧ x ≤ b)) := by
  unfold impl_allIn.f
  rw [List.not_any_eq_all_not]
  simp
theorem implIsRelation_eq (l : List Int) : impl_IsRelation.f l = some (isRel l) := by
  unfold impl_IsRelation.f isRel impl_length_int64.f
  by_cases h : l.length ≤ 24
  · rw [if_pos (by omega), Option.bind_some, one_eq (by omega), Option.bind_some, wrap_pow (by omega), allIn_eq, Option.bind_some]
    simp [h, funext (isM_eq l.length)]
  · rw [if_neg (by omega)]
    simp [h]
end Go.Proofs.Ytdbdlhjhacbjoaa.T

namespace Go.Proofs.Ytdbdlhjhacbjoaa.T
set_option linter.unusedVariables false
set_option linter.unusedSimpArgs false
section
variable {α : Type} [DecidableEq α]

/-- The letters of a word that are a or b. -/
def prj (a b : α) (w : List α) : List α := w.filter fun c => decide (c = a) || decide (c = b)
theorem prj_cons (a b c : α) (w : List α) : prj a b (c :: w) = if c = a ∨ c = b then c :: prj a b w else prj a b w := by
  unfold prj
  rw [List.filter_cons]
  by_cases h : c = a ∨ c = b
  · rw [if_pos h, if_pos (by simpa using h)]
  · rw [if_neg h, if_neg (by simpa using h)]
/-- Two words are the same trace: equal projections on all pairs that depend on each other. -/
def Eqv (D : α → α → Bool) (u v : List α) : Prop := ∀ a b, D a b = true → prj a b u = prj a b v
theorem Eqv.refl (D : α → α → Bool) (u : List α) : Eqv D u u := fun _ _ _ => rfl
theorem Eqv.symm {D : α → α → Bool} {u v : List α} (h : Eqv D u v) : Eqv D v u := fun a b hd => (h a b hd).symm
theorem Eqv.trans {D : α → α → Bool} {u v w : List α} (h : Eqv D u v) (k : Eqv D v w) : Eqv D u w := fun a b hd => (h a b hd).trans (k a b hd)
theorem Eqv.cons {D : α → α → Bool} {u v : List α} (c : α) (h : Eqv D u v) : Eqv D (c :: u) (c :: v) := fun a b hd => by
  rw [prj_cons, prj_cons, h a b hd]
theorem Eqv.count {D : α → α → Bool} (hr : ∀ a, D a a = true) {u v : List α} (h : Eqv D u v) (a : α) : u.count a = v.count a := by
  have e : ∀ w : List α, (prj a a w).length = w.count a := by
    intro w
    unfold prj
    rw [List.count_eq_countP, List.countP_eq_length_filter]
    congr 2
    funext c
    rw [Bool.eq_iff_iff]
    simp
  rw [← e, ← e, h a a (hr a)]
theorem Eqv.perm {D : α → α → Bool} (hr : ∀ a, D a a = true) {u v : List α} (h : Eqv D u v) : u.Perm v := by
  rw [List.perm_iff_count]
  exact fun a => h.count hr a
theorem Eqv.length {D : α → α → Bool} (hr : ∀ a, D a a = true) {u v : List α} (h : Eqv D u v) : u.length = v.length := (h.perm hr).length_eq
theorem Eqv.filter {D : α → α → Bool} {u v : List α} (h : Eqv D u v) (p : α → Bool) : Eqv D (u.filter p) (v.filter p) := fun a b hd => by
  have e : ∀ w : List α, prj a b (w.filter p) = (prj a b w).filter p := by
    intro w
    unfold prj
    rw [List.filter_filter, List.filter_filter]
    congr 1
    funext c
    rw [Bool.and_comm]
  rw [e, e, h a b hd]
/-- What is left of a word behind a letter at its front, if no letter before the letter keeps it from there. -/
def rm (D : α → α → Bool) (a : α) : List α → Option (List α)
  | [] => none
  | x :: v => if x = a then some v else if D x a then none else (rm D a v).map (x :: ·)
end

/-! ### the normal form: always the least letter that can stand at the front -/
/-- The least letter below n that can stand at the front of a word. -/
def lead (D : Nat → Nat → Bool) (n : Nat) (w : List Nat) : Option Nat := (List.range n).find? fun a => (rm D a w).isSome
variable {D : Nat → Nat → Bool} {n : Nat}
end Go.Proofs.Ytdbdlhjhacbjoaa.T

namespace Go.Proofs.Ytdbdlhjhacbjoaa.T
set_option linter.unusedVariables false
set_option linter.unusedSimpArgs false

/-- A list is before another one. -/
def lex : List Int → List Int → Bool
  | _, [] => false
  | [], _ :: _ => true
  | a :: u, b :: v => if a < b then true else if b < a then false else lex u v
/-- The least of a list of candidates, an elder one kept where it is no greater. -/
def least (best : List Int) (l : List (List Int)) : List Int := l.foldl (fun b y => if lex y b then y else b) best
end Go.Proofs.Ytdbdlhjhacbjoaa.T

namespace Go.Proofs.Ytdbdlhjhacbjoaa.T
set_option linter.unusedVariables false
set_option linter.unusedSimpArgs false
/-- Letters as whole numbers. -/
def ints (w : List Nat) : List Int := w.map fun (x : Nat) => (x : Int)
end Go.Proofs.Ytdbdlhjhacbjoaa.T

namespace Go.Proofs.Ytdbdlhjhacbjoaa.T
set_option linter.unusedVariables false
set_option linter.unusedSimpArgs false
open Go Go.RowKit Go.Proofs.YtdbdlhjhacbjoaaW.PrintWords Go.Proofs.YtdbdlhjhacbjoaaW.PrintMore Go.Proofs.Ytdbdlhjhacbjoaa.G

theorem ints_append (u v : List Nat) : ints (u ++ v) = ints u ++ ints v := by unfold ints; rw [List.map_append]
theorem ints_length (u : List Nat) : (ints u).length = u.length := by unfold ints; rw [List.length_map]
end Go.Proofs.Ytdbdlhjhacbjoaa.T

namespace Go.Proofs.Ytdbdlhjhacbjoaa.T
set_option linter.unusedVariables false
set_option linter.unusedSimpArgs false
open Go Go.RowKit Go.Proofs.YtdbdlhjhacbjoaaW.PrintWords Go.Proofs.YtdbdlhjhacbjoaaW.PrintMore Go.Proofs.Ytdbdlhjhacbjoaa.G

/-- A loop that counts up to n. -/
theorem loop_ev {α : Type} (n : Nat) (G : Nat → Nat → Option α) {r : α} (hn : Ev (G n) r) (hs : ∀ i, i < n → Ev (G (i + 1)) r → Ev (G i) r) : Ev (G 0) r := by
  have : ∀ d i, i + d = n → Ev (G i) r := by
    intro d
    induction d with
    | zero => intro i h; obtain rfl : i = n := by omega
              exact hn
    | succ d ih => intro i h; exact hs i (by omega) (ih (i + 1) (by omega))
  exact this n 0 (by omega)
theorem two_pow_lt {i n : Nat} (h : i < n) : 2 ^ i < 2 ^ n := Nat.pow_lt_pow_right (by decide) h
theorem pow_24 {n : Nat} (h : n ≤ 24) : 2 ^ n ≤ 16777216 := by
  have : 2 ^ n ≤ 2 ^ 24 := Nat.pow_le_pow_right (by decide) h
  have e : 2 ^ 24 = 16777216 := by decide
  omega
/-- A relation as a list of sets. -/
structure IsRelN (r : List Nat) : Prop where
  len : r.length ≤ 24
  lt : ∀ x ∈ r, x < 2 ^ r.length
theorem IsRelN.small {r : List Nat} (h : IsRelN r) {i : Nat} (hi : i < r.length) : r[i] < 16777216 := by
  have := h.lt _ (List.getElem_mem hi)
  have := pow_24 h.len
  omega
theorem ints_surj {l : List Int} : (∀ x ∈ l, 0 ≤ x) → ∃ r : List Nat, l = ints r := by
  induction l with
  | nil => exact fun _ => ⟨[], rfl⟩
  | cons a t ih =>
    intro h
    obtain ⟨r, rfl⟩ := ih (fun x hx => h x (List.mem_cons_of_mem _ hx))
    obtain ⟨n, rfl⟩ := Int.eq_ofNat_of_zero_le (h a List.mem_cons_self)
    exact ⟨n :: r, rfl⟩
theorem mem_ints {r : List Nat} {x : Int} : x ∈ ints r ↔ ∃ n ∈ r, x = (n : Int) := by
  unfold ints
  rw [List.mem_map]
  constructor
  · rintro ⟨n, h1, rfl⟩; exact ⟨n, h1, rfl⟩
  · rintro ⟨n, h1, rfl⟩; exact ⟨n, h1, rfl⟩
theorem isRel_nat {l : List Int} (h : isRel l = true) : ∃ r : List Nat, l = ints r ∧ IsRelN r := by
  unfold isRel at h
  rw [Bool.and_eq_true] at h
  have h1 := of_decide_eq_true h.1
  have h2 := List.all_eq_true.1 h.2
  obtain ⟨r, rfl⟩ := ints_surj (l := l) (fun x hx => (of_decide_eq_true (h2 x hx)).1)
  rw [ints_length] at h1 h2
  refine ⟨r, rfl, h1, fun x hx => ?_⟩
  have h3 := of_decide_eq_true (h2 (x : Int) (mem_ints.2 ⟨x, hx, rfl⟩))
  have := Nat.two_pow_pos r.length
  omega
theorem rd_ints {r : List Nat} {i : Nat} (h : i < r.length) : rd (ints r) (i : Int) = ((r[i] : Nat) : Int) := by
  rw [rd_nat (by rw [ints_length]; exact h)]
  simp [ints]
theorem ints_set (r : List Nat) (i x : Nat) : (ints r).set i (x : Int) = ints (r.set i x) := by
  unfold ints
  rw [List.map_set]
theorem l01Bit_eq {m i : Nat} (hm : m < 9223372036854775808) (hi : i < 9223372036854775808) : spec_l01Bit.f (m : Int) (i : Int) = some (m.testBit i) := by
  unfold spec_l01Bit.f
  rw [u64_id (by omega) (by omega), if_pos (by omega), shr_and_one hm]
  cases m.testBit i <;> rfl
theorem has_eq {m i : Nat} (hm : m < 9223372036854775808) : impl_has.f (m : Int) (i : Int) = some (m.testBit i) := by
  unfold impl_has.f
  rw [if_pos (by omega), shr_and_one hm]
  cases m.testBit i <;> rfl
theorem getD_eq {r : List Nat} {i : Nat} (h : i < r.length) : r.getD i 0 = r[i] := by simp [h]
theorem toNat_ints (r : List Nat) : (ints r).map Int.toNat = r := by
  unfold ints
  rw [List.map_map]
  exact (List.map_congr_left (fun x _ => by simp)).trans (List.map_id _)
end Go.Proofs.Ytdbdlhjhacbjoaa.T

namespace Go.Proofs.Ytdbdlhjhacbjoaa.T
set_option linter.unusedVariables false
set_option linter.unusedSimpArgs false

theorem testBit_ge {x k i : Nat} (h : x < 2 ^ k) (hi : k ≤ i) : x.testBit i = false := Nat.testBit_lt_two_pow (Nat.lt_of_lt_of_le h (Nat.pow_le_pow_right (by decide) hi))
end Go.Proofs.Ytdbdlhjhacbjoaa.T

namespace Go.Proofs.Ytdbdlhjhacbjoaa.T
set_option linter.unusedVariables false
set_option linter.unusedSimpArgs false

/-- From i chains of related elements lead to j. -/
def Reach (r : Nat → Nat) (i j : Nat) : Prop := ∀ S : Nat → Prop, S i → (∀ a b, S a → (r a).testBit b = true → S b) → S j
theorem Reach.refl (r : Nat → Nat) (i : Nat) : Reach r i i := fun _ h _ => h
theorem Reach.step {r : Nat → Nat} {i j k : Nat} (h : Reach r i j) (hk : (r j).testBit k = true) : Reach r i k := fun S h0 hs => hs j k (h S h0 hs) hk
theorem Reach.trans {r : Nat → Nat} {i j k : Nat} (h : Reach r i j) (k' : Reach r j k) : Reach r i k := fun S h0 hs => k' S (h S h0 hs) hs

/-! ### by rounds -/
/-- What the members of m are related to, and m. -/
def rnd (r : Nat → Nat) (n m : Nat) : Nat := (List.range n).foldl (fun x i => if m.testBit i then x ||| r i else x) m
theorem testBit_foldl_or (r : Nat → Nat) (p : Nat → Bool) (j : Nat) : ∀ (l : List Nat) (x : Nat), (l.foldl (fun x i => if p i then x ||| r i else x) x).testBit j = (x.testBit j || l.any fun i => p i && (r i).testBit j)
  | [], x => by simp
  | i :: l, x => by
    rw [List.foldl_cons, testBit_foldl_or r p j l, List.any_cons]
    cases hp : p i
    · simp
    · simp [Nat.testBit_or, Bool.or_assoc]
theorem testBit_rnd (r : Nat → Nat) (n m j : Nat) : (rnd r n m).testBit j = true ↔ m.testBit j = true ∨ ∃ i, i < n ∧ m.testBit i = true ∧ (r i).testBit j = true := by
  unfold rnd
  rw [testBit_foldl_or r (fun i => m.testBit i), Bool.or_eq_true, List.any_eq_true]
  constructor
  · rintro (h | ⟨i, hi, h⟩)
    · exact Or.inl h
    · rw [Bool.and_eq_true] at h
      exact Or.inr ⟨i, List.mem_range.1 hi, h.1, h.2⟩
  · rintro (h | ⟨i, hi, h1, h2⟩)
    · exact Or.inl h
    · exact Or.inr ⟨i, List.mem_range.2 hi, by rw [h1, h2]; rfl⟩
def rnds (r : Nat → Nat) (n : Nat) : Nat → Nat → Nat
  | 0, m => m
  | t + 1, m => rnd r n (rnds r n t m)
theorem rnds_sound {r : Nat → Nat} {n i : Nat} : ∀ (t j : Nat), (rnds r n t (2 ^ i)).testBit j = true → Reach r i j
  | 0, j, h => by
    unfold rnds at h
    rw [Nat.testBit_two_pow] at h
    rw [← of_decide_eq_true h]
    exact Reach.refl r i
  | t + 1, j, h => by
    unfold rnds at h
    rw [testBit_rnd] at h
    rcases h with h | ⟨a, _, h1, h2⟩
    · exact rnds_sound t j h
    · exact (rnds_sound t a h1).step h2
/-- How many of the first n numbers a set has. -/
def cnt (m : Nat) : Nat → Nat
  | 0 => 0
  | n + 1 => cnt m n + if m.testBit n then 1 else 0
theorem cnt_le (m : Nat) : ∀ n, cnt m n ≤ n
  | 0 => Nat.le_refl _
  | n + 1 => by
    have := cnt_le m n
    unfold cnt
    split <;> omega
theorem cnt_mono {m m' : Nat} (h : ∀ i, m.testBit i = true → m'.testBit i = true) : ∀ n, cnt m n ≤ cnt m' n
  | 0 => Nat.le_refl _
  | n + 1 => by
    have := cnt_mono h n
    unfold cnt
    cases hm : m.testBit n
    · simp; omega
    · rw [h n hm]; simp; omega
theorem cnt_lt {m m' : Nat} (h : ∀ i, m.testBit i = true → m'.testBit i = true) {a : Nat} (h1 : m.testBit a = false) (h2 : m'.testBit a = true) : ∀ n, a < n → cnt m n < cnt m' n
  | 0, ha => by omega
  | n + 1, ha => by
    unfold cnt
    by_cases e : a = n
    · subst e
      have := cnt_mono h a
      rw [h1, h2]
      simp; omega
    · have := cnt_lt h h1 h2 n (by omega)
      cases hm : m.testBit n
      · simp; omega
      · rw [h n hm]; simp; omega
theorem rnds_mono {r : Nat → Nat} {n m : Nat} (t i : Nat) (h : (rnds r n t m).testBit i = true) : (rnds r n (t + 1) m).testBit i = true := by
  show (rnd r n (rnds r n t m)).testBit i = true
  rw [testBit_rnd]
  exact Or.inl h
theorem rnds_reach {r : Nat → Nat} {n i : Nat} (hi : i < n) (hr : ∀ i, r i < 2 ^ n) (j : Nat) : (rnds r n n (2 ^ i)).testBit j = true ↔ Reach r i j := by
  refine ⟨fun h => rnds_sound n j h, fun h => ?_⟩
  have hm : 2 ^ i < 2 ^ n := Nat.pow_lt_pow_right (by decide) hi
  have hlt : ∀ t, rnds r n t (2 ^ i) < 2 ^ n := by
    intro t
    induction t with
    | zero => exact hm
    | succ t ih =>
      apply Nat.lt_pow_two_of_testBit
      intro j hj
      cases hb : (rnds r n (t + 1) (2 ^ i)).testBit j
      · rfl
      · exfalso
        have hb' : (rnd r n (rnds r n t (2 ^ i))).testBit j = true := hb
        rw [testBit_rnd] at hb'
        rcases hb' with h | ⟨i, _, _, h⟩
        · rw [testBit_ge ih hj] at h; cases h
        · rw [testBit_ge (hr i) hj] at h; cases h
  have hi0 : ∀ t, (rnds r n t (2 ^ i)).testBit i = true := by
    intro t
    induction t with
    | zero => exact Nat.testBit_two_pow_self
    | succ t ih => exact rnds_mono t i ih
  -- at round n nothing is added any more
  have hst : rnds r n (n + 1) (2 ^ i) = rnds r n n (2 ^ i) := by
    refine Classical.byContradiction fun hne => ?_
    -- it has grown strictly at each round from 1 element on
    have grow : ∀ t, t ≤ n → t + 1 ≤ cnt (rnds r n t (2 ^ i)) n := by
      intro t
      induction t with
      | zero =>
        intro _
        have := cnt_lt (m := 0) (m' := 2 ^ i) (fun i h => by simp at h) (a := i) (by simp) Nat.testBit_two_pow_self n hi
        show 1 ≤ cnt (2 ^ i) n
        omega
      | succ t ih =>
        intro ht
        have h1 := ih (by omega)
        have e : rnds r n (t + 1) (2 ^ i) ≠ rnds r n t (2 ^ i) := by
          intro e
          apply hne
          have : ∀ d, rnds r n (t + d + 1) (2 ^ i) = rnds r n (t + d) (2 ^ i) := by
            intro d
            induction d with
            | zero => exact e
            | succ d ihd =>
              show rnd r n (rnds r n (t + d + 1) (2 ^ i)) = rnd r n (rnds r n (t + d) (2 ^ i))
              rw [ihd]
          have := this (n - t)
          rw [show t + (n - t) = n by omega] at this
          exact this
        obtain ⟨a, ha⟩ : ∃ a, (rnds r n t (2 ^ i)).testBit a ≠ (rnds r n (t + 1) (2 ^ i)).testBit a := by
          refine Classical.byContradiction fun hn => e ?_
          apply Nat.eq_of_testBit_eq
          intro i
          refine Classical.byContradiction fun hi => hn ⟨i, fun h => hi h.symm⟩
        have h3 : (rnds r n t (2 ^ i)).testBit a = false := by
          cases hb : (rnds r n t (2 ^ i)).testBit a
          · rfl
          · rw [hb, rnds_mono t a hb] at ha; exact absurd rfl ha
        have h4 : (rnds r n (t + 1) (2 ^ i)).testBit a = true := by
          cases hb : (rnds r n (t + 1) (2 ^ i)).testBit a
          · rw [h3, hb] at ha; exact absurd rfl ha
          · rfl
        have han : a < n := by
          rcases Nat.lt_or_ge a n with h | h
          · exact h
          · rw [testBit_ge (hlt (t + 1)) h] at h4; cases h4
        have := cnt_lt (fun z => rnds_mono t z) h3 h4 n han
        omega
    have h1 := grow n (Nat.le_refl _)
    have h2 := cnt_le (rnds r n n (2 ^ i)) n
    omega
  refine h (fun x => (rnds r n n (2 ^ i)).testBit x = true) (hi0 n) (fun a b ha hb => ?_)
  rw [← hst]
  show (rnd r n (rnds r n n (2 ^ i))).testBit b = true
  rw [testBit_rnd]
  refine Or.inr ⟨a, ?_, ha, hb⟩
  rcases Nat.lt_or_ge a n with h | h
  · exact h
  · rw [testBit_ge (hlt n) h] at ha; cases ha

/-! ### by one pass over the middle elements -/
/-- One pass: whoever is related to k is related to all that k is related to. -/
def pass (k : Nat) (o : Nat → Nat) (i : Nat) : Nat := if (o i).testBit k then o i ||| o k else o i
/-- Passes over 0, .., K - 1. -/
def passes (o : Nat → Nat) : Nat → Nat → Nat
  | 0 => o
  | K + 1 => pass K (passes o K)
theorem pass_testBit (k : Nat) (o : Nat → Nat) (i j : Nat) : (pass k o i).testBit j = true ↔ (o i).testBit j = true ∨ ((o i).testBit k = true ∧ (o k).testBit j = true) := by
  unfold pass
  cases h : (o i).testBit k
  · simp
  · rw [if_pos rfl, Nat.testBit_or, Bool.or_eq_true]
    simp
theorem pass_self (k : Nat) (o : Nat → Nat) : pass k o k = o k := by
  unfold pass
  split
  · exact Nat.or_self _
  · rfl
theorem passes_mono {o : Nat → Nat} (i j : Nat) : ∀ K, (o i).testBit j = true → (passes o K i).testBit j = true
  | 0, h => h
  | K + 1, h => by
    show (pass K (passes o K) i).testBit j = true
    rw [pass_testBit]
    exact Or.inl (passes_mono i j K h)
theorem passes_trans {o : Nat → Nat} : ∀ K i k j, k < K → (passes o K i).testBit k = true → (passes o K k).testBit j = true → (passes o K i).testBit j = true
  | 0, _, _, _, h, _, _ => by omega
  | K + 1, i, k, j, hk, h1, h2 => by
    have ih := passes_trans (o := o) K
    have h1' : (pass K (passes o K) i).testBit k = true := h1
    have h2' : (pass K (passes o K) k).testBit j = true := h2
    show (pass K (passes o K) i).testBit j = true
    rw [pass_testBit] at h1' h2' ⊢
    by_cases e : k = K
    · subst e
      have hik : (passes o k i).testBit k = true := by
        rcases h1' with h | ⟨h, _⟩ <;> exact h
      have hkj : (passes o k k).testBit j = true := by
        rcases h2' with h | ⟨_, h⟩ <;> exact h
      exact Or.inr ⟨hik, hkj⟩
    · have hk' : k < K := by omega
      rcases h1' with a1 | ⟨a1, a2⟩ <;> rcases h2' with b1 | ⟨b1, b2⟩
      · exact Or.inl (ih i k j hk' a1 b1)
      · exact Or.inr ⟨ih i k K hk' a1 b1, b2⟩
      · exact Or.inr ⟨a1, ih K k j hk' a2 b1⟩
      · exact Or.inr ⟨a1, b2⟩
/-- The passes give the closure. -/
theorem passes_reach {r : Nat → Nat} {n : Nat} (hr : ∀ i, i < n → r i < 2 ^ n) {i : Nat} (hi : i < n) (j : Nat) : (passes (fun a => r a ||| 2 ^ a) n i).testBit j = true ↔ Reach (fun a => if a < n then r a else 0) i j := by
  constructor
  · -- below n all is as in r
    have main : ∀ K, K ≤ n → ∀ i, i < n → ∀ j, (passes (fun a => r a ||| 2 ^ a) K i).testBit j = true → Reach (fun a => if a < n then r a else 0) i j := by
      intro K
      induction K with
      | zero =>
        intro _ i hi j h
        have h' : (r i ||| 2 ^ i).testBit j = true := h
        rw [Nat.testBit_or, Bool.or_eq_true, Nat.testBit_two_pow] at h'
        rcases h' with h | h
        · exact (Reach.refl _ i).step (by rw [if_pos hi]; exact h)
        · rw [← of_decide_eq_true h]; exact Reach.refl _ i
      | succ K ih =>
        intro hK i hi j h
        have h' : (pass K (passes (fun a => r a ||| 2 ^ a) K) i).testBit j = true := h
        rw [pass_testBit] at h'
        rcases h' with h | ⟨h1, h2⟩
        · exact ih (by omega) i hi j h
        · exact (ih (by omega) i hi K h1).trans (ih (by omega) K (by omega) j h2)
    exact main n (Nat.le_refl _) i hi j
  · intro h
    refine h (fun x => (passes (fun a => r a ||| 2 ^ a) n i).testBit x = true) (passes_mono i i n (by rw [Nat.testBit_or, Nat.testBit_two_pow_self, Bool.or_true])) (fun a b ha hb => ?_)
    have hb : (if a < n then r a else 0).testBit b = true := hb
    by_cases han : a < n
    · rw [if_pos han] at hb
      exact passes_trans n i a b han ha (passes_mono a b n (by rw [Nat.testBit_or, hb, Bool.true_or]))
    · rw [if_neg han] at hb
      simp at hb
end Go.Proofs.Ytdbdlhjhacbjoaa.T

namespace Go.Proofs.Ytdbdlhjhacbjoaa.T
set_option linter.unusedVariables false
set_option linter.unusedSimpArgs false
open Go Go.RowKit Go.Proofs.YtdbdlhjhacbjoaaW.PrintWords Go.Proofs.YtdbdlhjhacbjoaaW.PrintMore Go.Proofs.Ytdbdlhjhacbjoaa.G

/-- A list of numbers by a function. -/
def lst (n : Nat) (f : Nat → Nat) : List Int := ints ((List.range n).map f)
theorem lst_length (n : Nat) (f : Nat → Nat) : (lst n f).length = n := by
  unfold lst
  rw [ints_length, List.length_map, List.length_range]
theorem rd_lst {n : Nat} {f : Nat → Nat} {i : Nat} (h : i < n) : rd (lst n f) (i : Int) = ((f i : Nat) : Int) := by
  unfold lst
  rw [rd_ints (by rw [List.length_map, List.length_range]; exact h)]
  simp
theorem lst_congr {n : Nat} {f g : Nat → Nat} (h : ∀ i, i < n → f i = g i) : lst n f = lst n g := by
  unfold lst
  congr 1
  exact List.map_congr_left (fun i hi => h i (List.mem_range.1 hi))
theorem lst_set {n : Nat} {f : Nat → Nat} (i x : Nat) : (lst n f).set i (x : Int) = lst n (fun a => if a = i then x else f a) := by
  unfold lst
  rw [ints_set]
  congr 1
  apply List.ext_getElem
  · simp
  · intro j h1 h2
    rw [List.getElem_set]
    by_cases e : i = j
    · subst e; simp
    · have e2 : ¬ j = i := fun h => e h.symm
      simp [e, e2]
theorem ints_lst (r : List Nat) : ints r = lst r.length fun a => r.getD a 0 := by
  unfold lst
  congr 1
  apply List.ext_getElem
  · simp
  · intro j h1 h2
    simp [h1]
def rndTo (r : Nat → Nat) (m i : Nat) : Nat := (List.range i).foldl (fun x i => if m.testBit i then x ||| r i else x) m
theorem rndTo_succ (r : Nat → Nat) (m i : Nat) : rndTo r m (i + 1) = if m.testBit i then rndTo r m i ||| r i else rndTo r m i := by
  unfold rndTo
  rw [List.range_succ, List.foldl_append]
  rfl
theorem rndTo_lt {r : Nat → Nat} {m n : Nat} (hr : ∀ i, i < n → r i < 2 ^ n) (hm : m < 2 ^ n) : ∀ i, i ≤ n → rndTo r m i < 2 ^ n
  | 0, _ => hm
  | i + 1, h => by
    rw [rndTo_succ]
    split
    · exact Nat.or_lt_two_pow (rndTo_lt hr hm i (by omega)) (hr i (by omega))
    · exact rndTo_lt hr hm i (by omega)
theorem rnds_lt {r : Nat → Nat} {m n : Nat} (hr : ∀ i, i < n → r i < 2 ^ n) (hm : m < 2 ^ n) : ∀ t, rnds r n t m < 2 ^ n
  | 0 => hm
  | t + 1 => rndTo_lt hr (rnds_lt hr hm t) n (Nat.le_refl _)
/-- What a list's element leads to. -/
def reach (r : List Nat) (i : Nat) : Nat := rnds (fun a => r.getD a 0) r.length r.length (2 ^ i)
theorem IsRelN.lt' {r : List Nat} (h : IsRelN r) : ∀ i, i < r.length → r.getD i 0 < 2 ^ r.length := fun i hi => by rw [getD_eq hi]; exact h.lt _ (List.getElem_mem hi)
theorem l01Reach_ev {r : List Nat} (h : IsRelN r) {a : Nat} (ha : a < r.length) : Ev (fun k => spec_l01Reach.f k (ints r) (a : Int)) ((reach r a : Nat) : Int) := by
  have hlen := h.len
  have hp := pow_24 hlen
  have h2 := two_pow_lt ha
  have hlt := fun t => rnds_lt h.lt' h2 t
  have := loop_ev r.length (fun t k => spec_l01Reach.l0 k (ints r) ((rnds (fun a => r.getD a 0) r.length t (2 ^ a) : Nat) : Int) (t : Int)) (r := ((reach r a : Nat) : Int)) ?_ ?_
  · refine Ev.congr (fun k => ?_) this
    unfold spec_l01Reach.f
    rw [l01One_eq (by omega), Option.bind_some]
    rfl
  · refine Ev.step (f := fun _ => some ((reach r a : Nat) : Int)) (fun k => ?_) (Ev.now _)
    simp only [spec_l01Reach.l0]
    rw [if_neg (by rw [ints_length]; omega)]
    rfl
  · intro t ht ih
    have hm := hlt t
    generalize hM : rnds (fun a => r.getD a 0) r.length t (2 ^ a) = M at hm ⊢
    have e : rnds (fun a => r.getD a 0) r.length (t + 1) (2 ^ a) = rndTo (fun a => r.getD a 0) M r.length := by rw [← hM]; rfl
    rw [e] at ih
    have inner := loop_ev r.length (fun i k => spec_l01Reach.l1 k (ints r) (M : Int) (t : Int) ((rndTo (fun a => r.getD a 0) M i : Nat) : Int) (i : Int)) (r := ((reach r a : Nat) : Int)) ?_ ?_
    · refine Ev.step (fun k => ?_) inner
      simp only [spec_l01Reach.l0]
      rw [if_pos (by rw [ints_length]; omega)]
      rfl
    · refine Ev.step (fun k => ?_) ih
      simp only [spec_l01Reach.l1]
      rw [if_neg (by rw [ints_length]; omega), wrap_id (by omega) (by omega)]
      rfl
    · intro i hi ih2
      refine Ev.step (fun k => ?_) ih2
      have hs := h.small hi
      have hx := rndTo_lt h.lt' hm i (by omega)
      simp only [spec_l01Reach.l1]
      rw [if_pos (by rw [ints_length]; omega), l01Bit_eq (by omega) (by omega), Option.bind_some, wrap_id (x := (i : Int) + 1) (by omega) (by omega), rndTo_succ]
      cases M.testBit i
      · rfl
      · rw [if_pos rfl, if_pos (by omega), rd_ints hi, bor (by omega) (by omega), if_pos rfl, getD_eq hi]
        rfl
/-- The closure as the program has it. -/
def clos (r : List Nat) (a : Nat) : Nat := passes (fun a => r.getD a 0 ||| 2 ^ a) r.length a
theorem pass_lt {o : Nat → Nat} {n k : Nat} (hk : k < n) (ho : ∀ i, i < n → o i < 2 ^ n) : ∀ i, i < n → pass k o i < 2 ^ n := by
  intro i hi
  unfold pass
  split
  · exact Nat.or_lt_two_pow (ho i hi) (ho k hk)
  · exact ho i hi
theorem passes_lt {o : Nat → Nat} {n : Nat} (ho : ∀ i, i < n → o i < 2 ^ n) : ∀ K, K ≤ n → ∀ i, i < n → passes o K i < 2 ^ n
  | 0, _ => ho
  | K + 1, h => pass_lt (by omega) (passes_lt ho K (by omega))
theorem closure_pass {n : Nat} (hn : n ≤ 24) (o : Nat → Nat) (ho : ∀ i, i < n → o i < 2 ^ n) (p : Nat) (hp : p < n) {R : List Int} (hx : Ev (fun k => impl_closure.l1 k (lst n (pass p o)) (n : Int) ((p + 1 : Nat) : Int)) R) : Ev (fun k => impl_closure.l2 k (lst n o) (p : Int) (n : Int) (p : Int) (n : Int) 0) R := by
  have hpw := pow_24 hn
  have hpl := pass_lt hp ho
  have := loop_ev n (fun i k => impl_closure.l2 k (lst n (fun a => if a < i then pass p o a else o a)) (p : Int) (n : Int) (p : Int) (n : Int) (i : Int)) (r := R) ?_ ?_
  · refine Ev.congr (fun k => ?_) this
    have e : lst n (fun a => if a < 0 then pass p o a else o a) = lst n o := lst_congr (fun i _ => if_neg (Nat.not_lt_zero i))
    show _ = impl_closure.l2 k (lst n (fun a => if a < 0 then pass p o a else o a)) (p : Int) (n : Int) (p : Int) (n : Int) 0
    rw [e]
  · refine Ev.step (fun k => ?_) hx
    simp only [impl_closure.l2]
    rw [if_neg (by omega), wrap_id (by omega) (by omega)]
    have e : lst n (fun a => if a < n then pass p o a else o a) = lst n (pass p o) := lst_congr (fun i hi => if_pos hi)
    rw [e]
    rfl
  · intro i hi ih
    refine Ev.step (fun k => ?_) ih
    have h1 := ho i hi
    have h2 := ho p hp
    simp only [impl_closure.l2]
    rw [if_pos (by omega), if_pos (by omega), if_pos (by rw [lst_length]; omega), rd_lst hi, if_neg (by omega : ¬ i < i), has_eq (by omega), Option.bind_some, wrap_id (x := (i : Int) + 1) (by omega) (by omega)]
    have hpk : (if p < i then pass p o p else o p) = o p := by rw [pass_self]; split <;> rfl
    by_cases hb : (o i).testBit p = true
    · have hps : pass p o i = o i ||| o p := by unfold pass; rw [if_pos hb]
      rw [hb, if_pos rfl, if_pos (by omega), if_pos (by rw [lst_length]; omega), rd_lst hp, hpk, bor (by omega) (by omega), Int.toNat_natCast, lst_set]
      congr 1
      apply lst_congr
      intro a ha
      by_cases e : a = i
      · subst e; rw [if_pos rfl, if_pos (by omega), hps]
      · rw [if_neg e]
        by_cases h3 : a < i
        · rw [if_pos h3, if_pos (by omega)]
        · rw [if_neg h3, if_neg (by omega)]
    · have hps : pass p o i = o i := by unfold pass; rw [if_neg hb]
      rw [Bool.not_eq_true] at hb
      rw [hb, if_neg (by simp)]
      congr 1
      apply lst_congr
      intro a ha
      by_cases e : a = i
      · subst e; rw [if_neg (by omega), if_pos (by omega), hps]
      · by_cases h3 : a < i
        · rw [if_pos h3, if_pos (by omega)]
        · rw [if_neg h3, if_neg (by omega)]
theorem closure_ev {r : List Nat} (h : IsRelN r) : Ev (fun k => impl_closure.f k (ints r)) (lst r.length (clos r)) := by
  have hlen := h.len
  have hpw := pow_24 hlen
  have ho : ∀ i, i < r.length → (fun a => r.getD a 0 ||| 2 ^ a) i < 2 ^ r.length := fun i hi => Nat.or_lt_two_pow (h.lt' i hi) (two_pow_lt hi)
  have main := loop_ev r.length (fun p k => impl_closure.l1 k (lst r.length (passes (fun a => r.getD a 0 ||| 2 ^ a) p)) (r.length : Int) (p : Int)) (r := lst r.length (clos r)) ?_ ?_
  · have first := loop_ev r.length (fun i k => impl_closure.l0 k (lst r.length (fun a => if a < i then r.getD a 0 ||| 2 ^ a else r.getD a 0)) (r.length : Int) (i : Int)) (r := lst r.length (clos r)) ?_ ?_
    · refine Ev.congr (fun k => ?_) first
      unfold impl_closure.f slices_Clone_int64_int64.f
      rw [ints_length, if_pos (by omega), Option.bind_some, ints_length]
      have e : lst r.length (fun a => if a < 0 then r.getD a 0 ||| 2 ^ a else r.getD a 0) = ints r := (lst_congr (fun i _ => if_neg (Nat.not_lt_zero i))).trans (ints_lst r).symm
      show _ = impl_closure.l0 k (lst r.length (fun a => if a < 0 then r.getD a 0 ||| 2 ^ a else r.getD a 0)) (r.length : Int) 0
      rw [e]
    · refine Ev.step (fun k => ?_) main
      simp only [impl_closure.l0]
      have e : lst r.length (fun a => if a < r.length then r.getD a 0 ||| 2 ^ a else r.getD a 0) = lst r.length (fun a => r.getD a 0 ||| 2 ^ a) := lst_congr (fun i hi => if_pos hi)
      rw [if_neg (by omega), lst_length, e]
      rfl
    · intro i hi ih
      refine Ev.step (fun k => ?_) ih
      have h1 := h.lt' i hi
      have h2 := two_pow_lt hi
      simp only [impl_closure.l0]
      rw [if_pos (by omega), if_pos (by omega), if_pos (by rw [lst_length]; omega), one_eq (by omega), Option.bind_some, rd_lst hi, if_neg (by omega : ¬ i < i), bor (by omega) (by omega), Int.toNat_natCast, lst_set, wrap_id (x := (i : Int) + 1) (by omega) (by omega)]
      congr 1
      apply lst_congr
      intro a ha
      by_cases e : a = i
      · subst e; rw [if_pos rfl, if_pos (by omega)]
      · rw [if_neg e]
        by_cases h3 : a < i
        · rw [if_pos h3, if_pos (by omega)]
        · rw [if_neg h3, if_neg (by omega)]
  · refine Ev.step (f := fun _ => some (lst r.length (clos r))) (fun k => ?_) (Ev.now _)
    simp only [impl_closure.l1]
    rw [if_neg (by omega)]
    rfl
  · intro p hp ih
    refine Ev.step (fun k => ?_) (closure_pass hlen (passes (fun a => r.getD a 0 ||| 2 ^ a) p) (passes_lt ho p (by omega)) p hp ih)
    simp only [impl_closure.l1]
    rw [if_pos (by omega), lst_length]
theorem clos_bit {r : List Nat} (h : IsRelN r) {a : Nat} (ha : a < r.length) (j : Nat) : (clos r a).testBit j = true ↔ Reach (fun a => r.getD a 0) a j := by
  unfold clos
  rw [passes_reach h.lt' ha j]
  have : (fun a => if a < r.length then r.getD a 0 else 0) = fun a => r.getD a 0 := by
    funext a
    by_cases e : a < r.length
    · rw [if_pos e]
    · rw [if_neg e]; simp [List.getD_eq_getElem?_getD, Nat.le_of_not_lt e]
  rw [this]
theorem reach_bit {r : List Nat} (h : IsRelN r) {a : Nat} (ha : a < r.length) (j : Nat) : (reach r a).testBit j = true ↔ Reach (fun a => r.getD a 0) a j := by
  unfold reach
  refine rnds_reach ha (fun i => ?_) j
  by_cases e : i < r.length
  · exact h.lt' i e
  · have : r.getD i 0 = 0 := by simp [List.getD_eq_getElem?_getD, Nat.le_of_not_lt e]
    rw [this]
    exact Nat.two_pow_pos _
theorem clos_reach {r : List Nat} (h : IsRelN r) {a : Nat} (ha : a < r.length) : clos r a = reach r a := by
  apply Nat.eq_of_testBit_eq
  intro j
  rw [Bool.eq_iff_iff, clos_bit h ha, reach_bit h ha]
end Go.Proofs.Ytdbdlhjhacbjoaa.T

namespace Go.Proofs.Ytdbdlhjhacbjoaa.T
set_option linter.unusedVariables false
set_option linter.unusedSimpArgs false
open Go Go.RowKit Go.Proofs.YtdbdlhjhacbjoaaW.PrintWords Go.Proofs.YtdbdlhjhacbjoaaW.PrintMore Go.Proofs.Ytdbdlhjhacbjoaa.G

def closureOf (l : List Int) : List Int × Int := if isRel l then (lst l.length (reach (l.map Int.toNat)), 0) else ([], 1)
theorem specClosureOfRelation_ev (l : List Int) : Ev (fun k => spec_ClosureOfRelation.f k l) (closureOf l) := by
  unfold spec_ClosureOfRelation.f closureOf
  refine Ev.bind (specIsRelation_ev l) ?_
  by_cases h : isRel l = true
  · rw [if_pos h]
    simp only [if_pos h]
    obtain ⟨r, rfl, hr⟩ := isRel_nat h
    have hlen := hr.len
    rw [toNat_ints, ints_length]
    refine loop_ev r.length (fun i k => spec_ClosureOfRelation.l0 k (ints r) (lst i (reach r)) (i : Int)) ?_ ?_
    · refine Ev.step (f := fun _ => some (lst r.length (reach r), 0)) (fun k => ?_) (Ev.now _)
      simp only [spec_ClosureOfRelation.l0]
      rw [if_neg (by rw [ints_length]; omega)]
    · intro i hi ih
      have hb : Ev (fun k => (spec_l01Reach.f k (ints r) (i : Int)).bind fun t => spec_ClosureOfRelation.l0 k (ints r) (lst i (reach r) ++ [t]) ((i + 1 : Nat) : Int)) (lst r.length (reach r), 0) := by
        refine Ev.bind (l01Reach_ev hr hi) ?_
        have e : lst i (reach r) ++ [((reach r i : Nat) : Int)] = lst (i + 1) (reach r) := by
          unfold lst
          rw [List.range_succ, List.map_append, ints_append]
          rfl
        rw [e]
        exact ih
      refine Ev.step (fun k => ?_) hb
      simp only [spec_ClosureOfRelation.l0]
      rw [if_pos (by rw [ints_length]; omega)]
      congr 1
      funext t
      rw [if_pos (by rw [lst_length]; omega), wrap_id (x := (i : Int) + 1) (by omega) (by omega)]
      rfl
  · rw [if_neg h]
    simp only [if_neg h]
    exact Ev.now _
theorem implClosureOfRelation_ev (l : List Int) : Ev (fun k => impl_ClosureOfRelation.f k l) (closureOf l) := by
  unfold impl_ClosureOfRelation.f closureOf
  simp only [implIsRelation_eq, Option.bind_some]
  by_cases h : isRel l = true
  · simp only [if_pos h]
    obtain ⟨r, rfl, hr⟩ := isRel_nat h
    rw [toNat_ints, ints_length, ← lst_congr (fun i hi => clos_reach hr hi)]
    exact Ev.bind (closure_ev hr) (Ev.now _)
  · simp only [if_neg h]
    exact Ev.now _
theorem closureOf_length (l : List Int) : (closureOf l).1.length ≤ 24 := by
  unfold closureOf
  by_cases h : isRel l = true
  · rw [if_pos h]
    obtain ⟨r, rfl, hr⟩ := isRel_nat h
    have := hr.len
    rw [lst_length, ints_length]
    omega
  · rw [if_neg h]; simp
end Go.Proofs.Ytdbdlhjhacbjoaa.T

namespace Go.Proofs.Ytdbdlhjhacbjoaa.T
open Go Go.RowKit Go.Proofs.YtdbdlhjhacbjoaaW.PrintWords Go.Proofs.YtdbdlhjhacbjoaaW.PrintMore Go.Proofs.Ytdbdlhjhacbjoaa.G

theorem toInt64S_loop (l : List Int) (hl : l.length ≤ 35184372088832) : ∀ (d i : Nat), i + d = l.length → Ev (fun k => laws_toInt64S.l0 k l (l.take i ++ List.replicate d 0) (i : Int)) l
  | 0, i, h => by
    refine Ev.step (f := fun _ => some l) (fun k => ?_) (Ev.now l)
    obtain rfl : i = l.length := by omega
    simp only [laws_toInt64S.l0]
    rw [if_neg (by omega)]
    simp
  | d + 1, i, h => by
    have ih := toInt64S_loop l hl d (i + 1) (by omega)
    refine Ev.step (fun k => ?_) ih
    have hi : i < l.length := by omega
    simp only [laws_toInt64S.l0]
    rw [if_pos (by omega), if_pos (by omega), if_pos (by simp; omega), Int.toNat_natCast, rd_nat hi, wrap_id (by omega) (by omega)]
    congr 1
    rw [List.set_append_right _ _ (by simp; omega)]
    simp only [List.length_take, Nat.min_eq_left (Nat.le_of_lt hi), Nat.sub_self, List.replicate_succ, List.set_cons_zero]
    rw [List.take_succ_eq_append_getElem hi, List.append_assoc]
    rfl
theorem toInt64S_ev (l : List Int) (hl : l.length ≤ 35184372088832) : Ev (fun k => laws_toInt64S.f k l) l := by
  refine Ev.congr (fun k => ?_) (toInt64S_loop l hl l.length 0 (by omega))
  unfold laws_toInt64S.f
  rw [if_pos (by omega), Int.toNat_natCast, if_pos hl]
  simp

theorem eqInt64S_loop (a b : List Int) (hab : a.length = b.length) (hl : a.length < 4611686018427387904) : ∀ (d i : Nat), i + d = a.length → a.take i = b.take i → Ev (fun k => laws_eqInt64S.l0 k a b (i : Int)) (decide (a = b))
  | 0, i, h, ht => by
    refine Ev.step (f := fun _ => some (decide (a = b))) (fun k => ?_) (Ev.now _)
    obtain rfl : i = a.length := by omega
    simp only [laws_eqInt64S.l0]
    rw [if_neg (by omega)]
    rw [List.take_length, hab, List.take_length] at ht
    simp [ht]
  | d + 1, i, h, ht => by
    have hi : i < a.length := by omega
    have hj : i < b.length := by omega
    by_cases e : a[i] = b[i]
    · have ih := eqInt64S_loop a b hab hl d (i + 1) (by omega) (by rw [List.take_succ_eq_append_getElem hi, List.take_succ_eq_append_getElem hj, ht, e])
      refine Ev.step (fun k => ?_) ih
      simp only [laws_eqInt64S.l0]
      rw [if_pos (by omega), if_pos (by omega), if_pos (by omega), rd_nat hi, rd_nat hj, if_pos e, wrap_id (by omega) (by omega)]
      rfl
    · refine Ev.step (f := fun _ => some (decide (a = b))) (fun k => ?_) (Ev.now _)
      simp only [laws_eqInt64S.l0]
      rw [if_pos (by omega), if_pos (by omega), if_pos (by omega), rd_nat hi, rd_nat hj, if_neg e]
      have : ¬ a = b := by rintro rfl; exact e rfl
      simp [this]
theorem eqInt64S_ev (a b : List Int) (hl : a.length < 4611686018427387904) : Ev (fun k => laws_eqInt64S.f k a b) (decide (a = b)) := by
  by_cases hab : a.length = b.length
  · refine Ev.congr (fun k => ?_) (eqInt64S_loop a b hab hl a.length 0 (by omega) (by simp))
    unfold laws_eqInt64S.f
    rw [if_pos (by omega)]
    rfl
  · refine Ev.of_all fun k => ?_
    unfold laws_eqInt64S.f
    rw [if_neg (by omega)]
    have : ¬ a = b := by rintro rfl; exact hab rfl
    simp [this]

/-- The numbers a, a + 1, .., as many as n. -/
def iota (a n : Nat) : List Int := (List.range n).map fun i => ((a + i : Nat) : Int)
theorem iota_length (a n : Nat) : (iota a n).length = n := by simp [iota]
theorem iota_get (a n i : Nat) (h : i < (iota a n).length) : (iota a n)[i] = ((a + i : Nat) : Int) := by simp [iota]
theorem mark_loop (l : List Int) (a : Nat) (hb : a + l.length < 4611686018427387904) : ∀ (d i : Nat), i + d = l.length → Ev (fun k => laws_markInt64S.l0 k (iota a i ++ l.drop i) ((a + i : Nat) : Int) (i : Int)) (((a + l.length : Nat) : Int), iota a l.length)
  | 0, i, h => by
    refine Ev.step (f := fun _ => some (((a + l.length : Nat) : Int), iota a l.length)) (fun k => ?_) (Ev.now _)
    obtain rfl : i = l.length := by omega
    simp only [laws_markInt64S.l0]
    rw [if_neg (by simp [iota_length])]
    simp
  | d + 1, i, h => by
    have ih := mark_loop l a hb d (i + 1) (by omega)
    refine Ev.step (fun k => ?_) ih
    have hi : i < l.length := by omega
    simp only [laws_markInt64S.l0]
    rw [if_pos (by simp [iota_length]; omega), if_pos (by omega), Int.toNat_natCast, wrap_id (x := (i : Int) + 1) (by omega) (by omega), wrap_id (by omega) (by omega)]
    congr 1
    rw [List.set_append_right _ _ (by simp [iota_length]), iota_length, Nat.sub_self, List.drop_eq_getElem_cons hi, List.set_cons_zero]
    unfold iota
    rw [List.range_succ, List.map_append, List.append_assoc]
    rfl
theorem mark_ev (l : List Int) (a : Nat) (hb : a + l.length < 4611686018427387904) : Ev (fun k => laws_markInt64S.f k l (a : Int)) (((a + l.length : Nat) : Int), iota a l.length) := by
  have := mark_loop l a hb l.length 0 (by omega)
  refine Ev.congr (fun k => ?_) this
  rfl
theorem held_loop (a n : Nat) (hb : a + n < 4611686018427387904) : ∀ (d i : Nat), i + d = n → Ev (fun k => laws_heldInt64S.l0 k (iota a n) ((a + i : Nat) : Int) (i : Int)) ((a + n : Nat) : Int)
  | 0, i, h => by
    refine Ev.step (f := fun _ => some ((a + n : Nat) : Int)) (fun k => ?_) (Ev.now _)
    obtain rfl : i = n := by omega
    simp only [laws_heldInt64S.l0]
    rw [if_neg (by simp [iota_length])]
  | d + 1, i, h => by
    have ih := held_loop a n hb d (i + 1) (by omega)
    refine Ev.step (fun k => ?_) ih
    have hi : i < (iota a n).length := by rw [iota_length]; omega
    simp only [laws_heldInt64S.l0]
    rw [if_pos (by omega), if_pos (by omega), rd_nat hi, iota_get, if_pos rfl, wrap_id (x := (i : Int) + 1) (by omega) (by omega), wrap_id (by omega) (by omega)]
    rfl
theorem held_ev (a n : Nat) (hb : a + n < 4611686018427387904) : Ev (fun k => laws_heldInt64S.f k (iota a n) (a : Int)) ((a + n : Nat) : Int) := by
  refine Ev.congr (fun k => ?_) (held_loop a n hb n 0 (by omega))
  rfl
theorem mark1_ev (l : List Int) (hb : l.length < 4611686018427387903) : Ev (fun k => laws_markInt64S.f k l 1) (1 + (l.length : Int), iota 1 l.length) := by
  have := mark_ev l 1 (by omega)
  rwa [show ((1 + l.length : Nat) : Int) = 1 + (l.length : Int) by push_cast; rfl] at this
theorem held1_ev (n : Nat) (hb : n < 4611686018427387903) : Ev (fun k => laws_heldInt64S.f k (iota 1 n) 1) (1 + (n : Int)) := by
  have := held_ev 1 n (by omega)
  rwa [show ((1 + n : Nat) : Int) = 1 + (n : Int) by push_cast; rfl] at this
theorem eqSelf_ev (l : List Int) (hl : l.length < 4611686018427387904) : Ev (fun k => laws_eqInt64S.f k l l) true := by
  have := eqInt64S_ev l l hl
  rwa [decide_eq_true rfl] at this
end Go.Proofs.Ytdbdlhjhacbjoaa.T

namespace Go.Proofs.Ytdbdlhjhacbjoaa.T
set_option linter.unusedVariables false
set_option linter.unusedSimpArgs false
open Go Go.RowKit Go.Proofs.YtdbdlhjhacbjoaaW.PrintWords Go.Proofs.YtdbdlhjhacbjoaaW.PrintMore Go.Proofs.Ytdbdlhjhacbjoaa.G
theorem FnExactClosureOfRelation (l0 : List Int) (_ : l0.length ≤ maxLen) (_ : ∀ x ∈ l0, (Lit.int .i64 x).wf = true) : ∃ k, laws_FnExactClosureOfRelation.f k l0 = some true := by
  by_cases h0_ : (l0.length : Int) > 1048576
  · exact ⟨0, by unfold laws_FnExactClosureOfRelation.f; rw [if_pos h0_]⟩
  have h0_n : ¬ (1 + (l0.length : Int) < 0) := by omega
  obtain ⟨K1, h1⟩ := specClosureOfRelation_ev l0
  obtain ⟨K2, h2⟩ := implClosureOfRelation_ev l0
  have hl := closureOf_length l0
  generalize closureOf l0 = r at h1 h2 hl
  obtain ⟨l, c⟩ := r
  simp only at hl
  have hn : ¬ (1 + (l.length : Int) < 0) := by omega
  obtain ⟨K3, h3⟩ := toInt64S_ev l0 (by omega)
  obtain ⟨K4, h4⟩ := eqSelf_ev l0 (by omega)
  obtain ⟨K5, h5⟩ := mark1_ev l0 (by omega)
  obtain ⟨K6, h6⟩ := eqSelf_ev l (by omega)
  obtain ⟨K7, h7⟩ := mark1_ev l (by omega)
  obtain ⟨K8, h8⟩ := held1_ev l.length (by omega)
  have e1 := fun (j : Nat) => h1 (K1 + K2 + K3 + K4 + K5 + K6 + K7 + K8 + j) (by omega)
  have e2 := fun (j : Nat) => h2 (K1 + K2 + K3 + K4 + K5 + K6 + K7 + K8 + j) (by omega)
  have e3 := fun (j : Nat) => h3 (K1 + K2 + K3 + K4 + K5 + K6 + K7 + K8 + j) (by omega)
  have e4 := fun (j : Nat) => h4 (K1 + K2 + K3 + K4 + K5 + K6 + K7 + K8 + j) (by omega)
  have e5 := fun (j : Nat) => h5 (K1 + K2 + K3 + K4 + K5 + K6 + K7 + K8 + j) (by omega)
  have e6 := fun (j : Nat) => h6 (K1 + K2 + K3 + K4 + K5 + K6 + K7 + K8 + j) (by omega)
  have e7 := fun (j : Nat) => h7 (K1 + K2 + K3 + K4 + K5 + K6 + K7 + K8 + j) (by omega)
  have e8 := fun (j : Nat) => h8 (K1 + K2 + K3 + K4 + K5 + K6 + K7 + K8 + j) (by omega)
  generalize K1 + K2 + K3 + K4 + K5 + K6 + K7 + K8 = K at *
  refine ⟨K + 5, ?_⟩
  unfold laws_FnExactClosureOfRelation.f
  rw [if_neg h0_]
  simp only [e1, e2, e3, e4, e5, e6, e7, e8, Option.bind_some, if_true, bne_self_eq_false]
  try simp only [laws_FnExactClosureOfRelation.j0, laws_FnExactClosureOfRelation.j1, laws_FnExactClosureOfRelation.j2, e1, e2, e3, e4, e5, e6, e7, e8, Option.bind_some, bne_self_eq_false]
  try simp [h0_n, hn]
end Go.Proofs.Ytdbdlhjhacbjoaa.T
