/- The pure side of FnExactParseAlphabet: the law's plain function answers true at all inputs; before it, all that this needs. -/
import Derived.Test.YtbhkpfkkjknmlaaDoorWMore
import Derived.Test.YtbhkpfkkjknmlaaDoorWWords
import Derived.Laws.BitsLemmas
import Derived.Test.YtbhkpfkkjknmlaaDoorGLawFnExactParseAlphabet
import Derived.Test.YtbhkpfkkjknmlaaDoorGQ01a
import Derived.Test.YtbhkpfkkjknmlaaDoorGQ01b
import Derived.Test.YtbhkpfkkjknmlaaDoorGQ03
import Derived.Test.YtbhkpfkkjknmlaaDoorGQ04a
import Derived.Test.YtbhkpfkkjknmlaaDoorGQ04b
import Derived.Test.YtbhkpfkkjknmlaaDoorGQ04c
import Derived.Test.YtbhkpfkkjknmlaaDoorGQ04d
import Derived.Test.YtbhkpfkkjknmlaaDoorGQ05
namespace Go.Proofs.YtbhkpfkkjknmlaaDoor.T
open Go Go.RowKit Go.Proofs.YtbhkpfkkjknmlaaDoorW.PrintWords Go.Proofs.YtbhkpfkkjknmlaaDoorW.PrintMore

theorem wrap_id {x : Int} (h1 : -9223372036854775808 ≤ x) (h2 : x ≤ 9223372036854775807) : wrap64 x = x := by unfold wrap64; omega
theorem i64_id {n : Int} (h1 : -9223372036854775808 ≤ n) (h2 : n ≤ 9223372036854775807) : IntKind.i64.wrap n = n := by rw [IntKind.wrap_i64]; omega
theorem u64_id {n : Int} (h1 : 0 ≤ n) (h2 : n < 18446744073709551616) : IntKind.u64.wrap n = n := by
  simp [IntKind.wrap, IntKind.bits, IntKind.signed]; omega
theorem rd_nat {l : List Int} {i : Nat} (h : i < l.length) : rd l (i : Int) = l[i] := by simp [rd, h]
theorem pow_lt63 {n : Nat} (h : n ≤ 62) : 2 ^ n < 9223372036854775808 := by
  have : 2 ^ n ≤ 2 ^ 62 := Nat.pow_le_pow_right (by decide) h
  have e : 2 ^ 62 = 4611686018427387904 := by decide
  omega
theorem shl_one {n : Nat} (h : n ≤ 62) : shl .i64 1 (n : Int) = ((2 ^ n : Nat) : Int) := by
  unfold shl
  have hb : IntKind.i64.bits = 64 := rfl
  rw [Int.one_mul, hb, Int.toNat_natCast, Nat.min_eq_left (by omega)]
  have := pow_lt63 h
  have e : (2 : Int) ^ n = ((2 ^ n : Nat) : Int) := by push_cast; rfl
  rw [e]
  generalize 2 ^ n = m at this ⊢
  exact i64_id (by omega) (by omega)
theorem band {a b : Nat} (ha : a < 9223372036854775808) (hb : b < 9223372036854775808) : Go.bits .and .i64 (a : Int) (b : Int) = ((a &&& b : Nat) : Int) := by
  have hc : a &&& b < 9223372036854775808 := Nat.lt_of_le_of_lt Nat.and_le_left ha
  have e : (BitVec.ofInt 64 (a : Int) &&& BitVec.ofInt 64 (b : Int)).toNat = a &&& b := by
    rw [BitVec.ofInt_natCast, BitVec.ofInt_natCast, BitVec.toNat_and, BitVec.toNat_ofNat, BitVec.toNat_ofNat, Nat.mod_eq_of_lt (by omega), Nat.mod_eq_of_lt (by omega)]
  show IntKind.i64.wrap (((BitVec.ofInt 64 (a : Int) &&& BitVec.ofInt 64 (b : Int)).toNat : Nat) : Int) = _
  rw [e, i64_id] <;> omega
theorem bor {a b : Nat} (ha : a < 9223372036854775808) (hb : b < 9223372036854775808) : Go.bits .or .i64 (a : Int) (b : Int) = ((a ||| b : Nat) : Int) := by
  have hc : a ||| b < 9223372036854775808 := Nat.or_lt_two_pow (n := 63) ha hb
  have e : (BitVec.ofInt 64 (a : Int) ||| BitVec.ofInt 64 (b : Int)).toNat = a ||| b := by
    rw [BitVec.ofInt_natCast, BitVec.ofInt_natCast, BitVec.toNat_or, BitVec.toNat_ofNat, BitVec.toNat_ofNat, Nat.mod_eq_of_lt (by omega), Nat.mod_eq_of_lt (by omega)]
  show IntKind.i64.wrap (((BitVec.ofInt 64 (a : Int) ||| BitVec.ofInt 64 (b : Int)).toNat : Nat) : Int) = _
  rw [e, i64_id] <;> omega
theorem shr_and_one {m i : Nat} (hm : m < 9223372036854775808) : Go.bits .and .i64 (shr .i64 (m : Int) (i : Int)) 1 = ((if m.testBit i then 1 else 0 : Nat) : Int) := by
  have h0 : shr .i64 (m : Int) (i : Int) = ((m / 2 ^ i : Nat) : Int) := by
    unfold shr
    rw [Int.toNat_natCast, show IntKind.i64.bits = 64 from rfl]
    by_cases hi : i ≤ 64
    · rw [Nat.min_eq_left hi]; simp
    · rw [Nat.min_eq_right (by omega)]
      have h64 : 2 ^ 64 ≤ 2 ^ i := Nat.pow_le_pow_right (by decide) (by omega)
      have e : (2 : Nat) ^ 64 = 18446744073709551616 := by decide
      rw [Nat.div_eq_of_lt (by omega)]
      have : ((2 : Int) ^ 64) = 18446744073709551616 := by decide
      rw [this]; simp only [Int.natCast_zero]; omega
  have hlt : m / 2 ^ i < 9223372036854775808 := Nat.lt_of_le_of_lt (Nat.div_le_self _ _) hm
  rw [h0, show (1 : Int) = ((1 : Nat) : Int) from rfl, band hlt (by decide)]
  congr 1
  rw [Nat.and_one_is_mod, Nat.testBit_eq_decide_div_mod_eq]
  have := Nat.mod_two_eq_zero_or_one (m / 2 ^ i)
  rcases this with h | h <;> simp [h]
/-- From some number of rounds on. -/
theorem Ev.of_all {α : Type} {g : Nat → Option α} {r : α} (h : ∀ k, g k = some r) : Ev g r := ⟨0, fun k _ => h k⟩
end Go.Proofs.YtbhkpfkkjknmlaaDoor.T

namespace Go.Proofs.YtbhkpfkkjknmlaaDoor.T
open Go Go.RowKit Go.Proofs.YtbhkpfkkjknmlaaDoorW.PrintWords Go.Proofs.YtbhkpfkkjknmlaaDoorW.PrintMore Go.Proofs.YtbhkpfkkjknmlaaDoor.G

theorem l01One_eq {n : Nat} (h : n ≤ 62) : spec_l01One.f (n : Int) = some ((2 ^ n : Nat) : Int) := by
  unfold spec_l01One.f
  rw [u64_id (by omega) (by omega), if_pos (by omega), shl_one h]
theorem one_eq {n : Nat} (h : n ≤ 62) : impl_one.f (n : Int) = some ((2 ^ n : Nat) : Int) := by
  unfold impl_one.f
  rw [if_pos (by omega), shl_one h]
end Go.Proofs.YtbhkpfkkjknmlaaDoor.T

namespace Go.Proofs.YtbhkpfkkjknmlaaDoor.T
open Go Go.RowKit Go.Proofs.YtbhkpfkkjknmlaaDoorW.PrintWords Go.Proofs.YtbhkpfkkjknmlaaDoorW.PrintMore Go.Proofs.YtbhkpfkkjknmlaaDoor.G

/-- The masks of the single letters. -/
def singles (n : Nat) : List Int := (List.range n).map fun i => ((2 ^ i : Nat) : Int)
theorem singles_succ (n : Nat) : singles (n + 1) = singles n ++ [((2 ^ n : Nat) : Int)] := by
  unfold singles
  rw [List.range_succ, List.map_append]
  rfl
theorem singles_length (n : Nat) : (singles n).length = n := by simp [singles]
theorem loose_loop (n : Nat) (hn : n ≤ 62) : ∀ (d i : Nat), i + d = n → Ev (fun k => impl_loose.l0 k (n : Int) (i : Int) (n : Int) (singles i)) ((n : Int), singles n)
  | 0, i, h => by
    refine Ev.step (f := fun _ => some ((n : Int), singles n)) (fun k => ?_) (Ev.now _)
    obtain rfl : i = n := by omega
    simp only [impl_loose.l0]
    rw [if_neg (by omega)]
  | d + 1, i, h => by
    refine Ev.step (fun k => ?_) (loose_loop n hn d (i + 1) (by omega))
    simp only [impl_loose.l0]
    rw [if_pos (by omega), one_eq (by omega), Option.bind_some, if_pos (by rw [singles_length]; omega), wrap_id (by omega) (by omega), ← singles_succ]
    rfl
theorem loose_ev (n : Nat) (hn : n ≤ 62) : Ev (fun k => impl_loose.f k (n : Int)) ((n : Int), singles n) := by
  refine Ev.congr (fun k => ?_) (loose_loop n hn n 0 (by omega))
  rfl
end Go.Proofs.YtbhkpfkkjknmlaaDoor.T

namespace Go.Proofs.YtbhkpfkkjknmlaaDoor.T
set_option linter.unusedVariables false
set_option linter.unusedSimpArgs false
section
variable {α : Type} [DecidableEq α]

/-- The letters of a word that are a or b. -/
def prj (a b : α) (w : List α) : List α := w.filter fun c => decide (c = a) || decide (c = b)
theorem prj_cons (a b c : α) (w : List α) : prj a b (c :: w) = if c = a ∨ c = b then c :: prj a b w else prj a b w := by
  unfold prj
  rw [List.filter_cons]
  by_cases h : c = a ∨ c = b
  · rw [if_pos h, if_pos (by simpa using h)]
  · rw [if_neg h, if_neg (by simpa using h)]
/-- Two words are the same trace: equal projections on all pairs that depend on each other. -/
def Eqv (D : α → α → Bool) (u v : List α) : Prop := ∀ a b, D a b = true → prj a b u = prj a b v
theorem Eqv.refl (D : α → α → Bool) (u : List α) : Eqv D u u := fun _ _ _ => rfl
theorem Eqv.symm {D : α → α → Bool} {u v : List α} (h : Eqv D u v) : Eqv D v u := fun a b hd => (h a b hd).symm
theorem Eqv.cons {D : α → α → Bool} {u v : List α} (c : α) (h : Eqv D u v) : Eqv D (c :: u) (c :: v) := fun a b hd => by
  rw [prj_cons, prj_cons, h a b hd]
theorem Eqv.count {D : α → α → Bool} (hr : ∀ a, D a a = true) {u v : List α} (h : Eqv D u v) (a : α) : u.count a = v.count a := by
  have e : ∀ w : List α, (prj a a w).length = w.count a := by
    intro w
    unfold prj
    rw [List.count_eq_countP, List.countP_eq_length_filter]
    congr 2
    funext c
    rw [Bool.eq_iff_iff]
    simp
  rw [← e, ← e, h a a (hr a)]
theorem Eqv.perm {D : α → α → Bool} (hr : ∀ a, D a a = true) {u v : List α} (h : Eqv D u v) : u.Perm v := by
  rw [List.perm_iff_count]
  exact fun a => h.count hr a
theorem Eqv.length {D : α → α → Bool} (hr : ∀ a, D a a = true) {u v : List α} (h : Eqv D u v) : u.length = v.length := (h.perm hr).length_eq
theorem Eqv.filter {D : α → α → Bool} {u v : List α} (h : Eqv D u v) (p : α → Bool) : Eqv D (u.filter p) (v.filter p) := fun a b hd => by
  have e : ∀ w : List α, prj a b (w.filter p) = (prj a b w).filter p := by
    intro w
    unfold prj
    rw [List.filter_filter, List.filter_filter]
    congr 1
    funext c
    rw [Bool.and_comm]
  rw [e, e, h a b hd]
/-- What is left of a word behind a letter at its front, if no letter before the letter keeps it from there. -/
def rm (D : α → α → Bool) (a : α) : List α → Option (List α)
  | [] => none
  | x :: v => if x = a then some v else if D x a then none else (rm D a v).map (x :: ·)
end

/-! ### the normal form: always the least letter that can stand at the front -/
/-- The least letter below n that can stand at the front of a word. -/
def lead (D : Nat → Nat → Bool) (n : Nat) (w : List Nat) : Option Nat := (List.range n).find? fun a => (rm D a w).isSome
variable {D : Nat → Nat → Bool} {n : Nat}
end Go.Proofs.YtbhkpfkkjknmlaaDoor.T

namespace Go.Proofs.YtbhkpfkkjknmlaaDoor.T
set_option linter.unusedVariables false
set_option linter.unusedSimpArgs false

/-- A list is before another one. -/
def lex : List Int → List Int → Bool
  | _, [] => false
  | [], _ :: _ => true
  | a :: u, b :: v => if a < b then true else if b < a then false else lex u v
/-- The least of a list of candidates, an elder one kept where it is no greater. -/
def least (best : List Int) (l : List (List Int)) : List Int := l.foldl (fun b y => if lex y b then y else b) best
end Go.Proofs.YtbhkpfkkjknmlaaDoor.T

namespace Go.Proofs.YtbhkpfkkjknmlaaDoor.T
set_option linter.unusedVariables false
set_option linter.unusedSimpArgs false
/-- Letters as whole numbers. -/
def ints (w : List Nat) : List Int := w.map fun (x : Nat) => (x : Int)
end Go.Proofs.YtbhkpfkkjknmlaaDoor.T

namespace Go.Proofs.YtbhkpfkkjknmlaaDoor.T
set_option linter.unusedVariables false
set_option linter.unusedSimpArgs false
open Go Go.RowKit Go.Proofs.YtbhkpfkkjknmlaaDoorW.PrintWords Go.Proofs.YtbhkpfkkjknmlaaDoorW.PrintMore Go.Proofs.YtbhkpfkkjknmlaaDoor.G

theorem ints_length (u : List Nat) : (ints u).length = u.length := by unfold ints; rw [List.length_map]
end Go.Proofs.YtbhkpfkkjknmlaaDoor.T

namespace Go.Proofs.YtbhkpfkkjknmlaaDoor.T
set_option linter.unusedVariables false
set_option linter.unusedSimpArgs false
open Go Go.RowKit Go.Proofs.YtbhkpfkkjknmlaaDoorW.PrintWords Go.Proofs.YtbhkpfkkjknmlaaDoorW.PrintMore Go.Proofs.YtbhkpfkkjknmlaaDoor.G

/-- A loop that counts up to n. -/
theorem loop_ev {α : Type} (n : Nat) (G : Nat → Nat → Option α) {r : α} (hn : Ev (G n) r) (hs : ∀ i, i < n → Ev (G (i + 1)) r → Ev (G i) r) : Ev (G 0) r := by
  have : ∀ d i, i + d = n → Ev (G i) r := by
    intro d
    induction d with
    | zero => intro i h; obtain rfl : i = n := by omega
              exact hn
    | succ d ih => intro i h; exact hs i (by omega) (ih (i + 1) (by omega))
  exact this n 0 (by omega)
/-- The set of the numbers below n that meet a condition. -/
def setOf : Nat → (Nat → Bool) → Nat
  | 0, _ => 0
  | n + 1, p => if p n then setOf n p ||| 2 ^ n else setOf n p
theorem testBit_setOf (p : Nat → Bool) : ∀ (n i : Nat), (setOf n p).testBit i = (decide (i < n) && p i)
  | 0, i => by simp [setOf]
  | n + 1, i => by
    unfold setOf
    by_cases h : p n = true
    · rw [if_pos h, Nat.testBit_or, testBit_setOf p n i, Nat.testBit_two_pow]
      by_cases e : n = i
      · subst e; simp [h]
      · have : (i < n + 1) ↔ (i < n) := by omega
        simp [e, this]
    · rw [if_neg h, testBit_setOf p n i]
      by_cases e : n = i
      · subst e; simp [h]
      · have : (i < n + 1) ↔ (i < n) := by omega
        simp [this]
theorem setOf_lt (p : Nat → Bool) (n : Nat) : setOf n p < 2 ^ n := by
  apply Nat.lt_pow_two_of_testBit
  intro i hi
  rw [testBit_setOf]
  simp; omega
theorem two_pow_lt {i n : Nat} (h : i < n) : 2 ^ i < 2 ^ n := Nat.pow_lt_pow_right (by decide) h
theorem pow_24 {n : Nat} (h : n ≤ 24) : 2 ^ n ≤ 16777216 := by
  have : 2 ^ n ≤ 2 ^ 24 := Nat.pow_le_pow_right (by decide) h
  have e : 2 ^ 24 = 16777216 := by decide
  omega
/-- A relation as a list of sets. -/
structure IsRelN (r : List Nat) : Prop where
  len : r.length ≤ 24
  lt : ∀ x ∈ r, x < 2 ^ r.length
theorem IsRelN.bit {r : List Nat} (h : IsRelN r) {i j : Nat} (hi : i < r.length) (hj : r[i].testBit j = true) : j < r.length := by
  rcases Nat.lt_or_ge j r.length with h1 | h1
  · exact h1
  · rw [Nat.testBit_lt_two_pow (Nat.lt_of_lt_of_le (h.lt _ (List.getElem_mem hi)) (Nat.pow_le_pow_right (by decide) h1))] at hj
    cases hj
theorem rd_ints {r : List Nat} {i : Nat} (h : i < r.length) : rd (ints r) (i : Int) = ((r[i] : Nat) : Int) := by
  rw [rd_nat (by rw [ints_length]; exact h)]
  simp [ints]
theorem ints_set (r : List Nat) (i x : Nat) : (ints r).set i (x : Int) = ints (r.set i x) := by
  unfold ints
  rw [List.map_set]
theorem l01Bit_eq {m i : Nat} (hm : m < 9223372036854775808) (hi : i < 9223372036854775808) : spec_l01Bit.f (m : Int) (i : Int) = some (m.testBit i) := by
  unfold spec_l01Bit.f
  rw [u64_id (by omega) (by omega), if_pos (by omega), shr_and_one hm]
  cases m.testBit i <;> rfl
theorem has_eq {m i : Nat} (hm : m < 9223372036854775808) : impl_has.f (m : Int) (i : Int) = some (m.testBit i) := by
  unfold impl_has.f
  rw [if_pos (by omega), shr_and_one hm]
  cases m.testBit i <;> rfl
theorem getD_eq {r : List Nat} {i : Nat} (h : i < r.length) : r.getD i 0 = r[i] := by simp [h]
end Go.Proofs.YtbhkpfkkjknmlaaDoor.T

namespace Go.Proofs.YtbhkpfkkjknmlaaDoor.T
set_option linter.unusedVariables false
set_option linter.unusedSimpArgs false
open Go Go.RowKit Go.Proofs.YtbhkpfkkjknmlaaDoorW.PrintWords Go.Proofs.YtbhkpfkkjknmlaaDoorW.PrintMore

theorem bit_ltD {r : List Nat} (h : IsRelN r) {i j : Nat} (hi : i < r.length) (hj : (r.getD i 0).testBit j = true) : j < r.length := by
  rw [getD_eq hi] at hj
  exact h.bit hi hj
end Go.Proofs.YtbhkpfkkjknmlaaDoor.T

namespace Go.Proofs.YtbhkpfkkjknmlaaDoor.T
set_option linter.unusedVariables false
set_option linter.unusedSimpArgs false
open Go Go.RowKit Go.Proofs.YtbhkpfkkjknmlaaDoorW.PrintWords Go.Proofs.YtbhkpfkkjknmlaaDoorW.PrintMore Go.Proofs.YtbhkpfkkjknmlaaDoor.G

structure IsAN (r : List Nat) : Prop extends IsRelN r where
  len8 : r.length ≤ 8
  refl : ∀ a, a < r.length → (r.getD a 0).testBit a = true
  symm : ∀ a b, a < r.length → b < r.length → (r.getD a 0).testBit b = (r.getD b 0).testBit a
end Go.Proofs.YtbhkpfkkjknmlaaDoor.T

namespace Go.Proofs.YtbhkpfkkjknmlaaDoor.T
set_option linter.unusedVariables false
set_option linter.unusedSimpArgs false
open Go Go.RowKit Go.Proofs.YtbhkpfkkjknmlaaDoorW.PrintWords Go.Proofs.YtbhkpfkkjknmlaaDoorW.PrintMore Go.Proofs.YtbhkpfkkjknmlaaDoor.G

theorem l02Free_ev (n : Nat) (hn : n ≤ 62) : Ev (fun k => spec_l02Free.f k (n : Int)) ((n : Int), singles n) := by
  have := loop_ev n (fun i k => spec_l02Free.l0 k (n : Int) (i : Int) (n : Int) (singles i)) (r := ((n : Int), singles n)) ?_ ?_
  · exact Ev.congr (fun k => rfl) this
  · refine Ev.step (f := fun _ => some ((n : Int), singles n)) (fun k => ?_) (Ev.now _)
    simp only [spec_l02Free.l0]
    rw [if_neg (by omega)]
  · intro i hi ih
    refine Ev.step (fun k => ?_) ih
    simp only [spec_l02Free.l0]
    rw [if_pos (by omega), l01One_eq (by omega), Option.bind_some, if_pos (by rw [singles_length]; omega), wrap_id (by omega) (by omega), ← singles_succ]
    rfl
end Go.Proofs.YtbhkpfkkjknmlaaDoor.T

namespace Go.Proofs.YtbhkpfkkjknmlaaDoor.T
set_option linter.unusedVariables false
set_option linter.unusedSimpArgs false

/-- From i chains of related elements lead to j. -/
def Reach (r : Nat → Nat) (i j : Nat) : Prop := ∀ S : Nat → Prop, S i → (∀ a b, S a → (r a).testBit b = true → S b) → S j
theorem Reach.refl (r : Nat → Nat) (i : Nat) : Reach r i i := fun _ h _ => h
theorem Reach.step {r : Nat → Nat} {i j k : Nat} (h : Reach r i j) (hk : (r j).testBit k = true) : Reach r i k := fun S h0 hs => hs j k (h S h0 hs) hk
/-! ### by rounds -/
/-! ### by one pass over the middle elements -/
end Go.Proofs.YtbhkpfkkjknmlaaDoor.T

namespace Go.Proofs.YtbhkpfkkjknmlaaDoor.T
set_option linter.unusedVariables false
set_option linter.unusedSimpArgs false
open Go Go.RowKit Go.Proofs.YtbhkpfkkjknmlaaDoorW.PrintWords Go.Proofs.YtbhkpfkkjknmlaaDoorW.PrintMore Go.Proofs.YtbhkpfkkjknmlaaDoor.G

/-- A list of numbers by a function. -/
def lst (n : Nat) (f : Nat → Nat) : List Int := ints ((List.range n).map f)
theorem lst_length (n : Nat) (f : Nat → Nat) : (lst n f).length = n := by
  unfold lst
  rw [ints_length, List.length_map, List.length_range]
theorem rd_lst {n : Nat} {f : Nat → Nat} {i : Nat} (h : i < n) : rd (lst n f) (i : Int) = ((f i : Nat) : Int) := by
  unfold lst
  rw [rd_ints (by rw [List.length_map, List.length_range]; exact h)]
  simp
theorem lst_congr {n : Nat} {f g : Nat → Nat} (h : ∀ i, i < n → f i = g i) : lst n f = lst n g := by
  unfold lst
  congr 1
  exact List.map_congr_left (fun i hi => h i (List.mem_range.1 hi))
theorem lst_set {n : Nat} {f : Nat → Nat} (i x : Nat) : (lst n f).set i (x : Int) = lst n (fun a => if a = i then x else f a) := by
  unfold lst
  rw [ints_set]
  congr 1
  apply List.ext_getElem
  · simp
  · intro j h1 h2
    rw [List.getElem_set]
    by_cases e : i = j
    · subst e; simp
    · have e2 : ¬ j = i := fun h => e h.symm
      simp [e, e2]
theorem ints_lst (r : List Nat) : ints r = lst r.length fun a => r.getD a 0 := by
  unfold lst
  congr 1
  apply List.ext_getElem
  · simp
  · intro j h1 h2
    simp [h1]
end Go.Proofs.YtbhkpfkkjknmlaaDoor.T

namespace Go.Proofs.YtbhkpfkkjknmlaaDoor.T
set_option linter.unusedVariables false
set_option linter.unusedSimpArgs false
open Go Go.RowKit Go.Proofs.YtbhkpfkkjknmlaaDoorW.PrintWords Go.Proofs.YtbhkpfkkjknmlaaDoorW.PrintMore Go.Proofs.YtbhkpfkkjknmlaaDoor.G

theorem singles_lst (n : Nat) : singles n = lst n fun i => 2 ^ i := by
  unfold singles lst ints
  rw [List.map_map]
  rfl
end Go.Proofs.YtbhkpfkkjknmlaaDoor.T

namespace Go.Proofs.YtbhkpfkkjknmlaaDoor.T
set_option linter.unusedVariables false
set_option linter.unusedSimpArgs false
open Go Go.RowKit Go.Proofs.YtbhkpfkkjknmlaaDoorW.PrintWords Go.Proofs.YtbhkpfkkjknmlaaDoorW.PrintMore Go.Proofs.YtbhkpfkkjknmlaaDoor.G

/-- n rows, each a set below n. -/
def mat (n : Nat) (p : Nat → Nat → Bool) : List Int := lst n fun a => setOf n (p a)
theorem mat_length (n : Nat) (p : Nat → Nat → Bool) : (mat n p).length = n := lst_length n _
theorem rd_mat {n : Nat} {p : Nat → Nat → Bool} {a : Nat} (h : a < n) : rd (mat n p) (a : Int) = ((setOf n (p a) : Nat) : Int) := rd_lst h
theorem mat_bit {n : Nat} {p : Nat → Nat → Bool} {a j : Nat} (hj : j < n) : (setOf n (p a)).testBit j = p a j := by
  rw [testBit_setOf]; simp [hj]
theorem mat_set {n : Nat} {p : Nat → Nat → Bool} {a b : Nat} (hb : b < n) : (mat n p).set a ((setOf n (p a) ||| 2 ^ b : Nat) : Int) = mat n fun c j => p c j || (decide (c = a) && decide (j = b)) := by
  unfold mat
  rw [lst_set]
  apply lst_congr
  intro c hc
  apply Nat.eq_of_testBit_eq
  intro j
  by_cases e : c = a
  · subst e
    rw [if_pos rfl, Nat.testBit_or, testBit_setOf, testBit_setOf, Nat.testBit_two_pow]
    by_cases hj : j < n
    · simp [hj, eq_comm]
    · have : ¬ b = j := by omega
      simp [hj, this]
  · rw [if_neg e, testBit_setOf, testBit_setOf]
    simp [e]
theorem singles_mat (n : Nat) : singles n = mat n fun a j => decide (a = j) := by
  rw [singles_lst]
  apply lst_congr
  intro a ha
  apply Nat.eq_of_testBit_eq
  intro j
  rw [Nat.testBit_two_pow, testBit_setOf]
  by_cases hj : j < n
  · simp [hj]
  · have : ¬ a = j := by omega
    simp [hj, this]
/-- The table of a relation. -/
def tbl (r : List Nat) (a j : Nat) : Bool := (r.getD a 0).testBit j
theorem ints_mat {r : List Nat} (h : IsRelN r) : ints r = mat r.length (tbl r) := by
  rw [ints_lst r]
  apply lst_congr
  intro a ha
  apply Nat.eq_of_testBit_eq
  intro j
  rw [testBit_setOf]
  unfold tbl
  by_cases hj : j < r.length
  · simp [hj]
  · have : (r.getD a 0).testBit j = false := by
      cases hb : (r.getD a 0).testBit j
      · rfl
      · exact absurd (bit_ltD h ha hb) hj
    rw [this]; simp [hj]
/-- Letters a and b come to depend on each other. -/
def joinP (p : Nat → Nat → Bool) (a b c j : Nat) : Bool := p c j || (decide (c = a) && decide (j = b)) || (decide (c = b) && decide (j = a))
theorem l02Join_mat (m : Int) {n : Nat} (hn : n ≤ 24) (p : Nat → Nat → Bool) {a b : Nat} (ha : a < n) (hb : b < n) : spec_l02Join.f m (mat n p) (a : Int) (b : Int) = some (mat n (joinP p a b)) := by
  have h1 := setOf_lt (p a) n
  have hp := pow_24 hn
  have h2 := two_pow_lt ha
  have h3 := two_pow_lt hb
  unfold spec_l02Join.f
  rw [if_pos (by omega), if_pos (by rw [mat_length]; omega), l01One_eq (by omega), Option.bind_some, rd_mat ha, bor (by omega) (by omega), Int.toNat_natCast, mat_set hb, Option.bind_some, if_pos (by omega), if_pos (by rw [mat_length]; omega), l01One_eq (by omega), Option.bind_some, rd_mat hb]
  have h4 := setOf_lt (fun j => p b j || (decide (b = a) && decide (j = b))) n
  rw [bor (by omega) (by omega), Int.toNat_natCast]
  exact congrArg some (mat_set (p := fun c j => p c j || (decide (c = a) && decide (j = b))) (a := b) (b := a) ha)
theorem tie_mat (m : Int) {n : Nat} (hn : n ≤ 24) (p : Nat → Nat → Bool) {a b : Nat} (ha : a < n) (hb : b < n) : impl_Alphabet_tie.f m (mat n p) (a : Int) (b : Int) = some (mat n (joinP p a b)) := by
  have h1 := setOf_lt (p a) n
  have hp := pow_24 hn
  have h2 := two_pow_lt ha
  have h3 := two_pow_lt hb
  unfold impl_Alphabet_tie.f
  rw [if_pos (by omega), if_pos (by rw [mat_length]; omega), one_eq (by omega), Option.bind_some, rd_mat ha, bor (by omega) (by omega), Int.toNat_natCast, mat_set hb, Option.bind_some, if_pos (by omega), if_pos (by rw [mat_length]; omega), one_eq (by omega), Option.bind_some, rd_mat hb]
  have h4 := setOf_lt (fun j => p b j || (decide (b = a) && decide (j = b))) n
  rw [bor (by omega) (by omega), Int.toNat_natCast]
  exact congrArg some (mat_set (p := fun c j => p c j || (decide (c = a) && decide (j = b))) (a := b) (b := a) ha)
theorem l02Dep_mat (m : Int) {n : Nat} (hn : n ≤ 24) (p : Nat → Nat → Bool) {a b : Nat} (ha : a < n) (hb : b < n) : spec_l02Dep.f m (mat n p) (a : Int) (b : Int) = some (p a b) := by
  have h1 := setOf_lt (p a) n
  have hp := pow_24 hn
  unfold spec_l02Dep.f
  rw [if_pos (by omega), if_pos (by rw [mat_length]; omega), rd_mat ha, l01Bit_eq (by omega) (by omega), mat_bit hb, Option.bind_some]
theorem depend_mat (m : Int) {n : Nat} (hn : n ≤ 24) (p : Nat → Nat → Bool) {a b : Nat} (ha : a < n) (hb : b < n) : impl_depend.f m (mat n p) (a : Int) (b : Int) = some (p a b) := by
  have h1 := setOf_lt (p a) n
  have hp := pow_24 hn
  unfold impl_depend.f
  rw [if_pos (by omega), if_pos (by rw [mat_length]; omega), rd_mat ha, has_eq (by omega), mat_bit hb, Option.bind_some]
end Go.Proofs.YtbhkpfkkjknmlaaDoor.T

namespace Go.Proofs.YtbhkpfkkjknmlaaDoor.T
set_option linter.unusedVariables false
set_option linter.unusedSimpArgs false
open Go Go.RowKit Go.Proofs.YtbhkpfkkjknmlaaDoorW.PrintWords Go.Proofs.YtbhkpfkkjknmlaaDoorW.PrintMore Go.Proofs.YtbhkpfkkjknmlaaDoor.G

/-- The dependence of an alphabet, told for all numbers. -/
def depD (r : List Nat) (a b : Nat) : Bool := if a < r.length ∧ b < r.length then tbl r a b else decide (a = b)
theorem depD_in {r : List Nat} {a b : Nat} (ha : a < r.length) (hb : b < r.length) : depD r a b = tbl r a b := if_pos ⟨ha, hb⟩
theorem l02Dep_D {r : List Nat} (h : IsAN r) (n : Int) {a b : Nat} (ha : a < r.length) (hb : b < r.length) : spec_l02Dep.f n (ints r) (a : Int) (b : Int) = some (depD r a b) := by
  have h8 := h.len8
  rw [ints_mat h.toIsRelN, l02Dep_mat n (by omega) (tbl r) ha hb, depD_in ha hb]
end Go.Proofs.YtbhkpfkkjknmlaaDoor.T

namespace Go.Proofs.YtbhkpfkkjknmlaaDoor.T
set_option linter.unusedVariables false
set_option linter.unusedSimpArgs false
open Go Go.RowKit Go.Proofs.YtbhkpfkkjknmlaaDoorW.PrintWords Go.Proofs.YtbhkpfkkjknmlaaDoorW.PrintMore Go.Proofs.YtbhkpfkkjknmlaaDoor.G

def BA (l : List UInt8) : ByteArray := ⟨l.toArray⟩
theorem BA_size (l : List UInt8) : (BA l).size = l.length := by simp [BA, ByteArray.size]
theorem BA_append (u v : List UInt8) : BA u ++ BA v = BA (u ++ v) := by
  unfold BA
  apply ByteArray.ext
  simp [ByteArray.data_append]
theorem BA_space : (⟨#[32]⟩ : ByteArray) = BA [32] := rfl
theorem BA_colon : (⟨#[58]⟩ : ByteArray) = BA [58] := rfl
def ltr (a : Nat) : UInt8 := UInt8.ofNat (97 + a)
theorem letter_BA {a : Nat} (h : a < 26) : strOfNums (([(wrap64 (97 + (a : Int))) % 256] : List Int)) = BA [ltr a] := by
  have e1 : wrap64 (97 + (a : Int)) = 97 + a := by unfold wrap64; omega
  have e2 : (97 + (a : Int)) % 256 = 97 + a := by omega
  have e3 : ((97 : Int) + a).toNat = 97 + a := by omega
  rw [e1, e2]
  unfold strOfNums BA ltr
  rw [List.map_cons, List.map_nil, e3]
theorem specLetter_eq {a : Nat} (h : a < 26) : spec_l02Letter.f (a : Int) = some (BA [ltr a]) := by
  unfold spec_l02Letter.f
  rw [letter_BA h]
theorem implLetter_eq {a : Nat} (h : a < 26) : impl_letterText.f (a : Int) = some (BA [ltr a]) := by
  unfold impl_letterText.f
  rw [if_pos ⟨by omega, by omega⟩, letter_BA h]
/-- A pair's text. -/
def pT (r : List Nat) (a b : Nat) : List UInt8 := if depD r a b = true then [32, ltr a, ltr b] else []
def rowT (r : List Nat) (a d : Nat) : List UInt8 := (List.range d).flatMap fun i => pT r a (a + 1 + i)
def allT (r : List Nat) (i : Nat) : List UInt8 := (List.range i).flatMap fun a => rowT r a (r.length - (a + 1))
def headT (n : Nat) : List UInt8 := [UInt8.ofNat (48 + n), 58]
theorem rowT_succ (r : List Nat) (a d : Nat) : rowT r a (d + 1) = rowT r a d ++ pT r a (a + 1 + d) := by
  unfold rowT
  rw [List.range_succ, List.flatMap_append]
  simp
theorem allT_succ (r : List Nat) (i : Nat) : allT r (i + 1) = allT r i ++ rowT r i (r.length - (i + 1)) := by
  unfold allT
  rw [List.range_succ, List.flatMap_append]
  simp
theorem rowT_length (r : List Nat) (a : Nat) : ∀ d, (rowT r a d).length ≤ 3 * d
  | 0 => by simp [rowT]
  | d + 1 => by
    have := rowT_length r a d
    rw [rowT_succ, List.length_append]
    unfold pT
    split
    · simp only [List.length_cons, List.length_nil]; omega
    · simp only [List.length_nil]; omega
theorem allT_length {r : List Nat} (h8 : r.length ≤ 8) : ∀ i, (allT r i).length ≤ 24 * i
  | 0 => by simp [allT]
  | i + 1 => by
    have h1 := allT_length h8 i
    have h2 := rowT_length r i (r.length - (i + 1))
    rw [allT_succ, List.length_append]
    omega
theorem head_BA {n : Nat} (h : n < 10) : strOfNums (([(wrap64 (48 + (n : Int))) % 256] : List Int)) = BA [UInt8.ofNat (48 + n)] := by
  have e1 : wrap64 (48 + (n : Int)) = 48 + n := by unfold wrap64; omega
  have e2 : (48 + (n : Int)) % 256 = 48 + n := by omega
  have e3 : ((48 : Int) + n).toNat = 48 + n := by omega
  rw [e1, e2]
  unfold strOfNums BA
  rw [List.map_cons, List.map_nil, e3]
theorem head_BA' {n : Nat} (h : n < 10) : strOfNums (([48 + (n : Int)] : List Int)) = BA [UInt8.ofNat (48 + n)] := by
  have e3 : ((48 : Int) + n).toNat = 48 + n := by omega
  unfold strOfNums BA
  rw [List.map_cons, List.map_nil, e3]
theorem dependT {r : List Nat} (h : IsAN r) (n : Int) {a b : Nat} (ha : a < r.length) (hb : b < r.length) : impl_depend.f n (ints r) (a : Int) (b : Int) = some (depD r a b) := by
  have h8 := h.len8
  rw [ints_mat h.toIsRelN, depend_mat n (by omega) (tbl r) ha hb, depD_in ha hb]
def textA (r : List Nat) : ByteArray := BA (headT r.length ++ allT r r.length)
theorem l02Text_ev {r : List Nat} (h : IsAN r) : Ev (fun k => spec_l02Text.f k (r.length : Int) (ints r)) (textA r) := by
  have h8 := h.len8
  unfold spec_l02Text.f
  have hd : Ev (fun k => spec_l01Dec.f k (r.length : Int)) (BA [UInt8.ofNat (48 + r.length)]) := by
    refine Ev.step (f := fun _ => some (BA [UInt8.ofNat (48 + r.length)])) (fun k => ?_) (Ev.now _)
    rw [spec_l01Dec.f, if_pos (by omega), head_BA (by omega)]
  refine Ev.bind hd ?_
  have hs : (BA [UInt8.ofNat (48 + r.length)]).size + 1 ≤ 9223372036854775807 := by rw [BA_size]; simp
  simp only [if_pos hs, BA_colon, BA_append]
  have main := loop_ev r.length (fun i k => spec_l02Text.l0 k (BA (headT r.length ++ allT r i)) (i : Int) (r.length : Int) (ints r)) (r := textA r) ?_ ?_
  · have e : headT r.length ++ allT r 0 = [UInt8.ofNat (48 + r.length)] ++ [58] := by simp [allT, headT]
    rw [e] at main
    exact main
  · refine Ev.step (f := fun _ => some (textA r)) (fun k => ?_) (Ev.now _)
    simp only [spec_l02Text.l0]
    rw [if_neg (by omega)]
    rfl
  · intro i hi ih
    have l1 := allT_length h8 i
    have inner := loop_ev (r.length - (i + 1)) (fun d k => spec_l02Text.l1 k (BA (headT r.length ++ allT r i ++ rowT r i d)) (i : Int) ((i + 1 + d : Nat) : Int) (r.length : Int) (ints r)) (r := textA r) ?_ ?_
    · have e : headT r.length ++ allT r i ++ rowT r i 0 = headT r.length ++ allT r i := by simp [rowT]
      rw [e] at inner
      refine Ev.step (fun k => ?_) inner
      simp only [spec_l02Text.l0]
      rw [if_pos (by omega), wrap_id (x := (i : Int) + 1) (by omega) (by omega)]
      rfl
    · rw [allT_succ, ← List.append_assoc] at ih
      refine Ev.step (fun k => ?_) ih
      simp only [spec_l02Text.l1]
      rw [if_neg (by omega), wrap_id (x := (i : Int) + 1) (by omega) (by omega)]
      rfl
    · intro d hd ihd
      have l3 := rowT_length r i d
      have lX : (headT r.length ++ allT r i ++ rowT r i d).length ≤ 1000 := by
        rw [List.length_append, List.length_append]
        simp only [headT, List.length_cons, List.length_nil]
        omega
      rw [rowT_succ, ← List.append_assoc] at ihd
      unfold pT at ihd
      generalize headT r.length ++ allT r i ++ rowT r i d = X at *
      refine Ev.step (fun k => ?_) ihd
      simp only [spec_l02Text.l1]
      rw [if_pos (by omega), l02Dep_D h _ hi (show i + 1 + d < r.length by omega), Option.bind_some, wrap_id (x := ((i + 1 + d : Nat) : Int) + 1) (by omega) (by omega)]
      by_cases hb : depD r i (i + 1 + d) = true
      · rw [if_pos hb, if_pos hb, if_pos (by rw [BA_size]; omega), specLetter_eq (by omega), Option.bind_some, BA_space, BA_append, if_pos (by rw [BA_size, BA_size, List.length_append]; simp only [List.length_cons, List.length_nil]; omega), specLetter_eq (by omega), Option.bind_some, BA_append, if_pos (by rw [BA_size, BA_size, List.length_append, List.length_append]; simp only [List.length_cons, List.length_nil]; omega), BA_append, List.append_assoc, List.append_assoc]
        rfl
      · rw [if_neg hb, if_neg hb, List.append_nil]
        rfl
theorem alphabetText_ev {r : List Nat} (h : IsAN r) : Ev (fun k => impl_alphabetText.f k (r.length : Int) (ints r)) (textA r) := by
  have h8 := h.len8
  have hd : strconv_FormatInt_52.f (r.length : Int) 10 = some (BA [UInt8.ofNat (48 + r.length)]) := by
    unfold strconv_FormatInt_52.f
    rw [if_pos ⟨by omega, by omega, rfl⟩, head_BA' (by omega)]
  unfold impl_alphabetText.f
  have hs : (BA [UInt8.ofNat (48 + r.length)]).size + 1 ≤ 9223372036854775807 := by rw [BA_size]; simp
  simp only [hd, Option.bind_some, if_pos hs, BA_colon, BA_append]
  have main := loop_ev r.length (fun i k => impl_alphabetText.l0 k (BA (headT r.length ++ allT r i)) (r.length : Int) (i : Int) (r.length : Int) (ints r)) (r := textA r) ?_ ?_
  · have e : headT r.length ++ allT r 0 = [UInt8.ofNat (48 + r.length)] ++ [58] := by simp [allT, headT]
    rw [e] at main
    exact main
  · refine Ev.step (f := fun _ => some (textA r)) (fun k => ?_) (Ev.now _)
    simp only [impl_alphabetText.l0]
    rw [if_neg (by omega)]
    rfl
  · intro i hi ih
    have l1 := allT_length h8 i
    have inner := loop_ev (r.length - (i + 1)) (fun d k => impl_alphabetText.l1 k (BA (headT r.length ++ allT r i ++ rowT r i d)) (i : Int) ((i + 1 + d : Nat) : Int) (r.length : Int) (i : Int) (r.length : Int) (ints r)) (r := textA r) ?_ ?_
    · have e : headT r.length ++ allT r i ++ rowT r i 0 = headT r.length ++ allT r i := by simp [rowT]
      rw [e] at inner
      refine Ev.step (fun k => ?_) inner
      simp only [impl_alphabetText.l0]
      rw [if_pos (by omega), wrap_id (x := (i : Int) + 1) (by omega) (by omega)]
      rfl
    · rw [allT_succ, ← List.append_assoc] at ih
      refine Ev.step (fun k => ?_) ih
      simp only [impl_alphabetText.l1]
      rw [if_neg (by omega), wrap_id (x := (i : Int) + 1) (by omega) (by omega)]
      rfl
    · intro d hd ihd
      have l3 := rowT_length r i d
      have lX : (headT r.length ++ allT r i ++ rowT r i d).length ≤ 1000 := by
        rw [List.length_append, List.length_append]
        simp only [headT, List.length_cons, List.length_nil]
        omega
      rw [rowT_succ, ← List.append_assoc] at ihd
      unfold pT at ihd
      generalize headT r.length ++ allT r i ++ rowT r i d = X at *
      refine Ev.step (fun k => ?_) ihd
      simp only [impl_alphabetText.l1]
      rw [if_pos (by omega), dependT h _ hi (show i + 1 + d < r.length by omega), Option.bind_some, wrap_id (x := ((i + 1 + d : Nat) : Int) + 1) (by omega) (by omega)]
      by_cases hb : depD r i (i + 1 + d) = true
      · rw [if_pos hb, if_pos hb, implLetter_eq (by omega), Option.bind_some, if_pos (by rw [BA_size]; simp), BA_space, BA_append, implLetter_eq (by omega), Option.bind_some, if_pos (by rw [BA_size, BA_size]; simp), BA_append, if_pos (by rw [BA_size, BA_size]; simp only [List.length_append, List.length_cons, List.length_nil]; omega), BA_append]
        rfl
      · rw [if_neg hb, if_neg hb, List.append_nil]
        rfl
end Go.Proofs.YtbhkpfkkjknmlaaDoor.T

namespace Go.Proofs.YtbhkpfkkjknmlaaDoor.T
set_option linter.unusedVariables false
set_option linter.unusedSimpArgs false
open Go Go.RowKit Go.Proofs.YtbhkpfkkjknmlaaDoorW.PrintWords Go.Proofs.YtbhkpfkkjknmlaaDoorW.PrintMore Go.Proofs.YtbhkpfkkjknmlaaDoor.G

/-- The pieces between blanks, behind what lies already in hand. -/
def pcsA : List UInt8 → List UInt8 → List (List UInt8)
  | cur, [] => [cur]
  | cur, c :: l => if c = 32 then cur :: pcsA [] l else pcsA (cur ++ [c]) l
theorem pcsA_none : ∀ (l cur : List UInt8), 32 ∉ l → pcsA cur l = [cur ++ l]
  | [], cur, _ => by simp [pcsA]
  | c :: l, cur, h => by
    have h1 : c ≠ 32 := fun e => h (by rw [e]; exact List.mem_cons_self)
    rw [pcsA, if_neg h1, pcsA_none l _ (fun hm => h (List.mem_cons_of_mem _ hm))]
    simp
theorem pcsA_hit : ∀ (a b cur : List UInt8), 32 ∉ a → pcsA cur (a ++ 32 :: b) = (cur ++ a) :: pcsA [] b
  | [], b, cur, _ => by simp [pcsA]
  | c :: a, b, cur, h => by
    have h1 : c ≠ 32 := fun e => h (by rw [e]; exact List.mem_cons_self)
    rw [List.cons_append, pcsA, if_neg h1, pcsA_hit a b _ (fun hm => h (List.mem_cons_of_mem _ hm))]
    simp
theorem idx32 : ∀ l : List UInt8, (Lib.indexByte l 32 = -1 ∧ 32 ∉ l) ∨ ∃ a b, l = a ++ 32 :: b ∧ 32 ∉ a ∧ Lib.indexByte l 32 = (a.length : Int)
  | [] => .inl ⟨rfl, by simp⟩
  | c :: l => by
    by_cases h : c = 32
    · subst h
      exact .inr ⟨[], l, rfl, by simp, by simp [Lib.indexByte]⟩
    · rcases idx32 l with ⟨h1, h2⟩ | ⟨a, b, rfl, h2, h3⟩
      · refine .inl ⟨?_, by simp [h2, Ne.symm h]⟩
        simp [Lib.indexByte, h, h1]
      · refine .inr ⟨c :: a, b, rfl, by simp [h2, Ne.symm h], ?_⟩
        simp [Lib.indexByte, h, h3]
        try omega
theorem splitK_pcs : ∀ (k : Nat) (l : List UInt8), l.count 32 = k → Lib.splitK [32] 0 k l = pcsA [] l
  | 0, l, h => by
    rw [pcsA_none l [] (List.count_eq_zero.1 h)]
    rfl
  | k + 1, l, h => by
    unfold Lib.splitK
    rw [Lib.index_one]
    rcases idx32 l with ⟨h1, h2⟩ | ⟨a, b, rfl, h2, h3⟩
    · exact absurd h (by rw [List.count_eq_zero.2 h2]; omega)
    · rw [h3]
      have hb : ((a.length : Int) == -1) = false := beq_eq_false_iff_ne.2 (by omega)
      rw [hb]
      have hk : b.count 32 = k := by
        rw [List.count_append, List.count_cons_self, List.count_eq_zero.2 h2] at h
        omega
      rw [pcsA_hit a b [] h2]
      simp [splitK_pcs k b hk]
theorem BA_data (b : ByteArray) : BA b.data.toList = b := by
  obtain ⟨⟨l⟩⟩ := b
  rfl
theorem map_BA {x : List ByteArray} {y : List (List UInt8)} (h : x.map (·.data.toList) = y) : x = y.map BA := by
  subst h
  rw [List.map_map]
  exact (List.map_id'' (fun b => BA_data b) x).symm
theorem implSplit_eq (s : ByteArray) (hs : s.size < 4294967281) : strings_Split.f s ⟨#[32]⟩ = some ((pcsA [] s.data.toList).map BA) := by
  unfold strings_Split.f
  rw [if_pos ⟨rfl, hs⟩]
  congr 1
  apply map_BA
  rw [Lib.splitB_data]
  have e : Lib.countB s ⟨#[32]⟩ = s.data.toList.count 32 := by
    show Lib.count s.data.toList [32] = _
    exact Lib.count_one 32 _
  rw [e]
  exact splitK_pcs _ _ rfl
theorem extract_BA (s : ByteArray) (a b : Nat) : s.extract a b = BA ((s.data.toList.drop a).take (b - a)) := by
  rw [← BA_data (s.extract a b), Lib.extract_data]
theorem bt_list (s : ByteArray) {i : Nat} (h : i < s.data.toList.length) : bt s (i : Int) = ((s.data.toList[i].toNat : Nat) : Int) := by
  have h2 : i < s.size := by rw [Lib.size_eq]; exact h
  unfold bt
  rw [Int.toNat_natCast, dif_pos h2]
  rfl
theorem size_list (s : ByteArray) : s.size = s.data.toList.length := Lib.size_eq s
theorem specSplit_ev (s : ByteArray) (hs : s.size < 4294967281) : Ev (fun k => spec_l01Split.f k s 32) ((pcsA [] s.data.toList).map BA) := by
  have hsz := size_list s
  have main : ∀ (d i j : Nat) (acc : List ByteArray), i + d = s.size → j ≤ i → acc.length ≤ j → Ev (fun k => spec_l01Split.l0 k s 32 acc (j : Int) (i : Int)) (acc ++ (pcsA ((s.data.toList.drop j).take (i - j)) (s.data.toList.drop i)).map BA) := by
    intro d
    induction d with
    | zero =>
      intro i j acc hi hj ha
      have e : s.data.toList.drop i = [] := List.drop_of_length_le (by omega)
      rw [e, pcsA]
      refine Ev.step (f := fun _ => some (acc ++ [BA ((s.data.toList.drop j).take (i - j))])) (fun k => ?_) (Ev.now _)
      simp only [spec_l01Split.l0]
      rw [if_neg (by omega), if_pos (by omega), if_pos (by omega), if_pos (by omega), Int.toNat_natCast, extract_BA]
      have : i = s.size := by omega
      rw [this]
    | succ d ih =>
      intro i j acc hi hj ha
      have hlt : i < s.data.toList.length := by omega
      have ed : s.data.toList.drop i = s.data.toList[i] :: s.data.toList.drop (i + 1) := List.drop_eq_getElem_cons hlt
      rw [ed, pcsA]
      have hw : wrap64 ((i : Int) + 1) = ((i + 1 : Nat) : Int) := by rw [wrap_id (by omega) (by omega)]; omega
      by_cases hc : s.data.toList[i] = 32
      · rw [if_pos hc]
        have h1 := ih (i + 1) (i + 1) (acc ++ [s.extract j i]) (by omega) (Nat.le_refl _) (by rw [List.length_append, List.length_singleton]; omega)
        rw [Nat.sub_self, List.take_zero, List.append_assoc, List.singleton_append, extract_BA] at h1
        refine Ev.step (fun k => ?_) h1
        simp only [spec_l01Split.l0]
        have hb : bt s (i : Int) = 32 := by rw [bt_list s hlt, hc]; rfl
        rw [if_pos (by omega), if_pos (by omega), if_pos hb, if_pos (by omega), if_pos (by omega), if_pos (by omega), if_pos (by omega), hw, Int.toNat_natCast, Int.toNat_natCast, extract_BA]
      · rw [if_neg hc]
        have h1 := ih (i + 1) j acc (by omega) (by omega) ha
        have et : (s.data.toList.drop j).take (i + 1 - j) = (s.data.toList.drop j).take (i - j) ++ [s.data.toList[i]] := by
          have : i + 1 - j = (i - j) + 1 := by omega
          rw [this, List.take_succ_eq_append_getElem (by rw [List.length_drop]; omega)]
          congr 2
          rw [List.getElem_drop]
          congr 1
          omega
        rw [et] at h1
        refine Ev.step (fun k => ?_) h1
        simp only [spec_l01Split.l0]
        have hb : ¬ bt s (i : Int) = 32 := by
          rw [bt_list s hlt]
          intro e
          apply hc
          apply UInt8.toNat_inj.1
          show s.data.toList[i].toNat = 32
          omega
        rw [if_pos (by omega), if_pos (by omega), if_neg hb, hw]
  have h := main s.size 0 0 [] (by omega) (Nat.le_refl _) (Nat.le_refl _)
  show Ev (fun k => spec_l01Split.l0 k s 32 [] 0 0) _
  simpa using h
end Go.Proofs.YtbhkpfkkjknmlaaDoor.T

namespace Go.Proofs.YtbhkpfkkjknmlaaDoor.T
set_option linter.unusedVariables false
set_option linter.unusedSimpArgs false
open Go Go.RowKit Go.Proofs.YtbhkpfkkjknmlaaDoorW.PrintWords Go.Proofs.YtbhkpfkkjknmlaaDoorW.PrintMore Go.Proofs.YtbhkpfkkjknmlaaDoor.G

/-- A relation given by a condition. -/
def matM (n : Nat) (p : Nat → Nat → Bool) : List Nat := (List.range n).map fun a => setOf n (p a)
theorem mat_matM (n : Nat) (p : Nat → Nat → Bool) : mat n p = ints (matM n p) := rfl
theorem matM_length (n : Nat) (p : Nat → Nat → Bool) : (matM n p).length = n := by simp [matM]
theorem matM_getD {n : Nat} {p : Nat → Nat → Bool} {a : Nat} (ha : a < n) : (matM n p).getD a 0 = setOf n (p a) := by simp [matM, ha]
def Good (n : Nat) (p : Nat → Nat → Bool) : Prop := (∀ a, a < n → p a a = true) ∧ ∀ a b, a < n → b < n → p a b = p b a
theorem matM_an {n : Nat} (hn : n ≤ 8) {p : Nat → Nat → Bool} (h : Good n p) : IsAN (matM n p) := by
  refine ⟨⟨by rw [matM_length]; omega, fun x hx => ?_⟩, by rw [matM_length]; exact hn, fun a ha => ?_, fun a b ha hb => ?_⟩
  · rw [matM_length]
    unfold matM at hx
    obtain ⟨a, _, rfl⟩ := List.mem_map.1 hx
    exact setOf_lt _ _
  · rw [matM_length] at ha
    rw [matM_getD ha, mat_bit ha]
    exact h.1 a ha
  · rw [matM_length] at ha hb
    rw [matM_getD ha, mat_bit hb, matM_getD hb, mat_bit ha]
    exact h.2 a b ha hb
theorem join_good {n : Nat} {p : Nat → Nat → Bool} (h : Good n p) (a b : Nat) : Good n (joinP p a b) := by
  refine ⟨fun c hc => ?_, fun c j hc hj => ?_⟩
  · unfold joinP; rw [h.1 c hc]; rfl
  · unfold joinP
    rw [h.2 c j hc hj]
    cases p j c <;> simp [Bool.or_comm, Bool.and_comm]
theorem id_good (n : Nat) : Good n fun a j => decide (a = j) := ⟨fun a _ => by simp, fun a b _ _ => by simp [eq_comm]⟩
def letP (n : Nat) : List UInt8 → Option (Nat × Nat)
  | [x, y] => if (97 ≤ x.toNat ∧ x.toNat < 97 + n) ∧ 97 ≤ y.toNat ∧ y.toNat < 97 + n then some (x.toNat - 97, y.toNat - 97) else none
  | _ => none
def parP (n : Nat) : List (List UInt8) → (Nat → Nat → Bool) → Option (Nat → Nat → Bool)
  | [], p => some p
  | w :: ws, p => match letP n w with
    | some (a, b) => parP n ws (joinP p a b)
    | none => none
def finP (n : Nat) (s : ByteArray) : Option (Nat → Nat → Bool) → Int × List Int × Int
  | some p => if (textA (matM n p)).toList = s.toList then ((n : Int), mat n p, 0) else (0, [], 6)
  | none => (0, [], 6)
theorem letP_two {n : Nat} {w : List UInt8} (h : w.length ≠ 2) : letP n w = none := by
  match w with
  | [] => rfl
  | [_] => rfl
  | [_, _] => simp at h
  | _ :: _ :: _ :: _ => rfl
theorem u8_lt (x : UInt8) : x.toNat < 256 := x.toNat_lt
theorem bt_BA (w : List UInt8) {i : Nat} (h : i < w.length) : bt (BA w) (i : Int) = ((w[i].toNat : Nat) : Int) := bt_list (BA w) h
theorem let_wrap (x : UInt8) : wrap64 ((wrap64 ((x.toNat : Nat) : Int)) - 97) = (x.toNat : Int) - 97 := by
  have := u8_lt x
  rw [wrap_id (x := ((x.toNat : Nat) : Int)) (by omega) (by omega), wrap_id (by omega) (by omega)]
theorem specIn_let (n : Nat) (hn : n ≤ 8) (x : UInt8) : spec_l01In.f ((x.toNat : Int) - 97) 0 (wrap64 ((n : Int) - 1)) = some (decide (97 ≤ x.toNat ∧ x.toNat < 97 + n)) := by
  unfold spec_l01In.f
  rw [wrap_id (by omega) (by omega)]
  by_cases h : (x.toNat : Int) - 97 ≥ 0
  · rw [if_pos h]
    congr 1
    exact decide_eq_decide.2 (by omega)
  · rw [if_neg h, decide_eq_false (by omega)]
theorem implIn_let (n : Nat) (l : List Int) (hn : n ≤ 8) (x : UInt8) : impl_isLetter.f (n : Int) l ((x.toNat : Int) - 97) = some (decide (97 ≤ x.toNat ∧ x.toNat < 97 + n)) := by
  unfold impl_isLetter.f impl_inRange.f
  rw [wrap_id (by omega) (by omega)]
  by_cases h : 0 ≤ (x.toNat : Int) - 97
  · rw [if_pos h, Option.bind_some]
    congr 1
    exact decide_eq_decide.2 (by omega)
  · rw [if_neg h, Option.bind_some, decide_eq_false (by omega)]
theorem rdW (V : List (List UInt8)) {i : Nat} (h : i < V.length) : rdOf ByteArray.empty (V.map BA) (i : Int) = BA V[i] := by
  unfold rdOf
  rw [Int.toNat_natCast]
  simp [h]
theorem implPar_ev {n : Nat} (hn : n ≤ 8) (s : ByteArray) (V : List (List UInt8)) (hV : V.length < 4294967290) : ∀ (d i : Nat) (p : Nat → Nat → Bool), i + d = V.length → Good n p → Ev (fun k => impl_ParseAlphabet.l0 k s (V.map BA) (V.length : Int) (i : Int) (n : Int) (mat n p)) (finP n s (parP n (V.drop i) p)) := by
  intro d
  induction d with
  | zero =>
    intro i p hi hp
    rw [List.drop_of_length_le (by omega)]
    have ht := alphabetText_ev (matM_an hn hp)
    rw [matM_length] at ht
    have h2 : Ev (fun k => (impl_alphabetText.f k (n : Int) (mat n p)).bind fun t => if t.toList = s.toList then some ((n : Int), mat n p, (0 : Int)) else some (0, ([] : List Int), 6)) (finP n s (some p)) := by
      rw [mat_matM]
      refine Ev.bind ht ?_
      unfold finP
      by_cases h : (textA (matM n p)).toList = s.toList
      · simp only [if_pos h]; exact Ev.now _
      · simp only [if_neg h]; exact Ev.now _
    refine Ev.step (fun k => ?_) h2
    simp only [impl_ParseAlphabet.l0]
    rw [if_neg (by omega)]
  | succ d ih =>
    intro i p hi hp
    have hlt : i < V.length := by omega
    rw [List.drop_eq_getElem_cons hlt, parP]
    have hw : wrap64 ((i : Int) + 1) = ((i + 1 : Nat) : Int) := by rw [wrap_id (by omega) (by omega)]; omega
    have hrd := rdW V hlt
    generalize V[i] = w at hrd ⊢
    by_cases h2 : w.length = 2
    · obtain ⟨x, y, rfl⟩ : ∃ x y, w = [x, y] := by
        match w, h2 with
        | [x, y], _ => exact ⟨x, y, rfl⟩
      have hsz : (BA [x, y]).size = 2 := BA_size _
      have hx : bt (BA [x, y]) 0 = (x.toNat : Int) := bt_BA [x, y] (i := 0) (by simp)
      have hy : bt (BA [x, y]) 1 = (y.toNat : Int) := bt_BA [x, y] (i := 1) (by simp)
      have key : ∀ k, impl_ParseAlphabet.l0 (k + 1) s (V.map BA) (V.length : Int) (i : Int) (n : Int) (mat n p) = if 97 ≤ x.toNat ∧ x.toNat < 97 + n then (if 97 ≤ y.toNat ∧ y.toNat < 97 + n then impl_ParseAlphabet.l0 k s (V.map BA) (V.length : Int) ((i + 1 : Nat) : Int) (n : Int) (mat n (joinP p (x.toNat - 97) (y.toNat - 97))) else some (0, ([] : List Int), 6)) else some (0, ([] : List Int), 6) := fun k => by
        simp only [impl_ParseAlphabet.l0]
        rw [if_pos (by omega), if_pos (by omega), if_pos (by rw [List.length_map]; omega), hrd, hsz, if_pos (show ((2 : Nat) : Int) = 2 by rfl), if_pos (by decide), if_pos (by decide), hx, hy, let_wrap, let_wrap, implIn_let n _ hn, Option.bind_some]
        by_cases h3 : 97 ≤ x.toNat ∧ x.toNat < 97 + n
        · rw [if_pos (decide_eq_true h3), if_pos h3, implIn_let n _ hn, Option.bind_some]
          by_cases h4 : 97 ≤ y.toNat ∧ y.toNat < 97 + n
          · rw [if_pos (decide_eq_true h4), if_pos h4]
            have e1 : (x.toNat : Int) - 97 = ((x.toNat - 97 : Nat) : Int) := by omega
            have e2 : (y.toNat : Int) - 97 = ((y.toNat - 97 : Nat) : Int) := by omega
            rw [e1, e2, tie_mat _ (by omega) p (by omega) (by omega), Option.bind_some, hw]
          · rw [if_neg (by simpa using h4), if_neg h4]
        · rw [if_neg (by simpa using h3), if_neg h3]
      by_cases h5 : (97 ≤ x.toNat ∧ x.toNat < 97 + n) ∧ 97 ≤ y.toNat ∧ y.toNat < 97 + n
      · have e : letP n [x, y] = some (x.toNat - 97, y.toNat - 97) := by simp only [letP, if_pos h5]
        rw [e]
        refine Ev.step (fun k => ?_) (ih (i + 1) _ (by omega) (join_good hp (x.toNat - 97) (y.toNat - 97)))
        rw [key, if_pos h5.1, if_pos h5.2]
      · have e : letP n [x, y] = none := by simp only [letP, if_neg h5]
        rw [e]
        refine Ev.step (f := fun _ => some (0, [], 6)) (fun k => ?_) (Ev.now _)
        rw [key]
        by_cases h3 : 97 ≤ x.toNat ∧ x.toNat < 97 + n
        · rw [if_pos h3, if_neg (fun h4 => h5 ⟨h3, h4⟩)]
        · rw [if_neg h3]
    · rw [letP_two h2]
      refine Ev.step (f := fun _ => some (0, [], 6)) (fun k => ?_) (Ev.now _)
      simp only [impl_ParseAlphabet.l0]
      rw [if_pos (by omega), if_pos (by omega), if_pos (by rw [List.length_map]; omega), hrd, BA_size, if_neg (by omega)]
theorem specPar_ev {n : Nat} (hn : n ≤ 8) (s : ByteArray) (V : List (List UInt8)) (hV : V.length < 4294967290) : ∀ (d i : Nat) (p : Nat → Nat → Bool), i + d = V.length → Good n p → Ev (fun k => spec_ParseAlphabet.l0 k s (V.map BA) (i : Int) (n : Int) (mat n p)) (finP n s (parP n (V.drop i) p)) := by
  intro d
  induction d with
  | zero =>
    intro i p hi hp
    rw [List.drop_of_length_le (by omega)]
    have ht := l02Text_ev (matM_an hn hp)
    rw [matM_length] at ht
    have h2 : Ev (fun k => (spec_l02Text.f k (n : Int) (mat n p)).bind fun t => if t.toList = s.toList then some ((n : Int), mat n p, (0 : Int)) else some (0, ([] : List Int), 6)) (finP n s (some p)) := by
      rw [mat_matM]
      refine Ev.bind ht ?_
      unfold finP
      by_cases h : (textA (matM n p)).toList = s.toList
      · simp only [if_pos h]; exact Ev.now _
      · simp only [if_neg h]; exact Ev.now _
    refine Ev.step (fun k => ?_) h2
    simp only [spec_ParseAlphabet.l0]
    rw [if_neg (by rw [List.length_map]; omega)]
  | succ d ih =>
    intro i p hi hp
    have hlt : i < V.length := by omega
    rw [List.drop_eq_getElem_cons hlt, parP]
    have hw : wrap64 ((i : Int) + 1) = ((i + 1 : Nat) : Int) := by rw [wrap_id (by omega) (by omega)]; omega
    have hrd := rdW V hlt
    generalize V[i] = w at hrd ⊢
    by_cases h2 : w.length = 2
    · obtain ⟨x, y, rfl⟩ : ∃ x y, w = [x, y] := by
        match w, h2 with
        | [x, y], _ => exact ⟨x, y, rfl⟩
      have hsz : (BA [x, y]).size = 2 := BA_size _
      have hx : bt (BA [x, y]) 0 = (x.toNat : Int) := bt_BA [x, y] (i := 0) (by simp)
      have hy : bt (BA [x, y]) 1 = (y.toNat : Int) := bt_BA [x, y] (i := 1) (by simp)
      have key : ∀ k, spec_ParseAlphabet.l0 (k + 1) s (V.map BA) (i : Int) (n : Int) (mat n p) = if 97 ≤ x.toNat ∧ x.toNat < 97 + n then (if 97 ≤ y.toNat ∧ y.toNat < 97 + n then spec_ParseAlphabet.l0 k s (V.map BA) ((i + 1 : Nat) : Int) (n : Int) (mat n (joinP p (x.toNat - 97) (y.toNat - 97))) else some (0, ([] : List Int), 6)) else some (0, ([] : List Int), 6) := fun k => by
        simp only [spec_ParseAlphabet.l0]
        rw [if_pos (by rw [List.length_map]; omega), if_pos (by omega), hrd, hsz, if_pos (show ((2 : Nat) : Int) = 2 by rfl), if_pos (by decide), if_pos (by decide), hx, hy, let_wrap, let_wrap, specIn_let n hn, Option.bind_some]
        by_cases h3 : 97 ≤ x.toNat ∧ x.toNat < 97 + n
        · rw [if_pos (decide_eq_true h3), if_pos h3, specIn_let n hn, Option.bind_some]
          by_cases h4 : 97 ≤ y.toNat ∧ y.toNat < 97 + n
          · rw [if_pos (decide_eq_true h4), if_pos h4]
            have e1 : (x.toNat : Int) - 97 = ((x.toNat - 97 : Nat) : Int) := by omega
            have e2 : (y.toNat : Int) - 97 = ((y.toNat - 97 : Nat) : Int) := by omega
            rw [e1, e2, l02Join_mat _ (by omega) p (by omega) (by omega), Option.bind_some, hw]
          · rw [if_neg (by simpa using h4), if_neg h4]
        · rw [if_neg (by simpa using h3), if_neg h3]
      by_cases h5 : (97 ≤ x.toNat ∧ x.toNat < 97 + n) ∧ 97 ≤ y.toNat ∧ y.toNat < 97 + n
      · have e : letP n [x, y] = some (x.toNat - 97, y.toNat - 97) := by simp only [letP, if_pos h5]
        rw [e]
        refine Ev.step (fun k => ?_) (ih (i + 1) _ (by omega) (join_good hp (x.toNat - 97) (y.toNat - 97)))
        rw [key, if_pos h5.1, if_pos h5.2]
      · have e : letP n [x, y] = none := by simp only [letP, if_neg h5]
        rw [e]
        refine Ev.step (f := fun _ => some (0, [], 6)) (fun k => ?_) (Ev.now _)
        rw [key]
        by_cases h3 : 97 ≤ x.toNat ∧ x.toNat < 97 + n
        · rw [if_pos h3, if_neg (fun h4 => h5 ⟨h3, h4⟩)]
        · rw [if_neg h3]
    · rw [letP_two h2]
      refine Ev.step (f := fun _ => some (0, [], 6)) (fun k => ?_) (Ev.now _)
      simp only [spec_ParseAlphabet.l0]
      rw [if_pos (by rw [List.length_map]; omega), if_pos (by omega), hrd, BA_size, if_neg (by omega)]
end Go.Proofs.YtbhkpfkkjknmlaaDoor.T

namespace Go.Proofs.YtbhkpfkkjknmlaaDoor.T
set_option linter.unusedVariables false
set_option linter.unusedSimpArgs false
open Go Go.RowKit Go.Proofs.YtbhkpfkkjknmlaaDoorW.PrintWords Go.Proofs.YtbhkpfkkjknmlaaDoorW.PrintMore Go.Proofs.YtbhkpfkkjknmlaaDoor.G

/-- Nothing, or a blank first. -/
def Bl (l : List UInt8) : Prop := l = [] ∨ ∃ t, l = 32 :: t
theorem bl_flat {α : Type} (f : α → List UInt8) (h : ∀ a, Bl (f a)) : ∀ l : List α, Bl (l.flatMap f)
  | [] => .inl rfl
  | a :: l => by
    rw [List.flatMap_cons]
    rcases h a with e | ⟨t, e⟩
    · rw [e, List.nil_append]; exact bl_flat f h l
    · exact .inr ⟨t ++ l.flatMap f, by rw [e]; rfl⟩
theorem bl_all (r : List Nat) (i : Nat) : Bl (allT r i) := bl_flat _ (fun a => bl_flat _ (fun j => by
  unfold pT
  split
  · exact .inr ⟨_, rfl⟩
  · exact .inl rfl) _) _
theorem pcs_head {c : UInt8} (hc : c ≠ 32) {t : List UInt8} (ht : Bl t) : ∃ ws, pcsA [] (c :: 58 :: t) = [c, 58] :: ws := by
  have h2 : ¬ (58 : UInt8) = 32 := by decide
  have h : pcsA [] (c :: 58 :: t) = pcsA [c, 58] t := by
    rw [pcsA, if_neg hc, pcsA, if_neg h2]; rfl
  rw [h]
  rcases ht with rfl | ⟨u, rfl⟩
  · exact ⟨[], rfl⟩
  · exact ⟨pcsA [] u, by rw [pcsA, if_pos rfl]⟩
theorem pcs_first : ∀ (l cur w : List UInt8) (ws : List (List UInt8)), pcsA cur l = w :: ws → ∃ a b, w = cur ++ a ∧ l = a ++ b
  | [], cur, w, ws, h => by
    rw [pcsA] at h
    injection h with h1 h2
    exact ⟨[], [], by rw [List.append_nil]; exact h1.symm, rfl⟩
  | c :: l, cur, w, ws, h => by
    rw [pcsA] at h
    split at h
    · injection h with h1 h2
      exact ⟨[], c :: l, by rw [List.append_nil]; exact h1.symm, rfl⟩
    · obtain ⟨a, b, e1, e2⟩ := pcs_first l _ w ws h
      exact ⟨c :: a, b, by rw [e1]; simp, by rw [e2]; rfl⟩
theorem pcs_ne : ∀ (l cur : List UInt8), ∃ w ws, pcsA cur l = w :: ws
  | [], cur => ⟨cur, [], rfl⟩
  | c :: l, cur => by
    rw [pcsA]
    split
    · exact ⟨_, _, rfl⟩
    · exact pcs_ne l _
theorem pcs_len : ∀ (l cur : List UInt8), (pcsA cur l).length ≤ l.length + 1
  | [], cur => by simp [pcsA]
  | c :: l, cur => by
    rw [pcsA]
    split
    · have := pcs_len l []; simp only [List.length_cons]; omega
    · have := pcs_len l (cur ++ [c]); simp only [List.length_cons]; omega
/-- The first letter is a digit up to 8, a colon stands behind it, then a blank or nothing. -/
def headOk (l : List UInt8) : Bool := match pcsA [] l with
  | [c, d] :: _ => decide (d = 58 ∧ 48 ≤ c.toNat ∧ c.toNat ≤ 56)
  | _ => false
def parseOf (s : ByteArray) : Int × List Int × Int := if headOk s.data.toList = true then finP ((s.data.toList.getD 0 0).toNat - 48) s (parP ((s.data.toList.getD 0 0).toNat - 48) ((pcsA [] s.data.toList).drop 1) fun a j => decide (a = j)) else (0, [], 6)
theorem headOk_iff {l : List UInt8} (h : headOk l = true) : ∃ c ws t, pcsA [] l = [c, 58] :: ws ∧ l = c :: 58 :: t ∧ 48 ≤ c.toNat ∧ c.toNat ≤ 56 := by
  unfold headOk at h
  split at h
  · rename_i c d ws e
    obtain ⟨rfl, h1, h2⟩ := of_decide_eq_true h
    obtain ⟨a, b, e1, e2⟩ := pcs_first _ _ _ _ e
    rw [List.nil_append] at e1
    subst e1
    exact ⟨c, ws, b, e, e2, h1, h2⟩
  · cases h
theorem text_head {n : Nat} (hn : n ≤ 8) (p : Nat → Nat → Bool) {s : ByteArray} (h : (textA (matM n p)).toList = s.toList) : headOk s.data.toList = true := by
  rw [Lib.toList_data, Lib.toList_data] at h
  unfold textA BA headT at h
  rw [matM_length] at h
  simp only at h
  rw [← h]
  have hc : (UInt8.ofNat (48 + n)).toNat = 48 + n := by
    rw [UInt8.toNat_ofNat']
    omega
  obtain ⟨ws, hw⟩ := pcs_head (c := UInt8.ofNat (48 + n)) (fun e => by have := congrArg UInt8.toNat e; rw [hc] at this; have h32 : (32 : UInt8).toNat = 32 := rfl; omega) (bl_all (matM n p) n)
  unfold headOk
  have e : [UInt8.ofNat (48 + n), 58] ++ allT (matM n p) n = UInt8.ofNat (48 + n) :: 58 :: allT (matM n p) n := rfl
  rw [e, hw]
  exact decide_eq_true ⟨rfl, by omega, by omega⟩
theorem finP_bad {n : Nat} (hn : n ≤ 8) {s : ByteArray} (h : ¬ headOk s.data.toList = true) (o : Option (Nat → Nat → Bool)) : finP n s o = (0, [], 6) := by
  cases o with
  | none => rfl
  | some p =>
    unfold finP
    exact if_neg (fun e => h (text_head hn p e))
theorem headOk_two {l : List UInt8} {c d : UInt8} {ws : List (List UInt8)} (e : pcsA [] l = [c, d] :: ws) : headOk l = decide (d = 58 ∧ 48 ≤ c.toNat ∧ c.toNat ≤ 56) := by
  unfold headOk
  rw [e]
theorem headOk_not {l : List UInt8} {w : List UInt8} {ws : List (List UInt8)} (e : pcsA [] l = w :: ws) (h : w.length ≠ 2) : headOk l = false := by
  unfold headOk
  rw [e]
  match w with
  | [] => rfl
  | [_] => rfl
  | [_, _] => simp at h
  | _ :: _ :: _ :: _ => rfl
theorem parse_bad {s : ByteArray} (h : headOk s.data.toList = false) : parseOf s = (0, [], 6) := by
  unfold parseOf
  rw [h]
  rfl
theorem parse_good {s : ByteArray} {c : UInt8} {ws : List (List UInt8)} (e : pcsA [] s.data.toList = [c, 58] :: ws) (h1 : 48 ≤ c.toNat) (h2 : c.toNat ≤ 56) : parseOf s = finP (c.toNat - 48) s (parP (c.toNat - 48) ws fun a j => decide (a = j)) := by
  have hh : headOk s.data.toList = true := by rw [headOk_two e]; exact decide_eq_true ⟨rfl, h1, h2⟩
  obtain ⟨c2, ws2, t, e2, e3, _, _⟩ := headOk_iff hh
  rw [e] at e2
  injection e2 with e4 e5
  injection e4 with e4 _
  unfold parseOf
  rw [if_pos hh, e3]
  rw [e3] at e
  rw [e, e4]
  rfl
theorem num48 {c : UInt8} (h1 : 48 ≤ c.toNat) (h2 : c.toNat ≤ 56) : ((c.toNat : Int) - 48) % 256 = ((c.toNat - 48 : Nat) : Int) := by omega
theorem specParseAlphabet_ev (s : ByteArray) (hs : s.size < 4294967281) : Ev (fun k => spec_ParseAlphabet.f k s) (parseOf s) := by
  unfold spec_ParseAlphabet.f
  refine Ev.bind (specSplit_ev s hs) ?_
  obtain ⟨w, ws, hw⟩ := pcs_ne s.data.toList []
  have hl := pcs_len s.data.toList []
  have hsz := size_list s
  rw [hw] at hl ⊢
  have h0 : rdOf ByteArray.empty ((w :: ws).map BA) 0 = BA w := rdW (w :: ws) (i := 0) (by simp)
  have hp : 0 < (((w :: ws).map BA).length : Int) := by rw [List.length_map, List.length_cons]; omega
  simp only [h0, if_pos hp]
  have bad : Ev (fun k => spec_ParseAlphabet.j0 k s ((w :: ws).map BA) true) (0, [], 6) := by
    refine Ev.step (f := fun _ => some (0, [], 6)) (fun k => ?_) (Ev.now _)
    simp only [spec_ParseAlphabet.j0]
    rw [if_pos trivial]
  by_cases h2 : w.length = 2
  · obtain ⟨c, d, rfl⟩ : ∃ x y, w = [x, y] := by
      match w, h2 with
      | [x, y], _ => exact ⟨x, y, rfl⟩
    have hz : (BA [c, d]).size = 2 := BA_size _
    have hx : bt (BA [c, d]) 0 = (c.toNat : Int) := bt_BA [c, d] (i := 0) (by simp)
    have hy : bt (BA [c, d]) 1 = (d.toNat : Int) := bt_BA [c, d] (i := 1) (by simp)
    have hc := u8_lt c
    simp only [hz, hx, hy, if_pos (show ((2 : Nat) : Int) = 2 by rfl), if_pos (show (1 : Int) < ((2 : Nat) : Int) by decide), if_pos (show (0 : Int) < ((2 : Nat) : Int) by decide)]
    by_cases hd : d = 58
    · subst hd
      simp only [if_pos (show (((58 : UInt8).toNat : Nat) : Int) = 58 by rfl)]
      have hin : spec_l01In.f (wrap64 (c.toNat : Int)) 48 56 = some (decide (48 ≤ c.toNat ∧ c.toNat ≤ 56)) := by
        unfold spec_l01In.f
        rw [wrap_id (by omega) (by omega)]
        by_cases h : (c.toNat : Int) ≥ 48
        · rw [if_pos h]
          congr 1
          exact decide_eq_decide.2 (by omega)
        · rw [if_neg h, decide_eq_false (by omega)]
      simp only [hin, Option.bind_some]
      by_cases hr : 48 ≤ c.toNat ∧ c.toNat ≤ 56
      · rw [decide_eq_true hr, parse_good hw hr.1 hr.2]
        have hfree : Ev (fun k => (spec_l02Free.f k (((c.toNat : Int) - 48) % 256)).bind fun bt270 => spec_ParseAlphabet.l0 k s (([c, 58] :: ws).map BA) 1 bt270.1 bt270.2) (finP (c.toNat - 48) s (parP (c.toNat - 48) ws fun a j => decide (a = j))) := by
          rw [num48 hr.1 hr.2]
          refine Ev.bind (l02Free_ev (c.toNat - 48) (by omega)) ?_
          rw [singles_mat]
          exact specPar_ev (n := c.toNat - 48) (by omega) s ([c, 58] :: ws) (by omega) ws.length 1 _ (by rw [List.length_cons]; omega) (id_good _)
        refine Ev.step (fun k => ?_) hfree
        simp only [spec_ParseAlphabet.j0, Bool.not_true]
        rw [if_neg (by decide), if_pos hp, h0, hz, if_pos (by decide), hx]
      · rw [decide_eq_false hr, parse_bad (by rw [headOk_two hw]; exact decide_eq_false (fun h => hr h.2))]
        exact bad
    · have hd2 : ¬ ((d.toNat : Nat) : Int) = 58 := fun e => hd (UInt8.toNat_inj.1 (by show d.toNat = 58; omega))
      simp only [if_neg hd2]
      rw [parse_bad (by rw [headOk_two hw]; exact decide_eq_false (fun h => hd h.1))]
      exact bad
  · have hz : (BA w).size = w.length := BA_size _
    simp only [hz, if_neg (show ¬ ((w.length : Nat) : Int) = 2 by omega)]
    rw [parse_bad (headOk_not hw h2)]
    exact bad
theorem implParseAlphabet_ev (s : ByteArray) (hs : s.size < 4294967281) : Ev (fun k => impl_ParseAlphabet.f k s) (parseOf s) := by
  have hsz := size_list s
  obtain ⟨w, ws, hw⟩ := pcs_ne s.data.toList []
  have hl := pcs_len s.data.toList []
  rw [hw] at hl
  have bad : Ev (fun k => impl_ParseAlphabet.j0 k s true) (0, [], 6) := by
    refine Ev.step (f := fun _ => some (0, [], 6)) (fun k => ?_) (Ev.now _)
    simp only [impl_ParseAlphabet.j0]
    rw [if_pos trivial]
  unfold impl_ParseAlphabet.f
  by_cases h2 : (s.size : Int) < 2
  · simp only [if_pos h2]
    have hh : headOk s.data.toList = false := by
      cases h : headOk s.data.toList with
      | false => rfl
      | true =>
        obtain ⟨c, ws2, t, _, e, _, _⟩ := headOk_iff h
        rw [e] at hsz
        simp only [List.length_cons] at hsz
        omega
    rw [parse_bad hh]
    exact bad
  · have h0 : 0 < (s.size : Int) := by omega
    obtain ⟨c, t, hc⟩ : ∃ c t, s.data.toList = c :: t := by
      cases h : s.data.toList with
      | nil => rw [h, List.length_nil] at hsz; omega
      | cons c t => exact ⟨c, t, rfl⟩
    have hb : bt s 0 = (c.toNat : Int) := by
      have := bt_list s (i := 0) (by rw [hc]; simp)
      simp only [hc, List.getElem_cons_zero] at this
      exact this
    have notHead : ¬ (48 ≤ c.toNat ∧ c.toNat ≤ 56) → parseOf s = (0, [], 6) := fun h => by
      refine parse_bad ?_
      cases h3 : headOk s.data.toList with
      | false => rfl
      | true =>
        obtain ⟨c2, ws2, t2, _, e, h4, h5⟩ := headOk_iff h3
        rw [hc] at e
        injection e with e _
        exact absurd ⟨by rw [e]; exact h4, by rw [e]; exact h5⟩ h
    simp only [if_neg h2, if_pos h0, hb]
    by_cases h3 : (c.toNat : Int) < 48
    · simp only [if_pos h3]
      rw [notHead (by omega)]
      exact bad
    · simp only [if_neg h3]
      by_cases h4 : (c.toNat : Int) > 56
      · rw [decide_eq_true h4, notHead (by omega)]
        exact bad
      · rw [decide_eq_false h4]
        have hn : c.toNat - 48 ≤ 8 := by omega
        have main : Ev (fun k => (impl_loose.f k (((c.toNat : Int) - 48) % 256)).bind fun bt300 => (strings_Split.f s (⟨#[32]⟩ : ByteArray)).bind fun t305 => (if 1 ≤ (t305.length : Int) then ((some (t305.drop 1 : List ByteArray)).bind fun y308 => (impl_ParseAlphabet.l0 k s y308 (y308.length : Int) 0 bt300.1 bt300.2)) else (none))) (finP (c.toNat - 48) s (parP (c.toNat - 48) ws fun a j => decide (a = j))) := by
          rw [num48 (by omega) (by omega)]
          refine Ev.bind (loose_ev (n := c.toNat - 48) (by omega)) ?_
          simp only [implSplit_eq s hs, hw, Option.bind_some]
          simp only [if_pos (show 1 ≤ (((w :: ws).map BA).length : Int) by rw [List.length_map, List.length_cons]; omega)]
          have ed : ((w :: ws).map BA).drop 1 = ws.map BA := rfl
          simp only [ed, List.length_map]
          rw [singles_mat]
          rw [List.length_cons] at hl
          exact implPar_ev (n := c.toNat - 48) hn s ws (by omega) ws.length 0 _ (by omega) (id_good _)
        have e2 : finP (c.toNat - 48) s (parP (c.toNat - 48) ws fun a j => decide (a = j)) = parseOf s := by
          cases h5 : headOk s.data.toList with
          | false => rw [parse_bad h5]; exact finP_bad hn (by rw [h5]; decide) _
          | true =>
            obtain ⟨c2, ws2, t2, e, e3, h6, h7⟩ := headOk_iff h5
            rw [parse_good e h6 h7]
            rw [hc] at e3
            injection e3 with e3 _
            rw [hw] at e
            injection e with _ e4
            rw [e3, e4]
        rw [← e2]
        refine Ev.step (fun k => ?_) main
        simp only [impl_ParseAlphabet.j0]
        rw [if_neg (by decide), if_pos h0, hb]
end Go.Proofs.YtbhkpfkkjknmlaaDoor.T

namespace Go.Proofs.YtbhkpfkkjknmlaaDoor.T
open Go Go.RowKit Go.Proofs.YtbhkpfkkjknmlaaDoorW.PrintWords Go.Proofs.YtbhkpfkkjknmlaaDoorW.PrintMore Go.Proofs.YtbhkpfkkjknmlaaDoor.G

theorem eqInt64S_loop (a b : List Int) (hab : a.length = b.length) (hl : a.length < 4611686018427387904) : ∀ (d i : Nat), i + d = a.length → a.take i = b.take i → Ev (fun k => laws_eqInt64S.l0 k a b (i : Int)) (decide (a = b))
  | 0, i, h, ht => by
    refine Ev.step (f := fun _ => some (decide (a = b))) (fun k => ?_) (Ev.now _)
    obtain rfl : i = a.length := by omega
    simp only [laws_eqInt64S.l0]
    rw [if_neg (by omega)]
    rw [List.take_length, hab, List.take_length] at ht
    simp [ht]
  | d + 1, i, h, ht => by
    have hi : i < a.length := by omega
    have hj : i < b.length := by omega
    by_cases e : a[i] = b[i]
    · have ih := eqInt64S_loop a b hab hl d (i + 1) (by omega) (by rw [List.take_succ_eq_append_getElem hi, List.take_succ_eq_append_getElem hj, ht, e])
      refine Ev.step (fun k => ?_) ih
      simp only [laws_eqInt64S.l0]
      rw [if_pos (by omega), if_pos (by omega), if_pos (by omega), rd_nat hi, rd_nat hj, if_pos e, wrap_id (by omega) (by omega)]
      rfl
    · refine Ev.step (f := fun _ => some (decide (a = b))) (fun k => ?_) (Ev.now _)
      simp only [laws_eqInt64S.l0]
      rw [if_pos (by omega), if_pos (by omega), if_pos (by omega), rd_nat hi, rd_nat hj, if_neg e]
      have : ¬ a = b := by rintro rfl; exact e rfl
      simp [this]
theorem eqInt64S_ev (a b : List Int) (hl : a.length < 4611686018427387904) : Ev (fun k => laws_eqInt64S.f k a b) (decide (a = b)) := by
  by_cases hab : a.length = b.length
  · refine Ev.congr (fun k => ?_) (eqInt64S_loop a b hab hl a.length 0 (by omega) (by simp))
    unfold laws_eqInt64S.f
    rw [if_pos (by omega)]
    rfl
  · refine Ev.of_all fun k => ?_
    unfold laws_eqInt64S.f
    rw [if_neg (by omega)]
    have : ¬ a = b := by rintro rfl; exact hab rfl
    simp [this]

/-- The numbers a, a + 1, .., as many as n. -/
def iota (a n : Nat) : List Int := (List.range n).map fun i => ((a + i : Nat) : Int)
theorem iota_length (a n : Nat) : (iota a n).length = n := by simp [iota]
theorem iota_get (a n i : Nat) (h : i < (iota a n).length) : (iota a n)[i] = ((a + i : Nat) : Int) := by simp [iota]
theorem mark_loop (l : List Int) (a : Nat) (hb : a + l.length < 4611686018427387904) : ∀ (d i : Nat), i + d = l.length → Ev (fun k => laws_markInt64S.l0 k (iota a i ++ l.drop i) ((a + i : Nat) : Int) (i : Int)) (((a + l.length : Nat) : Int), iota a l.length)
  | 0, i, h => by
    refine Ev.step (f := fun _ => some (((a + l.length : Nat) : Int), iota a l.length)) (fun k => ?_) (Ev.now _)
    obtain rfl : i = l.length := by omega
    simp only [laws_markInt64S.l0]
    rw [if_neg (by simp [iota_length])]
    simp
  | d + 1, i, h => by
    have ih := mark_loop l a hb d (i + 1) (by omega)
    refine Ev.step (fun k => ?_) ih
    have hi : i < l.length := by omega
    simp only [laws_markInt64S.l0]
    rw [if_pos (by simp [iota_length]; omega), if_pos (by omega), Int.toNat_natCast, wrap_id (x := (i : Int) + 1) (by omega) (by omega), wrap_id (by omega) (by omega)]
    congr 1
    rw [List.set_append_right _ _ (by simp [iota_length]), iota_length, Nat.sub_self, List.drop_eq_getElem_cons hi, List.set_cons_zero]
    unfold iota
    rw [List.range_succ, List.map_append, List.append_assoc]
    rfl
theorem mark_ev (l : List Int) (a : Nat) (hb : a + l.length < 4611686018427387904) : Ev (fun k => laws_markInt64S.f k l (a : Int)) (((a + l.length : Nat) : Int), iota a l.length) := by
  have := mark_loop l a hb l.length 0 (by omega)
  refine Ev.congr (fun k => ?_) this
  rfl
theorem held_loop (a n : Nat) (hb : a + n < 4611686018427387904) : ∀ (d i : Nat), i + d = n → Ev (fun k => laws_heldInt64S.l0 k (iota a n) ((a + i : Nat) : Int) (i : Int)) ((a + n : Nat) : Int)
  | 0, i, h => by
    refine Ev.step (f := fun _ => some ((a + n : Nat) : Int)) (fun k => ?_) (Ev.now _)
    obtain rfl : i = n := by omega
    simp only [laws_heldInt64S.l0]
    rw [if_neg (by simp [iota_length])]
  | d + 1, i, h => by
    have ih := held_loop a n hb d (i + 1) (by omega)
    refine Ev.step (fun k => ?_) ih
    have hi : i < (iota a n).length := by rw [iota_length]; omega
    simp only [laws_heldInt64S.l0]
    rw [if_pos (by omega), if_pos (by omega), rd_nat hi, iota_get, if_pos rfl, wrap_id (x := (i : Int) + 1) (by omega) (by omega), wrap_id (by omega) (by omega)]
    rfl
theorem held_ev (a n : Nat) (hb : a + n < 4611686018427387904) : Ev (fun k => laws_heldInt64S.f k (iota a n) (a : Int)) ((a + n : Nat) : Int) := by
  refine Ev.congr (fun k => ?_) (held_loop a n hb n 0 (by omega))
  rfl
theorem mark1_ev (l : List Int) (hb : l.length < 4611686018427387903) : Ev (fun k => laws_markInt64S.f k l 1) (1 + (l.length : Int), iota 1 l.length) := by
  have := mark_ev l 1 (by omega)
  rwa [show ((1 + l.length : Nat) : Int) = 1 + (l.length : Int) by push_cast; rfl] at this
theorem held1_ev (n : Nat) (hb : n < 4611686018427387903) : Ev (fun k => laws_heldInt64S.f k (iota 1 n) 1) (1 + (n : Int)) := by
  have := held_ev 1 n (by omega)
  rwa [show ((1 + n : Nat) : Int) = 1 + (n : Int) by push_cast; rfl] at this
theorem eqSelf_ev (l : List Int) (hl : l.length < 4611686018427387904) : Ev (fun k => laws_eqInt64S.f k l l) true := by
  have := eqInt64S_ev l l hl
  rwa [decide_eq_true rfl] at this
theorem eqAlphabet_ev (a : Int) (l : List Int) (hl : l.length < 4611686018427387904) : Ev (fun k => laws_eqAlphabet.f k a l a l) true := by
  refine Ev.congr (f := fun k => (laws_eqInt64S.f k l l).bind fun t => if t = true then some true else some false) (fun k => ?_) (Ev.bind (eqSelf_ev l hl) (Ev.now _))
  unfold laws_eqAlphabet.f
  rw [if_pos rfl]
theorem markAlphabet1_ev (a : Int) (l : List Int) (hb : l.length < 4611686018427387903) : Ev (fun k => laws_markAlphabet.f k a l 1) (1 + (l.length : Int), iota 1 l.length) := by
  unfold laws_markAlphabet.f
  exact Ev.bind (mark1_ev l hb) (Ev.now _)
theorem heldAlphabet1_ev (a : Int) (n : Nat) (hb : n < 4611686018427387903) : Ev (fun k => laws_heldAlphabet.f k a (iota 1 n) 1) (1 + (n : Int)) := by
  unfold laws_heldAlphabet.f
  refine Ev.bind (held1_ev n hb) ?_
  have h : ¬ (1 + (n : Int) < 0) := by omega
  simp only [if_neg h]
  exact Ev.now _
end Go.Proofs.YtbhkpfkkjknmlaaDoor.T

namespace Go.Proofs.YtbhkpfkkjknmlaaDoor.T
set_option linter.unusedVariables false
set_option linter.unusedSimpArgs false
open Go Go.RowKit Go.Proofs.YtbhkpfkkjknmlaaDoorW.PrintWords Go.Proofs.YtbhkpfkkjknmlaaDoorW.PrintMore Go.Proofs.YtbhkpfkkjknmlaaDoor.G
theorem parseOf_length (s : ByteArray) : (parseOf s).2.1.length ≤ 256 := by
  cases h : headOk s.data.toList with
  | false => rw [parse_bad h]; simp
  | true =>
    obtain ⟨c, ws, t, e, _, h1, h2⟩ := headOk_iff h
    rw [parse_good e h1 h2]
    cases ho : parP (c.toNat - 48) ws fun a j => decide (a = j) with
    | none => simp [finP]
    | some p =>
      have e2 : finP (c.toNat - 48) s (some p) = if (textA (matM (c.toNat - 48) p)).toList = s.toList then (((c.toNat - 48 : Nat) : Int), mat (c.toNat - 48) p, 0) else (0, [], 6) := rfl
      rw [e2]
      split
      · show (mat _ p).length ≤ 256
        rw [mat_length]; omega
      · simp
theorem FnExactParseAlphabet (a0 : ByteArray) (_ : a0.size ≤ 140737488351232) : ∃ k, laws_FnExactParseAlphabet.f k a0 = some true := by
  by_cases h : (a0.size : Int) > 1048576
  · exact ⟨0, by unfold laws_FnExactParseAlphabet.f; rw [if_pos h]⟩
  · obtain ⟨K1, h1⟩ := specParseAlphabet_ev a0 (by omega)
    obtain ⟨K2, h2⟩ := implParseAlphabet_ev a0 (by omega)
    have hl := parseOf_length a0
    generalize parseOf a0 = r at h1 h2 hl
    obtain ⟨m, l, c⟩ := r
    simp only at hl
    obtain ⟨K3, h3⟩ := eqAlphabet_ev m l (by omega)
    obtain ⟨K4, h4⟩ := markAlphabet1_ev m l (by omega)
    obtain ⟨K5, h5⟩ := heldAlphabet1_ev m l.length (by omega)
    have e1 := fun (j : Nat) => h1 (K1 + K2 + K3 + K4 + K5 + j) (by omega)
    have e2 := fun (j : Nat) => h2 (K1 + K2 + K3 + K4 + K5 + j) (by omega)
    have e3 := fun (j : Nat) => h3 (K1 + K2 + K3 + K4 + K5 + j) (by omega)
    have e4 := fun (j : Nat) => h4 (K1 + K2 + K3 + K4 + K5 + j) (by omega)
    have e5 := fun (j : Nat) => h5 (K1 + K2 + K3 + K4 + K5 + j) (by omega)
    generalize K1 + K2 + K3 + K4 + K5 = K at *
    refine ⟨K + 3, ?_⟩
    unfold laws_FnExactParseAlphabet.f
    rw [if_neg h]
    simp only [e1, e2, e3, Option.bind_some, if_true, bne_self_eq_false]
    simp only [laws_FnExactParseAlphabet.j0, laws_FnExactParseAlphabet.j1, e2, e3, e4, e5, Option.bind_some, bne_self_eq_false]
    have hn : ¬ (1 + (l.length : Int) < 0) := by omega
    simp [hn]
end Go.Proofs.YtbhkpfkkjknmlaaDoor.T
