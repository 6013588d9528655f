/- Plain facts on whole numbers, bits and lists that the pure proofs of this seat share; no program in sight. -/
import Derived.Test.YtpllljngjphihaaDoorWMore
import Derived.Test.YtpllljngjphihaaDoorWWords
import Derived.Laws.BitsLemmas
namespace Go.Proofs.YtpllljngjphihaaDoor.T
open Go Go.RowKit Go.Proofs.YtpllljngjphihaaDoorW.PrintWords Go.Proofs.YtpllljngjphihaaDoorW.PrintMore

theorem wrap_id {x : Int} (h1 : -9223372036854775808 ≤ x) (h2 : x ≤ 9223372036854775807) : wrap64 x = x := by unfold wrap64; omega
theorem i64_id {n : Int} (h1 : -9223372036854775808 ≤ n) (h2 : n ≤ 9223372036854775807) : IntKind.i64.wrap n = n := by rw [IntKind.wrap_i64]; omega
theorem u64_id {n : Int} (h1 : 0 ≤ n) (h2 : n < 18446744073709551616) : IntKind.u64.wrap n = n := by
  simp [IntKind.wrap, IntKind.bits, IntKind.signed]; omega
theorem rd_nat {l : List Int} {i : Nat} (h : i < l.length) : rd l (i : Int) = l[i] := by simp [rd, h]
theorem pow_lt63 {n : Nat} (h : n ≤ 62) : 2 ^ n < 9223372036854775808 := by
  have : 2 ^ n ≤ 2 ^ 62 := Nat.pow_le_pow_right (by decide) h
  have e : 2 ^ 62 = 4611686018427387904 := by decide
  omega
theorem shl_one {n : Nat} (h : n ≤ 62) : shl .i64 1 (n : Int) = ((2 ^ n : Nat) : Int) := by
  unfold shl
  have hb : IntKind.i64.bits = 64 := rfl
  rw [Int.one_mul, hb, Int.toNat_natCast, Nat.min_eq_left (by omega)]
  have := pow_lt63 h
  have e : (2 : Int) ^ n = ((2 ^ n : Nat) : Int) := by push_cast; rfl
  rw [e]
  generalize 2 ^ n = m at this ⊢
  exact i64_id (by omega) (by omega)
theorem band {a b : Nat} (ha : a < 9223372036854775808) (hb : b < 9223372036854775808) : Go.bits .and .i64 (a : Int) (b : Int) = ((a &&& b : Nat) : Int) := by
  have hc : a &&& b < 9223372036854775808 := Nat.lt_of_le_of_lt Nat.and_le_left ha
  have e : (BitVec.ofInt 64 (a : Int) &&& BitVec.ofInt 64 (b : Int)).toNat = a &&& b := by
    rw [BitVec.ofInt_natCast, BitVec.ofInt_natCast, BitVec.toNat_and, BitVec.toNat_ofNat, BitVec.toNat_ofNat, Nat.mod_eq_of_lt (by omega), Nat.mod_eq_of_lt (by omega)]
  show IntKind.i64.wrap (((BitVec.ofInt 64 (a : Int) &&& BitVec.ofInt 64 (b : Int)).toNat : Nat) : Int) = _
  rw [e, i64_id] <;> omega
theorem bor {a b : Nat} (ha : a < 9223372036854775808) (hb : b < 9223372036854775808) : Go.bits .or .i64 (a : Int) (b : Int) = ((a ||| b : Nat) : Int) := by
  have hc : a ||| b < 9223372036854775808 := Nat.or_lt_two_pow (n := 63) ha hb
  have e : (BitVec.ofInt 64 (a : Int) ||| BitVec.ofInt 64 (b : Int)).toNat = a ||| b := by
    rw [BitVec.ofInt_natCast, BitVec.ofInt_natCast, BitVec.toNat_or, BitVec.toNat_ofNat, BitVec.toNat_ofNat, Nat.mod_eq_of_lt (by omega), Nat.mod_eq_of_lt (by omega)]
  show IntKind.i64.wrap (((BitVec.ofInt 64 (a : Int) ||| BitVec.ofInt 64 (b : Int)).toNat : Nat) : Int) = _
  rw [e, i64_id] <;> omega
/-- The bits of a that b has not. -/
def diff (a b : Nat) : Nat := a ^^^ (a &&& b)
theorem testBit_diff (a b i : Nat) : (diff a b).testBit i = (a.testBit i && !b.testBit i) := by
  unfold diff
  rw [Nat.testBit_xor, Nat.testBit_and]
  cases a.testBit i <;> cases b.testBit i <;> rfl
theorem diff_le (a b : Nat) : diff a b ≤ a := by
  have : diff a b = a &&& diff a b := by
    apply Nat.eq_of_testBit_eq
    intro i
    rw [Nat.testBit_and, testBit_diff]
    cases a.testBit i <;> cases b.testBit i <;> rfl
  rw [this]
  exact Nat.and_le_left
theorem bandNot {a b : Nat} (ha : a < 9223372036854775808) : Go.bits .andNot .i64 (a : Int) (b : Int) = ((diff a b : Nat) : Int) := by
  have hc : diff a b < 9223372036854775808 := Nat.lt_of_le_of_lt (diff_le a b) ha
  have e : (BitVec.ofInt 64 (a : Int) &&& ~~~BitVec.ofInt 64 (b : Int)).toNat = diff a b := by
    rw [BitVec.ofInt_natCast, BitVec.ofInt_natCast]
    apply Nat.eq_of_testBit_eq
    intro i
    rw [testBit_diff, BitVec.testBit_toNat, BitVec.getLsbD_and, BitVec.getLsbD_not, BitVec.getLsbD_ofNat, BitVec.getLsbD_ofNat]
    by_cases hi : i < 64
    · simp [hi]
    · have : a.testBit i = false := Nat.testBit_lt_two_pow (Nat.lt_of_lt_of_le ha (by
        have : 2 ^ 63 ≤ 2 ^ i := Nat.pow_le_pow_right (by decide) (by omega)
        have e : 2 ^ 63 = 9223372036854775808 := by decide
        omega))
      simp [hi, this]
  show IntKind.i64.wrap (((BitVec.ofInt 64 (a : Int) &&& ~~~BitVec.ofInt 64 (b : Int)).toNat : Nat) : Int) = _
  rw [e, i64_id] <;> omega
theorem shr_and_one {m i : Nat} (hm : m < 9223372036854775808) : Go.bits .and .i64 (shr .i64 (m : Int) (i : Int)) 1 = ((if m.testBit i then 1 else 0 : Nat) : Int) := by
  have h0 : shr .i64 (m : Int) (i : Int) = ((m / 2 ^ i : Nat) : Int) := by
    unfold shr
    rw [Int.toNat_natCast, show IntKind.i64.bits = 64 from rfl]
    by_cases hi : i ≤ 64
    · rw [Nat.min_eq_left hi]; simp
    · rw [Nat.min_eq_right (by omega)]
      have h64 : 2 ^ 64 ≤ 2 ^ i := Nat.pow_le_pow_right (by decide) (by omega)
      have e : (2 : Nat) ^ 64 = 18446744073709551616 := by decide
      rw [Nat.div_eq_of_lt (by omega)]
      have : ((2 : Int) ^ 64) = 18446744073709551616 := by decide
      rw [this]; simp only [Int.natCast_zero]; omega
  have hlt : m / 2 ^ i < 9223372036854775808 := Nat.lt_of_le_of_lt (Nat.div_le_self _ _) hm
  rw [h0, show (1 : Int) = ((1 : Nat) : Int) from rfl, band hlt (by decide)]
  congr 1
  rw [Nat.and_one_is_mod, Nat.testBit_eq_decide_div_mod_eq]
  have := Nat.mod_two_eq_zero_or_one (m / 2 ^ i)
  rcases this with h | h <;> simp [h]
/-- From some number of rounds on. -/
theorem Ev.of_all {α : Type} {g : Nat → Option α} {r : α} (h : ∀ k, g k = some r) : Ev g r := ⟨0, fun k _ => h k⟩
end Go.Proofs.YtpllljngjphihaaDoor.T
