/- What the functions of chapter 1 compute on the smallest inputs: ranges, single members, masks and relations. -/
import Derived.Test.YtlkomakenfpapaaDoorTBase
import Derived.Test.YtlkomakenfpapaaDoorGS01
import Derived.Test.YtlkomakenfpapaaDoorGI01
namespace Go.Proofs.YtlkomakenfpapaaDoor.T
open Go Go.RowKit Go.Proofs.YtlkomakenfpapaaDoorW.PrintWords Go.Proofs.YtlkomakenfpapaaDoorW.PrintMore Go.Proofs.YtlkomakenfpapaaDoor.G

theorem l01In_eq (a b c : Int) : spec_l01In.f a b c = some (decide (b ≤ a ∧ a ≤ c)) := by
  unfold spec_l01In.f
  by_cases h : a ≥ b
  · rw [if_pos h]; simp [show b ≤ a from h]
  · rw [if_neg h]; simp [show ¬ b ≤ a from h]
theorem inRange_eq (a b c : Int) : impl_inRange.f a b c = some (decide (b ≤ a ∧ a ≤ c)) := by
  unfold impl_inRange.f
  by_cases h : b ≤ a
  · rw [if_pos h]; simp [h]
  · rw [if_neg h]; simp [h]
theorem l01One_eq {n : Nat} (h : n ≤ 62) : spec_l01One.f (n : Int) = some ((2 ^ n : Nat) : Int) := by
  unfold spec_l01One.f
  rw [u64_id (by omega) (by omega), if_pos (by omega), shl_one h]
theorem one_eq {n : Nat} (h : n ≤ 62) : impl_one.f (n : Int) = some ((2 ^ n : Nat) : Int) := by
  unfold impl_one.f
  rw [if_pos (by omega), shl_one h]
theorem wrap_pow {n : Nat} (h : n ≤ 62) : wrap64 (((2 ^ n : Nat) : Int) - 1) = ((2 ^ n - 1 : Nat) : Int) := by
  have h1 := pow_lt63 h
  have h2 : 0 < 2 ^ n := Nat.two_pow_pos n
  generalize 2 ^ n = m at *
  rw [wrap_id (by omega) (by omega)]
  omega
theorem l01Full_eq {n : Nat} (h : n ≤ 62) : spec_l01Full.f (n : Int) = some ((2 ^ n - 1 : Nat) : Int) := by
  unfold spec_l01Full.f
  rw [l01One_eq h, Option.bind_some, wrap_pow h]
/-- A number is a mask of n elements. -/
def isM (n : Nat) (x : Int) : Bool := decide (0 ≤ x ∧ x ≤ ((2 ^ n - 1 : Nat) : Int))
theorem isM_eq (n : Nat) (x : Int) : isM n x = (decide (0 ≤ x) && decide (x ≤ ((2 ^ n - 1 : Nat) : Int))) := by simp [isM]
/-- A list is a relation. -/
def isRel (l : List Int) : Bool := decide (l.length ≤ 24) && l.all (isM l.length)
/-- n is a number of elements and m a mask of n elements. -/
def isMask (m n : Int) : Bool := decide (0 ≤ n ∧ n ≤ 24) && isM n.toNat m
theorem specIsMask_eq (m n : Int) : spec_IsMask.f m n = some (isMask m n) := by
  unfold spec_IsMask.f isMask
  rw [l01In_eq, Option.bind_some]
  by_cases h : 0 ≤ n ∧ n ≤ 24
  · obtain ⟨j, rfl⟩ := Int.eq_ofNat_of_zero_le h.1
    rw [if_pos (by simp [h]), l01Full_eq (by omega), Option.bind_some, l01In_eq, Option.bind_some]
    simp [h, isM]
  · rw [if_neg (by simp [h])]
    simp [h]
theorem implIsMask_eq (m n : Int) : impl_IsMask.f m n = some (isMask m n) := by
  unfold impl_IsMask.f isMask
  rw [inRange_eq, Option.bind_some]
  by_cases h : 0 ≤ n ∧ n ≤ 24
  · obtain ⟨j, rfl⟩ := Int.eq_ofNat_of_zero_le h.1
    rw [if_pos (by simp [h]), one_eq (by omega), Option.bind_some, wrap_pow (by omega), inRange_eq, Option.bind_some]
    simp [h, isM]
  · rw [if_neg (by simp [h])]
    simp [h]
end Go.Proofs.YtlkomakenfpapaaDoor.T
