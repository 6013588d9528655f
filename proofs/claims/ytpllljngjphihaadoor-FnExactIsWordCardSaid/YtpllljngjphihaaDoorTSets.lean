/- What the functions of chapter 1 compute on the smallest inputs: ranges, single members, masks and relations. -/
import Derived.Test.YtpllljngjphihaaDoorTBase
import Derived.Test.YtpllljngjphihaaDoorGI01a
import Derived.Test.YtpllljngjphihaaDoorGI01b
import Derived.Test.YtpllljngjphihaaDoorGS01a
namespace Go.Proofs.YtpllljngjphihaaDoor.T
open Go Go.RowKit Go.Proofs.YtpllljngjphihaaDoorW.PrintWords Go.Proofs.YtpllljngjphihaaDoorW.PrintMore Go.Proofs.YtpllljngjphihaaDoor.G

theorem l01In_eq (a b c : Int) : spec_l01In.f a b c = some (decide (b ≤ a ∧ a ≤ c)) := by
  unfold spec_l01In.f
  by_cases h : a ≥ b
  · rw [if_pos h]; simp [show b ≤ a from h]
  · rw [if_neg h]; simp [show ¬ b ≤ a from h]
theorem inRange_eq (a b c : Int) : impl_inRange.f a b c = some (decide (b ≤ a ∧ a ≤ c)) := by
  unfold impl_inRange.f
  by_cases h : b ≤ a
  · rw [if_pos h]; simp [h]
  · rw [if_neg h]; simp [h]
theorem l01One_eq {n : Nat} (h : n ≤ 62) : spec_l01One.f (n : Int) = some ((2 ^ n : Nat) : Int) := by
  unfold spec_l01One.f
  rw [u64_id (by omega) (by omega), if_pos (by omega), shl_one h]
theorem one_eq {n : Nat} (h : n ≤ 62) : impl_one.f (n : Int) = some ((2 ^ n : Nat) : Int) := by
  unfold impl_one.f
  rw [if_pos (by omega), shl_one h]
theorem wrap_pow {n : Nat} (h : n ≤ 62) : wrap64 (((2 ^ n : Nat) : Int) - 1) = ((2 ^ n - 1 : Nat) : Int) := by
  have h1 := pow_lt63 h
  have h2 : 0 < 2 ^ n := Nat.two_pow_pos n
  generalize 2 ^ n = m at *
  rw [wrap_id (by omega) (by omega)]
  omega
theorem l01Full_eq {n : Nat} (h : n ≤ 62) : spec_l01Full.f (n : Int) = some ((2 ^ n - 1 : Nat) : Int) := by
  unfold spec_l01Full.f
  rw [l01One_eq h, Option.bind_some, wrap_pow h]
/-- A number is a mask of n elements. -/
def isM (n : Nat) (x : Int) : Bool := decide (0 ≤ x ∧ x ≤ ((2 ^ n - 1 : Nat) : Int))
theorem isM_eq (n : Nat) (x : Int) : isM n x = (decide (0 ≤ x) && decide (x ≤ ((2 ^ n - 1 : Nat) : Int))) := by simp [isM]
theorem l01Masks_loop (n : Nat) (hn : n ≤ 62) (l : List Int) (hl : l.length < 4611686018427387904) : ∀ (d i : Nat), i + d = l.length → (l.take i).all (isM n) = true → Ev (fun k => spec_l01Masks.l0 k (n : Int) l (i : Int)) (l.all (isM n))
  | 0, i, h, ht => by
    refine Ev.step (f := fun _ => some (l.all (isM n))) (fun k => ?_) (Ev.now _)
    obtain rfl : i = l.length := by omega
    simp only [spec_l01Masks.l0]
    rw [if_neg (by omega)]
    rw [List.take_length] at ht
    rw [ht]
  | d + 1, i, h, ht => by
    have hi : i < l.length := by omega
    by_cases e : isM n l[i] = true
    · have ih := l01Masks_loop n hn l hl d (i + 1) (by omega) (by rw [List.take_succ_eq_append_getElem hi, List.all_append, ht]; simp [e])
      refine Ev.step (fun k => ?_) ih
      simp only [spec_l01Masks.l0]
      rw [if_pos (by omega), if_pos (by omega), l01Full_eq hn, Option.bind_some, l01In_eq, Option.bind_some, rd_nat hi]
      unfold isM at e
      rw [e, if_pos rfl, wrap_id (by omega) (by omega)]
      rfl
    · refine Ev.step (f := fun _ => some (l.all (isM n))) (fun k => ?_) (Ev.now _)
      have ha : l.all (isM n) = false := by
        rw [List.all_eq_false]
        exact ⟨_, List.getElem_mem hi, e⟩
      simp only [spec_l01Masks.l0]
      rw [if_pos (by omega), if_pos (by omega), l01Full_eq hn, Option.bind_some, l01In_eq, Option.bind_some, rd_nat hi, ha]
      unfold isM at e
      rw [Bool.not_eq_true] at e
      rw [e]
      rfl
theorem l01Masks_ev (n : Nat) (hn : n ≤ 62) (l : List Int) (hl : l.length < 4611686018427387904) : Ev (fun k => spec_l01Masks.f k (n : Int) l) (l.all (isM n)) := by
  refine Ev.congr (fun k => ?_) (l01Masks_loop n hn l hl l.length 0 (by omega) (by simp))
  rfl
/-- A list is a relation. -/
def isRel (l : List Int) : Bool := decide (l.length ≤ 24) && l.all (isM l.length)
theorem specIsRelation_ev (l : List Int) : Ev (fun k => spec_IsRelation.f k l) (isRel l) := by
  by_cases h : l.length ≤ 24
  · have := l01Masks_ev l.length (by omega) l (by omega)
    have h2 : Ev (fun k => (spec_l01Masks.f k (l.length : Int) l).bind fun t => some t) (l.all (isM l.length)) := Ev.bind this (Ev.now _)
    refine Ev.congr (fun k => ?_) (r := isRel l) (f := fun k => (spec_l01Masks.f k (l.length : Int) l).bind fun t => some t) (by unfold isRel; simpa [h] using h2)
    unfold spec_IsRelation.f
    rw [if_pos (by omega)]
  · refine Ev.of_all fun k => ?_
    unfold spec_IsRelation.f isRel
    rw [if_neg (by omega)]
    simp [h]
theorem allIn_eq (l : List Int) (a b : Int) : impl_allIn.f l a b = some (l.all fun x => decide (a ≤ x ∧ x ≤ b)) := by
  unfold impl_allIn.f
  rw [List.not_any_eq_all_not]
  simp
theorem implIsRelation_eq (l : List Int) : impl_IsRelation.f l = some (isRel l) := by
  unfold impl_IsRelation.f isRel impl_length_int64.f
  by_cases h : l.length ≤ 24
  · rw [if_pos (by omega), Option.bind_some, one_eq (by omega), Option.bind_some, wrap_pow (by omega), allIn_eq, Option.bind_some]
    simp [h, funext (isM_eq l.length)]
  · rw [if_neg (by omega)]
    simp [h]
/-- n is a number of elements and m a mask of n elements. -/
def isMask (m n : Int) : Bool := decide (0 ≤ n ∧ n ≤ 24) && isM n.toNat m
theorem implIsMask_eq (m n : Int) : impl_IsMask.f m n = some (isMask m n) := by
  unfold impl_IsMask.f isMask
  rw [inRange_eq, Option.bind_some]
  by_cases h : 0 ≤ n ∧ n ≤ 24
  · obtain ⟨j, rfl⟩ := Int.eq_ofNat_of_zero_le h.1
    rw [if_pos (by simp [h]), one_eq (by omega), Option.bind_some, wrap_pow (by omega), inRange_eq, Option.bind_some]
    simp [h, isM]
  · rw [if_neg (by simp [h])]
    simp [h]
end Go.Proofs.YtpllljngjphihaaDoor.T
