/- The members of a set in ascending order, as the reference and the program compute them. Condition: the set is a number below 2^62. -/
import Derived.Test.YtpllljngjphihaaDoorTSets
import Derived.Test.YtpllljngjphihaaDoorTBits
import Derived.Test.YtpllljngjphihaaDoorTTraceMin
import Derived.Test.YtpllljngjphihaaDoorGI01a
import Derived.Test.YtpllljngjphihaaDoorGS01a
import Derived.Test.YtpllljngjphihaaDoorGStd
namespace Go.Proofs.YtpllljngjphihaaDoor.T
set_option linter.unusedVariables false
set_option linter.unusedSimpArgs false
open Go Go.RowKit Go.Proofs.YtpllljngjphihaaDoorW.PrintWords Go.Proofs.YtpllljngjphihaaDoorW.PrintMore Go.Proofs.YtpllljngjphihaaDoor.G

theorem least_eq {m : Nat} (h0 : m ≠ 0) (hm : m < 9223372036854775808) : impl_least.f (m : Int) = some ((low m : Nat) : Int) := by
  unfold impl_least.f
  rw [u64_id (by omega) (by omega)]
  unfold bits_TrailingZeros64.f
  rw [if_pos (by omega), Int.toNat_natCast, ctz_low h0 (by omega)]
  rfl
theorem ints_append (u v : List Nat) : ints (u ++ v) = ints u ++ ints v := by unfold ints; rw [List.map_append]
theorem ints_length (u : List Nat) : (ints u).length = u.length := by unfold ints; rw [List.length_map]
theorem ints_cons (a : Nat) (u : List Nat) : ints (a :: u) = (a : Int) :: ints u := rfl
theorem bitsL_length (m : Nat) : (bitsL m).length ≤ 64 := by
  unfold bitsL
  have := List.length_filter_le (fun i => m.testBit i) (List.range 64)
  rwa [List.length_range] at this
theorem members_loop : ∀ (b m : Nat) (out : List Int), m ≤ b → m < 9223372036854775808 → out.length + (bitsL m).length ≤ 1000 → Ev (fun k => impl_members.l0 k (m : Int) out) (out ++ ints (bitsL m))
  | 0, m, out, hb, hm, ho => by
    obtain rfl : m = 0 := by omega
    refine Ev.step (f := fun _ => some (out ++ ints (bitsL 0))) (fun k => ?_) (Ev.now _)
    simp only [impl_members.l0]
    rw [if_pos (by rfl), bitsL_zero]
    simp [ints]
  | b + 1, m, out, hb, hm, ho => by
    by_cases h0 : m = 0
    · subst h0
      refine Ev.step (f := fun _ => some (out ++ ints (bitsL 0))) (fun k => ?_) (Ev.now _)
      simp only [impl_members.l0]
      rw [if_pos (by rfl), bitsL_zero]
      simp [ints]
    · have hlt := clear_lt h0
      have hc := bitsL_cons h0 (by omega : m < 18446744073709551616)
      have hl : (bitsL m).length = (bitsL (m &&& (m - 1))).length + 1 := by rw [hc]; rfl
      have ih := members_loop b (m &&& (m - 1)) (out ++ [((low m : Nat) : Int)]) (by omega) (by omega) (by rw [List.length_append, List.length_singleton]; omega)
      rw [hc, ints_cons, List.append_cons]
      refine Ev.step (fun k => ?_) ih
      simp only [impl_members.l0]
      rw [if_neg (by omega), least_eq h0 hm, Option.bind_some, if_pos (by omega), wrap_id (by omega) (by omega), show ((m : Int) - 1) = ((m - 1 : Nat) : Int) by omega, band hm (by omega)]
theorem members_ev {m : Nat} (hm : m < 9223372036854775808) : Ev (fun k => impl_members.f k (m : Int)) (ints (bitsL m)) := by
  have := members_loop m m [] (Nat.le_refl _) hm (by have := bitsL_length m; simp; omega)
  refine Ev.congr (fun k => ?_) this
  rfl
/-- The members below i. -/
def membersTo (m i : Nat) : List Int := ints ((List.range i).filter fun j => m.testBit j)
theorem membersTo_length (m i : Nat) : (membersTo m i).length ≤ i := by
  unfold membersTo
  rw [ints_length]
  have := List.length_filter_le (fun j => m.testBit j) (List.range i)
  rwa [List.length_range] at this
theorem membersTo_succ (m i : Nat) : membersTo m (i + 1) = if m.testBit i then membersTo m i ++ [(i : Int)] else membersTo m i := by
  unfold membersTo
  rw [List.range_succ, List.filter_append, ints_append]
  cases h : m.testBit i <;> simp [h, ints]
theorem membersTo_done {m : Nat} : ∀ (d i : Nat), m / 2 ^ i = 0 → membersTo m (i + d) = membersTo m i
  | 0, i, h => rfl
  | d + 1, i, h => by
    rw [← Nat.add_assoc, membersTo_succ, membersTo_done d i h]
    have hlt : m < 2 ^ (i + d) := by
      have h1 : m < 2 ^ i := by
        rcases Nat.lt_or_ge m (2 ^ i) with h2 | h2
        · exact h2
        · have := Nat.div_pos h2 (Nat.two_pow_pos i); omega
      exact Nat.lt_of_lt_of_le h1 (Nat.pow_le_pow_right (by decide) (by omega))
    rw [Nat.testBit_lt_two_pow hlt]
    rfl
theorem l01List_loop {m : Nat} (hm : m < 9223372036854775808) : ∀ (d i : Nat), i + d = 64 → Ev (fun k => spec_l01List.l0 k ((m / 2 ^ i : Nat) : Int) (membersTo m i) (i : Int)) (ints (bitsL m))
  | 0, i, h => by
    obtain rfl : i = 64 := by omega
    refine Ev.step (f := fun _ => some (ints (bitsL m))) (fun k => ?_) (Ev.now _)
    have : m / 2 ^ 64 = 0 := Nat.div_eq_of_lt (by omega)
    simp only [spec_l01List.l0]
    rw [this, if_neg (by simp)]
    rfl
  | d + 1, i, h => by
    by_cases h0 : m / 2 ^ i = 0
    · refine Ev.step (f := fun _ => some (ints (bitsL m))) (fun k => ?_) (Ev.now _)
      simp only [spec_l01List.l0]
      rw [h0, if_neg (by simp), ← membersTo_done (d + 1) i h0, h]
      rfl
    · have ih := l01List_loop hm d (i + 1) (by omega)
      have hle : m / 2 ^ i ≤ m := Nat.div_le_self _ _
      have hdiv : m / 2 ^ (i + 1) = m / 2 ^ i / 2 := by rw [Nat.pow_succ, Nat.div_div_eq_div_mul]
      have hbit : m.testBit i = decide (m / 2 ^ i % 2 = 1) := Nat.testBit_eq_decide_div_mod_eq
      have hl := membersTo_length m i
      have e1 : Int.tdiv ((m / 2 ^ i : Nat) : Int) 2 = ((m / 2 ^ (i + 1) : Nat) : Int) := by
        rw [hdiv]
        exact (Int.ofNat_tdiv _ _).symm
      have e2 : Int.tmod ((m / 2 ^ i : Nat) : Int) 2 = ((m / 2 ^ i % 2 : Nat) : Int) := (Int.ofNat_tmod _ _).symm
      have hle2 : m / 2 ^ (i + 1) ≤ m := Nat.div_le_self _ _
      have hs := membersTo_succ m i
      rw [hbit] at hs
      rw [hs] at ih
      clear hs hbit hdiv
      generalize m / 2 ^ (i + 1) = q' at *
      generalize m / 2 ^ i = q at *
      refine Ev.step (fun k => ?_) ih
      simp only [spec_l01List.l0]
      rw [if_pos (by omega), e1, e2, wrap_id (x := ((q' : Nat) : Int)) (by omega) (by omega), wrap_id (x := (i : Int) + 1) (by omega) (by omega)]
      by_cases hb : q % 2 = 1
      · rw [if_pos (by omega), if_pos (by omega), if_pos (decide_eq_true hb)]
        rfl
      · rw [if_neg (by omega), if_neg (by simpa using hb)]
        rfl
theorem l01List_ev {m : Nat} (hm : m < 9223372036854775808) : Ev (fun k => spec_l01List.f k (m : Int)) (ints (bitsL m)) := by
  have := l01List_loop hm 64 0 (by omega)
  refine Ev.congr (fun k => ?_) this
  unfold spec_l01List.f
  simp [membersTo, ints]
/-- What MembersOf returns. -/
def membersOf (m : Int) : List Int × Int := if isMask m 24 then (ints (bitsL m.toNat), 0) else ([], 2)
theorem isMask_24 {m : Int} (h : isMask m 24 = true) : 0 ≤ m ∧ m < 16777216 := by
  unfold isMask isM at h
  rw [Bool.and_eq_true] at h
  have := of_decide_eq_true h.2
  have e : ((2 ^ (24 : Int).toNat - 1 : Nat) : Int) = 16777215 := by decide
  rw [e] at this
  omega
theorem membersOf_length (m : Int) : (membersOf m).1.length ≤ 64 := by
  unfold membersOf
  split
  · rw [ints_length]; exact bitsL_length _
  · simp
end Go.Proofs.YtpllljngjphihaaDoor.T
