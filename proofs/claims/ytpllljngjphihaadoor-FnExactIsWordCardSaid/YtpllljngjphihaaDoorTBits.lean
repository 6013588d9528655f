/- The least member of a set, and the set without it; sets as numbers. No program in sight. -/
import Derived.Test.YtpllljngjphihaaDoorTFoata
import Derived.Lib.TrailingZeros
namespace Go.Proofs.YtpllljngjphihaaDoor.T
set_option linter.unusedVariables false
set_option linter.unusedSimpArgs false

/-- The set without a number. -/
def del (s l : Nat) : Nat := s ^^^ (s &&& 2 ^ l)
theorem testBit_del (s l i : Nat) : (del s l).testBit i = (s.testBit i && decide (i ≠ l)) := by
  unfold del
  rw [Nat.testBit_xor, Nat.testBit_and, Nat.testBit_two_pow]
  by_cases e : l = i
  · subst e; cases s.testBit l <;> simp
  · have : i ≠ l := fun h => e h.symm
    simp [e, this]
/-- The least member of a set (64 if there is none). -/
def low (m : Nat) : Nat := ((List.range 64).find? fun i => m.testBit i).getD 64
theorem exists_bit {m : Nat} (h0 : m ≠ 0) (hm : m < 18446744073709551616) : ∃ i, i < 64 ∧ m.testBit i = true := by
  obtain ⟨i, hi⟩ := Nat.exists_testBit_of_ne_zero h0
  refine ⟨i, ?_, hi⟩
  rcases Nat.lt_or_ge i 64 with h | h
  · exact h
  · exfalso
    rw [Nat.testBit_lt_two_pow (Nat.lt_of_lt_of_le hm (by
      have : 2 ^ 64 ≤ 2 ^ i := Nat.pow_le_pow_right (by decide) h
      have e : 2 ^ 64 = 18446744073709551616 := by decide
      omega))] at hi
    cases hi
theorem low_spec {m : Nat} (h0 : m ≠ 0) (hm : m < 18446744073709551616) : low m < 64 ∧ m.testBit (low m) = true ∧ ∀ j, j < low m → m.testBit j = false := by
  unfold low
  cases h : (List.range 64).find? fun i => m.testBit i with
  | none =>
    rw [List.find?_eq_none] at h
    obtain ⟨i, hi, hb⟩ := exists_bit h0 hm
    exact absurd hb (by simpa using h i (List.mem_range.2 hi))
  | some i =>
    rw [List.find?_range_eq_some] at h
    obtain ⟨h1, h2, h3⟩ := h
    exact ⟨List.mem_range.1 h2, h1, fun j hj => by simpa using h3 j hj⟩
theorem low_form {m l : Nat} (hb : m.testBit l = true) (hz : ∀ j, j < l → m.testBit j = false) : m = 2 ^ (l + 1) * (m / 2 ^ (l + 1)) + 2 ^ l := by
  have : m % 2 ^ (l + 1) = 2 ^ l := by
    apply Nat.eq_of_testBit_eq
    intro j
    rw [Nat.testBit_mod_two_pow, Nat.testBit_two_pow]
    by_cases h1 : j < l
    · simp [hz j h1]; omega
    · by_cases h2 : j = l
      · subst h2; simp [hb]
      · have : ¬ j < l + 1 := by omega
        simp [this]; omega
  have h := Nat.div_add_mod m (2 ^ (l + 1))
  omega
/-- The set without its least member. -/
theorem testBit_clear {m : Nat} (h0 : m ≠ 0) (hm : m < 18446744073709551616) (j : Nat) : (m &&& (m - 1)).testBit j = (m.testBit j && decide (j ≠ low m)) := by
  obtain ⟨_, hb, hz⟩ := low_spec h0 hm
  generalize low m = l at *
  have e := low_form hb hz
  generalize m / 2 ^ (l + 1) = q at e
  have hp : 0 < 2 ^ l := Nat.two_pow_pos l
  have hlt : 2 ^ l < 2 ^ (l + 1) := Nat.pow_lt_pow_right (by decide) (by omega)
  have e1 : m - 1 = 2 ^ (l + 1) * q + (2 ^ l - 1) := by omega
  rw [Nat.testBit_and, e1]
  rw [Nat.testBit_two_pow_mul_add q (by omega) j]
  by_cases h1 : j < l
  · rw [hz j h1]; simp
  · by_cases h2 : j = l
    · subst h2
      rw [if_pos (by omega), Nat.testBit_two_pow_sub_one]
      simp
    · rw [if_neg (by omega)]
      have : m.testBit j = q.testBit (j - (l + 1)) := by
        rw [e, Nat.testBit_two_pow_mul_add q hlt j, if_neg (by omega)]
      rw [this]
      simp [h2]
theorem clear_lt {m : Nat} (h0 : m ≠ 0) : m &&& (m - 1) < m := Nat.lt_of_le_of_lt Nat.and_le_right (by omega)
theorem low_eq {m l : Nat} (hm : m < 18446744073709551616) (hb : m.testBit l = true) (hz : ∀ j, j < l → m.testBit j = false) : low m = l := by
  have h0 : m ≠ 0 := by rintro rfl; simp at hb
  obtain ⟨_, h1, h2⟩ := low_spec h0 hm
  rcases Nat.lt_trichotomy (low m) l with h | h | h
  · rw [hz _ h] at h1; cases h1
  · exact h
  · rw [h2 _ h] at hb; cases hb
/-- math/bits' answer is the least member. -/
theorem ctz_low {m : Nat} (h0 : m ≠ 0) (hm : m < 18446744073709551616) : Lib.ctz 64 m = low m := by
  obtain ⟨h1, h2⟩ := Lib.lowest_bit 64 m h0 hm
  have hm' : m < 2 ^ 64 := hm
  symm
  obtain ⟨hl, hb, hz⟩ := low_spec h0 hm
  -- the lowest bit alone is m &&& (2^64 - m)
  have hk : m &&& (18446744073709551616 - m) = 2 ^ Lib.ctz 64 m := h1
  have hbit : m.testBit (Lib.ctz 64 m) = true := by
    have := congrArg (fun x => x.testBit (Lib.ctz 64 m)) hk
    simp only [Nat.testBit_and, Nat.testBit_two_pow_self, Bool.and_eq_true] at this
    exact this.1
  have e := low_form hb hz
  have hmod : (18446744073709551616 - m).testBit (low m) = true := by
    generalize low m = l at *
    generalize hq : m / 2 ^ (l + 1) = q at e
    have hp : 2 ^ (l + 1) ∣ 18446744073709551616 := by
      have : (18446744073709551616 : Nat) = 2 ^ 64 := by decide
      rw [this]
      exact Nat.pow_dvd_pow 2 (by omega)
    obtain ⟨c, hc⟩ := hp
    have hpos : 0 < 2 ^ l := Nat.two_pow_pos l
    have hlt : 2 ^ l < 2 ^ (l + 1) := Nat.pow_lt_pow_right (by decide) (by omega)
    have h2l : 2 ^ (l + 1) = 2 * 2 ^ l := by rw [Nat.pow_succ]; omega
    have hcq : q < c := by
      rcases Nat.lt_or_ge q c with h | h
      · exact h
      · have : 2 ^ (l + 1) * c ≤ 2 ^ (l + 1) * q := Nat.mul_le_mul_left _ h
        omega
    obtain ⟨d, rfl⟩ : ∃ d, c = q + 1 + d := ⟨c - q - 1, by omega⟩
    have hx : 18446744073709551616 - m = 2 ^ (l + 1) * d + 2 ^ l := by
      rw [Nat.mul_add, Nat.mul_add, Nat.mul_one] at hc
      omega
    rw [hx, Nat.testBit_two_pow_mul_add d hlt l, if_pos (by omega), Nat.testBit_two_pow_self]
  have : (2 ^ Lib.ctz 64 m).testBit (low m) = true := by
    rw [← hk, Nat.testBit_and, hb, hmod]; rfl
  rw [Nat.testBit_two_pow] at this
  have := of_decide_eq_true this
  omega
theorem bitsL_cons {m : Nat} (h0 : m ≠ 0) (hm : m < 18446744073709551616) : bitsL m = low m :: bitsL (m &&& (m - 1)) := by
  obtain ⟨hl, hb, hz⟩ := low_spec h0 hm
  unfold bitsL
  have hs : List.range 64 = List.range (low m) ++ (low m :: (List.range (63 - low m)).map fun x => low m + 1 + x) := by
    rw [show 64 = low m + (1 + (63 - low m)) by omega, List.range_add, List.range_add]
    simp [Nat.add_assoc]
  have hc := testBit_clear h0 hm
  rw [hs, List.filter_append, List.filter_append, List.filter_cons, List.filter_cons, if_pos hb, if_neg (by rw [hc]; simp)]
  have e0 : (List.range (low m)).filter (fun i => m.testBit i) = [] := by
    rw [List.filter_eq_nil_iff]
    intro j hj
    rw [hz j (List.mem_range.1 hj)]
    simp
  have e1 : (List.range (low m)).filter (fun i => (m &&& (m - 1)).testBit i) = [] := by
    rw [List.filter_eq_nil_iff]
    intro j hj
    rw [hc, hz j (List.mem_range.1 hj)]
    simp
  rw [e0, e1, List.nil_append, List.nil_append]
  congr 1
  apply List.filter_congr
  intro j hj
  rw [List.mem_map] at hj
  obtain ⟨x, _, rfl⟩ := hj
  rw [hc]
  have : low m + 1 + x ≠ low m := by omega
  simp [this]
end Go.Proofs.YtpllljngjphihaaDoor.T
