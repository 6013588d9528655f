/- Alphabets: what it is to be one, as reference and program find out. -/
import Derived.Test.YtobblhhfephleaaDoorTRel
import Derived.Test.YtobblhhfephleaaDoorG0
namespace Go.Proofs.YtobblhhfephleaaDoor.T
set_option linter.unusedVariables false
set_option linter.unusedSimpArgs false
open Go Go.RowKit Go.Proofs.YtobblhhfephleaaDoorW.PrintWords Go.Proofs.YtobblhhfephleaaDoorW.PrintMore Go.Proofs.YtobblhhfephleaaDoor.G

/-- A loop that looks at all below n, and answers false where a condition fails. -/
theorem all_loop {n : Nat} {G : Nat → Nat → Option Bool} {p : Nat → Bool} {R : Bool} (hn : Ev (G n) R) (hs : ∀ i, i < n → p i = true → ∀ r, Ev (G (i + 1)) r → Ev (G i) r) (hf : ∀ i, i < n → p i = false → Ev (G i) false) : Ev (G 0) ((List.range n).all p && R) := by
  have : ∀ d i, i + d = n → Ev (G i) ((List.range' i d).all p && R) := by
    intro d
    induction d with
    | zero => intro i h; obtain rfl : i = n := by omega
              simpa using hn
    | succ d ih =>
      intro i h
      rw [List.range'_succ, List.all_cons]
      cases hp : p i
      · simpa using hf i (by omega) hp
      · have := hs i (by omega) hp _ (ih (i + 1) (by omega))
        simpa using this
  have h := this n 0 (by omega)
  rwa [← List.range_eq_range'] at h
/-- Reflexive and symmetric. -/
def symB (r : List Nat) : Bool := (List.range r.length).all fun a => (r.getD a 0).testBit a && (List.range r.length).all fun b => (r.getD a 0).testBit b == (r.getD b 0).testBit a
/-- n letters and their dependence. -/
def isA (n : Int) (l : List Int) : Bool := decide (0 ≤ n ∧ n ≤ 8) && (decide ((l.length : Int) = n) && (l.all (isM l.length) && symB (l.map Int.toNat)))
structure IsAN (r : List Nat) : Prop extends IsRelN r where
  len8 : r.length ≤ 8
  refl : ∀ a, a < r.length → (r.getD a 0).testBit a = true
  symm : ∀ a b, a < r.length → b < r.length → (r.getD a 0).testBit b = (r.getD b 0).testBit a
theorem symB_iff (r : List Nat) : symB r = true ↔ (∀ a, a < r.length → (r.getD a 0).testBit a = true) ∧ ∀ a b, a < r.length → b < r.length → (r.getD a 0).testBit b = (r.getD b 0).testBit a := by
  unfold symB
  simp only [List.all_eq_true, List.mem_range, Bool.and_eq_true, beq_iff_eq]
  constructor
  · exact fun h => ⟨fun a ha => (h a ha).1, fun a b ha hb => (h a ha).2 b hb⟩
  · exact fun h a ha => ⟨h.1 a ha, fun b hb => h.2 a b ha hb⟩
theorem masks_nat {n : Nat} {l : List Int} (h : l.all (isM n) = true) : ∃ r : List Nat, l = ints r ∧ ∀ x ∈ r, x < 2 ^ n := by
  have h2 := List.all_eq_true.1 h
  obtain ⟨r, rfl⟩ := ints_surj (l := l) (fun x hx => (of_decide_eq_true (h2 x hx)).1)
  refine ⟨r, rfl, fun x hx => ?_⟩
  have h3 := of_decide_eq_true (h2 (x : Int) (mem_ints.2 ⟨x, hx, rfl⟩))
  have := Nat.two_pow_pos n
  omega
theorem isA_nat {n : Int} {l : List Int} (h : isA n l = true) : ∃ r : List Nat, l = ints r ∧ n = (r.length : Int) ∧ IsAN r := by
  unfold isA at h
  simp only [Bool.and_eq_true, decide_eq_true_eq] at h
  obtain ⟨h1, h2, h3, h4⟩ := h
  obtain ⟨r, rfl, hr⟩ := masks_nat h3
  rw [ints_length] at h2 hr
  rw [toNat_ints] at h4
  obtain ⟨h5, h6⟩ := (symB_iff r).1 h4
  exact ⟨r, rfl, h2.symm, ⟨⟨by omega, hr⟩, by omega, h5, h6⟩⟩
theorem symB_conv {r : List Nat} (hr : IsRelN r) : symB r = (List.range r.length).all fun i => decide ((conv r).getD i 0 = r.getD i 0) && (r.getD i 0).testBit i := by
  rw [Bool.eq_iff_iff, symB_iff]
  simp only [List.all_eq_true, List.mem_range, Bool.and_eq_true, decide_eq_true_eq]
  constructor
  · rintro ⟨h1, h2⟩ i hi
    refine ⟨?_, h1 i hi⟩
    rw [getD_eq (by rw [conv_length]; exact hi)]
    apply Nat.eq_of_testBit_eq
    intro j
    by_cases hj : j < r.length
    · rw [conv_bit hi hj, h2 i j hi hj, getD_eq hj]
    · rw [Nat.testBit_lt_two_pow (Nat.lt_of_lt_of_le ((conv_rel hr).lt _ (List.getElem_mem _)) (Nat.pow_le_pow_right (by decide) (by rw [conv_length]; omega))), getD_eq hi, Nat.testBit_lt_two_pow (Nat.lt_of_lt_of_le (hr.lt _ (List.getElem_mem _)) (Nat.pow_le_pow_right (by decide) (by omega)))]
  · intro h
    refine ⟨fun a ha => (h a ha).2, fun a b ha hb => ?_⟩
    rw [← (h a ha).1, getD_eq (by rw [conv_length]; exact ha), conv_bit ha hb, getD_eq hb]
/-- What AreDependent returns. -/
def areDependentOf (n : Int) (l : List Int) (a b : Int) : Bool × Int := if isA n l then (if 0 ≤ a ∧ a ≤ n - 1 then (if 0 ≤ b ∧ b ≤ n - 1 then ((l.getD a.toNat 0).toNat.testBit b.toNat, 0) else (false, 2)) else (false, 2)) else (false, 1)
theorem getD_ints (r : List Nat) (i : Nat) : (ints r).getD i 0 = ((r.getD i 0 : Nat) : Int) := by
  unfold ints
  rcases Nat.lt_or_ge i r.length with h | h
  · simp [h]
  · simp [List.getD_eq_getElem?_getD, h]
end Go.Proofs.YtobblhhfephleaaDoor.T
