/- Alphabets: what it is to be one, as reference and program find out. -/
import Derived.Test.YtpllljngjphihaaDoorTRel
import Derived.Test.YtpllljngjphihaaDoorGI01a
import Derived.Test.YtpllljngjphihaaDoorGI01b
import Derived.Test.YtpllljngjphihaaDoorGI02a
import Derived.Test.YtpllljngjphihaaDoorGI02b
import Derived.Test.YtpllljngjphihaaDoorGS01a
import Derived.Test.YtpllljngjphihaaDoorGS02a
import Derived.Test.YtpllljngjphihaaDoorGS02b
namespace Go.Proofs.YtpllljngjphihaaDoor.T
set_option linter.unusedVariables false
set_option linter.unusedSimpArgs false
open Go Go.RowKit Go.Proofs.YtpllljngjphihaaDoorW.PrintWords Go.Proofs.YtpllljngjphihaaDoorW.PrintMore Go.Proofs.YtpllljngjphihaaDoor.G

/-- A loop that looks at all below n, and answers false where a condition fails. -/
theorem all_loop {n : Nat} {G : Nat → Nat → Option Bool} {p : Nat → Bool} {R : Bool} (hn : Ev (G n) R) (hs : ∀ i, i < n → p i = true → ∀ r, Ev (G (i + 1)) r → Ev (G i) r) (hf : ∀ i, i < n → p i = false → Ev (G i) false) : Ev (G 0) ((List.range n).all p && R) := by
  have : ∀ d i, i + d = n → Ev (G i) ((List.range' i d).all p && R) := by
    intro d
    induction d with
    | zero => intro i h; obtain rfl : i = n := by omega
              simpa using hn
    | succ d ih =>
      intro i h
      rw [List.range'_succ, List.all_cons]
      cases hp : p i
      · simpa using hf i (by omega) hp
      · have := hs i (by omega) hp _ (ih (i + 1) (by omega))
        simpa using this
  have h := this n 0 (by omega)
  rwa [← List.range_eq_range'] at h
/-- Reflexive and symmetric. -/
def symB (r : List Nat) : Bool := (List.range r.length).all fun a => (r.getD a 0).testBit a && (List.range r.length).all fun b => (r.getD a 0).testBit b == (r.getD b 0).testBit a
/-- n letters and their dependence. -/
def isA (n : Int) (l : List Int) : Bool := decide (0 ≤ n ∧ n ≤ 8) && (decide ((l.length : Int) = n) && (l.all (isM l.length) && symB (l.map Int.toNat)))
structure IsAN (r : List Nat) : Prop extends IsRelN r where
  len8 : r.length ≤ 8
  refl : ∀ a, a < r.length → (r.getD a 0).testBit a = true
  symm : ∀ a b, a < r.length → b < r.length → (r.getD a 0).testBit b = (r.getD b 0).testBit a
theorem symB_iff (r : List Nat) : symB r = true ↔ (∀ a, a < r.length → (r.getD a 0).testBit a = true) ∧ ∀ a b, a < r.length → b < r.length → (r.getD a 0).testBit b = (r.getD b 0).testBit a := by
  unfold symB
  simp only [List.all_eq_true, List.mem_range, Bool.and_eq_true, beq_iff_eq]
  constructor
  · exact fun h => ⟨fun a ha => (h a ha).1, fun a b ha hb => (h a ha).2 b hb⟩
  · exact fun h a ha => ⟨h.1 a ha, fun b hb => h.2 a b ha hb⟩
theorem masks_nat {n : Nat} {l : List Int} (h : l.all (isM n) = true) : ∃ r : List Nat, l = ints r ∧ ∀ x ∈ r, x < 2 ^ n := by
  have h2 := List.all_eq_true.1 h
  obtain ⟨r, rfl⟩ := ints_surj (l := l) (fun x hx => (of_decide_eq_true (h2 x hx)).1)
  refine ⟨r, rfl, fun x hx => ?_⟩
  have h3 := of_decide_eq_true (h2 (x : Int) (mem_ints.2 ⟨x, hx, rfl⟩))
  have := Nat.two_pow_pos n
  omega
theorem isA_nat {n : Int} {l : List Int} (h : isA n l = true) : ∃ r : List Nat, l = ints r ∧ n = (r.length : Int) ∧ IsAN r := by
  unfold isA at h
  simp only [Bool.and_eq_true, decide_eq_true_eq] at h
  obtain ⟨h1, h2, h3, h4⟩ := h
  obtain ⟨r, rfl, hr⟩ := masks_nat h3
  rw [ints_length] at h2 hr
  rw [toNat_ints] at h4
  obtain ⟨h5, h6⟩ := (symB_iff r).1 h4
  exact ⟨r, rfl, h2.symm, ⟨⟨by omega, hr⟩, by omega, h5, h6⟩⟩
theorem l02Is_loops {r : List Nat} (hr : IsRelN r) : Ev (fun k => spec_l02Is.l0 k 0 (r.length : Int) (ints r)) (symB r) := by
  have hlen := hr.len
  have := all_loop (n := r.length) (G := fun i k => spec_l02Is.l0 k (i : Int) (r.length : Int) (ints r)) (p := fun a => (r.getD a 0).testBit a && (List.range r.length).all fun b => (r.getD a 0).testBit b == (r.getD b 0).testBit a) (R := true) ?_ ?_ ?_
  · rw [Bool.and_true] at this
    exact this
  · refine Ev.step (f := fun _ => some true) (fun k => ?_) (Ev.now _)
    simp only [spec_l02Is.l0]
    rw [if_neg (by omega)]
  · intro i hi hp R hR
    have hsi := hr.small hi
    rw [Bool.and_eq_true, getD_eq hi] at hp
    have inner := all_loop (n := r.length) (G := fun j k => spec_l02Is.l1 k (i : Int) (j : Int) (r.length : Int) (ints r)) (p := fun b => (r.getD i 0).testBit b == (r.getD b 0).testBit i) (R := R) ?_ ?_ ?_
    · rw [getD_eq hi, hp.2, Bool.true_and] at inner
      refine Ev.step (fun k => ?_) inner
      simp only [spec_l02Is.l0]
      rw [if_pos (by omega), if_pos (by omega), if_pos (by rw [ints_length]; omega), rd_ints hi, l01Bit_eq (by omega) (by omega), Option.bind_some, hp.1, if_pos rfl]
      rfl
    · refine Ev.step (fun k => ?_) hR
      simp only [spec_l02Is.l1]
      rw [if_neg (by omega), wrap_id (by omega) (by omega)]
      rfl
    · intro j hj hq R2 hR2
      have hsj := hr.small hj
      refine Ev.step (fun k => ?_) hR2
      simp only [spec_l02Is.l1]
      rw [getD_eq hi, getD_eq hj, beq_iff_eq] at hq
      rw [if_pos (by omega), if_pos (by omega), if_pos (by rw [ints_length]; omega), rd_ints hi, l01Bit_eq (by omega) (by omega), Option.bind_some, if_pos (by omega), if_pos (by rw [ints_length]; omega), rd_ints hj, l01Bit_eq (by omega) (by omega), Option.bind_some, hq, bne_self_eq_false, if_neg (by simp), wrap_id (by omega) (by omega)]
      rfl
    · intro j hj hq
      have hsj := hr.small hj
      refine Ev.step (f := fun _ => some false) (fun k => ?_) (Ev.now _)
      simp only [spec_l02Is.l1]
      rw [getD_eq hi, getD_eq hj] at hq
      have hq2 : ((r[i].testBit j != r[j].testBit i) = true) := by rw [bne, hq]; rfl
      rw [if_pos (by omega), if_pos (by omega), if_pos (by rw [ints_length]; omega), rd_ints hi, l01Bit_eq (by omega) (by omega), Option.bind_some, if_pos (by omega), if_pos (by rw [ints_length]; omega), rd_ints hj, l01Bit_eq (by omega) (by omega), Option.bind_some, if_pos hq2]
  · intro i hi hp
    have hsi := hr.small hi
    rw [getD_eq hi] at hp
    cases hb : r[i].testBit i
    · refine Ev.step (f := fun _ => some false) (fun k => ?_) (Ev.now _)
      simp only [spec_l02Is.l0]
      rw [if_pos (by omega), if_pos (by omega), if_pos (by rw [ints_length]; omega), rd_ints hi, l01Bit_eq (by omega) (by omega), Option.bind_some, hb, if_neg (by simp)]
    · rw [hb, Bool.true_and] at hp
      obtain ⟨j, hj, hq⟩ : ∃ j, j < r.length ∧ (r[i].testBit j == (r.getD j 0).testBit i) = false := by
        rw [List.all_eq_false] at hp
        obtain ⟨j, hj, h⟩ := hp
        exact ⟨j, List.mem_range.1 hj, by simpa using h⟩
      have hstep : ∀ (d m : Nat), m + d = j → Ev (fun k => spec_l02Is.l1 k (i : Int) (m : Int) (r.length : Int) (ints r)) false := by
        intro d
        induction d with
        | zero =>
          intro m hm
          obtain rfl : m = j := by omega
          have hsj := hr.small hj
          refine Ev.step (f := fun _ => some false) (fun k => ?_) (Ev.now _)
          simp only [spec_l02Is.l1]
          rw [getD_eq hj] at hq
          have hq2 : ((r[i].testBit m != r[m].testBit i) = true) := by rw [bne, hq]; rfl
          rw [if_pos (by omega), if_pos (by omega), if_pos (by rw [ints_length]; omega), rd_ints hi, l01Bit_eq (by omega) (by omega), Option.bind_some, if_pos (by omega), if_pos (by rw [ints_length]; omega), rd_ints hj, l01Bit_eq (by omega) (by omega), Option.bind_some, if_pos hq2]
        | succ d ih =>
          intro m hm
          have hmj : m < r.length := by omega
          have hsm := hr.small hmj
          cases hc : (r[i].testBit m != r[m].testBit i)
          · refine Ev.step (fun k => ?_) (ih (m + 1) (by omega))
            simp only [spec_l02Is.l1]
            rw [if_pos (by omega), if_pos (by omega), if_pos (by rw [ints_length]; omega), rd_ints hi, l01Bit_eq (by omega) (by omega), Option.bind_some, if_pos (by omega), if_pos (by rw [ints_length]; omega), rd_ints hmj, l01Bit_eq (by omega) (by omega), Option.bind_some, hc, if_neg (by simp), wrap_id (by omega) (by omega)]
            rfl
          · refine Ev.step (f := fun _ => some false) (fun k => ?_) (Ev.now _)
            simp only [spec_l02Is.l1]
            rw [if_pos (by omega), if_pos (by omega), if_pos (by rw [ints_length]; omega), rd_ints hi, l01Bit_eq (by omega) (by omega), Option.bind_some, if_pos (by omega), if_pos (by rw [ints_length]; omega), rd_ints hmj, l01Bit_eq (by omega) (by omega), Option.bind_some, hc, if_pos rfl]
      refine Ev.step (fun k => ?_) (hstep j 0 (by omega))
      simp only [spec_l02Is.l0]
      rw [if_pos (by omega), if_pos (by omega), if_pos (by rw [ints_length]; omega), rd_ints hi, l01Bit_eq (by omega) (by omega), Option.bind_some, hb, if_pos rfl]
      rfl
theorem l02Is_ev (n : Int) (l : List Int) : Ev (fun k => spec_l02Is.f k n l) (isA n l) := by
  unfold isA
  by_cases h1 : 0 ≤ n ∧ n ≤ 8
  · by_cases h2 : (l.length : Int) = n
    · subst h2
      have hm := l01Masks_ev l.length (by omega) l (by omega)
      have e : ∀ k, spec_l02Is.f k (l.length : Int) l = (spec_l01Masks.f k (l.length : Int) l).bind fun t => spec_l02Is.j0 k (!t) (l.length : Int) l := by
        intro k
        unfold spec_l02Is.f
        rw [l01In_eq, Option.bind_some, if_pos (by simpa using h1), if_pos rfl]
      refine Ev.congr e ?_
      refine Ev.bind hm ?_
      cases h3 : l.all (isM l.length)
      · refine Ev.step (f := fun _ => some false) (fun k => ?_) ?_
        · simp only [spec_l02Is.j0]; simp
        · simp; exact Ev.now _
      · obtain ⟨r, rfl, hr⟩ := masks_nat h3
        rw [ints_length] at hr h1
        rw [toNat_ints, ints_length]
        have := l02Is_loops (r := r) ⟨by omega, hr⟩
        refine Ev.step (fun k => ?_) (by simpa [h1] using this)
        simp only [spec_l02Is.j0]
        simp
    · refine Ev.congr (f := fun k => spec_l02Is.j0 k true n l) (fun k => ?_) ?_
      · unfold spec_l02Is.f
        rw [l01In_eq, Option.bind_some, if_pos (by simpa using h1), if_neg h2]
      · refine Ev.step (f := fun _ => some false) (fun k => ?_) (by simp [h2]; exact Ev.now _)
        simp only [spec_l02Is.j0]; simp
  · refine Ev.congr (f := fun k => spec_l02Is.j0 k true n l) (fun k => ?_) ?_
    · unfold spec_l02Is.f
      rw [l01In_eq, Option.bind_some, if_neg (by simpa using h1)]
    · refine Ev.step (f := fun _ => some false) (fun k => ?_) (by simp [h1]; exact Ev.now _)
      simp only [spec_l02Is.j0]; simp
theorem specIsAlphabet_ev (n : Int) (l : List Int) : Ev (fun k => spec_IsAlphabet.f k n l) (isA n l) := by
  unfold spec_IsAlphabet.f
  exact Ev.bind (l02Is_ev n l) (Ev.now _)
theorem symB_conv {r : List Nat} (hr : IsRelN r) : symB r = (List.range r.length).all fun i => decide ((conv r).getD i 0 = r.getD i 0) && (r.getD i 0).testBit i := by
  rw [Bool.eq_iff_iff, symB_iff]
  simp only [List.all_eq_true, List.mem_range, Bool.and_eq_true, decide_eq_true_eq]
  constructor
  · rintro ⟨h1, h2⟩ i hi
    refine ⟨?_, h1 i hi⟩
    rw [getD_eq (by rw [conv_length]; exact hi)]
    apply Nat.eq_of_testBit_eq
    intro j
    by_cases hj : j < r.length
    · rw [conv_bit hi hj, h2 i j hi hj, getD_eq hj]
    · rw [Nat.testBit_lt_two_pow (Nat.lt_of_lt_of_le ((conv_rel hr).lt _ (List.getElem_mem _)) (Nat.pow_le_pow_right (by decide) (by rw [conv_length]; omega))), getD_eq hi, Nat.testBit_lt_two_pow (Nat.lt_of_lt_of_le (hr.lt _ (List.getElem_mem _)) (Nat.pow_le_pow_right (by decide) (by omega)))]
  · intro h
    refine ⟨fun a ha => (h a ha).2, fun a b ha hb => ?_⟩
    rw [← (h a ha).1, getD_eq (by rw [conv_length]; exact ha), conv_bit ha hb, getD_eq hb]
theorem implIs_loop {r : List Nat} (hr : IsRelN r) : Ev (fun k => impl_IsAlphabet.l0 k (ints (conv r)) (r.length : Int) 0 (r.length : Int) (ints r)) (symB r) := by
  have hlen := hr.len
  have hc := conv_length r
  have := all_loop (n := r.length) (G := fun i k => impl_IsAlphabet.l0 k (ints (conv r)) (r.length : Int) (i : Int) (r.length : Int) (ints r)) (p := fun i => decide ((conv r).getD i 0 = r.getD i 0) && (r.getD i 0).testBit i) (R := true) ?_ ?_ ?_
  · rw [Bool.and_true, ← symB_conv hr] at this
    exact this
  · refine Ev.step (f := fun _ => some true) (fun k => ?_) (Ev.now _)
    simp only [impl_IsAlphabet.l0]
    rw [if_neg (by omega)]
  · intro i hi hp R hR
    have hsi := hr.small hi
    rw [Bool.and_eq_true, decide_eq_true_eq, getD_eq hi, getD_eq (by omega)] at hp
    refine Ev.step (fun k => ?_) hR
    simp only [impl_IsAlphabet.l0]
    rw [if_pos (by omega), if_pos (by omega), if_pos (by rw [ints_length]; omega), if_pos (by rw [ints_length]; omega), rd_ints (by omega), rd_ints hi, hp.1, if_pos rfl, has_eq (by omega), Option.bind_some, hp.2, if_pos rfl, wrap_id (by omega) (by omega)]
    rfl
  · intro i hi hp
    have hsi := hr.small hi
    refine Ev.step (f := fun _ => some false) (fun k => ?_) (Ev.now _)
    simp only [impl_IsAlphabet.l0]
    rw [getD_eq hi, getD_eq (by omega)] at hp
    rw [if_pos (by omega), if_pos (by omega), if_pos (by rw [ints_length]; omega), if_pos (by rw [ints_length]; omega), rd_ints (by omega), rd_ints hi]
    by_cases e : (conv r)[i]'(by omega) = r[i]
    · rw [e, decide_eq_true rfl, Bool.true_and] at hp
      rw [e, if_pos rfl, has_eq (by omega), Option.bind_some, hp, if_neg (by simp)]
    · rw [if_neg (by omega)]
theorem implIsAlphabet_ev (n : Int) (l : List Int) : Ev (fun k => impl_IsAlphabet.f k n l) (isA n l) := by
  unfold isA
  by_cases h1 : 0 ≤ n ∧ n ≤ 8
  · by_cases h2 : (l.length : Int) = n
    · subst h2
      have e : ∀ k, impl_IsAlphabet.f k (l.length : Int) l = impl_IsAlphabet.j0 k (!isRel l) (l.length : Int) l := by
        intro k
        unfold impl_IsAlphabet.f impl_length_int64.f
        rw [inRange_eq, Option.bind_some, if_pos (by simpa using h1), Option.bind_some, if_pos rfl, implIsRelation_eq, Option.bind_some]
      refine Ev.congr e ?_
      have hrel : isRel l = l.all (isM l.length) := by
        unfold isRel
        rw [decide_eq_true (by omega), Bool.true_and]
      rw [hrel]
      cases h3 : l.all (isM l.length)
      · refine Ev.step (f := fun _ => some false) (fun k => ?_) ?_
        · simp only [impl_IsAlphabet.j0]; simp
        · simp; exact Ev.now _
      · obtain ⟨r, rfl, hr⟩ := masks_nat h3
        rw [ints_length] at hr h1
        have hrn : IsRelN r := ⟨by omega, hr⟩
        rw [toNat_ints, ints_length]
        have := implIs_loop hrn
        have hb : Ev (fun k => (impl_converse.f k (ints r)).bind fun t => impl_IsAlphabet.l0 k t (t.length : Int) 0 (r.length : Int) (ints r)) (symB r) := by
          refine Ev.bind (converse_ev hrn) ?_
          rw [ints_length, conv_length]
          exact this
        refine Ev.step (fun k => ?_) (by simpa [h1] using hb)
        simp only [impl_IsAlphabet.j0]
        simp
    · refine Ev.congr (f := fun k => impl_IsAlphabet.j0 k true n l) (fun k => ?_) ?_
      · unfold impl_IsAlphabet.f impl_length_int64.f
        rw [inRange_eq, Option.bind_some, if_pos (by simpa using h1), Option.bind_some, if_neg h2]
      · refine Ev.step (f := fun _ => some false) (fun k => ?_) (by simp [h2]; exact Ev.now _)
        simp only [impl_IsAlphabet.j0]; simp
  · refine Ev.congr (f := fun k => impl_IsAlphabet.j0 k true n l) (fun k => ?_) ?_
    · unfold impl_IsAlphabet.f
      rw [inRange_eq, Option.bind_some, if_neg (by simpa using h1)]
    · refine Ev.step (f := fun _ => some false) (fun k => ?_) (by simp [h1]; exact Ev.now _)
      simp only [impl_IsAlphabet.j0]; simp
/-- What AreDependent returns. -/
def areDependentOf (n : Int) (l : List Int) (a b : Int) : Bool × Int := if isA n l then (if 0 ≤ a ∧ a ≤ n - 1 then (if 0 ≤ b ∧ b ≤ n - 1 then ((l.getD a.toNat 0).toNat.testBit b.toNat, 0) else (false, 2)) else (false, 2)) else (false, 1)
theorem getD_ints (r : List Nat) (i : Nat) : (ints r).getD i 0 = ((r.getD i 0 : Nat) : Int) := by
  unfold ints
  rcases Nat.lt_or_ge i r.length with h | h
  · simp [h]
  · simp [List.getD_eq_getElem?_getD, h]
theorem specAreDependent_ev (n : Int) (l : List Int) (a b : Int) : Ev (fun k => spec_AreDependent.f k n l a b) (areDependentOf n l a b) := by
  unfold areDependentOf spec_AreDependent.f
  refine Ev.bind (l02Is_ev n l) ?_
  by_cases h : isA n l = true
  · rw [if_pos h, if_pos h]
    obtain ⟨r, rfl, rfl, hr⟩ := isA_nat h
    have := hr.len8
    rw [l01In_eq, l01In_eq, wrap_id (by omega) (by omega), Option.bind_some, Option.bind_some]
    by_cases ha : 0 ≤ a ∧ a ≤ (r.length : Int) - 1
    · rw [if_pos (by simpa using ha), if_pos ha]
      by_cases hb : 0 ≤ b ∧ b ≤ (r.length : Int) - 1
      · rw [if_pos (by simpa using hb), if_pos hb]
        obtain ⟨i, rfl⟩ := Int.eq_ofNat_of_zero_le ha.1
        obtain ⟨j, rfl⟩ := Int.eq_ofNat_of_zero_le hb.1
        have hi : i < r.length := by omega
        have hs := hr.toIsRelN.small hi
        unfold spec_l02Dep.f
        rw [if_pos (by omega), if_pos (by rw [ints_length]; omega), rd_ints hi, l01Bit_eq (by omega) (by omega), Option.bind_some, Option.bind_some, Int.toNat_natCast, Int.toNat_natCast, getD_ints, Int.toNat_natCast, getD_eq hi]
        exact Ev.now _
      · rw [if_neg (by simpa using hb), if_neg hb]
        exact Ev.now _
    · rw [if_neg (by simpa using ha), if_neg ha]
      exact Ev.now _
  · rw [if_neg h, if_neg h]
    exact Ev.now _
theorem implAreDependent_ev (n : Int) (l : List Int) (a b : Int) : Ev (fun k => impl_AreDependent.f k n l a b) (areDependentOf n l a b) := by
  unfold areDependentOf impl_AreDependent.f
  refine Ev.bind (implIsAlphabet_ev n l) ?_
  by_cases h : isA n l = true
  · rw [if_pos h, if_pos h]
    obtain ⟨r, rfl, rfl, hr⟩ := isA_nat h
    have := hr.len8
    unfold impl_isLetter.f
    rw [inRange_eq, inRange_eq, wrap_id (by omega) (by omega), Option.bind_some, Option.bind_some, Option.bind_some, Option.bind_some]
    by_cases ha : 0 ≤ a ∧ a ≤ (r.length : Int) - 1
    · rw [if_pos (by simpa using ha), if_pos ha]
      by_cases hb : 0 ≤ b ∧ b ≤ (r.length : Int) - 1
      · rw [if_pos (by simpa using hb), if_pos hb]
        obtain ⟨i, rfl⟩ := Int.eq_ofNat_of_zero_le ha.1
        obtain ⟨j, rfl⟩ := Int.eq_ofNat_of_zero_le hb.1
        have hi : i < r.length := by omega
        have hs := hr.toIsRelN.small hi
        unfold impl_depend.f
        rw [if_pos (by omega), if_pos (by rw [ints_length]; omega), rd_ints hi, has_eq (by omega), Option.bind_some, Option.bind_some, Int.toNat_natCast, Int.toNat_natCast, getD_ints, Int.toNat_natCast, getD_eq hi]
        exact Ev.now _
      · rw [if_neg (by simpa using hb), if_neg hb]
        exact Ev.now _
    · rw [if_neg (by simpa using ha), if_neg ha]
      exact Ev.now _
  · rw [if_neg h, if_neg h]
    exact Ev.now _
end Go.Proofs.YtpllljngjphihaaDoor.T
