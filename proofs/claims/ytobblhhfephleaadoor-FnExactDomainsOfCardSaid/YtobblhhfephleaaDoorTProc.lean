/- Processes: the code, the domains, the alphabet of some processes. -/
import Derived.Test.YtobblhhfephleaaDoorTWords
import Derived.Test.YtobblhhfephleaaDoorTAlph
import Derived.Test.YtobblhhfephleaaDoorGI01
import Derived.Test.YtobblhhfephleaaDoorGI02
import Derived.Test.YtobblhhfephleaaDoorGS01a
import Derived.Test.YtobblhhfephleaaDoorGS02
namespace Go.Proofs.YtobblhhfephleaaDoor.T
set_option linter.unusedVariables false
set_option linter.unusedSimpArgs false
open Go Go.RowKit Go.Proofs.YtobblhhfephleaaDoorW.PrintWords Go.Proofs.YtobblhhfephleaaDoorW.PrintMore Go.Proofs.YtobblhhfephleaaDoor.G

def procOk (n : Int) (l : List Int) : Bool := decide (0 ≤ n ∧ n ≤ 8) && l.all (isM n.toNat)
/-- The code for processes. -/
def procCode (n : Int) (l : List Int) : Int := if procOk n l then (if (l.length : Int) > 16 then 3 else 0) else 2
theorem specProcesses_ev (n : Int) (l : List Int) (hl : l.length < 4611686018427387904) : Ev (fun k => spec_l02Processes.f k n l) (procCode n l) := by
  unfold procCode procOk
  by_cases h1 : 0 ≤ n ∧ n ≤ 8
  · obtain ⟨m, rfl⟩ := Int.eq_ofNat_of_zero_le h1.1
    have hm := l01Masks_ev m (by omega) l hl
    have e : ∀ k, spec_l02Processes.f k (m : Int) l = (spec_l01Masks.f k (m : Int) l).bind fun t => spec_l02Processes.j0 k l (!t) := by
      intro k
      unfold spec_l02Processes.f
      rw [l01In_eq, Option.bind_some, if_pos (by simpa using h1)]
    refine Ev.congr e ?_
    refine Ev.bind hm ?_
    rw [Int.toNat_natCast, decide_eq_true h1, Bool.true_and]
    refine Ev.step (f := fun _ => some (if l.all (isM m) = true then (if (l.length : Int) > 16 then 3 else 0) else 2)) (fun k => ?_) (Ev.now _)
    simp only [spec_l02Processes.j0]
    cases l.all (isM m) <;> simp
    split <;> rfl
  · refine Ev.step (f := fun _ => some 2) (g := fun k => spec_l02Processes.f k n l) (fun k => ?_) (by simp [h1]; exact Ev.now _)
    unfold spec_l02Processes.f
    rw [l01In_eq, Option.bind_some, if_neg (by simpa using h1)]
    simp only [spec_l02Processes.j0]
    simp
theorem checkProcesses_ev (n : Int) (l : List Int) : Ev (fun k => impl_checkProcesses.f k n l) (procCode n l) := by
  unfold procCode procOk
  by_cases h1 : 0 ≤ n ∧ n ≤ 8
  · obtain ⟨m, rfl⟩ := Int.eq_ofNat_of_zero_le h1.1
    rw [Int.toNat_natCast, decide_eq_true h1, Bool.true_and]
    refine Ev.step (f := fun _ => some (if l.all (isM m) = true then (if (l.length : Int) > 16 then 3 else 0) else 2)) (g := fun k => impl_checkProcesses.f k (m : Int) l) (fun k => ?_) (Ev.now _)
    have e : (l.all fun x => decide (0 ≤ x ∧ x ≤ ((2 ^ m - 1 : Nat) : Int))) = l.all (isM m) := rfl
    unfold impl_checkProcesses.f
    rw [inRange_eq, Option.bind_some, if_pos (by simpa using h1), one_eq (by omega), Option.bind_some, wrap_pow (by omega), allIn_eq, Option.bind_some, e]
    simp only [impl_checkProcesses.j0]
    cases l.all (isM m) <;> simp
    split <;> rfl
  · refine Ev.step (f := fun _ => some 2) (g := fun k => impl_checkProcesses.f k n l) (fun k => ?_) (by simp [h1]; exact Ev.now _)
    unfold impl_checkProcesses.f
    rw [inRange_eq, Option.bind_some, if_neg (by simpa using h1)]
    simp only [impl_checkProcesses.j0]
    simp
/-- Processes as sets. -/
structure IsPr (n : Nat) (r : List Nat) : Prop where
  len : r.length ≤ 16
  n8 : n ≤ 8
  lt : ∀ x ∈ r, x < 2 ^ n
theorem IsPr.small {n : Nat} {r : List Nat} (h : IsPr n r) {i : Nat} (hi : i < r.length) : r[i] < 256 := by
  have := h.lt _ (List.getElem_mem hi)
  have h2 : 2 ^ n ≤ 2 ^ 8 := Nat.pow_le_pow_right (by decide) h.n8
  have e : 2 ^ 8 = 256 := by decide
  omega
theorem procCode_nat {n : Int} {l : List Int} (h : procCode n l = 0) : ∃ (m : Nat) (r : List Nat), n = (m : Int) ∧ l = ints r ∧ IsPr m r := by
  unfold procCode at h
  by_cases h1 : procOk n l = true
  · rw [if_pos h1] at h
    unfold procOk at h1
    rw [Bool.and_eq_true, decide_eq_true_eq] at h1
    obtain ⟨m, rfl⟩ := Int.eq_ofNat_of_zero_le h1.1.1
    obtain ⟨r, rfl, hr⟩ := masks_nat h1.2
    rw [ints_length] at h
    refine ⟨m, r, rfl, rfl, ?_, by omega, hr⟩
    split at h
    · simp at h
    · omega
  · rw [if_neg h1] at h
    simp at h
/-- The domains of the letters, of the first i processes. -/
def domTo (r : List Nat) (n i : Nat) : List Nat := (List.range n).map fun k => col r k i
theorem domTo_length (r : List Nat) (n i : Nat) : (domTo r n i).length = n := by simp [domTo]
theorem specDomains_inner {n : Nat} {r : List Nat} (h : IsPr n r) (out : List Int) (i : Nat) (hi : i < n) (ho : out.length < 1000) {R : List Int × Int} (hx : Ev (fun k => spec_DomainsOf.l0 k (n : Int) (ints r) (out ++ [((col r i r.length : Nat) : Int)]) ((i + 1 : Nat) : Int)) R) : Ev (fun k => spec_DomainsOf.l1 k (n : Int) (ints r) out (i : Int) 0 0) R := by
  have hlen := h.len
  have hn := h.n8
  refine loop_ev r.length (fun j k => spec_DomainsOf.l1 k (n : Int) (ints r) out (i : Int) ((col r i j : Nat) : Int) (j : Int)) ?_ ?_
  · refine Ev.step (fun k => ?_) hx
    simp only [spec_DomainsOf.l1]
    rw [if_neg (by rw [ints_length]; omega), if_pos (by omega), wrap_id (by omega) (by omega)]
    rfl
  · intro j hj ih
    refine Ev.step (fun k => ?_) ih
    have hs := h.small hj
    simp only [spec_DomainsOf.l1]
    have hc : col r i j < 2 ^ j := setOf_lt _ _
    have hp := pow_24 (n := j) (by omega)
    rw [if_pos (by rw [ints_length]; omega), if_pos (by omega), rd_ints hj, l01Bit_eq (by omega) (by omega), Option.bind_some, wrap_id (x := (j : Int) + 1) (by omega) (by omega), col_succ r i j hj]
    cases r[j].testBit i
    · rfl
    · rw [if_pos rfl, l01One_eq (by omega), Option.bind_some, bor (by omega) (by omega)]
      rfl
theorem specDomains_loop {n : Nat} {r : List Nat} (h : IsPr n r) : Ev (fun k => spec_DomainsOf.l0 k (n : Int) (ints r) [] 0) (ints (domTo r n r.length), 0) := by
  have hlen := h.len
  have hn := h.n8
  refine loop_ev n (fun i k => spec_DomainsOf.l0 k (n : Int) (ints r) (ints ((List.range i).map fun i => col r i r.length)) (i : Int)) ?_ ?_
  · refine Ev.step (f := fun _ => some (ints (domTo r n r.length), 0)) (fun k => ?_) (Ev.now _)
    simp only [spec_DomainsOf.l0]
    rw [if_neg (by omega)]
    rfl
  · intro i hi ih
    refine Ev.step (fun k => ?_) (specDomains_inner h (ints ((List.range i).map fun i => col r i r.length)) i hi (by rw [ints_length, List.length_map, List.length_range]; omega) (R := (ints (domTo r n r.length), 0)) ?_)
    · simp only [spec_DomainsOf.l0]
      rw [if_pos (by omega)]
    · rw [List.range_succ, List.map_append, ints_append] at ih
      exact ih
theorem or_small {a b n : Nat} (ha : a < 2 ^ n) (hb : b < 2 ^ n) : a ||| b < 2 ^ n := Nat.or_lt_two_pow ha hb
theorem domains_inner {n : Nat} {r : List Nat} (h : IsPr n r) (i : Nat) (hi : i < r.length) : ∀ (ms pre out : List Nat) {R : List Int}, (∀ m ∈ ms, m < out.length) → out.length ≤ 24 → (∀ x ∈ out, x < 2 ^ 24) → pre.length + ms.length ≤ 100 →
    Ev (fun k => impl_domainsOf.l0 k (ints (marks out (2 ^ i) ms)) (ints r) (r.length : Int) ((i + 1 : Nat) : Int)) R →
    Ev (fun k => impl_domainsOf.l1 k (ints out) (i : Int) (ints r) (r.length : Int) (i : Int) (ints (pre ++ ms)) ((pre ++ ms).length : Int) (pre.length : Int)) R
  | [], pre, out, R, hm, hl, hb, hp, hx => by
    refine Ev.step (fun k => ?_) hx
    have := h.len
    simp only [impl_domainsOf.l1]
    rw [if_neg (by simp), wrap_id (by omega) (by omega)]
    rfl
  | m :: ms, pre, out, R, hm, hl, hb, hp, hx => by
    have := h.len
    have hm0 := hm m List.mem_cons_self
    rw [List.length_cons] at hp
    have hg := getD_lt hb (Nat.two_pow_pos _) m
    have h2 := two_pow_lt (i := i) (n := 24) (by omega)
    have ho := or_small hg h2
    have ih := domains_inner h i hi ms (pre ++ [m]) (out.set m (out.getD m 0 ||| 2 ^ i)) (R := R) (by intro x hx; rw [List.length_set]; exact hm x (List.mem_cons_of_mem _ hx)) (by rw [List.length_set]; exact hl)
      (by intro x hx
          rcases List.mem_or_eq_of_mem_set hx with h1 | h1
          · exact hb x h1
          · subst h1; exact ho) (by rw [List.length_append, List.length_singleton]; omega) hx
    rw [List.append_assoc, List.singleton_append, @List.length_append _ pre [m], List.length_singleton] at ih
    have e24 : 2 ^ 24 = 16777216 := by decide
    refine Ev.step (fun k => ?_) ih
    simp only [impl_domainsOf.l1]
    have hpl : pre.length < (pre ++ m :: ms).length := by simp
    have hrd : rd (ints (pre ++ m :: ms)) (pre.length : Int) = (m : Int) := by
      rw [rd_ints hpl]
      simp
    rw [if_pos (by omega), if_pos (by omega), if_pos (by rw [ints_length]; omega), hrd, if_pos (by omega), if_pos (by rw [ints_length]; omega), one_eq (by omega), Option.bind_some, rd_ints hm0, Int.toNat_natCast, wrap_id (by omega) (by omega), ← getD_eq hm0, bor (by omega) (by omega), ints_set]
    rfl
theorem mem_bitsL_iff {m j : Nat} (hm : m < 2 ^ 64) : j ∈ bitsL m ↔ m.testBit j = true := by
  unfold bitsL
  rw [List.mem_filter, List.mem_range]
  constructor
  · exact fun h => h.2
  · intro h
    refine ⟨?_, h⟩
    rcases Nat.lt_or_ge j 64 with h1 | h1
    · exact h1
    · rw [Nat.testBit_lt_two_pow (Nat.lt_of_lt_of_le hm (Nat.pow_le_pow_right (by decide) h1))] at h
      cases h
theorem bit_lt {m n j : Nat} (hm : m < 2 ^ n) (h : m.testBit j = true) : j < n := by
  rcases Nat.lt_or_ge j n with h1 | h1
  · exact h1
  · rw [Nat.testBit_lt_two_pow (Nat.lt_of_lt_of_le hm (Nat.pow_le_pow_right (by decide) h1))] at h
    cases h
theorem domTo_succ {n : Nat} {r : List Nat} (h : IsPr n r) {i : Nat} (hi : i < r.length) : marks (domTo r n i) (2 ^ i) (bitsL r[i]) = domTo r n (i + 1) := by
  apply List.ext_getElem
  · rw [marks_length, domTo_length, domTo_length]
  · intro j h1 h2
    have hj : j < n := by rw [marks_length, domTo_length] at h1; exact h1
    rw [← getD_eq h1, marks_get _ _ _ _ (by rw [domTo_length]; exact hj)]
    have e1 : (domTo r n i).getD j 0 = col r j i := by simp [domTo, hj]
    have hs := h.small hi
    rw [e1]
    simp only [domTo, List.getElem_map, List.getElem_range]
    rw [col_succ r j i hi]
    have e64 : 2 ^ 64 = 18446744073709551616 := by decide
    have := mem_bitsL_iff (m := r[i]) (j := j) (by omega)
    by_cases hb : r[i].testBit j = true
    · rw [if_pos (this.2 hb), if_pos hb]
    · rw [if_neg (fun h => hb (this.1 h)), if_neg hb]
theorem domainsOf_ev {n : Nat} {r : List Nat} (h : IsPr n r) : Ev (fun k => impl_domainsOf.f k (n : Int) (ints r)) (ints (domTo r n r.length)) := by
  have hlen := h.len
  have hn := h.n8
  have : Ev (fun k => impl_domainsOf.l0 k (ints (domTo r n 0)) (ints r) (r.length : Int) (0 : Nat)) (ints (domTo r n r.length)) := by
    refine loop_ev r.length (fun i k => impl_domainsOf.l0 k (ints (domTo r n i)) (ints r) (r.length : Int) (i : Int)) ?_ ?_
    · refine Ev.step (f := fun _ => some (ints (domTo r n r.length))) (fun k => ?_) (Ev.now _)
      simp only [impl_domainsOf.l0]
      rw [if_neg (by omega)]
    · intro i hi ih
      have hs := h.small hi
      have hbl := bitsL_length r[i]
      have hin := domains_inner h i hi (bitsL r[i]) [] (domTo r n i) (R := ints (domTo r n r.length)) (by
          intro m hm
          rw [mem_bitsL_iff (by have e64 : 2 ^ 64 = 18446744073709551616 := by decide
                                omega)] at hm
          rw [domTo_length]
          exact bit_lt (h.lt _ (List.getElem_mem hi)) hm) (by rw [domTo_length]; omega) (by
          intro x hx
          unfold domTo at hx
          rw [List.mem_map] at hx
          obtain ⟨j, _, rfl⟩ := hx
          exact Nat.lt_of_lt_of_le (setOf_lt _ _) (Nat.pow_le_pow_right (by decide) (by omega))) (by simp; omega) (by rw [domTo_succ h hi]; exact ih)
      rw [List.nil_append] at hin
      have hb : Ev (fun k => (impl_members.f k ((r[i] : Nat) : Int)).bind fun t => impl_domainsOf.l1 k (ints (domTo r n i)) (i : Int) (ints r) (r.length : Int) (i : Int) t (t.length : Int) 0) (ints (domTo r n r.length)) := by
        refine Ev.bind (members_ev (by omega)) ?_
        rw [ints_length]
        exact hin
      refine Ev.step (fun k => ?_) hb
      simp only [impl_domainsOf.l0]
      rw [if_pos (by omega), if_pos (by omega), if_pos (by rw [ints_length]; omega), rd_ints hi]
  refine Ev.congr (fun k => ?_) this
  unfold impl_domainsOf.f
  rw [ints_length, if_pos (by omega), Int.toNat_natCast, if_pos (by omega), ints_replicate]
  congr 2
  unfold domTo
  apply List.ext_getElem <;> simp [col, setOf]
/-- What DomainsOf returns. -/
def domainsOfR (n : Int) (l : List Int) : List Int × Int := if procCode n l = 0 then (ints (domTo (l.map Int.toNat) n.toNat l.length), 0) else ([], procCode n l)
theorem specDomainsOf_ev (n : Int) (l : List Int) (hl : l.length < 4611686018427387904) : Ev (fun k => spec_DomainsOf.f k n l) (domainsOfR n l) := by
  unfold spec_DomainsOf.f domainsOfR
  refine Ev.bind (specProcesses_ev n l hl) ?_
  by_cases h : procCode n l = 0
  · rw [if_pos h]
    simp only [if_pos h]
    obtain ⟨m, r, rfl, rfl, hr⟩ := procCode_nat h
    rw [toNat_ints, Int.toNat_natCast, ints_length]
    exact specDomains_loop hr
  · rw [if_neg h]
    simp only [if_neg h]
    exact Ev.now _
theorem implDomainsOf_ev (n : Int) (l : List Int) : Ev (fun k => impl_DomainsOf.f k n l) (domainsOfR n l) := by
  unfold impl_DomainsOf.f domainsOfR
  refine Ev.bind (checkProcesses_ev n l) ?_
  by_cases h : procCode n l = 0
  · rw [if_pos h]
    simp only [if_pos h]
    obtain ⟨m, r, rfl, rfl, hr⟩ := procCode_nat h
    rw [toNat_ints, Int.toNat_natCast, ints_length]
    exact Ev.bind (domainsOf_ev hr) (Ev.now _)
  · rw [if_neg h]
    simp only [if_neg h]
    exact Ev.now _
theorem domainsOfR_length (n : Int) (l : List Int) : (domainsOfR n l).1.length ≤ 24 := by
  unfold domainsOfR
  by_cases h : procCode n l = 0
  · rw [if_pos h]
    obtain ⟨m, r, rfl, rfl, hr⟩ := procCode_nat h
    have := hr.n8
    rw [toNat_ints, ints_length, domTo_length, Int.toNat_natCast]
    omega
  · rw [if_neg h]; simp
end Go.Proofs.YtobblhhfephleaaDoor.T
