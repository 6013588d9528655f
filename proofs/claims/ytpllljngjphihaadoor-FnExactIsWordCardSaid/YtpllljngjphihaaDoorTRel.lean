/- Relations as lists of natural numbers; sets made of a condition; the converse of a relation, as reference and program compute it. -/
import Derived.Test.YtpllljngjphihaaDoorTMembers
import Derived.Test.YtpllljngjphihaaDoorGI01a
import Derived.Test.YtpllljngjphihaaDoorGI01b
import Derived.Test.YtpllljngjphihaaDoorGS01a
import Derived.Test.YtpllljngjphihaaDoorGS01b
namespace Go.Proofs.YtpllljngjphihaaDoor.T
set_option linter.unusedVariables false
set_option linter.unusedSimpArgs false
open Go Go.RowKit Go.Proofs.YtpllljngjphihaaDoorW.PrintWords Go.Proofs.YtpllljngjphihaaDoorW.PrintMore Go.Proofs.YtpllljngjphihaaDoor.G

/-- A loop that counts up to n. -/
theorem loop_ev {α : Type} (n : Nat) (G : Nat → Nat → Option α) {r : α} (hn : Ev (G n) r) (hs : ∀ i, i < n → Ev (G (i + 1)) r → Ev (G i) r) : Ev (G 0) r := by
  have : ∀ d i, i + d = n → Ev (G i) r := by
    intro d
    induction d with
    | zero => intro i h; obtain rfl : i = n := by omega
              exact hn
    | succ d ih => intro i h; exact hs i (by omega) (ih (i + 1) (by omega))
  exact this n 0 (by omega)
/-- The set of the numbers below n that meet a condition. -/
def setOf : Nat → (Nat → Bool) → Nat
  | 0, _ => 0
  | n + 1, p => if p n then setOf n p ||| 2 ^ n else setOf n p
theorem testBit_setOf (p : Nat → Bool) : ∀ (n i : Nat), (setOf n p).testBit i = (decide (i < n) && p i)
  | 0, i => by simp [setOf]
  | n + 1, i => by
    unfold setOf
    by_cases h : p n = true
    · rw [if_pos h, Nat.testBit_or, testBit_setOf p n i, Nat.testBit_two_pow]
      by_cases e : n = i
      · subst e; simp [h]
      · have : (i < n + 1) ↔ (i < n) := by omega
        simp [e, this]
    · rw [if_neg h, testBit_setOf p n i]
      by_cases e : n = i
      · subst e; simp [h]
      · have : (i < n + 1) ↔ (i < n) := by omega
        simp [this]
theorem setOf_lt (p : Nat → Bool) (n : Nat) : setOf n p < 2 ^ n := by
  apply Nat.lt_pow_two_of_testBit
  intro i hi
  rw [testBit_setOf]
  simp; omega
theorem setOf_congr {n : Nat} {p q : Nat → Bool} (h : ∀ i, i < n → p i = q i) : setOf n p = setOf n q := by
  apply Nat.eq_of_testBit_eq
  intro i
  rw [testBit_setOf, testBit_setOf]
  by_cases hi : i < n
  · rw [h i hi]
  · simp [hi]
theorem two_pow_lt {i n : Nat} (h : i < n) : 2 ^ i < 2 ^ n := Nat.pow_lt_pow_right (by decide) h
theorem pow_62 {n : Nat} (h : n ≤ 62) : 2 ^ n ≤ 4611686018427387904 := by
  have : 2 ^ n ≤ 2 ^ 62 := Nat.pow_le_pow_right (by decide) h
  have e : 2 ^ 62 = 4611686018427387904 := by decide
  omega
theorem pow_24 {n : Nat} (h : n ≤ 24) : 2 ^ n ≤ 16777216 := by
  have : 2 ^ n ≤ 2 ^ 24 := Nat.pow_le_pow_right (by decide) h
  have e : 2 ^ 24 = 16777216 := by decide
  omega
/-- A relation as a list of sets. -/
structure IsRelN (r : List Nat) : Prop where
  len : r.length ≤ 24
  lt : ∀ x ∈ r, x < 2 ^ r.length
theorem IsRelN.small {r : List Nat} (h : IsRelN r) {i : Nat} (hi : i < r.length) : r[i] < 16777216 := by
  have := h.lt _ (List.getElem_mem hi)
  have := pow_24 h.len
  omega
theorem IsRelN.bit {r : List Nat} (h : IsRelN r) {i j : Nat} (hi : i < r.length) (hj : r[i].testBit j = true) : j < r.length := by
  rcases Nat.lt_or_ge j r.length with h1 | h1
  · exact h1
  · rw [Nat.testBit_lt_two_pow (Nat.lt_of_lt_of_le (h.lt _ (List.getElem_mem hi)) (Nat.pow_le_pow_right (by decide) h1))] at hj
    cases hj
theorem ints_surj {l : List Int} : (∀ x ∈ l, 0 ≤ x) → ∃ r : List Nat, l = ints r := by
  induction l with
  | nil => exact fun _ => ⟨[], rfl⟩
  | cons a t ih =>
    intro h
    obtain ⟨r, rfl⟩ := ih (fun x hx => h x (List.mem_cons_of_mem _ hx))
    obtain ⟨n, rfl⟩ := Int.eq_ofNat_of_zero_le (h a List.mem_cons_self)
    exact ⟨n :: r, rfl⟩
theorem mem_ints {r : List Nat} {x : Int} : x ∈ ints r ↔ ∃ n ∈ r, x = (n : Int) := by
  unfold ints
  rw [List.mem_map]
  constructor
  · rintro ⟨n, h1, rfl⟩; exact ⟨n, h1, rfl⟩
  · rintro ⟨n, h1, rfl⟩; exact ⟨n, h1, rfl⟩
theorem isRel_nat {l : List Int} (h : isRel l = true) : ∃ r : List Nat, l = ints r ∧ IsRelN r := by
  unfold isRel at h
  rw [Bool.and_eq_true] at h
  have h1 := of_decide_eq_true h.1
  have h2 := List.all_eq_true.1 h.2
  obtain ⟨r, rfl⟩ := ints_surj (l := l) (fun x hx => (of_decide_eq_true (h2 x hx)).1)
  rw [ints_length] at h1 h2
  refine ⟨r, rfl, h1, fun x hx => ?_⟩
  have h3 := of_decide_eq_true (h2 (x : Int) (mem_ints.2 ⟨x, hx, rfl⟩))
  have := Nat.two_pow_pos r.length
  omega
theorem rd_ints {r : List Nat} {i : Nat} (h : i < r.length) : rd (ints r) (i : Int) = ((r[i] : Nat) : Int) := by
  rw [rd_nat (by rw [ints_length]; exact h)]
  simp [ints]
theorem ints_set (r : List Nat) (i x : Nat) : (ints r).set i (x : Int) = ints (r.set i x) := by
  unfold ints
  rw [List.map_set]
theorem ints_replicate (n : Nat) : List.replicate n (0 : Int) = ints (List.replicate n 0) := by
  unfold ints
  rw [List.map_replicate]
  rfl
theorem l01Bit_eq {m i : Nat} (hm : m < 9223372036854775808) (hi : i < 9223372036854775808) : spec_l01Bit.f (m : Int) (i : Int) = some (m.testBit i) := by
  unfold spec_l01Bit.f
  rw [u64_id (by omega) (by omega), if_pos (by omega), shr_and_one hm]
  cases m.testBit i <;> rfl
theorem has_eq {m i : Nat} (hm : m < 9223372036854775808) : impl_has.f (m : Int) (i : Int) = some (m.testBit i) := by
  unfold impl_has.f
  rw [if_pos (by omega), shr_and_one hm]
  cases m.testBit i <;> rfl
/-- A row of the converse: the elements that are related to i. -/
def col (r : List Nat) (i n : Nat) : Nat := setOf n fun k => (r.getD k 0).testBit i
def conv (r : List Nat) : List Nat := (List.range r.length).map fun i => col r i r.length
theorem conv_length (r : List Nat) : (conv r).length = r.length := by unfold conv; simp
theorem conv_get (r : List Nat) (i : Nat) (h : i < (conv r).length) : (conv r)[i] = col r i r.length := by
  simp [conv]
theorem conv_bit {r : List Nat} {i j : Nat} (hi : i < r.length) (hj : j < r.length) : ((conv r)[i]'(by rw [conv_length]; exact hi)).testBit j = (r[j]).testBit i := by
  rw [conv_get]
  unfold col
  rw [testBit_setOf]
  simp [hj]
theorem conv_rel {r : List Nat} (h : IsRelN r) : IsRelN (conv r) := by
  refine ⟨by rw [conv_length]; exact h.len, fun x hx => ?_⟩
  rw [conv_length]
  unfold conv at hx
  rw [List.mem_map] at hx
  obtain ⟨i, _, rfl⟩ := hx
  exact setOf_lt _ _
theorem getD_eq {r : List Nat} {i : Nat} (h : i < r.length) : r.getD i 0 = r[i] := by simp [h]
theorem col_succ (r : List Nat) (i k : Nat) (hk : k < r.length) : col r i (k + 1) = if r[k].testBit i then col r i k ||| 2 ^ k else col r i k := by
  unfold col
  rw [setOf, getD_eq hk]
theorem l01Converse_inner {r : List Nat} (h : IsRelN r) (out : List Int) (i : Nat) (hi : i < r.length) (ho : out.length < 1000) {R : List Int} (hx : Ev (fun k => spec_l01Converse.l0 k (ints r) (out ++ [((col r i r.length : Nat) : Int)]) ((i + 1 : Nat) : Int)) R) : Ev (fun k => spec_l01Converse.l1 k (ints r) out (i : Int) 0 0) R := by
  have hlen := h.len
  refine loop_ev r.length (fun j k => spec_l01Converse.l1 k (ints r) out (i : Int) ((col r i j : Nat) : Int) (j : Int)) ?_ ?_
  · refine Ev.step (fun k => ?_) hx
    simp only [spec_l01Converse.l1]
    rw [if_neg (by rw [ints_length]; omega), if_pos (by omega), wrap_id (by omega) (by omega)]
    rfl
  · intro j hj ih
    refine Ev.step (fun k => ?_) ih
    have hs := h.small hj
    simp only [spec_l01Converse.l1]
    have hc : col r i j < 2 ^ j := setOf_lt _ _
    have hp := pow_24 (n := j) (by omega)
    rw [if_pos (by rw [ints_length]; omega), if_pos (by omega), rd_ints hj, l01Bit_eq (by omega) (by omega), Option.bind_some, wrap_id (x := (j : Int) + 1) (by omega) (by omega), col_succ r i j hj]
    cases r[j].testBit i
    · rfl
    · rw [if_pos rfl, l01One_eq (by omega), Option.bind_some, bor (by omega) (by omega)]
      rfl
theorem l01Converse_ev {r : List Nat} (h : IsRelN r) : Ev (fun k => spec_l01Converse.f k (ints r)) (ints (conv r)) := by
  have hlen := h.len
  have : Ev (fun k => spec_l01Converse.l0 k (ints r) [] (0 : Nat)) (ints (conv r)) := by
    refine loop_ev r.length (fun i k => spec_l01Converse.l0 k (ints r) (ints ((List.range i).map fun i => col r i r.length)) (i : Int)) ?_ ?_
    · refine Ev.step (f := fun _ => some (ints (conv r))) (fun k => ?_) (Ev.now _)
      simp only [spec_l01Converse.l0]
      rw [if_neg (by rw [ints_length]; omega)]
      rfl
    · intro i hi ih
      refine Ev.step (fun k => ?_) (l01Converse_inner h (ints ((List.range i).map fun i => col r i r.length)) i hi (by rw [ints_length, List.length_map, List.length_range]; omega) (R := ints (conv r)) ?_)
      · simp only [spec_l01Converse.l0]
        rw [if_pos (by rw [ints_length]; omega)]
      · rw [List.range_succ, List.map_append, ints_append] at ih
        exact ih
  exact Ev.congr (fun k => rfl) this
/-- The members of a list get a mark. -/
def marks (out : List Nat) (b : Nat) (ms : List Nat) : List Nat := ms.foldl (fun o m => o.set m (o.getD m 0 ||| b)) out
theorem marks_length (b : Nat) : ∀ (ms out : List Nat), (marks out b ms).length = out.length
  | [], out => rfl
  | m :: ms, out => by
    show (marks (out.set m (out.getD m 0 ||| b)) b ms).length = _
    rw [marks_length b ms, List.length_set]
theorem marks_get (b : Nat) : ∀ (ms out : List Nat) (j : Nat), j < out.length → (marks out b ms).getD j 0 = if j ∈ ms then out.getD j 0 ||| b else out.getD j 0
  | [], out, j, h => by simp [marks]
  | m :: ms, out, j, h => by
    show (marks (out.set m (out.getD m 0 ||| b)) b ms).getD j 0 = _
    rw [marks_get b ms _ j (by rw [List.length_set]; exact h)]
    by_cases e : m = j
    · subst e
      have : (out.set m (out.getD m 0 ||| b)).getD m 0 = out.getD m 0 ||| b := by
        simp [List.getD_eq_getElem?_getD, List.getElem?_set, h]
      rw [this]
      by_cases h2 : m ∈ ms
      · simp [h2, Nat.or_assoc]
      · simp [h2]
    · have : (out.set m (out.getD m 0 ||| b)).getD j 0 = out.getD j 0 := by
        simp [List.getD_eq_getElem?_getD, List.getElem?_set, e]
      rw [this]
      have e2 : ¬ j = m := fun h => e h.symm
      by_cases h2 : j ∈ ms <;> simp [h2, e2]
theorem getD_lt {out : List Nat} {B : Nat} (h : ∀ x ∈ out, x < B) (hB : 0 < B) (m : Nat) : out.getD m 0 < B := by
  rcases Nat.lt_or_ge m out.length with h1 | h1
  · rw [getD_eq h1]; exact h _ (List.getElem_mem h1)
  · simp [List.getD_eq_getElem?_getD, h1, hB]
theorem converse_inner {r : List Nat} (h : IsRelN r) (i : Nat) (hi : i < r.length) : ∀ (ms : List Nat) (n0 : Nat) (pre out : List Nat) {R : List Int}, (∀ m ∈ ms, m < out.length) → out.length ≤ 24 → (∀ x ∈ out, x < 16777216) → pre.length + ms.length ≤ 100 →
    Ev (fun k => impl_converse.l0 k (ints (marks out (2 ^ i) ms)) (ints r) (r.length : Int) ((i + 1 : Nat) : Int)) R →
    Ev (fun k => impl_converse.l1 k (ints out) (i : Int) (ints r) (r.length : Int) (i : Int) (ints (pre ++ ms)) ((pre ++ ms).length : Int) (pre.length : Int)) R
  | [], n0, pre, out, R, hm, hl, hb, hp, hx => by
    refine Ev.step (fun k => ?_) hx
    have := h.len
    simp only [impl_converse.l1]
    rw [if_neg (by simp), wrap_id (by omega) (by omega)]
    rfl
  | m :: ms, n0, pre, out, R, hm, hl, hb, hp, hx => by
    have := h.len
    have hm0 := hm m List.mem_cons_self
    rw [List.length_cons] at hp
    have hg := getD_lt hb (by decide) m
    have h2 := two_pow_lt hi
    have h3 := pow_24 this
    have ho : out.getD m 0 ||| 2 ^ i < 16777216 := by
      have := Nat.or_lt_two_pow (n := 24) (x := out.getD m 0) (y := 2 ^ i) (by have e : 2 ^ 24 = 16777216 := by decide
                                                                               omega) (by have e : 2 ^ 24 = 16777216 := by decide
                                                                                          omega)
      have e : 2 ^ 24 = 16777216 := by decide
      omega
    have ih := converse_inner h i hi ms n0 (pre ++ [m]) (out.set m (out.getD m 0 ||| 2 ^ i)) (R := R) (by intro x hx; rw [List.length_set]; exact hm x (List.mem_cons_of_mem _ hx)) (by rw [List.length_set]; exact hl)
      (by intro x hx
          rcases List.mem_or_eq_of_mem_set hx with h1 | h1
          · exact hb x h1
          · subst h1; exact ho) (by rw [List.length_append, List.length_singleton]; omega) hx
    rw [List.append_assoc, List.singleton_append, @List.length_append _ pre [m], List.length_singleton] at ih
    refine Ev.step (fun k => ?_) ih
    simp only [impl_converse.l1]
    have hpl : pre.length < (pre ++ m :: ms).length := by simp
    have hrd : rd (ints (pre ++ m :: ms)) (pre.length : Int) = (m : Int) := by
      rw [rd_ints hpl]
      simp
    have hl2 : (pre ++ m :: ms).length = pre.length + ms.length + 1 := by simp; omega
    rw [if_pos (by omega), if_pos (by omega), if_pos (by rw [ints_length]; omega), hrd, if_pos (by omega), if_pos (by rw [ints_length]; omega), one_eq (by omega), Option.bind_some, rd_ints hm0, Int.toNat_natCast, wrap_id (by omega) (by omega), ← getD_eq hm0, bor (by omega) (by omega), ints_set]
    rfl
/-- The converse after some rows. -/
def convTo (r : List Nat) (i : Nat) : List Nat := (List.range r.length).map fun k => col r k i
theorem convTo_succ {r : List Nat} (h : IsRelN r) {i : Nat} (hi : i < r.length) : marks (convTo r i) (2 ^ i) (bitsL r[i]) = convTo r (i + 1) := by
  apply List.ext_getElem
  · rw [marks_length]; simp [convTo]
  · intro j h1 h2
    have hj : j < r.length := by rw [marks_length] at h1; simpa [convTo] using h1
    rw [← getD_eq h1, marks_get _ _ _ _ (by simpa [convTo] using hj)]
    have e1 : (convTo r i).getD j 0 = col r j i := by simp [convTo, hj]
    have hs := h.small hi
    rw [e1]
    simp only [convTo, List.getElem_map, List.getElem_range]
    rw [col_succ r j i hi]
    have : (j ∈ bitsL r[i]) ↔ r[i].testBit j = true := by
      unfold bitsL
      rw [List.mem_filter, List.mem_range]
      have := h.len
      constructor
      · exact fun h => h.2
      · exact fun h => ⟨by omega, h⟩
    by_cases hb : r[i].testBit j = true
    · rw [if_pos (this.2 hb), if_pos hb]
    · rw [if_neg (fun h => hb (this.1 h)), if_neg hb]
theorem converse_ev {r : List Nat} (h : IsRelN r) : Ev (fun k => impl_converse.f k (ints r)) (ints (conv r)) := by
  have hlen := h.len
  have : Ev (fun k => impl_converse.l0 k (ints (convTo r 0)) (ints r) (r.length : Int) (0 : Nat)) (ints (conv r)) := by
    refine loop_ev r.length (fun i k => impl_converse.l0 k (ints (convTo r i)) (ints r) (r.length : Int) (i : Int)) ?_ ?_
    · refine Ev.step (f := fun _ => some (ints (conv r))) (fun k => ?_) (Ev.now _)
      simp only [impl_converse.l0]
      rw [if_neg (by omega)]
      rfl
    · intro i hi ih
      have hs := h.small hi
      have hbl := bitsL_length r[i]
      have hin := converse_inner h i hi (bitsL r[i]) 0 [] (convTo r i) (R := ints (conv r)) (by
          intro m hm
          unfold bitsL at hm
          rw [List.mem_filter] at hm
          have := h.bit hi hm.2
          simpa [convTo] using this) (by simp [convTo]; omega) (by
          intro x hx
          unfold convTo at hx
          rw [List.mem_map] at hx
          obtain ⟨j, _, rfl⟩ := hx
          have h1 : col r j i < 2 ^ i := setOf_lt _ _
          have h2 := pow_24 (n := i) (by omega)
          omega) (by simp; omega) (by rw [convTo_succ h hi]; exact ih)
      rw [List.nil_append] at hin
      have hb : Ev (fun k => (impl_members.f k ((r[i] : Nat) : Int)).bind fun t => impl_converse.l1 k (ints (convTo r i)) (i : Int) (ints r) (r.length : Int) (i : Int) t (t.length : Int) 0) (ints (conv r)) := by
        refine Ev.bind (members_ev (by omega)) ?_
        rw [ints_length]
        exact hin
      refine Ev.step (fun k => ?_) hb
      simp only [impl_converse.l0]
      rw [if_pos (by omega), if_pos (by omega), if_pos (by rw [ints_length]; omega), rd_ints hi]
  refine Ev.congr (fun k => ?_) this
  unfold impl_converse.f
  rw [ints_length, if_pos (by omega), Int.toNat_natCast, if_pos (by omega), ints_replicate]
  congr 2
  unfold convTo
  apply List.ext_getElem <;> simp [col, setOf]
/-- What ConverseOf returns. -/
def converseOf (l : List Int) : List Int × Int := if isRel l then (ints (conv (l.map Int.toNat)), 0) else ([], 1)
theorem toNat_ints (r : List Nat) : (ints r).map Int.toNat = r := by
  unfold ints
  rw [List.map_map]
  exact (List.map_congr_left (fun x _ => by simp)).trans (List.map_id _)
theorem converseOf_length (l : List Int) : (converseOf l).1.length ≤ 24 := by
  unfold converseOf
  by_cases h : isRel l = true
  · rw [if_pos h]
    obtain ⟨r, rfl, hr⟩ := isRel_nat h
    rw [toNat_ints, ints_length, conv_length]
    exact hr.len
  · rw [if_neg h]; simp
end Go.Proofs.YtpllljngjphihaaDoor.T
