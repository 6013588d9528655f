/- The mask of a list of elements, as the reference and the program compute it. -/
import Derived.Test.YtlkomakenfpapaaTSets
namespace Go.Proofs.Ytlkomakenfpapaa.T
open Go Go.RowKit Go.Proofs.YtlkomakenfpapaaW.PrintWords Go.Proofs.YtlkomakenfpapaaW.PrintMore Go.Proofs.Ytlkomakenfpapaa.G

/-- The set of the elements of a list. -/
def maskN (l : List Int) : Nat := l.foldl (fun m x => m ||| 2 ^ x.toNat) 0
theorem foldl_or_lt {b : Nat} (l : List Int) (hl : ∀ x ∈ l, 0 ≤ x ∧ x < (b : Int)) : ∀ m, m < 2 ^ b → l.foldl (fun m x => m ||| 2 ^ x.toNat) m < 2 ^ b := by
  induction l with
  | nil => intro m hm; exact hm
  | cons x l ih =>
    intro m hm
    have hx := hl x List.mem_cons_self
    exact ih (fun y hy => hl y (List.mem_cons_of_mem _ hy)) _ (Nat.or_lt_two_pow hm (Nat.pow_lt_pow_right (by decide) (by omega)))
theorem maskN_take_succ {l : List Int} {i : Nat} (h : i < l.length) : maskN (l.take (i + 1)) = maskN (l.take i) ||| 2 ^ l[i].toNat := by
  unfold maskN
  rw [List.take_succ_eq_append_getElem h, List.foldl_append]
  rfl
theorem maskN_lt {b : Nat} {l : List Int} (hl : ∀ x ∈ l, 0 ≤ x ∧ x < (b : Int)) (i : Nat) : maskN (l.take i) < 2 ^ b :=
  foldl_or_lt _ (fun x hx => hl x (List.mem_of_mem_take hx)) 0 (Nat.two_pow_pos b)
theorem or_step {l : List Int} {b : Nat} (hb : b ≤ 63) (hl : ∀ x ∈ l, 0 ≤ x ∧ x < (b : Int)) {i : Nat} (hi : i < l.length) :
    Go.bits .or .i64 ((maskN (l.take i) : Nat) : Int) ((2 ^ l[i].toNat : Nat) : Int) = ((maskN (l.take (i + 1)) : Nat) : Int) := by
  have h1 := maskN_lt hl i
  have hp : 2 ^ b ≤ 2 ^ 63 := Nat.pow_le_pow_right (by decide) hb
  have e : 2 ^ 63 = 9223372036854775808 := by decide
  have hx := hl _ (List.getElem_mem hi)
  have h2 : 2 ^ l[i].toNat < 2 ^ b := Nat.pow_lt_pow_right (by decide) (by omega)
  rw [bor (by omega) (by omega), maskN_take_succ hi]
theorem implMask_loop (l : List Int) (hl : l.length < 4611686018427387904) (hr : ∀ x ∈ l, 0 ≤ x ∧ x < (62 : Int)) : ∀ (d i : Nat), i + d = l.length → Ev (fun k => impl_maskOf.l0 k ((maskN (l.take i) : Nat) : Int) l (l.length : Int) (i : Int)) ((maskN l : Nat) : Int)
  | 0, i, h => by
    refine Ev.step (f := fun _ => some ((maskN l : Nat) : Int)) (fun k => ?_) (Ev.now _)
    obtain rfl : i = l.length := by omega
    simp only [impl_maskOf.l0]
    rw [if_neg (by omega), List.take_length]
  | d + 1, i, h => by
    have hi : i < l.length := by omega
    refine Ev.step (fun k => ?_) (implMask_loop l hl hr d (i + 1) (by omega))
    have hx := hr _ (List.getElem_mem hi)
    have ho : impl_one.f l[i] = some ((2 ^ l[i].toNat : Nat) : Int) := by
      have := one_eq (n := l[i].toNat) (by omega)
      rwa [Int.toNat_of_nonneg hx.1] at this
    simp only [impl_maskOf.l0]
    rw [if_pos (by omega), if_pos (by omega), if_pos (by omega), rd_nat hi, ho, Option.bind_some, or_step (b := 62) (by decide) hr hi, wrap_id (by omega) (by omega)]
    rfl
theorem implMask_ev (l : List Int) (hl : l.length < 4611686018427387904) (hr : ∀ x ∈ l, 0 ≤ x ∧ x < (62 : Int)) : Ev (fun k => impl_maskOf.f k l) ((maskN l : Nat) : Int) := by
  refine Ev.congr (fun k => ?_) (implMask_loop l hl hr l.length 0 (by omega))
  rfl
/-- All elements are elements of a set. -/
def inSet (l : List Int) : Bool := l.all fun x => decide (0 ≤ x ∧ x ≤ 23)
theorem specMask_loop (l : List Int) (hl : l.length < 4611686018427387904) : ∀ (d i : Nat), i + d = l.length → (∀ x ∈ l.take i, 0 ≤ x ∧ x ≤ 23) →
    Ev (fun k => spec_MaskOf.l0 k l ((maskN (l.take i) : Nat) : Int) (i : Int)) (if inSet l then (((maskN l : Nat) : Int), 0) else (0, 2))
  | 0, i, h, ht => by
    refine Ev.step (f := fun _ => some (if inSet l then (((maskN l : Nat) : Int), 0) else (0, 2))) (fun k => ?_) (Ev.now _)
    obtain rfl : i = l.length := by omega
    rw [List.take_length] at ht
    have : inSet l = true := by unfold inSet; rw [List.all_eq_true]; intro x hx; exact decide_eq_true (ht x hx)
    simp only [spec_MaskOf.l0]
    rw [if_neg (by omega), List.take_length, this]
    rfl
  | d + 1, i, h, ht => by
    have hi : i < l.length := by omega
    by_cases e : 0 ≤ l[i] ∧ l[i] ≤ 23
    · have ht' : ∀ x ∈ l.take (i + 1), 0 ≤ x ∧ x ≤ 23 := by
        intro x hx
        rw [List.take_succ_eq_append_getElem hi, List.mem_append, List.mem_singleton] at hx
        rcases hx with hx | rfl
        · exact ht x hx
        · exact e
      refine Ev.step (fun k => ?_) (specMask_loop l hl d (i + 1) (by omega) ht')
      have ho : spec_l01One.f l[i] = some ((2 ^ l[i].toNat : Nat) : Int) := by
        have := l01One_eq (n := l[i].toNat) (by omega)
        rwa [Int.toNat_of_nonneg e.1] at this
      have hor : Go.bits .or .i64 ((maskN (l.take i) : Nat) : Int) ((2 ^ l[i].toNat : Nat) : Int) = ((maskN (l.take (i + 1)) : Nat) : Int) := by
        have h1 : maskN (l.take i) < 2 ^ 24 := foldl_or_lt _ (fun x hx => by have := ht x hx; omega) 0 (by decide)
        have h2 : 2 ^ l[i].toNat < 2 ^ 24 := Nat.pow_lt_pow_right (by decide) (by omega)
        rw [bor (by omega) (by omega), maskN_take_succ hi]
      simp only [spec_MaskOf.l0]
      rw [if_pos (by omega), if_pos (by omega), l01In_eq, Option.bind_some, rd_nat hi, if_pos (by simp [e]), ho, Option.bind_some, hor, wrap_id (by omega) (by omega)]
      rfl
    · refine Ev.step (f := fun _ => some (if inSet l then (((maskN l : Nat) : Int), 0) else (0, 2))) (fun k => ?_) (Ev.now _)
      have : inSet l = false := by
        unfold inSet
        rw [List.all_eq_false]
        exact ⟨_, List.getElem_mem hi, by simpa using e⟩
      simp only [spec_MaskOf.l0]
      rw [if_pos (by omega), if_pos (by omega), l01In_eq, Option.bind_some, rd_nat hi, if_neg (by simpa using e), this]
      rfl
theorem specMaskOf_ev (l : List Int) (hl : l.length < 4611686018427387904) : Ev (fun k => spec_MaskOf.f k l) (if inSet l then (((maskN l : Nat) : Int), 0) else (0, 2)) := by
  refine Ev.congr (fun k => ?_) (specMask_loop l hl l.length 0 (by omega) (by simp))
  rfl
theorem implMaskOf_ev (l : List Int) (hl : l.length < 4611686018427387904) : Ev (fun k => impl_MaskOf.f k l) (if inSet l then (((maskN l : Nat) : Int), 0) else (0, 2)) := by
  have hf : ∀ k, impl_MaskOf.f k l = if inSet l then ((impl_maskOf.f k l).bind fun t => some (t, 0)) else some (0, 2) := by
    intro k
    unfold impl_MaskOf.f inSet
    rw [allIn_eq, Option.bind_some]
  by_cases h : inSet l = true
  · refine Ev.congr (fun k => by rw [hf k, if_pos h]) ?_
    rw [if_pos h]
    refine Ev.bind (implMask_ev l hl ?_) (Ev.now _)
    unfold inSet at h
    rw [List.all_eq_true] at h
    intro x hx
    have := of_decide_eq_true (h x hx)
    omega
  · refine Ev.of_all fun k => ?_
    rw [hf k, if_neg h, if_neg h]
end Go.Proofs.Ytlkomakenfpapaa.T
