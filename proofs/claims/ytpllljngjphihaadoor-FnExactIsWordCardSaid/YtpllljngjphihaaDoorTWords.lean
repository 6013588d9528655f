/- Words: lists of letters, and the alphabet in which all letters are independent, as the reference and the program compute them. -/
import Derived.Test.YtpllljngjphihaaDoorTSets
import Derived.Test.YtpllljngjphihaaDoorGI02c
import Derived.Test.YtpllljngjphihaaDoorGI03
import Derived.Test.YtpllljngjphihaaDoorGS03
namespace Go.Proofs.YtpllljngjphihaaDoor.T
open Go Go.RowKit Go.Proofs.YtpllljngjphihaaDoorW.PrintWords Go.Proofs.YtpllljngjphihaaDoorW.PrintMore Go.Proofs.YtpllljngjphihaaDoor.G

/-- A list is a word of n letters. -/
def isW (n : Int) (l : List Int) : Bool := decide (l.length ≤ 24) && l.all fun x => decide (0 ≤ x ∧ x ≤ n - 1)
theorem l03Word_loop (n : Int) (hn : -9223372036854775808 < n ∧ n ≤ 9223372036854775807) (l : List Int) (hl : l.length ≤ 24) : ∀ (d i : Nat), i + d = l.length → (∀ x ∈ l.take i, 0 ≤ x ∧ x ≤ n - 1) → Ev (fun k => spec_l03Word.l0 k n l (i : Int)) (isW n l)
  | 0, i, h, ht => by
    refine Ev.step (f := fun _ => some (isW n l)) (fun k => ?_) (Ev.now _)
    obtain rfl : i = l.length := by omega
    rw [List.take_length] at ht
    have : isW n l = true := by
      unfold isW
      rw [decide_eq_true hl, Bool.true_and, List.all_eq_true]
      intro x hx
      exact decide_eq_true (ht x hx)
    simp only [spec_l03Word.l0]
    rw [if_neg (by omega), this]
  | d + 1, i, h, ht => by
    have hi : i < l.length := by omega
    by_cases e : 0 ≤ l[i] ∧ l[i] ≤ n - 1
    · have ht' : ∀ x ∈ l.take (i + 1), 0 ≤ x ∧ x ≤ n - 1 := by
        intro x hx
        rw [List.take_succ_eq_append_getElem hi, List.mem_append, List.mem_singleton] at hx
        rcases hx with hx | rfl
        · exact ht x hx
        · exact e
      refine Ev.step (fun k => ?_) (l03Word_loop n hn l hl d (i + 1) (by omega) ht')
      simp only [spec_l03Word.l0]
      rw [if_pos (by omega), if_pos (by omega), l01In_eq, Option.bind_some, rd_nat hi, wrap_id (x := n - 1) (by omega) (by omega), if_pos (by simpa using e), wrap_id (by omega) (by omega)]
      rfl
    · refine Ev.step (f := fun _ => some (isW n l)) (fun k => ?_) (Ev.now _)
      have : isW n l = false := by
        unfold isW
        rw [decide_eq_true hl, Bool.true_and, List.all_eq_false]
        exact ⟨_, List.getElem_mem hi, by simpa using e⟩
      simp only [spec_l03Word.l0]
      rw [if_pos (by omega), if_pos (by omega), l01In_eq, Option.bind_some, rd_nat hi, wrap_id (x := n - 1) (by omega) (by omega), if_neg (by simpa using e), this]
theorem l03Word_ev (n : Int) (hn : -9223372036854775808 < n ∧ n ≤ 9223372036854775807) (l : List Int) : Ev (fun k => spec_l03Word.f k n l) (isW n l) := by
  by_cases hl : l.length ≤ 24
  · refine Ev.congr (fun k => ?_) (l03Word_loop n hn l hl l.length 0 (by omega) (by simp))
    unfold spec_l03Word.f
    rw [if_neg (by omega)]
    rfl
  · refine Ev.of_all fun k => ?_
    unfold spec_l03Word.f isW
    rw [if_pos (by omega)]
    simp [hl]
theorem implIsWord_eq (n : Int) (ds l : List Int) (hn : -9223372036854775808 < n ∧ n ≤ 9223372036854775807) : impl_isWord.f n ds l = some (isW n l) := by
  unfold impl_isWord.f isW
  by_cases h : l.length ≤ 24
  · rw [if_pos (by omega), allIn_eq, Option.bind_some, wrap_id (by omega) (by omega)]
    simp [h]
  · rw [if_neg (by omega)]
    simp [h]
/-- The masks of the single letters. -/
def singles (n : Nat) : List Int := (List.range n).map fun i => ((2 ^ i : Nat) : Int)
theorem singles_succ (n : Nat) : singles (n + 1) = singles n ++ [((2 ^ n : Nat) : Int)] := by
  unfold singles
  rw [List.range_succ, List.map_append]
  rfl
theorem singles_length (n : Nat) : (singles n).length = n := by simp [singles]
theorem loose_loop (n : Nat) (hn : n ≤ 62) : ∀ (d i : Nat), i + d = n → Ev (fun k => impl_loose.l0 k (n : Int) (i : Int) (n : Int) (singles i)) ((n : Int), singles n)
  | 0, i, h => by
    refine Ev.step (f := fun _ => some ((n : Int), singles n)) (fun k => ?_) (Ev.now _)
    obtain rfl : i = n := by omega
    simp only [impl_loose.l0]
    rw [if_neg (by omega)]
  | d + 1, i, h => by
    refine Ev.step (fun k => ?_) (loose_loop n hn d (i + 1) (by omega))
    simp only [impl_loose.l0]
    rw [if_pos (by omega), one_eq (by omega), Option.bind_some, if_pos (by rw [singles_length]; omega), wrap_id (by omega) (by omega), ← singles_succ]
    rfl
theorem loose_ev (n : Nat) (hn : n ≤ 62) : Ev (fun k => impl_loose.f k (n : Int)) ((n : Int), singles n) := by
  refine Ev.congr (fun k => ?_) (loose_loop n hn n 0 (by omega))
  rfl
end Go.Proofs.YtpllljngjphihaaDoor.T
