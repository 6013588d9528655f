/- Parsing a word: the letters of a text, by the reference and by the program. -/
import Derived.Test.YtlkomakenfpapaaTWords
namespace Go.Proofs.Ytlkomakenfpapaa.T
open Go Go.RowKit Go.Proofs.YtlkomakenfpapaaW.PrintWords Go.Proofs.YtlkomakenfpapaaW.PrintMore Go.Proofs.Ytlkomakenfpapaa.G

/-- The first i letters of a text. -/
def lettersTo (s : ByteArray) (i : Nat) : List Int := (List.range i).map fun (j : Nat) => bt s (j : Int) - 97
theorem lettersTo_succ (s : ByteArray) (i : Nat) : lettersTo s (i + 1) = lettersTo s i ++ [bt s (i : Int) - 97] := by
  unfold lettersTo
  rw [List.range_succ, List.map_append]
  rfl
theorem lettersTo_length (s : ByteArray) (i : Nat) : (lettersTo s i).length = i := by simp [lettersTo]
/-- What a text is parsed to: the word and the code. -/
def parsed (s : ByteArray) : List Int × Int := if s.toList = ([45] : List UInt8) then ([], 0) else if s.size = 0 then ([], 6) else if isW 8 (lettersTo s s.size) then (lettersTo s s.size, 0) else ([], 6)
theorem bt_step (s : ByteArray) (i : Nat) : wrap64 (wrap64 (bt s (i : Int)) - 97) = bt s (i : Int) - 97 := by
  have := bt_range s (i : Int)
  rw [wrap_id (x := bt s (i : Int)) (by omega) (by omega), wrap_id (by omega) (by omega)]
theorem specParse_loop (s : ByteArray) (hs : s.size ≤ 1048576) (hd : ¬ s.toList = ([45] : List UInt8)) : ∀ (d i : Nat), i + d = s.size → Ev (fun k => spec_ParseWord.l0 k s (lettersTo s i) (i : Int)) (parsed s)
  | 0, i, h => by
    obtain rfl : i = s.size := by omega
    by_cases h0 : s.size = 0
    · refine Ev.step (f := fun _ => some (parsed s)) (fun k => ?_) (Ev.now _)
      simp only [spec_ParseWord.l0]
      rw [if_neg (by omega), if_pos (by omega)]
      unfold parsed
      rw [if_neg hd, if_pos h0]
    · have hw := Ev.bind (f := fun _ t => if t = true then (some (lettersTo s s.size, (0 : Int))) else some (([] : List Int), (6 : Int))) (l03Word_ev 8 (by decide) (lettersTo s s.size)) (r := parsed s) (by
        unfold parsed
        rw [if_neg hd, if_neg h0]
        cases isW 8 (lettersTo s s.size) <;> exact Ev.now _)
      refine Ev.step (fun k => ?_) hw
      simp only [spec_ParseWord.l0]
      rw [if_neg (by omega), if_neg (by omega)]
  | d + 1, i, h => by
    refine Ev.step (fun k => ?_) (specParse_loop s hs hd d (i + 1) (by omega))
    simp only [spec_ParseWord.l0]
    rw [if_pos (by omega), if_pos (by omega), if_pos (by rw [lettersTo_length]; omega), bt_step, ← lettersTo_succ, wrap_id (by omega) (by omega)]
    rfl
theorem implParse_loop (s : ByteArray) (hs : s.size ≤ 1048576) (hd : ¬ s.toList = ([45] : List UInt8)) : ∀ (d i : Nat), i + d = s.size → Ev (fun k => impl_ParseWord.l0 k s (lettersTo s i) (i : Int)) (parsed s)
  | 0, i, h => by
    obtain rfl : i = s.size := by omega
    by_cases h0 : s.size = 0
    · refine Ev.step (f := fun _ => some (parsed s)) (fun k => ?_) (Ev.now _)
      simp only [impl_ParseWord.l0]
      rw [if_neg (by omega), if_pos (by rw [lettersTo_length]; omega)]
      unfold parsed
      rw [if_neg hd, if_pos h0]
    · have hw := Ev.bind (f := fun k (b : Int × List Int) => (impl_isWord.f b.1 b.2 (lettersTo s s.size)).bind fun t => if t = true then (some (lettersTo s s.size, (0 : Int))) else some (([] : List Int), (6 : Int))) widest_ev (r := parsed s) (by
        refine Ev.of_all fun k => ?_
        rw [implIsWord_eq 8 _ _ (by decide), Option.bind_some]
        unfold parsed
        rw [if_neg hd, if_neg h0]
        cases isW 8 (lettersTo s s.size) <;> rfl)
      refine Ev.step (fun k => ?_) hw
      simp only [impl_ParseWord.l0]
      rw [if_neg (by omega), if_neg (by rw [lettersTo_length]; omega)]
  | d + 1, i, h => by
    refine Ev.step (fun k => ?_) (implParse_loop s hs hd d (i + 1) (by omega))
    simp only [impl_ParseWord.l0]
    rw [if_pos (by omega), if_pos (by omega), if_pos (by rw [lettersTo_length]; omega), bt_step, ← lettersTo_succ, wrap_id (by omega) (by omega)]
    rfl
theorem specParse_ev (s : ByteArray) (hs : s.size ≤ 1048576) : Ev (fun k => spec_ParseWord.f k s) (parsed s) := by
  by_cases hd : s.toList = ([45] : List UInt8)
  · refine Ev.of_all fun k => ?_
    unfold spec_ParseWord.f parsed
    rw [if_pos hd, if_pos hd]
  · refine Ev.congr (fun k => ?_) (specParse_loop s hs hd s.size 0 (by omega))
    unfold spec_ParseWord.f
    rw [if_neg hd]
    rfl
theorem implParse_ev (s : ByteArray) (hs : s.size ≤ 1048576) : Ev (fun k => impl_ParseWord.f k s) (parsed s) := by
  by_cases hd : s.toList = ([45] : List UInt8)
  · refine Ev.of_all fun k => ?_
    unfold impl_ParseWord.f parsed
    rw [if_pos hd, if_pos hd]
  · refine Ev.congr (fun k => ?_) (implParse_loop s hs hd s.size 0 (by omega))
    unfold impl_ParseWord.f
    rw [if_neg hd]
    rfl
theorem parsed_length (s : ByteArray) : (parsed s).1.length ≤ 24 := by
  unfold parsed
  split
  · simp
  · split
    · simp
    · split
      · rename_i h
        unfold isW at h
        rw [Bool.and_eq_true] at h
        exact of_decide_eq_true h.1
      · simp
end Go.Proofs.Ytlkomakenfpapaa.T
