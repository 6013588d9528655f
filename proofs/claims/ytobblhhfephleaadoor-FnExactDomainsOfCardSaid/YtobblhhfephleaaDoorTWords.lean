/- Words: lists of letters, and the alphabet in which all letters are independent, as the reference and the program compute them. -/
import Derived.Test.YtobblhhfephleaaDoorTSets
import Derived.Test.YtobblhhfephleaaDoorG0
namespace Go.Proofs.YtobblhhfephleaaDoor.T
open Go Go.RowKit Go.Proofs.YtobblhhfephleaaDoorW.PrintWords Go.Proofs.YtobblhhfephleaaDoorW.PrintMore Go.Proofs.YtobblhhfephleaaDoor.G

/-- A list is a word of n letters. -/
def isW (n : Int) (l : List Int) : Bool := decide (l.length ≤ 24) && l.all fun x => decide (0 ≤ x ∧ x ≤ n - 1)
/-- The masks of the single letters. -/
def singles (n : Nat) : List Int := (List.range n).map fun i => ((2 ^ i : Nat) : Int)
theorem singles_succ (n : Nat) : singles (n + 1) = singles n ++ [((2 ^ n : Nat) : Int)] := by
  unfold singles
  rw [List.range_succ, List.map_append]
  rfl
theorem singles_length (n : Nat) : (singles n).length = n := by simp [singles]
end Go.Proofs.YtobblhhfephleaaDoor.T
