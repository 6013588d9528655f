/- How the program's functions compute, function by function: each is told by a plain Lean function of the same answers, under the condition that this one answers. Written by a program of this project over the seat's translation; Lean checks it. -/
import Derived.Test.YtlpodkpnoopnnaaDoorG0
namespace Go.Proofs.YtlpodkpnoopnnaaDoor.G
open Go.RowKit Go.Proofs.YtlpodkpnoopnnaaDoorW.PrintWords Go.Proofs.YtlpodkpnoopnnaaDoorW.PrintLast Go.Proofs.YtlpodkpnoopnnaaDoorW.PrintMore
attribute [local go_sem] max2_int min2_int max_two min_two max_three min_three max_four min_four   -- for this text's walks alone
set_option linter.unusedVariables false
set_option linter.unusedSimpArgs false

/-! ### impl_Alphabet_ties: function 55 -/
def impl_Alphabet_ties.f (a0_0 : Int) (l0_1 : List Int) : Option (List Int) := some l0_1
set_option maxHeartbeats 1000000 in
/-- The dependence of an alphabet is the alphabet's own row, and the call leaves one new block behind. -/
theorem impl_Alphabet_ties.calls (a0_0 : Int) (A0_1 : Option Addr) (n c0_1 : Nat) (w : World) :
    Calls Tryd.prog 55 #[.agg #[.int .i64 a0_0, .slice A0_1 n c0_1]] w fun e w' => e = .returned (.slice A0_1 n c0_1) ∧ w' = w.alloc (.cells #[.int .i64 a0_0, .slice A0_1 n c0_1] 28 (0, 0)) := by
  have hu := Tryd.underlying28
  go_enter Tryd.func55, Tryd.ntmps55
  go_wp2
  go_ret
  exact ⟨rfl, rfl⟩

end Go.Proofs.YtlpodkpnoopnnaaDoor.G
