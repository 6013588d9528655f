/- Words over an alphabet. -/
import Derived.Test.YtpllljngjphihaaDoorTWords
import Derived.Test.YtpllljngjphihaaDoorTAlph
import Derived.Test.YtpllljngjphihaaDoorGI03
import Derived.Test.YtpllljngjphihaaDoorGS03
namespace Go.Proofs.YtpllljngjphihaaDoor.T
set_option linter.unusedVariables false
set_option linter.unusedSimpArgs false
open Go Go.RowKit Go.Proofs.YtpllljngjphihaaDoorW.PrintWords Go.Proofs.YtpllljngjphihaaDoorW.PrintMore Go.Proofs.YtpllljngjphihaaDoor.G
def isWordOf (n : Int) (l w : List Int) : Bool := isA n l && isW n w
theorem isA_le {n : Int} {l : List Int} (h : isA n l = true) : 0 ≤ n ∧ n ≤ 8 := by
  obtain ⟨r, rfl, rfl, hr⟩ := isA_nat h
  have := hr.len8
  omega
theorem l03Is_ev (n : Int) (l w : List Int) : Ev (fun k => spec_l03Is.f k n l w) (isWordOf n l w) := by
  unfold spec_l03Is.f isWordOf
  refine Ev.bind (l02Is_ev n l) ?_
  by_cases h : isA n l = true
  · have := isA_le h
    simp only [h, if_true, Bool.true_and]
    exact Ev.bind (l03Word_ev n (by omega) w) (Ev.now _)
  · rw [Bool.not_eq_true] at h
    simp only [h, Bool.false_and, Bool.false_eq_true, if_false]
    exact Ev.now _
theorem specIsWord_ev (n : Int) (l w : List Int) : Ev (fun k => spec_IsWord.f k n l w) (isWordOf n l w) := by
  unfold spec_IsWord.f
  exact Ev.bind (l03Is_ev n l w) (Ev.now _)
theorem implIsWord_ev (n : Int) (l w : List Int) : Ev (fun k => impl_IsWord.f k n l w) (isWordOf n l w) := by
  unfold impl_IsWord.f isWordOf
  refine Ev.bind (implIsAlphabet_ev n l) ?_
  by_cases h : isA n l = true
  · have := isA_le h
    simp only [h, if_true, Bool.true_and, implIsWord_eq n l w (by omega), Option.bind_some]
    exact Ev.now _
  · rw [Bool.not_eq_true] at h
    simp only [h, Bool.false_and, Bool.false_eq_true, if_false]
    exact Ev.now _
end Go.Proofs.YtpllljngjphihaaDoor.T
