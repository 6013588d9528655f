/- The pure side of FnExactMaskOf: the law's plain function answers true at all lists. -/
import Derived.Test.YtlkomakenfpapaaTSetsMask
import Derived.Test.YtlkomakenfpapaaTLaws
import Derived.Test.YtlkomakenfpapaaGLawFnExactMaskOf
namespace Go.Proofs.Ytlkomakenfpapaa.T
open Go Go.RowKit Go.Proofs.YtlkomakenfpapaaW.PrintWords Go.Proofs.YtlkomakenfpapaaW.PrintMore Go.Proofs.Ytlkomakenfpapaa.G
theorem FnExactMaskOf (l0 : List Int) (_ : l0.length ≤ maxLen) (_ : ∀ x ∈ l0, (Lit.int .i64 x).wf = true) : ∃ k, laws_FnExactMaskOf.f k l0 = some true := by
  by_cases h : (l0.length : Int) > 1048576
  · exact ⟨0, by unfold laws_FnExactMaskOf.f; rw [if_pos h]⟩
  · obtain ⟨K1, h1⟩ := toInt64S_ev l0 (by omega)
    obtain ⟨K2, h2⟩ := specMaskOf_ev l0 (by omega)
    obtain ⟨K3, h3⟩ := implMaskOf_ev l0 (by omega)
    obtain ⟨K4, h4⟩ := eqInt64S_ev l0 l0 (by omega)
    generalize (if inSet l0 then (((maskN l0 : Nat) : Int), 0) else (0, 2) : Int × Int) = r at h2 h3
    refine ⟨K1 + K2 + K3 + K4 + 1, ?_⟩
    unfold laws_FnExactMaskOf.f
    simp only [h1 _ (show K1 ≤ K1 + K2 + K3 + K4 + 1 by omega), h2 _ (show K2 ≤ K1 + K2 + K3 + K4 + 1 by omega), h3 _ (show K3 ≤ K1 + K2 + K3 + K4 + 1 by omega), Option.bind_some]
    rw [if_neg h, if_pos True.intro]
    simp only [laws_FnExactMaskOf.j0, h1 _ (show K1 ≤ K1 + K2 + K3 + K4 by omega), h4 _ (show K4 ≤ K1 + K2 + K3 + K4 by omega), Option.bind_some, bne_self_eq_false]
    simp
end Go.Proofs.Ytlkomakenfpapaa.T
