/- The pure side of FnExactIsRelation: the law's plain function answers true at all lists. -/
import Derived.Test.YtlkomakenfpapaaTSets
import Derived.Test.YtlkomakenfpapaaTLaws
import Derived.Test.YtlkomakenfpapaaGLawFnExactIsRelation
namespace Go.Proofs.Ytlkomakenfpapaa.T
open Go Go.RowKit Go.Proofs.YtlkomakenfpapaaW.PrintWords Go.Proofs.YtlkomakenfpapaaW.PrintMore Go.Proofs.Ytlkomakenfpapaa.G
theorem FnExactIsRelation (l0 : List Int) (_ : l0.length ≤ maxLen) (_ : ∀ x ∈ l0, (Lit.int .i64 x).wf = true) : ∃ k, laws_FnExactIsRelation.f k l0 = some true := by
  by_cases h : (l0.length : Int) > 1048576
  · exact ⟨0, by unfold laws_FnExactIsRelation.f; rw [if_pos h]⟩
  · obtain ⟨K1, h1⟩ := toInt64S_ev l0 (by omega)
    obtain ⟨K2, h2⟩ := specIsRelation_ev l0
    obtain ⟨K3, h3⟩ := eqInt64S_ev l0 l0 (by omega)
    refine ⟨K1 + K2 + K3, ?_⟩
    unfold laws_FnExactIsRelation.f
    simp only [h1 _ (show K1 ≤ K1 + K2 + K3 by omega), h2 _ (show K2 ≤ K1 + K2 + K3 by omega), h3 _ (show K3 ≤ K1 + K2 + K3 by omega), implIsRelation_eq, Option.bind_some]
    rw [if_neg h, if_neg (by simp)]
    simp
end Go.Proofs.Ytlkomakenfpapaa.T
