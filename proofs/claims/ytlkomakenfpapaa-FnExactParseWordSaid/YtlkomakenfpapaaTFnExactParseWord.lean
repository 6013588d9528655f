/- The pure side of FnExactParseWord: the law's plain function answers true at all texts. -/
import Derived.Test.YtlkomakenfpapaaTParseWord
import Derived.Test.YtlkomakenfpapaaTLaws
import Derived.Test.YtlkomakenfpapaaGLawFnExactParseWord
namespace Go.Proofs.Ytlkomakenfpapaa.T
open Go Go.RowKit Go.Proofs.YtlkomakenfpapaaW.PrintWords Go.Proofs.YtlkomakenfpapaaW.PrintMore Go.Proofs.Ytlkomakenfpapaa.G
theorem FnExactParseWord (a0 : ByteArray) (_ : a0.size ≤ 140737488351232) : ∃ k, laws_FnExactParseWord.f k a0 = some true := by
  by_cases h : (a0.size : Int) > 1048576
  · exact ⟨0, by unfold laws_FnExactParseWord.f; rw [if_pos h]⟩
  · obtain ⟨K1, h1⟩ := specParse_ev a0 (by omega)
    obtain ⟨K2, h2⟩ := implParse_ev a0 (by omega)
    have hl := parsed_length a0
    generalize parsed a0 = r at h1 h2 hl
    obtain ⟨l, c⟩ := r
    simp only at hl
    obtain ⟨K3, h3⟩ := eqInt64S_ev l l (by omega)
    obtain ⟨K4, h4⟩ := mark1_ev l (by omega)
    obtain ⟨K5, h5⟩ := held1_ev l.length (by omega)
    obtain ⟨K, rfl⟩ : ∃ K, K = K1 + K2 + K3 + K4 + K5 := ⟨_, rfl⟩
    have e1 := fun (j : Nat) => h1 (K1 + K2 + K3 + K4 + K5 + j) (by omega)
    have e2 := fun (j : Nat) => h2 (K1 + K2 + K3 + K4 + K5 + j) (by omega)
    have e3 := fun (j : Nat) => h3 (K1 + K2 + K3 + K4 + K5 + j) (by omega)
    have e4 := fun (j : Nat) => h4 (K1 + K2 + K3 + K4 + K5 + j) (by omega)
    have e5 := fun (j : Nat) => h5 (K1 + K2 + K3 + K4 + K5 + j) (by omega)
    generalize K1 + K2 + K3 + K4 + K5 = K at *
    simp only [decide_true] at e3
    refine ⟨K + 3, ?_⟩
    unfold laws_FnExactParseWord.f
    rw [if_neg h]
    simp only [e1, e2, e3, Option.bind_some, if_true, bne_self_eq_false]
    simp only [laws_FnExactParseWord.j0, laws_FnExactParseWord.j1, e2, e3, e4, e5, Option.bind_some, bne_self_eq_false]
    have hn : ¬ (1 + (l.length : Int) < 0) := by omega
    simp [hn]
end Go.Proofs.Ytlkomakenfpapaa.T
