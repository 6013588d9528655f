/- The pure side of FnExactAreDependent: the law's plain function answers true at all inputs. -/
import Derived.Test.YtpllljngjphihaaDoorTAlph
import Derived.Test.YtpllljngjphihaaDoorTLaws
import Derived.Test.YtpllljngjphihaaDoorGLawFnExactAreDependent
namespace Go.Proofs.YtpllljngjphihaaDoor.T
set_option linter.unusedVariables false
set_option linter.unusedSimpArgs false
open Go Go.RowKit Go.Proofs.YtpllljngjphihaaDoorW.PrintWords Go.Proofs.YtpllljngjphihaaDoorW.PrintMore Go.Proofs.YtpllljngjphihaaDoor.G
theorem FnExactAreDependent (a0_0 : Int) (l0_1 : List Int) (a1 : Int) (a2 : Int) (_ : (Lit.int .i64 a0_0).wf = true) (hb0 : l0_1.length ≤ maxLen) (_ : ∀ x ∈ l0_1, (Lit.int .i64 x).wf = true) (_ : (Lit.int .i64 a1).wf = true) (_ : (Lit.int .i64 a2).wf = true) : ∃ k, laws_FnExactAreDependent.f k a0_0 l0_1 a1 a2 = some true := by
  by_cases h0_ : l0_1.length > 1048576
  · exact ⟨0, by unfold laws_FnExactAreDependent.f; simp only [szAlphabet_big a0_0 l0_1 hb0 h0_, Option.bind_some]; rfl⟩
  have h0_n : ¬ (1 + (l0_1.length : Int) < 0) := by omega
  have h0_m : ¬ (1048576 - (l0_1.length : Int) < 0) := by omega
  have h0_s := szAlphabet_ok a0_0 l0_1 h0_
  obtain ⟨K1, h1⟩ := specAreDependent_ev a0_0 l0_1 a1 a2
  obtain ⟨K2, h2⟩ := implAreDependent_ev a0_0 l0_1 a1 a2
  generalize areDependentOf a0_0 l0_1 a1 a2 = r at h1 h2
  obtain ⟨b, c⟩ := r
  obtain ⟨K3, h3⟩ := toAlphabet_ev a0_0 l0_1 (by omega)
  obtain ⟨K4, h4⟩ := eqAlphabet_ev a0_0 l0_1 (by omega)
  obtain ⟨K5, h5⟩ := markAlphabet1_ev a0_0 l0_1 (by omega)
  have e1 := fun (j : Nat) => h1 (K1 + K2 + K3 + K4 + K5 + j) (by omega)
  have e2 := fun (j : Nat) => h2 (K1 + K2 + K3 + K4 + K5 + j) (by omega)
  have e3 := fun (j : Nat) => h3 (K1 + K2 + K3 + K4 + K5 + j) (by omega)
  have e4 := fun (j : Nat) => h4 (K1 + K2 + K3 + K4 + K5 + j) (by omega)
  have e5 := fun (j : Nat) => h5 (K1 + K2 + K3 + K4 + K5 + j) (by omega)
  generalize K1 + K2 + K3 + K4 + K5 = K at *
  refine ⟨K + 5, ?_⟩
  unfold laws_FnExactAreDependent.f
  simp only [h0_s, Option.bind_some]
  rw [if_neg h0_m]
  simp only [e1, e2, e3, e4, e5, Option.bind_some, if_true, bne_self_eq_false]
  try simp only [laws_FnExactAreDependent.j0, e1, e2, e3, e4, e5, Option.bind_some, bne_self_eq_false]
  try simp [h0_n, h0_m, h0_s]
end Go.Proofs.YtpllljngjphihaaDoor.T
