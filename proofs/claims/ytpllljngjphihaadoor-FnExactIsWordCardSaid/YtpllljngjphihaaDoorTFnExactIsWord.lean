/- The pure side of FnExactIsWord: the law's plain function answers true at all inputs. -/
import Derived.Test.YtpllljngjphihaaDoorTAlphWord
import Derived.Test.YtpllljngjphihaaDoorTLaws
import Derived.Test.YtpllljngjphihaaDoorGLawFnExactIsWord
namespace Go.Proofs.YtpllljngjphihaaDoor.T
set_option linter.unusedVariables false
set_option linter.unusedSimpArgs false
open Go Go.RowKit Go.Proofs.YtpllljngjphihaaDoorW.PrintWords Go.Proofs.YtpllljngjphihaaDoorW.PrintMore Go.Proofs.YtpllljngjphihaaDoor.G
theorem FnExactIsWord (a0_0 : Int) (l0_1 : List Int) (l1 : List Int) (_ : (Lit.int .i64 a0_0).wf = true) (hb0 : l0_1.length ≤ maxLen) (_ : ∀ x ∈ l0_1, (Lit.int .i64 x).wf = true) (_ : l1.length ≤ maxLen) (_ : ∀ x ∈ l1, (Lit.int .i64 x).wf = true) : ∃ k, laws_FnExactIsWord.f k a0_0 l0_1 l1 = some true := by
  by_cases h0_ : (l1.length : Int) > 1048576
  · exact ⟨0, by unfold laws_FnExactIsWord.f; rw [if_pos h0_]⟩
  have h0_n : ¬ (1 + (l1.length : Int) < 0) := by omega
  by_cases h1_ : l0_1.length > 1048576
  · exact ⟨0, by unfold laws_FnExactIsWord.f; rw [if_neg h0_]; simp only [szAlphabet_big a0_0 l0_1 hb0 h1_, Option.bind_some]; rfl⟩
  have h1_n : ¬ (1 + (l0_1.length : Int) < 0) := by omega
  have h1_m : ¬ (1048576 - (l0_1.length : Int) < 0) := by omega
  have h1_s := szAlphabet_ok a0_0 l0_1 h1_
  obtain ⟨K1, h1⟩ := specIsWord_ev a0_0 l0_1 l1
  obtain ⟨K2, h2⟩ := implIsWord_ev a0_0 l0_1 l1
  generalize isWordOf a0_0 l0_1 l1 = r at h1 h2
  obtain ⟨K3, h3⟩ := toAlphabet_ev a0_0 l0_1 (by omega)
  obtain ⟨K4, h4⟩ := eqAlphabet_ev a0_0 l0_1 (by omega)
  obtain ⟨K5, h5⟩ := markAlphabet1_ev a0_0 l0_1 (by omega)
  obtain ⟨K6, h6⟩ := toInt64S_ev l1 (by omega)
  obtain ⟨K7, h7⟩ := eqSelf_ev l1 (by omega)
  obtain ⟨K8, h8⟩ := mark1_ev l1 (by omega)
  have e1 := fun (j : Nat) => h1 (K1 + K2 + K3 + K4 + K5 + K6 + K7 + K8 + j) (by omega)
  have e2 := fun (j : Nat) => h2 (K1 + K2 + K3 + K4 + K5 + K6 + K7 + K8 + j) (by omega)
  have e3 := fun (j : Nat) => h3 (K1 + K2 + K3 + K4 + K5 + K6 + K7 + K8 + j) (by omega)
  have e4 := fun (j : Nat) => h4 (K1 + K2 + K3 + K4 + K5 + K6 + K7 + K8 + j) (by omega)
  have e5 := fun (j : Nat) => h5 (K1 + K2 + K3 + K4 + K5 + K6 + K7 + K8 + j) (by omega)
  have e6 := fun (j : Nat) => h6 (K1 + K2 + K3 + K4 + K5 + K6 + K7 + K8 + j) (by omega)
  have e7 := fun (j : Nat) => h7 (K1 + K2 + K3 + K4 + K5 + K6 + K7 + K8 + j) (by omega)
  have e8 := fun (j : Nat) => h8 (K1 + K2 + K3 + K4 + K5 + K6 + K7 + K8 + j) (by omega)
  generalize K1 + K2 + K3 + K4 + K5 + K6 + K7 + K8 = K at *
  refine ⟨K + 5, ?_⟩
  unfold laws_FnExactIsWord.f
  rw [if_neg h0_]
  simp only [h1_s, Option.bind_some]
  rw [if_neg h1_m]
  simp only [e1, e2, e3, e4, e5, e6, e7, e8, Option.bind_some, if_true, bne_self_eq_false]
  try simp [h0_n, h1_n, h1_m, h1_s]
end Go.Proofs.YtpllljngjphihaaDoor.T
