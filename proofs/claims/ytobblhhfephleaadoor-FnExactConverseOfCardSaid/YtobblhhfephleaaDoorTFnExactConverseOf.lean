/- The pure side of FnExactConverseOf: the law's plain function answers true at all inputs. -/
import Derived.Test.YtobblhhfephleaaDoorTRel
import Derived.Test.YtobblhhfephleaaDoorTLaws
import Derived.Test.YtobblhhfephleaaDoorGLawFnExactConverseOf
namespace Go.Proofs.YtobblhhfephleaaDoor.T
set_option linter.unusedVariables false
set_option linter.unusedSimpArgs false
open Go Go.RowKit Go.Proofs.YtobblhhfephleaaDoorW.PrintWords Go.Proofs.YtobblhhfephleaaDoorW.PrintMore Go.Proofs.YtobblhhfephleaaDoor.G
theorem FnExactConverseOf (l0 : List Int) (_ : l0.length ≤ maxLen) (_ : ∀ x ∈ l0, (Lit.int .i64 x).wf = true) : ∃ k, laws_FnExactConverseOf.f k l0 = some true := by
  by_cases h0_ : (l0.length : Int) > 1048576
  · exact ⟨0, by unfold laws_FnExactConverseOf.f; rw [if_pos h0_]⟩
  have h0_n : ¬ (1 + (l0.length : Int) < 0) := by omega
  obtain ⟨K1, h1⟩ := specConverseOf_ev l0
  obtain ⟨K2, h2⟩ := implConverseOf_ev l0
  have hl := converseOf_length l0
  generalize converseOf l0 = r at h1 h2 hl
  obtain ⟨l, c⟩ := r
  simp only at hl
  have hn : ¬ (1 + (l.length : Int) < 0) := by omega
  obtain ⟨K3, h3⟩ := toInt64S_ev l0 (by omega)
  obtain ⟨K4, h4⟩ := eqSelf_ev l0 (by omega)
  obtain ⟨K5, h5⟩ := mark1_ev l0 (by omega)
  obtain ⟨K6, h6⟩ := eqSelf_ev l (by omega)
  obtain ⟨K7, h7⟩ := mark1_ev l (by omega)
  obtain ⟨K8, h8⟩ := held1_ev l.length (by omega)
  have e1 := fun (j : Nat) => h1 (K1 + K2 + K3 + K4 + K5 + K6 + K7 + K8 + j) (by omega)
  have e2 := fun (j : Nat) => h2 (K1 + K2 + K3 + K4 + K5 + K6 + K7 + K8 + j) (by omega)
  have e3 := fun (j : Nat) => h3 (K1 + K2 + K3 + K4 + K5 + K6 + K7 + K8 + j) (by omega)
  have e4 := fun (j : Nat) => h4 (K1 + K2 + K3 + K4 + K5 + K6 + K7 + K8 + j) (by omega)
  have e5 := fun (j : Nat) => h5 (K1 + K2 + K3 + K4 + K5 + K6 + K7 + K8 + j) (by omega)
  have e6 := fun (j : Nat) => h6 (K1 + K2 + K3 + K4 + K5 + K6 + K7 + K8 + j) (by omega)
  have e7 := fun (j : Nat) => h7 (K1 + K2 + K3 + K4 + K5 + K6 + K7 + K8 + j) (by omega)
  have e8 := fun (j : Nat) => h8 (K1 + K2 + K3 + K4 + K5 + K6 + K7 + K8 + j) (by omega)
  generalize K1 + K2 + K3 + K4 + K5 + K6 + K7 + K8 = K at *
  refine ⟨K + 5, ?_⟩
  unfold laws_FnExactConverseOf.f
  rw [if_neg h0_]
  simp only [e1, e2, e3, e4, e5, e6, e7, e8, Option.bind_some, if_true, bne_self_eq_false]
  try simp only [laws_FnExactConverseOf.j0, laws_FnExactConverseOf.j1, laws_FnExactConverseOf.j2, e1, e2, e3, e4, e5, e6, e7, e8, Option.bind_some, bne_self_eq_false]
  try simp [h0_n, hn]
end Go.Proofs.YtobblhhfephleaaDoor.T
