/- The pure side of FnExactDomainsOf: the law's plain function answers true at all inputs. -/
import Derived.Test.YtobblhhfephleaaDoorTProc
import Derived.Test.YtobblhhfephleaaDoorTLaws
import Derived.Test.YtobblhhfephleaaDoorGLawFnExactDomainsOf
namespace Go.Proofs.YtobblhhfephleaaDoor.T
set_option linter.unusedVariables false
set_option linter.unusedSimpArgs false
open Go Go.RowKit Go.Proofs.YtobblhhfephleaaDoorW.PrintWords Go.Proofs.YtobblhhfephleaaDoorW.PrintMore Go.Proofs.YtobblhhfephleaaDoor.G
theorem FnExactDomainsOf (a0 : Int) (l1 : List Int) (_ : (Lit.int .i64 a0).wf = true) (_ : l1.length ≤ maxLen) (_ : ∀ x ∈ l1, (Lit.int .i64 x).wf = true) : ∃ k, laws_FnExactDomainsOf.f k a0 l1 = some true := by
  by_cases h0_ : (l1.length : Int) > 1048576
  · exact ⟨0, by unfold laws_FnExactDomainsOf.f; rw [if_pos h0_]⟩
  have h0_n : ¬ (1 + (l1.length : Int) < 0) := by omega
  obtain ⟨K1, h1⟩ := specDomainsOf_ev a0 l1 (by omega)
  obtain ⟨K2, h2⟩ := implDomainsOf_ev a0 l1
  have hl := domainsOfR_length a0 l1
  generalize domainsOfR a0 l1 = r at h1 h2 hl
  obtain ⟨l, c⟩ := r
  simp only at hl
  have hn : ¬ (1 + (l.length : Int) < 0) := by omega
  obtain ⟨K3, h3⟩ := toInt64S_ev l1 (by omega)
  obtain ⟨K4, h4⟩ := eqSelf_ev l1 (by omega)
  obtain ⟨K5, h5⟩ := mark1_ev l1 (by omega)
  obtain ⟨K6, h6⟩ := eqSelf_ev l (by omega)
  obtain ⟨K7, h7⟩ := mark1_ev l (by omega)
  obtain ⟨K8, h8⟩ := held1_ev l.length (by omega)
  have e1 := fun (j : Nat) => h1 (K1 + K2 + K3 + K4 + K5 + K6 + K7 + K8 + j) (by omega)
  have e2 := fun (j : Nat) => h2 (K1 + K2 + K3 + K4 + K5 + K6 + K7 + K8 + j) (by omega)
  have e3 := fun (j : Nat) => h3 (K1 + K2 + K3 + K4 + K5 + K6 + K7 + K8 + j) (by omega)
  have e4 := fun (j : Nat) => h4 (K1 + K2 + K3 + K4 + K5 + K6 + K7 + K8 + j) (by omega)
  have e5 := fun (j : Nat) => h5 (K1 + K2 + K3 + K4 + K5 + K6 + K7 + K8 + j) (by omega)
  have e6 := fun (j : Nat) => h6 (K1 + K2 + K3 + K4 + K5 + K6 + K7 + K8 + j) (by omega)
  have e7 := fun (j : Nat) => h7 (K1 + K2 + K3 + K4 + K5 + K6 + K7 + K8 + j) (by omega)
  have e8 := fun (j : Nat) => h8 (K1 + K2 + K3 + K4 + K5 + K6 + K7 + K8 + j) (by omega)
  generalize K1 + K2 + K3 + K4 + K5 + K6 + K7 + K8 = K at *
  refine ⟨K + 5, ?_⟩
  unfold laws_FnExactDomainsOf.f
  rw [if_neg h0_]
  simp only [e1, e2, e3, e4, e5, e6, e7, e8, Option.bind_some, if_true, bne_self_eq_false]
  try simp only [laws_FnExactDomainsOf.j0, laws_FnExactDomainsOf.j1, laws_FnExactDomainsOf.j2, e1, e2, e3, e4, e5, e6, e7, e8, Option.bind_some, bne_self_eq_false]
  try simp [h0_n, hn]
end Go.Proofs.YtobblhhfephleaaDoor.T
