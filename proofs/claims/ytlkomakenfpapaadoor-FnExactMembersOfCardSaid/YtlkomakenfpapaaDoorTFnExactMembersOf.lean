/- The pure side of FnExactMembersOf: the law's plain function answers true at all numbers. -/
import Derived.Test.YtlkomakenfpapaaDoorTMembers
import Derived.Test.YtlkomakenfpapaaDoorTLaws
import Derived.Test.YtlkomakenfpapaaDoorGLawFnExactMembersOf
namespace Go.Proofs.YtlkomakenfpapaaDoor.T
open Go Go.RowKit Go.Proofs.YtlkomakenfpapaaDoorW.PrintWords Go.Proofs.YtlkomakenfpapaaDoorW.PrintMore Go.Proofs.YtlkomakenfpapaaDoor.G
theorem FnExactMembersOf (a0 : Int) (_ : (Lit.int .i64 a0).wf = true) : ∃ k, laws_FnExactMembersOf.f k a0 = some true := by
  obtain ⟨K1, h1⟩ := specMembersOf_ev a0
  obtain ⟨K2, h2⟩ := implMembersOf_ev a0
  have hl := membersOf_length a0
  generalize membersOf a0 = r at h1 h2 hl
  obtain ⟨l, c⟩ := r
  simp only at hl
  obtain ⟨K3, h3⟩ := eqInt64S_ev l l (by omega)
  obtain ⟨K4, h4⟩ := mark1_ev l (by omega)
  obtain ⟨K5, h5⟩ := held1_ev l.length (by omega)
  obtain ⟨K, rfl⟩ : ∃ K, K = K1 + K2 + K3 + K4 + K5 := ⟨_, rfl⟩
  have e1 := fun (j : Nat) => h1 (K1 + K2 + K3 + K4 + K5 + j) (by omega)
  have e2 := fun (j : Nat) => h2 (K1 + K2 + K3 + K4 + K5 + j) (by omega)
  have e3 := fun (j : Nat) => h3 (K1 + K2 + K3 + K4 + K5 + j) (by omega)
  have e4 := fun (j : Nat) => h4 (K1 + K2 + K3 + K4 + K5 + j) (by omega)
  have e5 := fun (j : Nat) => h5 (K1 + K2 + K3 + K4 + K5 + j) (by omega)
  generalize K1 + K2 + K3 + K4 + K5 = K at *
  simp only [decide_true] at e3
  refine ⟨K + 3, ?_⟩
  unfold laws_FnExactMembersOf.f
  simp only [e1, e2, e3, Option.bind_some, if_true, bne_self_eq_false]
  simp only [laws_FnExactMembersOf.j0, laws_FnExactMembersOf.j1, e2, e3, e4, e5, Option.bind_some, bne_self_eq_false]
  have hn : ¬ (1 + (l.length : Int) < 0) := by omega
  simp [hn]
end Go.Proofs.YtlkomakenfpapaaDoor.T
