/- The pure side of FnExactIsMask: the law's plain function answers true at all numbers. -/
import Derived.Test.YtlkomakenfpapaaTSets
import Derived.Test.YtlkomakenfpapaaGLawFnExactIsMask
namespace Go.Proofs.Ytlkomakenfpapaa.T
open Go Go.RowKit Go.Proofs.YtlkomakenfpapaaW.PrintWords Go.Proofs.YtlkomakenfpapaaW.PrintMore Go.Proofs.Ytlkomakenfpapaa.G
theorem FnExactIsMask (a0 a1 : Int) (_ : (Lit.int .i64 a0).wf = true) (_ : (Lit.int .i64 a1).wf = true) : laws_FnExactIsMask.f a0 a1 = some true := by
  unfold laws_FnExactIsMask.f
  rw [specIsMask_eq, Option.bind_some, implIsMask_eq, Option.bind_some, if_neg (by simp)]
end Go.Proofs.Ytlkomakenfpapaa.T
