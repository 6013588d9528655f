/- The pure side of FnExactConstants: the law's plain function answers true. -/
import Derived.Test.YtlkomakenfpapaaTBase
import Derived.Test.YtlkomakenfpapaaGLawFnExactConstants
namespace Go.Proofs.Ytlkomakenfpapaa.T
open Go Go.RowKit Go.Proofs.YtlkomakenfpapaaW.PrintWords Go.Proofs.YtlkomakenfpapaaW.PrintMore Go.Proofs.Ytlkomakenfpapaa.G
theorem FnExactConstants : laws_FnExactConstants.f = some true := rfl
end Go.Proofs.Ytlkomakenfpapaa.T
