/- The pure statement of the law FnExactIsValidOp. -/
import Derived.Test.YtcnfpepnjjijlaaA1
import Derived.Test.YtcnfpepnjjijlaaOpens
namespace Go.Proofs.Ytcnfpepnjjijlaa.Pure
open Go.RowKit Go.Proofs.Ytcnfpepnjjijlaa.A Go.Proofs.YtcnfpepnjjijlaaW.PrintWords Go.Proofs.YtcnfpepnjjijlaaW.PrintLast
open Go.Proofs.Ytcnfpepnjjijlaa.Opens
def FnExactIsValidOpPure : Prop := ∀ (x0 : S24), (wf24 x0) → laws_FnExactIsValidOp.f x0.f0 x0.f1 x0.f2 x0.f3 x0.f4 x0.f5 = some true
end Go.Proofs.Ytcnfpepnjjijlaa.Pure
