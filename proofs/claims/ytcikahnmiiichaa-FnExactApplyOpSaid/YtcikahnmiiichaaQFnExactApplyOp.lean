/- The pure statement of the law FnExactApplyOp. -/
import Derived.Test.YtcikahnmiiichaaA12
import Derived.Test.YtcikahnmiiichaaAOpens
namespace Go.Proofs.Ytcikahnmiiichaa.Pure
open Go.RowKit Go.Proofs.Ytcikahnmiiichaa.A Go.Proofs.YtcikahnmiiichaaW.PrintWords Go.Proofs.YtcikahnmiiichaaW.PrintLast
open Go.Proofs.Ytcikahnmiiichaa.Opens
def FnExactApplyOpPure : Prop := ∀ (x0 : S25) (x1 : S27), (wf25 x0) → (wf27 x1) → ∃ k, laws_FnExactApplyOp.f k x0.f0 x0.f1 x1.f0 x1.f1 x1.f2 x1.f3 x1.f4 x1.f5 = some true
end Go.Proofs.Ytcikahnmiiichaa.Pure
