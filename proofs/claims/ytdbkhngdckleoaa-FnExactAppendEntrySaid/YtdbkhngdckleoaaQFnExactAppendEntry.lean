/- The pure statement of the law FnExactAppendEntry. -/
import Derived.Test.YtdbkhngdckleoaaA8
import Derived.Test.YtdbkhngdckleoaaAOpens
namespace Go.Proofs.Ytdbkhngdckleoaa.Pure
open Go.RowKit Go.Proofs.Ytdbkhngdckleoaa.A Go.Proofs.YtdbkhngdckleoaaW.PrintWords Go.Proofs.YtdbkhngdckleoaaW.PrintLast
open Go.Proofs.Ytdbkhngdckleoaa.Opens
def FnExactAppendEntryPure : Prop := ∀ (l0 : List (S32)) (x1 : S32), ((l0.length ≤ maxLen ∧ ∀ zl0 ∈ l0, wf32 zl0)) → (wf32 x1) → ∃ k, laws_FnExactAppendEntry.f k l0 x1.f0 x1.f1.f0 x1.f1.f1 x1.f1.f2 x1.f1.f3 x1.f1.f4 x1.f1.f5 = some true
end Go.Proofs.Ytdbkhngdckleoaa.Pure
