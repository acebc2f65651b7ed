/- The pure statement of the law FnExactFindOp. -/
import Derived.Test.YtdbkhngdckleoaaD2
import Derived.Test.YtdbkhngdckleoaaDOpens
namespace Go.Proofs.Ytdbkhngdckleoaa.Pure
open Go.RowKit Go.Proofs.Ytdbkhngdckleoaa.D Go.Proofs.YtdbkhngdckleoaaW.PrintWords Go.Proofs.YtdbkhngdckleoaaW.PrintLast
open Go.Proofs.Ytdbkhngdckleoaa.Opens
def FnExactFindOpPure : Prop := ∀ (l0 : List (S32)) (a1 : Int) (a2 : Int), ((l0.length ≤ maxLen ∧ ∀ zl0 ∈ l0, wf32 zl0)) → ((Lit.int .i64 a1).wf = true) → ((Lit.int .i64 a2).wf = true) → ∃ k, laws_FnExactFindOp.f k l0 a1 a2 = some true
end Go.Proofs.Ytdbkhngdckleoaa.Pure
