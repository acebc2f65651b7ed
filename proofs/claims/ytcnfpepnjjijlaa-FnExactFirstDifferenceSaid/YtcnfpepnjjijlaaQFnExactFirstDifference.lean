/- The pure statement of the law FnExactFirstDifference. -/
import Derived.Test.YtcnfpepnjjijlaaB2
import Derived.Test.YtcnfpepnjjijlaaBOpens
namespace Go.Proofs.Ytcnfpepnjjijlaa.Pure
open Go.RowKit Go.Proofs.Ytcnfpepnjjijlaa.B Go.Proofs.YtcnfpepnjjijlaaW.PrintWords Go.Proofs.YtcnfpepnjjijlaaW.PrintLast
open Go.Proofs.Ytcnfpepnjjijlaa.Opens
def FnExactFirstDifferencePure : Prop := ∀ (l0 : List Int) (l1 : List Int), l0.length ≤ maxLen → l0.length * 8 ≤ 140737488351232 → (∀ x ∈ l0, (Lit.int .i64 x).wf = true) → l1.length ≤ maxLen → l1.length * 8 ≤ 140737488351232 → (∀ x ∈ l1, (Lit.int .i64 x).wf = true) → ∃ k, laws_FnExactFirstDifference.f k l0 l1 = some true
end Go.Proofs.Ytcnfpepnjjijlaa.Pure
