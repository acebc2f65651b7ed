/- The pure statement of the law FnExactAreServers. -/
import Derived.Test.YtcnfpepnjjijlaaB3
import Derived.Test.YtcnfpepnjjijlaaBOpens
namespace Go.Proofs.Ytcnfpepnjjijlaa.Pure
open Go.RowKit Go.Proofs.Ytcnfpepnjjijlaa.B Go.Proofs.YtcnfpepnjjijlaaW.PrintWords Go.Proofs.YtcnfpepnjjijlaaW.PrintLast
open Go.Proofs.Ytcnfpepnjjijlaa.Opens
def FnExactAreServersPure : Prop := ∀ (l0 : List Int), l0.length ≤ maxLen → l0.length * 8 ≤ 140737488351232 → (∀ x ∈ l0, (Lit.int .i64 x).wf = true) → ∃ k, laws_FnExactAreServers.f k l0 = some true
end Go.Proofs.Ytcnfpepnjjijlaa.Pure
