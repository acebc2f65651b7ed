/- The pure statement of the law FnExactHasServer. -/
import Derived.Test.YtcnfpepnjjijlaaB2
import Derived.Test.YtcnfpepnjjijlaaBOpens
namespace Go.Proofs.Ytcnfpepnjjijlaa.Pure
open Go.RowKit Go.Proofs.Ytcnfpepnjjijlaa.B Go.Proofs.YtcnfpepnjjijlaaW.PrintWords Go.Proofs.YtcnfpepnjjijlaaW.PrintLast
open Go.Proofs.Ytcnfpepnjjijlaa.Opens
def FnExactHasServerPure : Prop := ∀ (l0 : List Int) (a1 : Int), l0.length ≤ maxLen → l0.length * 8 ≤ 140737488351232 → (∀ x ∈ l0, (Lit.int .i64 x).wf = true) → ((Lit.int .i64 a1).wf = true) → ∃ k, laws_FnExactHasServer.f k l0 a1 = some true
end Go.Proofs.Ytcnfpepnjjijlaa.Pure
