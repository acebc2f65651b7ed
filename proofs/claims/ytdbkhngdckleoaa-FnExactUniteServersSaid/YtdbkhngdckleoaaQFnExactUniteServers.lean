/- The pure statement of the law FnExactUniteServers. -/
import Derived.Test.YtdbkhngdckleoaaB3
import Derived.Test.YtdbkhngdckleoaaBOpens
namespace Go.Proofs.Ytdbkhngdckleoaa.Pure
open Go.RowKit Go.Proofs.Ytdbkhngdckleoaa.B Go.Proofs.YtdbkhngdckleoaaW.PrintWords Go.Proofs.YtdbkhngdckleoaaW.PrintLast
open Go.Proofs.Ytdbkhngdckleoaa.Opens
def FnExactUniteServersPure : Prop := ∀ (l0 : List Int) (l1 : List Int), l0.length ≤ maxLen → l0.length * 8 ≤ 140737488351232 → (∀ x ∈ l0, (Lit.int .i64 x).wf = true) → l1.length ≤ maxLen → l1.length * 8 ≤ 140737488351232 → (∀ x ∈ l1, (Lit.int .i64 x).wf = true) → ∃ k, laws_FnExactUniteServers.f k l0 l1 = some true
end Go.Proofs.Ytdbkhngdckleoaa.Pure
