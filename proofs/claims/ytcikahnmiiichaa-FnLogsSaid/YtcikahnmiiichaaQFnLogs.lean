/- The pure statement of the law FnLogs. -/
import Derived.Test.YtcikahnmiiichaaN21
import Derived.Test.YtcikahnmiiichaaNOpens
namespace Go.Proofs.Ytcikahnmiiichaa.Pure
open Go.RowKit Go.Proofs.Ytcikahnmiiichaa.N Go.Proofs.YtcikahnmiiichaaW.PrintWords Go.Proofs.YtcikahnmiiichaaW.PrintLast
open Go.Proofs.Ytcikahnmiiichaa.Opens
def FnLogsPure : Prop := ∀ (l0 : List Int), l0.length ≤ maxLen → l0.length * 1 ≤ 140737488351232 → (∀ x ∈ l0, (Lit.int .u8 x).wf = true) → ∃ k, laws_FnLogs.f k l0 = some true
end Go.Proofs.Ytcikahnmiiichaa.Pure
