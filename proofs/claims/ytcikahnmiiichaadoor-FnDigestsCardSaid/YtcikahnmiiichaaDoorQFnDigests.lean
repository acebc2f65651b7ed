/- The pure statement of the law FnDigests. -/
import Derived.Test.YtcikahnmiiichaaDoorG12
import Derived.Test.YtcikahnmiiichaaDoorGOpens
namespace Go.Proofs.YtcikahnmiiichaaDoor.Pure
open Go.RowKit Go.Proofs.YtcikahnmiiichaaDoor.G Go.Proofs.YtcikahnmiiichaaDoorW.PrintWords Go.Proofs.YtcikahnmiiichaaDoorW.PrintLast
open Go.Proofs.YtcikahnmiiichaaDoor.Opens
def FnDigestsPure : Prop := ∀ (l0 : List Int), l0.length ≤ maxLen → l0.length * 1 ≤ 140737488351232 → (∀ x ∈ l0, (Lit.int .u8 x).wf = true) → ∃ k, laws_FnDigests.f k l0 = some true
end Go.Proofs.YtcikahnmiiichaaDoor.Pure
