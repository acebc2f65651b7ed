/- The pure statement of the law FnChunks. -/
import Derived.Test.YtcikahnmiiichaaDoorK21
import Derived.Test.YtcikahnmiiichaaDoorKOpens
namespace Go.Proofs.YtcikahnmiiichaaDoor.Pure
open Go.RowKit Go.Proofs.YtcikahnmiiichaaDoor.K Go.Proofs.YtcikahnmiiichaaDoorW.PrintWords Go.Proofs.YtcikahnmiiichaaDoorW.PrintLast
open Go.Proofs.YtcikahnmiiichaaDoor.Opens
def FnChunksPure : Prop := ∀ (l0 : List Int), l0.length ≤ maxLen → l0.length * 1 ≤ 140737488351232 → (∀ x ∈ l0, (Lit.int .u8 x).wf = true) → ∃ k, laws_FnChunks.f k l0 = some true
end Go.Proofs.YtcikahnmiiichaaDoor.Pure
