/- The pure statement of the law FnExactParseMachine. -/
import Derived.Test.YtcikahnmiiichaaDoorP14
import Derived.Test.YtcikahnmiiichaaDoorPOpens
namespace Go.Proofs.YtcikahnmiiichaaDoor.Pure
open Go.RowKit Go.Proofs.YtcikahnmiiichaaDoor.P Go.Proofs.YtcikahnmiiichaaDoorW.PrintWords Go.Proofs.YtcikahnmiiichaaDoorW.PrintLast
open Go.Proofs.YtcikahnmiiichaaDoor.Opens
def FnExactParseMachinePure : Prop := ∀ (a0 : ByteArray), a0.size ≤ 140737488351232 → ∃ k, laws_FnExactParseMachine.f k a0 = some true
end Go.Proofs.YtcikahnmiiichaaDoor.Pure
