/- The pure statement of the law FnExactParseLog. -/
import Derived.Test.YtcikahnmiiichaaDoorL16
import Derived.Test.YtcikahnmiiichaaDoorLOpens
namespace Go.Proofs.YtcikahnmiiichaaDoor.Pure
open Go.RowKit Go.Proofs.YtcikahnmiiichaaDoor.L Go.Proofs.YtcikahnmiiichaaDoorW.PrintWords Go.Proofs.YtcikahnmiiichaaDoorW.PrintLast
open Go.Proofs.YtcikahnmiiichaaDoor.Opens
def FnExactParseLogPure : Prop := ∀ (a0 : ByteArray), a0.size ≤ 140737488351232 → ∃ k, laws_FnExactParseLog.f k a0 = some true
end Go.Proofs.YtcikahnmiiichaaDoor.Pure
