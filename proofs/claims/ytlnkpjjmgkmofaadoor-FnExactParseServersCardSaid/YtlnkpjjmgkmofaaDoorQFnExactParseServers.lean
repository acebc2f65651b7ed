/- The pure statement of the law FnExactParseServers. -/
import Derived.Test.YtlnkpjjmgkmofaaDoorF3
import Derived.Test.YtlnkpjjmgkmofaaDoorFOpens
namespace Go.Proofs.YtlnkpjjmgkmofaaDoor.Pure
open Go.RowKit Go.Proofs.YtlnkpjjmgkmofaaDoor.F Go.Proofs.YtlnkpjjmgkmofaaDoorW.PrintWords Go.Proofs.YtlnkpjjmgkmofaaDoorW.PrintLast
open Go.Proofs.YtlnkpjjmgkmofaaDoor.Opens
def FnExactParseServersPure : Prop := ∀ (a0 : ByteArray), a0.size ≤ 140737488351232 → ∃ k, laws_FnExactParseServers.f k a0 = some true
end Go.Proofs.YtlnkpjjmgkmofaaDoor.Pure
