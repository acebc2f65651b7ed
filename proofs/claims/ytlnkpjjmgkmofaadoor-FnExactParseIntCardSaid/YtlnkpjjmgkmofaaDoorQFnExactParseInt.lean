/- The pure statement of the law FnExactParseInt. -/
import Derived.Test.YtlnkpjjmgkmofaaDoorC2
import Derived.Test.YtlnkpjjmgkmofaaDoorCOpens
namespace Go.Proofs.YtlnkpjjmgkmofaaDoor.Pure
open Go.RowKit Go.Proofs.YtlnkpjjmgkmofaaDoor.C Go.Proofs.YtlnkpjjmgkmofaaDoorW.PrintWords Go.Proofs.YtlnkpjjmgkmofaaDoorW.PrintLast
open Go.Proofs.YtlnkpjjmgkmofaaDoor.Opens
def FnExactParseIntPure : Prop := ∀ (a0 : ByteArray), a0.size ≤ 140737488351232 → ∃ k, laws_FnExactParseInt.f k a0 = some true
end Go.Proofs.YtlnkpjjmgkmofaaDoor.Pure
