/- The pure statement of the law FnExactParseOp. -/
import Derived.Test.YtijjfnkblfimfaaDoorO9
import Derived.Test.YtijjfnkblfimfaaDoorOOpens
namespace Go.Proofs.YtijjfnkblfimfaaDoor.Pure
open Go.RowKit Go.Proofs.YtijjfnkblfimfaaDoor.O Go.Proofs.YtijjfnkblfimfaaDoorW.PrintWords Go.Proofs.YtijjfnkblfimfaaDoorW.PrintLast
open Go.Proofs.YtijjfnkblfimfaaDoor.Opens
def FnExactParseOpPure : Prop := ∀ (a0 : ByteArray), a0.size ≤ 140737488351232 → ∃ k, laws_FnExactParseOp.f k a0 = some true
end Go.Proofs.YtijjfnkblfimfaaDoor.Pure
