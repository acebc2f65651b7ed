/- The pure statement of the law FnExactReceiveChunk. -/
import Derived.Test.YtijjfnkblfimfaaDoorC8
import Derived.Test.YtijjfnkblfimfaaDoorCOpens
namespace Go.Proofs.YtijjfnkblfimfaaDoor.Pure
open Go.RowKit Go.Proofs.YtijjfnkblfimfaaDoor.C Go.Proofs.YtijjfnkblfimfaaDoorW.PrintWords Go.Proofs.YtijjfnkblfimfaaDoorW.PrintLast
open Go.Proofs.YtijjfnkblfimfaaDoor.Opens
def FnExactReceiveChunkPure : Prop := ∀ (l0 : List ByteArray) (a1 : ByteArray), ((l0.length ≤ maxLen ∧ ∀ zl0 ∈ l0, zl0.size ≤ maxLen)) → a1.size ≤ 140737488351232 → ∃ k, laws_FnExactReceiveChunk.f k l0 a1 = some true
end Go.Proofs.YtijjfnkblfimfaaDoor.Pure
