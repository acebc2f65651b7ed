/- The pure statement of the law FnExactJoinChunks. -/
import Derived.Test.YtijjfnkblfimfaaDoorC6
import Derived.Test.YtijjfnkblfimfaaDoorCOpens
namespace Go.Proofs.YtijjfnkblfimfaaDoor.Pure
open Go.RowKit Go.Proofs.YtijjfnkblfimfaaDoor.C Go.Proofs.YtijjfnkblfimfaaDoorW.PrintWords Go.Proofs.YtijjfnkblfimfaaDoorW.PrintLast
open Go.Proofs.YtijjfnkblfimfaaDoor.Opens
def FnExactJoinChunksPure : Prop := ∀ (l0 : List ByteArray) (a1 : Int), ((l0.length ≤ maxLen ∧ ∀ zl0 ∈ l0, zl0.size ≤ maxLen)) → ((Lit.int .i64 a1).wf = true) → ∃ k, laws_FnExactJoinChunks.f k l0 a1 = some true
end Go.Proofs.YtijjfnkblfimfaaDoor.Pure
