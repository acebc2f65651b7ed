/- The pure statement of the law FnExactMissingChunk. -/
import Derived.Test.YtgannaafabhopaaA5
import Derived.Test.YtgannaafabhopaaAOpens
namespace Go.Proofs.Ytgannaafabhopaa.Pure
open Go.RowKit Go.Proofs.Ytgannaafabhopaa.A Go.Proofs.YtgannaafabhopaaW.PrintWords Go.Proofs.YtgannaafabhopaaW.PrintLast
open Go.Proofs.Ytgannaafabhopaa.Opens
def FnExactMissingChunkPure : Prop := ∀ (l0 : List ByteArray) (a1 : Int), ((l0.length ≤ maxLen ∧ ∀ a ∈ l0, a.size ≤ maxLen)) → ((Lit.int .i64 a1).wf = true) → ∃ k, laws_FnExactMissingChunk.f k l0 a1 = some true
end Go.Proofs.Ytgannaafabhopaa.Pure
