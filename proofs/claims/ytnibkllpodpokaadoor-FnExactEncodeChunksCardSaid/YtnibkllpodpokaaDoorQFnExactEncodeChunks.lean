/- The pure statement of the law FnExactEncodeChunks. -/
import Derived.Test.YtnibkllpodpokaaDoorB3
import Derived.Test.YtnibkllpodpokaaDoorBOpens
namespace Go.Proofs.YtnibkllpodpokaaDoor.Pure
open Go.RowKit Go.Proofs.YtnibkllpodpokaaDoor.B Go.Proofs.YtnibkllpodpokaaDoorW.PrintWords Go.Proofs.YtnibkllpodpokaaDoorW.PrintLast
open Go.Proofs.YtnibkllpodpokaaDoor.Opens
def FnExactEncodeChunksPure : Prop := ∀ (a0 : ByteArray) (a1 : Int), a0.size ≤ 140737488351232 → ((Lit.int .i64 a1).wf = true) → ∃ k, laws_FnExactEncodeChunks.f k a0 a1 = some true
end Go.Proofs.YtnibkllpodpokaaDoor.Pure
