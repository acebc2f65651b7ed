/- The pure statement of the law FnExactFormatInt. -/
import Derived.Test.YtlnkpjjmgkmofaaDoorA1
import Derived.Test.YtlnkpjjmgkmofaaDoorAOpens
namespace Go.Proofs.YtlnkpjjmgkmofaaDoor.Pure
open Go.RowKit Go.Proofs.YtlnkpjjmgkmofaaDoor.A Go.Proofs.YtlnkpjjmgkmofaaDoorW.PrintWords Go.Proofs.YtlnkpjjmgkmofaaDoorW.PrintLast
open Go.Proofs.YtlnkpjjmgkmofaaDoor.Opens
def FnExactFormatIntPure : Prop := ∀ (a0 : Int), ((Lit.int .i64 a0).wf = true) → ∃ k, laws_FnExactFormatInt.f k a0 = some true
end Go.Proofs.YtlnkpjjmgkmofaaDoor.Pure
