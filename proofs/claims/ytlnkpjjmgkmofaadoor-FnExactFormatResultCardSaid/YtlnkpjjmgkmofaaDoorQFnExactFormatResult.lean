/- The pure statement of the law FnExactFormatResult. -/
import Derived.Test.YtlnkpjjmgkmofaaDoorB1
import Derived.Test.YtlnkpjjmgkmofaaDoorBOpens
namespace Go.Proofs.YtlnkpjjmgkmofaaDoor.Pure
open Go.RowKit Go.Proofs.YtlnkpjjmgkmofaaDoor.B Go.Proofs.YtlnkpjjmgkmofaaDoorW.PrintWords Go.Proofs.YtlnkpjjmgkmofaaDoorW.PrintLast
open Go.Proofs.YtlnkpjjmgkmofaaDoor.Opens
def FnExactFormatResultPure : Prop := ∀ (x0 : S25), (wf25 x0) → ∃ k, laws_FnExactFormatResult.f k x0.f0 x0.f1 = some true
end Go.Proofs.YtlnkpjjmgkmofaaDoor.Pure
