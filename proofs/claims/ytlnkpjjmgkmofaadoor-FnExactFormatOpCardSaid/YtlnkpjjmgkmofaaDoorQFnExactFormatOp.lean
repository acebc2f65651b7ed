/- The pure statement of the law FnExactFormatOp. -/
import Derived.Test.YtlnkpjjmgkmofaaDoorD4
import Derived.Test.YtlnkpjjmgkmofaaDoorDOpens
namespace Go.Proofs.YtlnkpjjmgkmofaaDoor.Pure
open Go.RowKit Go.Proofs.YtlnkpjjmgkmofaaDoor.D Go.Proofs.YtlnkpjjmgkmofaaDoorW.PrintWords Go.Proofs.YtlnkpjjmgkmofaaDoorW.PrintLast
open Go.Proofs.YtlnkpjjmgkmofaaDoor.Opens
def FnExactFormatOpPure : Prop := ∀ (x0 : S34), (wf34 x0) → ∃ k, laws_FnExactFormatOp.f k x0.f0 x0.f1 x0.f2 x0.f3 x0.f4 x0.f5 = some true
end Go.Proofs.YtlnkpjjmgkmofaaDoor.Pure
