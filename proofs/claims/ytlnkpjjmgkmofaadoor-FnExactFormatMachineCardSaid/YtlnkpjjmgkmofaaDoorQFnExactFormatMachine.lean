/- The pure statement of the law FnExactFormatMachine. -/
import Derived.Test.YtlnkpjjmgkmofaaDoorG7
import Derived.Test.YtlnkpjjmgkmofaaDoorGOpens
namespace Go.Proofs.YtlnkpjjmgkmofaaDoor.Pure
open Go.RowKit Go.Proofs.YtlnkpjjmgkmofaaDoor.G Go.Proofs.YtlnkpjjmgkmofaaDoorW.PrintWords Go.Proofs.YtlnkpjjmgkmofaaDoorW.PrintLast
open Go.Proofs.YtlnkpjjmgkmofaaDoor.Opens
def FnExactFormatMachinePure : Prop := ∀ (x0 : S49), (wf49 x0) → ∃ k, laws_FnExactFormatMachine.f k x0.f0 x0.f1 = some true
end Go.Proofs.YtlnkpjjmgkmofaaDoor.Pure
