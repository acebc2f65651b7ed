/- The pure statement of the law FnExactSnapshotText. -/
import Derived.Test.YtlnkpjjmgkmofaaDoorI9
import Derived.Test.YtlnkpjjmgkmofaaDoorIOpens
namespace Go.Proofs.YtlnkpjjmgkmofaaDoor.Pure
open Go.RowKit Go.Proofs.YtlnkpjjmgkmofaaDoor.I Go.Proofs.YtlnkpjjmgkmofaaDoorW.PrintWords Go.Proofs.YtlnkpjjmgkmofaaDoorW.PrintLast
open Go.Proofs.YtlnkpjjmgkmofaaDoor.Opens
def FnExactSnapshotTextPure : Prop := ∀ (x0 : S66), (wf66 x0) → ∃ k, laws_FnExactSnapshotText.f k x0.f0 x0.f1 x0.f2.f0 x0.f2.f1 = some true
end Go.Proofs.YtlnkpjjmgkmofaaDoor.Pure
