/- The pure statement of the law FnExactEqualSnapshots. -/
import Derived.Test.YtlnkpjjmgkmofaaA5
import Derived.Test.YtlnkpjjmgkmofaaAOpens
namespace Go.Proofs.Ytlnkpjjmgkmofaa.Pure
open Go.RowKit Go.Proofs.Ytlnkpjjmgkmofaa.A Go.Proofs.YtlnkpjjmgkmofaaW.PrintWords Go.Proofs.YtlnkpjjmgkmofaaW.PrintLast
open Go.Proofs.Ytlnkpjjmgkmofaa.Opens
def FnExactEqualSnapshotsPure : Prop := ∀ (x0 : S44) (x1 : S44), (wf44 x0) → (wf44 x1) → ∃ k, laws_FnExactEqualSnapshots.f k x0.f0 x0.f1 x0.f2.f0 x0.f2.f1 x1.f0 x1.f1 x1.f2.f0 x1.f2.f1 = some true
end Go.Proofs.Ytlnkpjjmgkmofaa.Pure
