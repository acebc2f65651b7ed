/- The pure statement of the law FnExactFormatServers. -/
import Derived.Test.YtlnkpjjmgkmofaaDoorE2
import Derived.Test.YtlnkpjjmgkmofaaDoorEOpens
namespace Go.Proofs.YtlnkpjjmgkmofaaDoor.Pure
open Go.RowKit Go.Proofs.YtlnkpjjmgkmofaaDoor.E Go.Proofs.YtlnkpjjmgkmofaaDoorW.PrintWords Go.Proofs.YtlnkpjjmgkmofaaDoorW.PrintLast
open Go.Proofs.YtlnkpjjmgkmofaaDoor.Opens
def FnExactFormatServersPure : Prop := ∀ (l0 : List Int), l0.length ≤ maxLen → l0.length * 8 ≤ 140737488351232 → (∀ x ∈ l0, (Lit.int .i64 x).wf = true) → ∃ k, laws_FnExactFormatServers.f k l0 = some true
end Go.Proofs.YtlnkpjjmgkmofaaDoor.Pure
