/- The pure statement of the law FnMachine. -/
import Derived.Test.YtcikahnmiiichaaM14
import Derived.Test.YtcikahnmiiichaaMOpens
namespace Go.Proofs.Ytcikahnmiiichaa.Pure
open Go.RowKit Go.Proofs.Ytcikahnmiiichaa.M Go.Proofs.YtcikahnmiiichaaW.PrintWords Go.Proofs.YtcikahnmiiichaaW.PrintLast
open Go.Proofs.Ytcikahnmiiichaa.Opens
def FnMachinePure : Prop := ∀ (l0 : List Int), l0.length ≤ maxLen → l0.length * 1 ≤ 140737488351232 → (∀ x ∈ l0, (Lit.int .u8 x).wf = true) → ∃ k, laws_FnMachine.f k l0 = some true
end Go.Proofs.Ytcikahnmiiichaa.Pure
