/- The pure statement of the law FnExactResultAt. -/
import Derived.Test.YtcikahnmiiichaaT14
import Derived.Test.YtcikahnmiiichaaTOpens
namespace Go.Proofs.Ytcikahnmiiichaa.Pure
open Go.RowKit Go.Proofs.Ytcikahnmiiichaa.T Go.Proofs.YtcikahnmiiichaaW.PrintWords Go.Proofs.YtcikahnmiiichaaW.PrintLast
open Go.Proofs.Ytcikahnmiiichaa.Opens
def FnExactResultAtPure : Prop := ∀ (l0 : List (S97)) (a1 : Int), ((l0.length ≤ maxLen ∧ ∀ zl0 ∈ l0, wf97 zl0)) → ((Lit.int .i64 a1).wf = true) → ∃ k, laws_FnExactResultAt.f k l0 a1 = some true
end Go.Proofs.Ytcikahnmiiichaa.Pure
