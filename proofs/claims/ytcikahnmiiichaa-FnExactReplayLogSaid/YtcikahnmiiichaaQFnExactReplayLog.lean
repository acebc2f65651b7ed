/- The pure statement of the law FnExactReplayLog. -/
import Derived.Test.YtcikahnmiiichaaR14
import Derived.Test.YtcikahnmiiichaaROpens
namespace Go.Proofs.Ytcikahnmiiichaa.Pure
open Go.RowKit Go.Proofs.Ytcikahnmiiichaa.R Go.Proofs.YtcikahnmiiichaaW.PrintWords Go.Proofs.YtcikahnmiiichaaW.PrintLast
open Go.Proofs.Ytcikahnmiiichaa.Opens
def FnExactReplayLogPure : Prop := ∀ (l0 : List (S97)), ((l0.length ≤ maxLen ∧ ∀ zl0 ∈ l0, wf97 zl0)) → ∃ k, laws_FnExactReplayLog.f k l0 = some true
end Go.Proofs.Ytcikahnmiiichaa.Pure
