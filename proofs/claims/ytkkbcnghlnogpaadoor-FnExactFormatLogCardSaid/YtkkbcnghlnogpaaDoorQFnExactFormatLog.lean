/- The pure statement of the law FnExactFormatLog. -/
import Derived.Test.YtkkbcnghlnogpaaDoorA9
import Derived.Test.YtkkbcnghlnogpaaDoorAOpens
namespace Go.Proofs.YtkkbcnghlnogpaaDoor.Pure
open Go.RowKit Go.Proofs.YtkkbcnghlnogpaaDoor.A Go.Proofs.YtkkbcnghlnogpaaDoorW.PrintWords Go.Proofs.YtkkbcnghlnogpaaDoorW.PrintLast
open Go.Proofs.YtkkbcnghlnogpaaDoor.Opens
def FnExactFormatLogPure : Prop := ∀ (l0 : List (S82)), ((l0.length ≤ maxLen ∧ ∀ zl0 ∈ l0, wf82 zl0)) → ∃ k, laws_FnExactFormatLog.f k l0 = some true
end Go.Proofs.YtkkbcnghlnogpaaDoor.Pure
