/- The pure statement of the law FnExactDigestList. -/
import Derived.Test.YtkkbcnghlnogpaaDoorD11
import Derived.Test.YtkkbcnghlnogpaaDoorDOpens
namespace Go.Proofs.YtkkbcnghlnogpaaDoor.Pure
open Go.RowKit Go.Proofs.YtkkbcnghlnogpaaDoor.D Go.Proofs.YtkkbcnghlnogpaaDoorW.PrintWords Go.Proofs.YtkkbcnghlnogpaaDoorW.PrintLast
open Go.Proofs.YtkkbcnghlnogpaaDoor.Opens
def FnExactDigestListPure : Prop := ∀ (l0 : List (S82)), ((l0.length ≤ maxLen ∧ ∀ zl0 ∈ l0, wf82 zl0)) → ∃ k, laws_FnExactDigestList.f k l0 = some true
end Go.Proofs.YtkkbcnghlnogpaaDoor.Pure
