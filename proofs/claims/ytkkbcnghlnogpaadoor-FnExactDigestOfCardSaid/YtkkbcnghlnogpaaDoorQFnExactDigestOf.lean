/- The pure statement of the law FnExactDigestOf. -/
import Derived.Test.YtkkbcnghlnogpaaDoorA10
import Derived.Test.YtkkbcnghlnogpaaDoorAOpens
namespace Go.Proofs.YtkkbcnghlnogpaaDoor.Pure
open Go.RowKit Go.Proofs.YtkkbcnghlnogpaaDoor.A Go.Proofs.YtkkbcnghlnogpaaDoorW.PrintWords Go.Proofs.YtkkbcnghlnogpaaDoorW.PrintLast
open Go.Proofs.YtkkbcnghlnogpaaDoor.Opens
def FnExactDigestOfPure : Prop := ∀ (l0 : List (S82)) (a1 : Int), ((l0.length ≤ maxLen ∧ ∀ zl0 ∈ l0, wf82 zl0)) → ((Lit.int .i64 a1).wf = true) → ∃ k, laws_FnExactDigestOf.f k l0 a1 = some true
end Go.Proofs.YtkkbcnghlnogpaaDoor.Pure
