/- The pure statement of the law FnExactProvesPrefix. -/
import Derived.Test.YtkkbcnghlnogpaaDoorD10
import Derived.Test.YtkkbcnghlnogpaaDoorDOpens
namespace Go.Proofs.YtkkbcnghlnogpaaDoor.Pure
open Go.RowKit Go.Proofs.YtkkbcnghlnogpaaDoor.D Go.Proofs.YtkkbcnghlnogpaaDoorW.PrintWords Go.Proofs.YtkkbcnghlnogpaaDoorW.PrintLast
open Go.Proofs.YtkkbcnghlnogpaaDoor.Opens
def FnExactProvesPrefixPure : Prop := ∀ (l0 : List (S82)) (a1 : Int) (a2 : Int), ((l0.length ≤ maxLen ∧ ∀ zl0 ∈ l0, wf82 zl0)) → ((Lit.int .i64 a1).wf = true) → ((Lit.int .i64 a2).wf = true) → ∃ k, laws_FnExactProvesPrefix.f k l0 a1 a2 = some true
end Go.Proofs.YtkkbcnghlnogpaaDoor.Pure
