/- The pure statement of the law FnIntegerEncodings. -/
import Derived.Test.YtkkbcnghlnogpaaDoorI5
import Derived.Test.YtkkbcnghlnogpaaDoorIOpens
namespace Go.Proofs.YtkkbcnghlnogpaaDoor.Pure
open Go.RowKit Go.Proofs.YtkkbcnghlnogpaaDoor.I Go.Proofs.YtkkbcnghlnogpaaDoorW.PrintWords Go.Proofs.YtkkbcnghlnogpaaDoorW.PrintLast
open Go.Proofs.YtkkbcnghlnogpaaDoor.Opens
def FnIntegerEncodingsPure : Prop := ∀ (l0 : List Int), l0.length ≤ maxLen → l0.length * 1 ≤ 140737488351232 → (∀ x ∈ l0, (Lit.int .u8 x).wf = true) → ∃ k, laws_FnIntegerEncodings.f k l0 = some true
end Go.Proofs.YtkkbcnghlnogpaaDoor.Pure
