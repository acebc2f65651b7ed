/- The pure statement of the law FnExactDecodeHex. -/
import Derived.Test.YtgannaafabhopaaA4
import Derived.Test.YtgannaafabhopaaAOpens
namespace Go.Proofs.Ytgannaafabhopaa.Pure
open Go.RowKit Go.Proofs.Ytgannaafabhopaa.A Go.Proofs.YtgannaafabhopaaW.PrintWords Go.Proofs.YtgannaafabhopaaW.PrintLast
open Go.Proofs.Ytgannaafabhopaa.Opens
def FnExactDecodeHexPure : Prop := ∀ (a0 : ByteArray), a0.size ≤ 140737488351232 → ∃ k, laws_FnExactDecodeHex.f k a0 = some true
end Go.Proofs.Ytgannaafabhopaa.Pure
