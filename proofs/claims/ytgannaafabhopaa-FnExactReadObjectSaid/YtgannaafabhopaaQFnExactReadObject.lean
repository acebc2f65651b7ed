/- The pure statement of the law FnExactReadObject. -/
import Derived.Test.YtgannaafabhopaaV6
import Derived.Test.YtgannaafabhopaaVOpens
namespace Go.Proofs.Ytgannaafabhopaa.Pure
open Go.RowKit Go.Proofs.Ytgannaafabhopaa.V Go.Proofs.YtgannaafabhopaaW.PrintWords Go.Proofs.YtgannaafabhopaaW.PrintLast
open Go.Proofs.Ytgannaafabhopaa.Opens
def FnExactReadObjectPure : Prop := ∀ (x0 : S53) (a1 : Int), (wf53 x0) → ((Lit.int .i64 a1).wf = true) → ∃ k, laws_FnExactReadObject.f k x0.f0 x0.f1 a1 = some true
end Go.Proofs.Ytgannaafabhopaa.Pure
