/- The pure statement of the law FnExactIsValidMachine. -/
import Derived.Test.YtgannaafabhopaaV6
import Derived.Test.YtgannaafabhopaaVOpens
namespace Go.Proofs.Ytgannaafabhopaa.Pure
open Go.RowKit Go.Proofs.Ytgannaafabhopaa.V Go.Proofs.YtgannaafabhopaaW.PrintWords Go.Proofs.YtgannaafabhopaaW.PrintLast
open Go.Proofs.Ytgannaafabhopaa.Opens
def FnExactIsValidMachinePure : Prop := ∀ (x0 : S53), (wf53 x0) → ∃ k, laws_FnExactIsValidMachine.f k x0.f0 x0.f1 = some true
end Go.Proofs.Ytgannaafabhopaa.Pure
