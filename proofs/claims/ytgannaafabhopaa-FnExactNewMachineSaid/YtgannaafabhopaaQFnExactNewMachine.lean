/- The pure statement of the law FnExactNewMachine. -/
import Derived.Test.YtgannaafabhopaaK2
import Derived.Test.YtgannaafabhopaaKOpens
namespace Go.Proofs.Ytgannaafabhopaa.Pure
open Go.RowKit Go.Proofs.Ytgannaafabhopaa.K Go.Proofs.YtgannaafabhopaaW.PrintWords Go.Proofs.YtgannaafabhopaaW.PrintLast
open Go.Proofs.Ytgannaafabhopaa.Opens
def FnExactNewMachinePure : Prop := ∃ k, laws_FnExactNewMachine.f k  = some true
end Go.Proofs.Ytgannaafabhopaa.Pure
