/- The pure statement of the law FnExactEqualMachines. -/
import Derived.Test.YtgannaafabhopaaM5
import Derived.Test.YtgannaafabhopaaMOpens
namespace Go.Proofs.Ytgannaafabhopaa.Pure
open Go.RowKit Go.Proofs.Ytgannaafabhopaa.M Go.Proofs.YtgannaafabhopaaW.PrintWords Go.Proofs.YtgannaafabhopaaW.PrintLast
open Go.Proofs.Ytgannaafabhopaa.Opens
def FnExactEqualMachinesPure : Prop := ∀ (x0 : S53) (x1 : S53), (wf53 x0) → (wf53 x1) → ∃ k, laws_FnExactEqualMachines.f k x0.f0 x0.f1 x1.f0 x1.f1 = some true
end Go.Proofs.Ytgannaafabhopaa.Pure
