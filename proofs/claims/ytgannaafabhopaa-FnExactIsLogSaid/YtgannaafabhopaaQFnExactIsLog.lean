/- The pure statement of the law FnExactIsLog. -/
import Derived.Test.YtgannaafabhopaaI6
import Derived.Test.YtgannaafabhopaaIOpens
namespace Go.Proofs.Ytgannaafabhopaa.Pure
open Go.RowKit Go.Proofs.Ytgannaafabhopaa.I Go.Proofs.YtgannaafabhopaaW.PrintWords Go.Proofs.YtgannaafabhopaaW.PrintLast
open Go.Proofs.Ytgannaafabhopaa.Opens
def FnExactIsLogPure : Prop := ∀ (l0 : List (S79)), ((l0.length ≤ maxLen ∧ ∀ zl0 ∈ l0, wf79 zl0)) → ∃ k, laws_FnExactIsLog.f k l0 = some true
end Go.Proofs.Ytgannaafabhopaa.Pure
