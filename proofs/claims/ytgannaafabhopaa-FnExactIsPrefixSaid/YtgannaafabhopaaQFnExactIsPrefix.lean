/- The pure statement of the law FnExactIsPrefix. -/
import Derived.Test.YtgannaafabhopaaA7
import Derived.Test.YtgannaafabhopaaAOpens
namespace Go.Proofs.Ytgannaafabhopaa.Pure
open Go.RowKit Go.Proofs.Ytgannaafabhopaa.A Go.Proofs.YtgannaafabhopaaW.PrintWords Go.Proofs.YtgannaafabhopaaW.PrintLast
open Go.Proofs.Ytgannaafabhopaa.Opens
def FnExactIsPrefixPure : Prop := ∀ (l0 : List (S79)) (l1 : List (S79)), ((l0.length ≤ maxLen ∧ ∀ a ∈ l0, wf79 a)) → ((l1.length ≤ maxLen ∧ ∀ a ∈ l1, wf79 a)) → ∃ k, laws_FnExactIsPrefix.f k l0 l1 = some true
end Go.Proofs.Ytgannaafabhopaa.Pure
