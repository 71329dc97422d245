/- Words that the contracts of this claim use, out of the print's words (what the claim does not reach is left out by a program of this session's). Conditions: each theorem's own premises. -/
import Derived.Test.YthkbgbkglgmpoaaWLast
import Derived.Test.YthkbgbkglgmpoaaWWords
namespace Go.Proofs.YthkbgbkglgmpoaaW.PrintLast
open Go.Proofs.YthkbgbkglgmpoaaW.PrintWords (Aside0)
end Go.Proofs.YthkbgbkglgmpoaaW.PrintLast
