/- Words that the contracts of this claim use, out of the print's words (what the claim does not reach is left out by a program of this session's). Conditions: each theorem's own premises. -/
import Derived.Test.YthkbgbkglgmpoaaWApart
import Derived.Test.YthkbgbkglgmpoaaWArr
namespace Go.Proofs.YthkbgbkglgmpoaaW.PrintWords
open Go.RowKit
namespace Kd
end Kd
end Go.Proofs.YthkbgbkglgmpoaaW.PrintWords
