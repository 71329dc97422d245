/- Words for the pure statements: what comes to a value from some number of rounds on; loops that fill, sum and compare rows. Conditions: each theorem's own premises. -/
import Derived.Test.YtahhgjkgfbppeaaWWords
import Derived.Test.YtahhgjkgfbppeaaWLast
import Derived.Test.YtahhgjkgfbppeaaWMore
namespace Go.Proofs.Ytahhgjkgfbppeaa.Pk
open Go.RowKit Go.Proofs.YtahhgjkgfbppeaaW.PrintWords
set_option linter.unusedVariables false
end Go.Proofs.Ytahhgjkgfbppeaa.Pk
