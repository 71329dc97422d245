/- Words that the contracts of this claim use, out of the print's words (what the claim does not reach is left out by a program of this session's). Conditions: each theorem's own premises. -/
import Derived.Test.YtahhgjkgfbppeaaWLast
import Derived.Test.YtahhgjkgfbppeaaWWords
namespace Go.Proofs.YtahhgjkgfbppeaaW.PrintLast
open Go.Proofs.YtahhgjkgfbppeaaW.PrintWords (Aside0)
end Go.Proofs.YtahhgjkgfbppeaaW.PrintLast
