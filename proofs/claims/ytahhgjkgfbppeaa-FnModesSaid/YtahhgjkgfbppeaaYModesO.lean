/- What the laws' parameters read as leads to values of the printed kinds. Conditions: each theorem's own premises. -/
import Derived.Test.YtahhgjkgfbppeaaYModes0
import Derived.Test.YtahhgjkgfbppeaaOpen
import Derived.KernelRfl
namespace Go.Proofs.Ytahhgjkgfbppeaa.XA
open Go.RowKit Go.Proofs.YtahhgjkgfbppeaaW.PrintWords Go.Proofs.YtahhgjkgfbppeaaW.PrintLast Go.Proofs.YtahhgjkgfbppeaaW.PrintMore Go.Proofs.Ytahhgjkgfbppeaa.Opening
set_option linter.unusedVariables false
end Go.Proofs.Ytahhgjkgfbppeaa.XA
