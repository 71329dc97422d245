/- Every exported constant of the program has the value that the document gives it: the pure statement of FnExactConstants. Conditions: none. -/
import Derived.Test.YtilflaoobjdagaaPFnExactConstantsx1
namespace Go.Proofs.Ytilflaoobjdagaa.Pure
open Go.RowKit Go.Proofs.Ytilflaoobjdagaa.PFnExactConstants Go.Proofs.YtilflaoobjdagaaW.PrintWords Go.Proofs.YtilflaoobjdagaaW.PrintLast

theorem FnExactConstants : laws_FnExactConstants.Pure := by
  unfold laws_FnExactConstants.Pure
  rfl

end Go.Proofs.Ytilflaoobjdagaa.Pure
