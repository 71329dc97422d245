/- What fits, fits both ways; the join of two modes is the least that has both: the pure statement of FnModes. Conditions: none. -/
import Derived.Test.YtahhgjkgfbppeaaYModes2
import Derived.Test.YtahhgjkgfbppeaaYModesK
set_option linter.unusedVariables false
set_option linter.unusedSimpArgs false
namespace Go.Proofs.Ytahhgjkgfbppeaa.Pure
set_option linter.unusedVariables false
open Go.RowKit Go.Proofs.Ytahhgjkgfbppeaa.XA Go.Proofs.Ytahhgjkgfbppeaa.Pk Go.Proofs.YtahhgjkgfbppeaaW.PrintWords
theorem FnModes : ∀ (x0 : List Int) (x1 : List Int), (x0.length ≤ maxLen ∧ ∀ y_ ∈ x0, (fun (n : Int) => (Lit.int .u8 n).wf = true) y_) → (x1.length ≤ maxLen ∧ ∀ y_ ∈ x1, (fun (n : Int) => (Lit.int .u8 n).wf = true) y_) → ∃ k, laws_FnModes.f k x0 x1 = some true := by
 intro l0 l1 _ _
 have hT : laws_FnModes.j0 1000 true = some true := by decide +kernel
 have hF : laws_FnModes.j0 1000 false = some true := by decide +kernel
 refine ⟨1000, ?_⟩
 show (if (l0.length : Int) > 1048576 then laws_FnModes.j0 1000 true else laws_FnModes.j0 1000 (decide ((l1.length : Int) > 1048576))) = some true
 by_cases h : (l0.length : Int) > 1048576
 ·rw [if_pos h]; exact hT
 ·rw [if_neg h]
  cases decide ((l1.length : Int) > 1048576)
  ·exact hF
  ·exact hT
end Go.Proofs.Ytahhgjkgfbppeaa.Pure
