/- The program's CodeWord answers what the reference's answers, for each code: the pure statement of FnExactCodeWord. Conditions: none. -/
import Derived.Test.YtilflaoobjdagaaPFnExactCodeWordx1
namespace Go.Proofs.Ytilflaoobjdagaa.Pure
open Go.RowKit Go.Proofs.Ytilflaoobjdagaa.PFnExactCodeWord Go.Proofs.YtilflaoobjdagaaW.PrintWords Go.Proofs.YtilflaoobjdagaaW.PrintLast

theorem FnExactCodeWord : laws_FnExactCodeWord.Pure := by
  intro c _
  unfold laws_FnExactCodeWord.f spec_CodeWord.f impl_CodeWord.f impl_isCode.f impl_within.f impl_codeWords.f
  simp only [Option.bind_some, List.length_cons, List.length_nil]
  by_cases h0 : c < 0
  · rw [if_pos h0, if_neg (by omega)]
    simp
  · rw [if_neg h0]
    by_cases h1 : c ≥ 22
    · rw [if_pos (by omega), if_pos (by omega)]
      have : decide (c ≤ 21) = false := by simp; omega
      simp [this]
    · have e1 : decide (c ≤ 21) = true := by simp; omega
      simp only [if_neg (show ¬ c ≥ ((0 + 1 + 1 + 1 + 1 + 1 + 1 + 1 + 1 + 1 + 1 + 1 + 1 + 1 + 1 + 1 + 1 + 1 + 1 + 1 + 1 + 1 + 1 : Nat) : Int) by omega), if_pos (show 0 ≤ c by omega), if_pos (show c < ((0 + 1 + 1 + 1 + 1 + 1 + 1 + 1 + 1 + 1 + 1 + 1 + 1 + 1 + 1 + 1 + 1 + 1 + 1 + 1 + 1 + 1 + 1 : Nat) : Int) by omega), Option.bind_some, e1, if_true]

end Go.Proofs.Ytilflaoobjdagaa.Pure
