/- The program's IntentOf answers what the reference's answers, for each number: the pure statement of FnExactIntentOf. Conditions: none. -/
import Derived.Test.YtilflaoobjdagaaPFnExactIntentOfx1
namespace Go.Proofs.Ytilflaoobjdagaa.Pure
open Go.RowKit Go.Proofs.Ytilflaoobjdagaa.PFnExactIntentOf Go.Proofs.YtilflaoobjdagaaW.PrintWords Go.Proofs.YtilflaoobjdagaaW.PrintLast

theorem FnExactIntentOf : laws_FnExactIntentOf.Pure := by
  intro c _
  unfold laws_FnExactIntentOf.f spec_IntentOf.f impl_IntentOf.f impl_isMode.f spec_l01In.f impl_within.f
  by_cases h0 : c ≥ 0
  · rw [if_pos h0]
    simp only [Option.bind_some]
    by_cases h1 : decide (c ≤ 5) = true
    · rw [if_pos h1, if_pos h1]
      have : impl_intent.f c = spec_l07Intent.f c := rfl
      rw [this]
      unfold spec_l07Intent.f
      by_cases a : c = 0
      · simp [a]
      · by_cases b : c = 1
        · simp [b]
        · by_cases d : c = 3
          · simp [d]
          · simp [a, b, d]
    · rw [if_neg h1, if_neg h1]
      simp
  · rw [if_neg h0]
    simp

end Go.Proofs.Ytilflaoobjdagaa.Pure
