/- The program's JoinModes answers what the reference's answers, for each two numbers: the pure statement of FnExactJoinModes. Conditions: none. -/
import Derived.Test.YtilflaoobjdagaaXA1
import Derived.Test.YtilflaoobjdagaaXAO
namespace Go.Proofs.Ytilflaoobjdagaa.Pure
open Go.RowKit Go.Proofs.Ytilflaoobjdagaa.XA Go.Proofs.YtilflaoobjdagaaW.PrintWords Go.Proofs.YtilflaoobjdagaaW.PrintLast Go.Proofs.YtilflaoobjdagaaW.PrintMore

theorem joins (a b : Int) : spec_l07Join.f 2 a b = impl_joined.f a b := by
  unfold impl_joined.f
  by_cases h : a > b
  · have e1 : mn a b = b := by unfold mn; rw [if_pos (by omega)]
    have e2 : mx a b = a := by unfold mx; rw [if_neg (by omega)]
    rw [e1, e2]
    simp only [spec_l07Join.f]
    rw [if_pos h, if_neg (by omega)]
    by_cases c : b = 2 <;> by_cases d : a = 3 <;> simp [c, d]
  · have e1 : mn a b = a := by unfold mn; rw [if_neg (by omega)]
    have e2 : mx a b = b := by unfold mx; split <;> omega
    rw [e1, e2]
    simp only [spec_l07Join.f]
    rw [if_neg h]

theorem FnExactJoinModes : ∀ (x0 : Int) (x1 : Int), (Lit.int .i64 x0).wf = true → (Lit.int .i64 x1).wf = true → ∃ k, laws_FnExactJoinModes.f k x0 x1 = some true := by
  intro a b _ _
  refine ⟨2, ?_⟩
  unfold laws_FnExactJoinModes.f spec_JoinModes.f impl_JoinModes.f impl_isMode.f spec_l01In.f impl_within.f
  rw [joins]
  obtain ⟨r, hr⟩ : ∃ r, impl_joined.f a b = some r := by
    unfold impl_joined.f; repeat' split
    all_goals exact ⟨_, rfl⟩
  rw [hr]
  by_cases h0 : a ≥ 0 <;> by_cases h1 : a ≤ 5 <;> by_cases h2 : b ≥ 0 <;> by_cases h3 : b ≤ 5 <;> simp [h0, h1, h2, h3]

end Go.Proofs.Ytilflaoobjdagaa.Pure
