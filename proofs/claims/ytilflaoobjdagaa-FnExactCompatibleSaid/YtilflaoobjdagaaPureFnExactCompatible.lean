/- The program's Compatible answers what the reference's answers, for each two numbers: the pure statement of FnExactCompatible. Conditions: none. -/
import Derived.Test.YtilflaoobjdagaaPFnExactCompatiblex1
namespace Go.Proofs.Ytilflaoobjdagaa.Pure
open Go.RowKit Go.Proofs.Ytilflaoobjdagaa.PFnExactCompatible Go.Proofs.YtilflaoobjdagaaW.PrintWords Go.Proofs.YtilflaoobjdagaaW.PrintLast Go.Proofs.YtilflaoobjdagaaW.PrintMore

theorem fits_low (k : Nat) (a b : Int) (h0 : ¬ a = 0) (h1 : ¬ b = 0) (h : ¬ a > b) :
    spec_l07Fits.f (k + 2) a b = (if a = 1 then (some (b != 5)) else (if a = 2 then (some (b == 2)) else (if a = 3 then (some (b == 3)) else (some false)))) := by
  simp only [spec_l07Fits.f, spec_l07Fits.j0]
  rw [if_neg h0]
  have e : (b == 0) = false := by simp [h1]
  rw [e, if_neg (by decide), if_neg h]

theorem fits (a b : Int) (ha : a ≥ 0) (hb : b ≥ 0) : spec_l07Fits.f 4 a b = impl_compatible.f a b := by
  unfold impl_compatible.f
  by_cases a0 : a = 0
  · have e1 : mn a b = 0 := by unfold mn; split <;> omega
    simp only [spec_l07Fits.f, spec_l07Fits.j0]
    rw [if_pos a0, e1]; rfl
  · by_cases b0 : b = 0
    · have e1 : mn a b = 0 := by unfold mn; split <;> omega
      simp only [spec_l07Fits.f, spec_l07Fits.j0]
      rw [if_neg a0, e1, b0]; rfl
    · by_cases h : a > b
      · have e1 : mn a b = b := by unfold mn; split <;> omega
        have e2 : mx a b = a := by unfold mx; split <;> omega
        have e := fits_low 0 b a b0 a0 (by omega)
        rw [spec_l07Fits.f, if_neg a0, spec_l07Fits.j0]
        have e3 : (b == 0) = false := by simp [b0]
        rw [e3, if_neg (by decide), if_pos h, e, e1, e2, if_neg b0]
        repeat' split
        all_goals rfl
      · have e1 : mn a b = a := by unfold mn; split <;> omega
        have e2 : mx a b = b := by unfold mx; split <;> omega
        rw [fits_low 2 a b a0 b0 h, e1, e2, if_neg a0]

theorem FnExactCompatible : laws_FnExactCompatible.Pure := by
  intro a b _ _
  refine ⟨4, ?_⟩
  unfold laws_FnExactCompatible.f spec_Compatible.f impl_Compatible.f impl_isMode.f spec_l01In.f impl_within.f
  by_cases h0 : a ≥ 0
  · by_cases h2 : b ≥ 0
    · rw [fits a b h0 h2]
      obtain ⟨r, hr⟩ : ∃ r, impl_compatible.f a b = some r := by
        unfold impl_compatible.f; repeat' split
        all_goals exact ⟨_, rfl⟩
      rw [hr]
      by_cases h1 : a ≤ 5 <;> by_cases h3 : b ≤ 5 <;> simp [h0, h1, h2, h3]
    · by_cases h1 : a ≤ 5 <;> simp [h0, h1, h2]
  · simp [h0]

end Go.Proofs.Ytilflaoobjdagaa.Pure
