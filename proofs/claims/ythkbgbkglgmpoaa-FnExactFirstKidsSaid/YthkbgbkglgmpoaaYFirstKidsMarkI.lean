/- That the marks of a row of whole numbers are found again. Conditions: each theorem's own premises. -/
import Derived.Test.YthkbgbkglgmpoaaYFirstKids5
import Derived.Test.YthkbgbkglgmpoaaYFirstKidsMarkB
namespace Go.Proofs.Ythkbgbkglgmpoaa.XA
set_option linter.unusedVariables false
open Go.RowKit Go.Proofs.YthkbgbkglgmpoaaW.PrintWords Go.Proofs.YthkbgbkglgmpoaaW.PrintLast Go.Proofs.YthkbgbkglgmpoaaW.PrintMore Go.Proofs.Ythkbgbkglgmpoaa.Pk
theorem heldIntS_ev (m : Nat) (n : Int) (h0 : 0 ≤ n) (h : n + m ≤ 4000000000000000000) : Ev (fun k => laws_heldIntS.f k (markL n m) n) (n + m) := by
  obtain ⟨r, hr, rfl⟩ := mark_loop m (fun i (s : Int) => s = n + i) (fun r => r = n + (m : Int)) (fun k i s => laws_heldIntS.l0 k (markL n m) s i)
    (fun i s hi e hr => by
      subst e
      have a1 : wrap64 (n + (i : Int) + 1) = n + (i : Int) + 1 := wrap_id _ (by omega) (by omega)
      have a2 : wrap64 ((i : Int) + 1) = (i : Int) + 1 := wrap_id _ (by omega) (by omega)
      have a3 : rd (markL n m) (i : Int) = n + (i : Int) := by
        show (markL n m).getD i 0 = _
        rw [List.getD_eq_getElem?_getD, markL_at _ _ _ hi]
        rfl
      obtain ⟨r, h1, h2⟩ := hr (n + (i : Int) + 1) (by omega)
      refine ⟨r, Ev.step (fun k => ?_) h1, h2⟩
      show laws_heldIntS.l0 (k + 1) (markL n m) (n + (i : Int)) i = _
      rw [laws_heldIntS.l0, if_pos (by rw [markL_len]; omega), if_pos (by omega), if_pos a3, a1, a2])
    (fun s e => by
      refine ⟨_, Ev.step (fun k => ?_) (Ev.now s), e⟩
      show laws_heldIntS.l0 (k + 1) (markL n m) s m = _
      rw [laws_heldIntS.l0, if_neg (by rw [markL_len]; omega)])
    n (by simp)
  exact hr
end Go.Proofs.Ythkbgbkglgmpoaa.XA
