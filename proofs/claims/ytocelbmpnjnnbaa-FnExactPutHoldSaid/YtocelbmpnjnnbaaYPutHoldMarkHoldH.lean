/- That the marks of a row of locks are found again. Conditions: each theorem's own premises. -/
import Derived.Test.YtocelbmpnjnnbaaYPutHold18
import Derived.Test.YtocelbmpnjnnbaaYPutHoldMarkHold
namespace Go.Proofs.Ytocelbmpnjnnbaa.XA
set_option linter.unusedVariables false
open Go.RowKit Go.Proofs.YtocelbmpnjnnbaaW.PrintWords Go.Proofs.YtocelbmpnjnnbaaW.PrintLast Go.Proofs.YtocelbmpnjnnbaaW.PrintMore Go.Proofs.Ytocelbmpnjnnbaa.Pk
theorem heldHoldS_ev (m : Nat) (n : Int) (h0 : 0 ≤ n) (h : n + 3 * m ≤ 4000000000000000000) : Ev (fun k => laws_heldHoldS.f k (markHL n m) n) (n + 3 * (m : Int)) := by
  obtain ⟨r, hr, rfl⟩ := mark_loop m (fun i (s : Int) => s = n + 3 * (i : Int)) (fun r => r = n + 3 * (m : Int)) (fun k i s => laws_heldHoldS.l0 k (markHL n m) s i)
    (fun i s hi e hr => by
      subst e
      have a1 : wrap64 (n + 3 * (i : Int) + 1) = n + 3 * (i : Int) + 1 := wrap_id _ (by omega) (by omega)
      have a3 : wrap64 (n + 3 * (i : Int) + 1 + 1) = n + 3 * (i : Int) + 1 + 1 := wrap_id _ (by omega) (by omega)
      have a4 : wrap64 (n + 3 * (i : Int) + 1 + 1 + 1) = n + 3 * (i : Int) + 1 + 1 + 1 := wrap_id _ (by omega) (by omega)
      have a2 : wrap64 ((i : Int) + 1) = (i : Int) + 1 := wrap_id _ (by omega) (by omega)
      have a5 : rd_T38 (markHL n m) (i : Int) = ⟨n + 3 * (i : Int), n + 3 * (i : Int) + 1, n + 3 * (i : Int) + 1 + 1⟩ := by
        show (markHL n m).getD i _ = _
        rw [List.getD_eq_getElem?_getD, markHL_at _ _ _ hi]
        rfl
      obtain ⟨r, h1, h2⟩ := hr (n + 3 * (i : Int) + 1 + 1 + 1) (by omega)
      refine ⟨r, Ev.step (fun k => ?_) h1, h2⟩
      show laws_heldHoldS.l0 (k + 1) (markHL n m) (n + 3 * (i : Int)) i = _
      rw [laws_heldHoldS.l0, if_pos (by rw [markHL_len]; omega), if_pos (by omega)]
      simp only [a5, a1, a3, a4, a2, if_true])
    (fun s e => by
      refine ⟨_, Ev.step (fun k => ?_) (Ev.now s), e⟩
      show laws_heldHoldS.l0 (k + 1) (markHL n m) s m = _
      rw [laws_heldHoldS.l0, if_neg (by rw [markHL_len]; omega)])
    n (by simp)
  exact hr
end Go.Proofs.Ytocelbmpnjnnbaa.XA
