/- What the marks of a row of terms come to, in numbers. Conditions: each theorem's own premises. -/
import Derived.Test.YthkbgbkglgmpoaaYSchemaLines9
import Derived.Test.YthkbgbkglgmpoaaYSchemaLines4
import Derived.Test.YthkbgbkglgmpoaaYSchemaLinesMarkTermS
import Derived.Test.YthkbgbkglgmpoaaYSchemaLinesMarkB
namespace Go.Proofs.Ythkbgbkglgmpoaa.XA
set_option linter.unusedVariables false
open Go.RowKit Go.Proofs.YthkbgbkglgmpoaaW.PrintWords Go.Proofs.YthkbgbkglgmpoaaW.PrintLast Go.Proofs.YthkbgbkglgmpoaaW.PrintMore Go.Proofs.Ythkbgbkglgmpoaa.Pk
/-- How many numbers terms hold. -/
def sumT : List S78 → Int
  | [] => 0
  | x :: r => x.f0.length + 1 + sumT r
theorem sumT_ge : ∀ l : List S78, 0 ≤ sumT l
  | [] => Int.le_refl 0
  | x :: r => by
    have := sumT_ge r
    show 0 ≤ (x.f0.length : Int) + 1 + sumT r
    omega
theorem markTermS_loop : ∀ (r pre : List S78) (n : Int), 0 ≤ n → n + sumT r ≤ 4000000000000000000 → pre.length + r.length ≤ 1048576 → ∃ q, Ev (fun k => laws_markTermS.l0 k (pre ++ r) n (pre.length : Int)) (n + sumT r, q)
  | [], pre, n, h0, h, hl => by
    refine ⟨pre ++ [], Ev.step (fun k => by rw [laws_markTermS.l0]) ?_⟩
    rw [show n + sumT [] = n from Int.add_zero n]
    exact Ev.neg (by simp) (Ev.now _)
  | x :: r, pre, n, h0, h, hl => by
    have hs := sumT_ge r
    have e : sumT (x :: r) = x.f0.length + 1 + sumT r := rfl
    simp only [List.length_cons] at hl
    have g : rd_T78 (pre ++ x :: r) (pre.length : Int) = x := by
      show (pre ++ x :: r).getD ((pre.length : Nat) : Int).toNat z78 = x
      simp
    obtain ⟨q, ih⟩ := markTermS_loop r (pre ++ [⟨markL n x.f0.length, n + x.f0.length⟩]) (n + x.f0.length + 1) (by omega) (by omega) (by simp; omega)
    refine ⟨q, Ev.step (fun k => by rw [laws_markTermS.l0]) ?_⟩
    rw [g]
    refine Ev.pos (by simp; omega) (Ev.pos (by omega) (Ev.bind (markIntS_ev x.f0 n h0 (by omega)) ?_))
    simp only
    rw [show (pre ++ x :: r).set ((pre.length : Int)).toNat ⟨markL n x.f0.length, n + x.f0.length⟩ = (pre ++ [⟨markL n x.f0.length, n + x.f0.length⟩]) ++ r by simp, show wrap64 ((pre.length : Int) + 1) = (((pre ++ [(⟨markL n x.f0.length, n + x.f0.length⟩ : S78)]).length : Nat) : Int) by rw [wrap_id _ (by omega) (by omega)]; simp, wrap_id (n + x.f0.length + 1) (by omega) (by omega)]
    rw [e, show n + ((x.f0.length : Int) + 1 + sumT r) = n + x.f0.length + 1 + sumT r by omega]
    exact ih
theorem markTermS_ex (l : List S78) (n : Int) (h0 : 0 ≤ n) (h : n + sumT l ≤ 4000000000000000000) (hl : l.length ≤ 1048576) : ∃ q, Ev (fun k => laws_markTermS.f k l n) (n + sumT l, q) := markTermS_loop l [] n h0 h (by simpa using hl)
end Go.Proofs.Ythkbgbkglgmpoaa.XA
