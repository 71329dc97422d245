/- What the marks of rows of whole numbers come to. Conditions: each theorem's own premises. -/
import Derived.Test.YthkbgbkglgmpoaaYFirstKidsMarkIntSS
import Derived.Test.YthkbgbkglgmpoaaYFirstKidsMarkB
namespace Go.Proofs.Ythkbgbkglgmpoaa.XA
set_option linter.unusedVariables false
open Go.RowKit Go.Proofs.YthkbgbkglgmpoaaW.PrintWords Go.Proofs.YthkbgbkglgmpoaaW.PrintLast Go.Proofs.YthkbgbkglgmpoaaW.PrintMore Go.Proofs.Ythkbgbkglgmpoaa.Pk
/-- How many numbers rows hold. -/
def sumL : List (List Int) → Int
  | [] => 0
  | x :: r => x.length + sumL r
theorem sumL_ge : ∀ l : List (List Int), 0 ≤ sumL l
  | [] => Int.le_refl 0
  | x :: r => by
    have := sumL_ge r
    show 0 ≤ (x.length : Int) + sumL r
    omega
def markLL : Int → List (List Int) → List (List Int)
  | _, [] => []
  | n, x :: r => markL n x.length :: markLL (n + x.length) r
theorem mid_get (pre r : List (List Int)) (x : List Int) : rdOf ([] : List Int) (pre ++ x :: r) (pre.length : Int) = x := by
  show (pre ++ x :: r).getD ((pre.length : Nat) : Int).toNat [] = x
  simp
theorem mid_set (pre r : List (List Int)) (x y : List Int) : (pre ++ x :: r).set ((pre.length : Int)).toNat y = (pre ++ [y]) ++ r := by
  simp
theorem markSS_loop : ∀ (r pre : List (List Int)) (n : Int), 0 ≤ n → n + sumL r ≤ 4000000000000000000 → pre.length + r.length ≤ 1048576 → Ev (fun k => laws_markIntSS.l0 k (pre ++ r) n (pre.length : Int)) (n + sumL r, pre ++ markLL n r)
  | [], pre, n, h0, h, hl => by
    refine Ev.step (fun k => by rw [laws_markIntSS.l0]) ?_
    rw [show n + sumL [] = n from Int.add_zero n, show pre ++ markLL n [] = pre ++ [] from rfl]
    exact Ev.neg (by simp) (Ev.now _)
  | x :: r, pre, n, h0, h, hl => by
    have hs := sumL_ge r
    have e : sumL (x :: r) = x.length + sumL r := rfl
    simp only [List.length_cons] at hl
    have ih := markSS_loop r (pre ++ [markL n x.length]) (n + x.length) (by omega) (by omega) (by simp; omega)
    refine Ev.step (fun k => by rw [laws_markIntSS.l0]) ?_
    rw [mid_get]
    refine Ev.pos (by simp; omega) (Ev.pos (by omega) (Ev.bind (markIntS_ev x n h0 (by omega)) ?_))
    simp only
    rw [mid_set, show wrap64 ((pre.length : Int) + 1) = (((pre ++ [markL n x.length]).length : Nat) : Int) by rw [wrap_id _ (by omega) (by omega)]; simp]
    rw [e, show n + ((x.length : Int) + sumL r) = n + x.length + sumL r by omega, show pre ++ markLL n (x :: r) = pre ++ [markL n x.length] ++ markLL (n + x.length) r by simp [markLL]]
    exact ih
theorem markIntSS_ev (l : List (List Int)) (n : Int) (h0 : 0 ≤ n) (h : n + sumL l ≤ 4000000000000000000) (hl : l.length ≤ 1048576) : Ev (fun k => laws_markIntSS.f k l n) (n + sumL l, markLL n l) := markSS_loop l [] n h0 h (by simpa using hl)
end Go.Proofs.Ythkbgbkglgmpoaa.XA
