/- What the marks of a machine come to. Conditions: each theorem's own premises. -/
import Derived.Test.YthkbgbkglgmpoaaYFirstKids1
import Derived.Test.YthkbgbkglgmpoaaYFirstKidsMarkMachine
import Derived.Test.YthkbgbkglgmpoaaYFirstKidsMarkSM
namespace Go.Proofs.Ythkbgbkglgmpoaa.XA
set_option linter.unusedVariables false
open Go.RowKit Go.Proofs.YthkbgbkglgmpoaaW.PrintWords Go.Proofs.YthkbgbkglgmpoaaW.PrintLast Go.Proofs.YthkbgbkglgmpoaaW.PrintMore Go.Proofs.Ythkbgbkglgmpoaa.Pk
def markBB : Int → List Bool → List Bool
  | _, [] => []
  | n, _ :: r => (Int.tmod n 3 == 0) :: markBB (n + 1) r
theorem markBoolS_loop : ∀ (r pre : List Bool) (n : Int), 0 ≤ n → n + r.length ≤ 4000000000000000000 → pre.length + r.length ≤ 1048576 → Ev (fun k => laws_markBoolS.l0 k (pre ++ r) n (pre.length : Int)) (n + r.length, pre ++ markBB n r)
  | [], pre, n, h0, h, hl => by
    refine Ev.step (fun k => by rw [laws_markBoolS.l0]) ?_
    rw [show n + (([] : List Bool).length : Int) = n from Int.add_zero n, show pre ++ markBB n [] = pre ++ [] from rfl]
    exact Ev.neg (by simp) (Ev.now _)
  | x :: r, pre, n, h0, h, hl => by
    simp only [List.length_cons] at hl h
    have ih := markBoolS_loop r (pre ++ [Int.tmod n 3 == 0]) (n + 1) (by omega) (by omega) (by simp; omega)
    refine Ev.step (fun k => by rw [laws_markBoolS.l0]) ?_
    refine Ev.pos (by simp; omega) (Ev.pos (by omega) ?_)
    rw [show (pre ++ x :: r).set ((pre.length : Int)).toNat (Int.tmod n 3 == 0) = (pre ++ [Int.tmod n 3 == 0]) ++ r by simp, show wrap64 ((pre.length : Int) + 1) = (((pre ++ [Int.tmod n 3 == 0]).length : Nat) : Int) by rw [wrap_id _ (by omega) (by omega)]; simp, wrap_id (n + 1) (by omega) (by omega)]
    rw [show n + ((x :: r).length : Int) = n + 1 + r.length by simp; omega, show pre ++ markBB n (x :: r) = pre ++ [Int.tmod n 3 == 0] ++ markBB (n + 1) r by simp [markBB]]
    exact ih
theorem markBoolS_ev (l : List Bool) (n : Int) (h0 : 0 ≤ n) (h : n + l.length ≤ 4000000000000000000) (hl : l.length ≤ 1048576) : Ev (fun k => laws_markBoolS.f k l n) (n + l.length, markBB n l) := markBoolS_loop l [] n h0 h (by simpa using hl)
theorem markMachine_ev (a : List (List Int)) (b : List Bool) (n : Int) (h0 : 0 ≤ n) (h : n + sumL a + b.length ≤ 4000000000000000000) (ha : a.length ≤ 1048576) (hb : b.length ≤ 1048576) : Ev (fun k => laws_markMachine.f k a b n) (n + sumL a + b.length, markLL n a, markBB (n + sumL a) b) := by
  have hs := sumL_ge a
  unfold laws_markMachine.f
  exact Ev.bind (markIntSS_ev a n h0 (by omega) ha) (Ev.bind (markBoolS_ev b (n + sumL a) (by omega) (by omega) hb) (Ev.now _))
end Go.Proofs.Ythkbgbkglgmpoaa.XA
