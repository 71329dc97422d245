/- What the marks of a row of rules come to, in numbers. Conditions: each theorem's own premises. -/
import Derived.Test.YthkbgbkglgmpoaaYSchemaLinesMarkRuleS
import Derived.Test.YthkbgbkglgmpoaaYSchemaLinesMarkTe
import Derived.Test.YthkbgbkglgmpoaaYSchemaLinesMarkT
namespace Go.Proofs.Ythkbgbkglgmpoaa.XA
set_option linter.unusedVariables false
open Go.RowKit Go.Proofs.YthkbgbkglgmpoaaW.PrintWords Go.Proofs.YthkbgbkglgmpoaaW.PrintLast Go.Proofs.YthkbgbkglgmpoaaW.PrintMore Go.Proofs.Ythkbgbkglgmpoaa.Pk
/-- How many numbers rules hold. -/
def sumR : List S97 → Int
  | [] => 0
  | x :: r => 2 + sumT x.f2 + sumR r
theorem sumR_ge : ∀ l : List S97, 0 ≤ sumR l
  | [] => Int.le_refl 0
  | x :: r => by
    have h1 := sumR_ge r
    have h2 := sumT_ge x.f2
    show 0 ≤ 2 + sumT x.f2 + sumR r
    omega
theorem markRuleS_loop : ∀ (r pre : List S97) (n : Int), 0 ≤ n → n + sumR r ≤ 4000000000000000000 → pre.length + r.length ≤ 1048576 → (∀ x ∈ r, x.f2.length ≤ 1048576) → ∃ q, Ev (fun k => laws_markRuleS.l0 k (pre ++ r) n (pre.length : Int)) (n + sumR r, q)
  | [], pre, n, h0, h, hl, hx => by
    refine ⟨pre ++ [], Ev.step (fun k => by rw [laws_markRuleS.l0]) ?_⟩
    rw [show n + sumR [] = n from Int.add_zero n]
    exact Ev.neg (by simp) (Ev.now _)
  | x :: r, pre, n, h0, h, hl, hx => by
    have hs := sumR_ge r
    have ht := sumT_ge x.f2
    have e : sumR (x :: r) = 2 + sumT x.f2 + sumR r := rfl
    simp only [List.length_cons] at hl
    have g : rd_T97 (pre ++ x :: r) (pre.length : Int) = x := by
      show (pre ++ x :: r).getD ((pre.length : Nat) : Int).toNat z97 = x
      simp
    have w1 : wrap64 (n + 1) = n + 1 := wrap_id _ (by omega) (by omega)
    have w2 : wrap64 (n + 1 + 1) = n + 1 + 1 := wrap_id _ (by omega) (by omega)
    obtain ⟨t, et⟩ := markText_ev n (by omega)
    obtain ⟨q1, em⟩ := markTermS_ex x.f2 (n + 1 + 1) (by omega) (by omega) (hx x List.mem_cons_self)
    obtain ⟨q, ih⟩ := markRuleS_loop r (pre ++ [⟨t, Int.tmod (n + 1) 3 == 0, q1⟩]) (n + 1 + 1 + sumT x.f2) (by omega) (by omega) (by simp; omega) (fun y hy => hx y (List.mem_cons_of_mem _ hy))
    refine ⟨q, Ev.step (fun k => by rw [laws_markRuleS.l0]) ?_⟩
    rw [g]
    simp only [w1, w2]
    refine Ev.pos (by simp; omega) (Ev.pos (by omega) (Ev.bind et (Ev.bind em ?_)))
    simp only
    rw [show (pre ++ x :: r).set ((pre.length : Int)).toNat ⟨t, Int.tmod (n + 1) 3 == 0, q1⟩ = (pre ++ [⟨t, Int.tmod (n + 1) 3 == 0, q1⟩]) ++ r by simp, show wrap64 ((pre.length : Int) + 1) = (((pre ++ [(⟨t, Int.tmod (n + 1) 3 == 0, q1⟩ : S97)]).length : Nat) : Int) by rw [wrap_id _ (by omega) (by omega)]; simp]
    rw [e, show n + (2 + sumT x.f2 + sumR r) = n + 1 + 1 + sumT x.f2 + sumR r by omega]
    exact ih
theorem markRuleS_ex (l : List S97) (n : Int) (h0 : 0 ≤ n) (h : n + sumR l ≤ 4000000000000000000) (hl : l.length ≤ 1048576) (hx : ∀ x ∈ l, x.f2.length ≤ 1048576) : ∃ q, Ev (fun k => laws_markRuleS.f k l n) (n + sumR l, q) := markRuleS_loop l [] n h0 h (by simpa using hl) hx
end Go.Proofs.Ythkbgbkglgmpoaa.XA
