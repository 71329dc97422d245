/- Words for the pure statements: what comes to a value from some number of rounds on; loops that fill, sum and compare rows. Conditions: each theorem's own premises. -/
import Derived.Test.YtahhgjkgfbppeaaWWords
import Derived.Test.YtahhgjkgfbppeaaWLast
import Derived.Test.YtahhgjkgfbppeaaWMore
namespace Go.Proofs.Ytahhgjkgfbppeaa.Pk
open Go.RowKit Go.Proofs.YtahhgjkgfbppeaaW.PrintWords
set_option linter.unusedVariables false
theorem wrap_id (n : Int) (h0 : -9223372036854775808 ≤ n) (h1 : n ≤ 9223372036854775807) : wrap64 n = n := by unfold wrap64; omega
theorem go_loop {ρ : Type} (n : Nat) (F : Nat → Int → Option ρ) (r : ρ)
    (hs : ∀ i : Nat, i < n → Ev (fun k => F k ((i : Int) + 1)) r → Ev (fun k => F k (i : Int)) r) (he : Ev (fun k => F k (n : Int)) r) : Ev (fun k => F k 0) r := by
  have key : ∀ (m i : Nat), i + m = n → Ev (fun k => F k (i : Int)) r := by
    intro m
    induction m with
    | zero => intro i hi; have e : i = n := by omega
              subst e; exact he
    | succ m ih => intro i hi; exact hs i (by omega) (ih (i + 1) (by omega))
  exact key n 0 (by omega)
theorem getD_mem {α : Type} (l : List α) (d : α) (i : Nat) (h : i < l.length) : l.getD i d ∈ l := by
  rw [List.getD_eq_getElem?_getD, List.getElem?_eq_getElem h]
  exact List.getElem_mem h
end Go.Proofs.Ytahhgjkgfbppeaa.Pk
