/- What the laws' parameters read as leads to values of the printed kinds. Conditions: each theorem's own premises. -/
import Derived.Test.YthkbgbkglgmpoaaYFirstKids0
import Derived.Test.YthkbgbkglgmpoaaOpen
import Derived.KernelRfl
namespace Go.Proofs.Ythkbgbkglgmpoaa.XA
open Go.RowKit Go.Proofs.YthkbgbkglgmpoaaW.PrintWords Go.Proofs.YthkbgbkglgmpoaaW.PrintLast Go.Proofs.YthkbgbkglgmpoaaW.PrintMore Go.Proofs.Ythkbgbkglgmpoaa.Opening
set_option linter.unusedVariables false
def ok37 (x : S37) : Prop := (x.f0.length ≤ maxLen ∧ ∀ y_ ∈ x.f0, (fun (l : List (Int)) => l.length ≤ maxLen ∧ ∀ y_ ∈ l, (fun (n : Int) => (Lit.int .i64 n).wf = true) y_) y_) ∧ (x.f1.length ≤ maxLen ∧ ∀ y_ ∈ x.f1, (fun (_ : Bool) => True) y_)
theorem opens37 : Opens Try.prog 37 k37 ok37 := by
  intro H enc W fuel cs d ps hd
  cases fuel with
  | zero => simp [DataW.trod] at hd
  | succ fuel =>
    obtain ⟨hl, hf⟩ := trod_struct Try.underlying37 hd
    rw [show Try.prog.cellsOf 37 = 2 from by kernel_rfl] at hl
    clear hd
    obtain ⟨d0, p0, g0⟩ := hf 0 _ rfl
    have h0 : DataW.trod enc Try.prog W 0 (fun _ => true) true fuel 24 ((cs.drop 0).take (Try.prog.cellsOf 24)) = some (d0, p0) := g0
    rw [show Try.prog.cellsOf 24 = 1 from by kernel_rfl] at h0
    clear g0
    obtain ⟨d1, p1, g1⟩ := hf 1 _ rfl
    have h1 : DataW.trod enc Try.prog W 0 (fun _ => true) true fuel 25 ((cs.drop 1).take (Try.prog.cellsOf 25)) = some (d1, p1) := g1
    rw [show Try.prog.cellsOf 25 = 1 from by kernel_rfl] at h1
    clear g1
    clear hf
    obtain ⟨c0, c1, rfl⟩ : ∃ (c0 : Value) (c1 : Value), cs = [c0, c1] := by
      match cs, hl with
      | [c0, c1], _ => exact ⟨c0, c1, rfl⟩
    obtain ⟨x0, k0_, o0⟩ := (opens_slice Try.underlying24 (by kernel_rfl) (opens_slice Try.underlying39 (by kernel_rfl) (opens_int Try.underlying3))) enc W fuel _ _ _ h0
    obtain ⟨x1, k1_, o1⟩ := (opens_slice Try.underlying25 (by kernel_rfl) (opens_bool Try.underlying4)) enc W fuel _ _ _ h1
    exact ⟨⟨x0, x1⟩, ⟨[c0], [c1], rfl, k0_, k1_⟩, ⟨o0, o1⟩⟩
end Go.Proofs.Ythkbgbkglgmpoaa.XA
