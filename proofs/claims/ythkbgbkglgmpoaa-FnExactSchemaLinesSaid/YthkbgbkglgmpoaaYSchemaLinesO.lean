/- What the laws' parameters read as leads to values of the printed kinds. Conditions: each theorem's own premises. -/
import Derived.Test.YthkbgbkglgmpoaaYSchemaLines0
import Derived.Test.YthkbgbkglgmpoaaOpen
import Derived.KernelRfl
namespace Go.Proofs.Ythkbgbkglgmpoaa.XA
open Go.RowKit Go.Proofs.YthkbgbkglgmpoaaW.PrintWords Go.Proofs.YthkbgbkglgmpoaaW.PrintLast Go.Proofs.YthkbgbkglgmpoaaW.PrintMore Go.Proofs.Ythkbgbkglgmpoaa.Opening
set_option linter.unusedVariables false
def ok75 (x : S75) : Prop := (x.f0.length ≤ maxLen ∧ ∀ y_ ∈ x.f0, (fun (n : Int) => (Lit.int .i64 n).wf = true) y_) ∧ (Lit.int .i64 x.f1).wf = true
theorem opens75 : Opens Try.prog 75 k75 ok75 := by
  intro H enc W fuel cs d ps hd
  cases fuel with
  | zero => simp [DataW.trod] at hd
  | succ fuel =>
    obtain ⟨hl, hf⟩ := trod_struct Try.underlying75 hd
    rw [show Try.prog.cellsOf 75 = 2 from by kernel_rfl] at hl
    clear hd
    obtain ⟨d0, p0, g0⟩ := hf 0 _ rfl
    have h0 : DataW.trod enc Try.prog W 0 (fun _ => true) true fuel 39 ((cs.drop 0).take (Try.prog.cellsOf 39)) = some (d0, p0) := g0
    rw [show Try.prog.cellsOf 39 = 1 from by kernel_rfl] at h0
    clear g0
    obtain ⟨d1, p1, g1⟩ := hf 1 _ rfl
    have h1 : DataW.trod enc Try.prog W 0 (fun _ => true) true fuel 3 ((cs.drop 1).take (Try.prog.cellsOf 3)) = some (d1, p1) := g1
    rw [show Try.prog.cellsOf 3 = 1 from by kernel_rfl] at h1
    clear g1
    clear hf
    obtain ⟨c0, c1, rfl⟩ : ∃ (c0 : Value) (c1 : Value), cs = [c0, c1] := by
      match cs, hl with
      | [c0, c1], _ => exact ⟨c0, c1, rfl⟩
    obtain ⟨x0, k0_, o0⟩ := (opens_slice Try.underlying39 (by kernel_rfl) (opens_int Try.underlying3)) enc W fuel _ _ _ h0
    obtain ⟨x1, k1_, o1⟩ := (opens_int Try.underlying3) enc W fuel _ _ _ h1
    exact ⟨⟨x0, x1⟩, ⟨[c0], [c1], rfl, k0_, k1_⟩, ⟨o0, o1⟩⟩
def ok93 (x : S93) : Prop := x.f0.size ≤ maxLen ∧ True ∧ (x.f2.length ≤ maxLen ∧ ∀ y_ ∈ x.f2, ok75 y_)
theorem opens93 : Opens Try.prog 93 k93 ok93 := by
  intro H enc W fuel cs d ps hd
  cases fuel with
  | zero => simp [DataW.trod] at hd
  | succ fuel =>
    obtain ⟨hl, hf⟩ := trod_struct Try.underlying93 hd
    rw [show Try.prog.cellsOf 93 = 3 from by kernel_rfl] at hl
    clear hd
    obtain ⟨d0, p0, g0⟩ := hf 0 _ rfl
    have h0 : DataW.trod enc Try.prog W 0 (fun _ => true) true fuel 9 ((cs.drop 0).take (Try.prog.cellsOf 9)) = some (d0, p0) := g0
    rw [show Try.prog.cellsOf 9 = 1 from by kernel_rfl] at h0
    clear g0
    obtain ⟨d1, p1, g1⟩ := hf 1 _ rfl
    have h1 : DataW.trod enc Try.prog W 0 (fun _ => true) true fuel 4 ((cs.drop 1).take (Try.prog.cellsOf 4)) = some (d1, p1) := g1
    rw [show Try.prog.cellsOf 4 = 1 from by kernel_rfl] at h1
    clear g1
    obtain ⟨d2, p2, g2⟩ := hf 2 _ rfl
    have h2 : DataW.trod enc Try.prog W 0 (fun _ => true) true fuel 22 ((cs.drop 2).take (Try.prog.cellsOf 22)) = some (d2, p2) := g2
    rw [show Try.prog.cellsOf 22 = 1 from by kernel_rfl] at h2
    clear g2
    clear hf
    obtain ⟨c0, c1, c2, rfl⟩ : ∃ (c0 : Value) (c1 : Value) (c2 : Value), cs = [c0, c1, c2] := by
      match cs, hl with
      | [c0, c1, c2], _ => exact ⟨c0, c1, c2, rfl⟩
    obtain ⟨x0, k0_, o0⟩ := (opens_string Try.underlying9) enc W fuel _ _ _ h0
    obtain ⟨x1, k1_, o1⟩ := (opens_bool Try.underlying4) enc W fuel _ _ _ h1
    obtain ⟨x2, k2_, o2⟩ := (opens_slice Try.underlying22 (by kernel_rfl) opens75) enc W fuel _ _ _ h2
    exact ⟨⟨x0, x1, x2⟩, ⟨[c0], [c1, c2], rfl, k0_, ⟨[c1], [c2], rfl, k1_, k2_⟩⟩, ⟨o0, o1, o2⟩⟩
end Go.Proofs.Ythkbgbkglgmpoaa.XA
