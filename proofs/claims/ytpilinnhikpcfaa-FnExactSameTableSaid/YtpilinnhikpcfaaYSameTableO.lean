/- What the laws' parameters read as leads to values of the printed kinds. Conditions: each theorem's own premises. -/
import Derived.Test.YtpilinnhikpcfaaYSameTable0
import Derived.Test.YtpilinnhikpcfaaOpen
import Derived.KernelRfl
namespace Go.Proofs.Ytpilinnhikpcfaa.XA
open Go.RowKit Go.Proofs.YtpilinnhikpcfaaW.PrintWords Go.Proofs.YtpilinnhikpcfaaW.PrintLast Go.Proofs.YtpilinnhikpcfaaW.PrintMore Go.Proofs.Ytpilinnhikpcfaa.Opening
set_option linter.unusedVariables false
def ok150 (x : S150) : Prop := (Lit.int .i64 x.f0).wf = true ∧ (Lit.int .i64 x.f1).wf = true ∧ (Lit.int .i64 x.f2).wf = true
theorem opens150 : Opens Try.prog 150 k150 ok150 := by
  intro H enc W fuel cs d ps hd
  cases fuel with
  | zero => simp [DataW.trod] at hd
  | succ fuel =>
    obtain ⟨hl, hf⟩ := trod_struct Try.underlying150 hd
    rw [show Try.prog.cellsOf 150 = 3 from by kernel_rfl] at hl
    clear hd
    obtain ⟨d0, p0, g0⟩ := hf 0 _ rfl
    have h0 : DataW.trod enc Try.prog W 0 (fun _ => true) true fuel 3 ((cs.drop 0).take (Try.prog.cellsOf 3)) = some (d0, p0) := g0
    rw [show Try.prog.cellsOf 3 = 1 from by kernel_rfl] at h0
    clear g0
    obtain ⟨d1, p1, g1⟩ := hf 1 _ rfl
    have h1 : DataW.trod enc Try.prog W 0 (fun _ => true) true fuel 3 ((cs.drop 1).take (Try.prog.cellsOf 3)) = some (d1, p1) := g1
    rw [show Try.prog.cellsOf 3 = 1 from by kernel_rfl] at h1
    clear g1
    obtain ⟨d2, p2, g2⟩ := hf 2 _ rfl
    have h2 : DataW.trod enc Try.prog W 0 (fun _ => true) true fuel 3 ((cs.drop 2).take (Try.prog.cellsOf 3)) = some (d2, p2) := g2
    rw [show Try.prog.cellsOf 3 = 1 from by kernel_rfl] at h2
    clear g2
    clear hf
    obtain ⟨c0, c1, c2, rfl⟩ : ∃ (c0 : Value) (c1 : Value) (c2 : Value), cs = [c0, c1, c2] := by
      match cs, hl with
      | [c0, c1, c2], _ => exact ⟨c0, c1, c2, rfl⟩
    obtain ⟨x0, k0_, o0⟩ := (opens_int Try.underlying3) enc W fuel _ _ _ h0
    obtain ⟨x1, k1_, o1⟩ := (opens_int Try.underlying3) enc W fuel _ _ _ h1
    obtain ⟨x2, k2_, o2⟩ := (opens_int Try.underlying3) enc W fuel _ _ _ h2
    exact ⟨⟨x0, x1, x2⟩, ⟨[c0], [c1, c2], rfl, k0_, ⟨[c1], [c2], rfl, k1_, k2_⟩⟩, ⟨o0, o1, o2⟩⟩
def ok24 (x : S24) : Prop := (x.f0.length ≤ maxLen ∧ ∀ y_ ∈ x.f0, ok150 y_) ∧ (x.f1.length ≤ maxLen ∧ ∀ y_ ∈ x.f1, ok150 y_)
theorem opens24 : Opens Try.prog 24 k24 ok24 := by
  intro H enc W fuel cs d ps hd
  cases fuel with
  | zero => simp [DataW.trod] at hd
  | succ fuel =>
    obtain ⟨hl, hf⟩ := trod_struct Try.underlying24 hd
    rw [show Try.prog.cellsOf 24 = 2 from by kernel_rfl] at hl
    clear hd
    obtain ⟨d0, p0, g0⟩ := hf 0 _ rfl
    have h0 : DataW.trod enc Try.prog W 0 (fun _ => true) true fuel 22 ((cs.drop 0).take (Try.prog.cellsOf 22)) = some (d0, p0) := g0
    rw [show Try.prog.cellsOf 22 = 1 from by kernel_rfl] at h0
    clear g0
    obtain ⟨d1, p1, g1⟩ := hf 1 _ rfl
    have h1 : DataW.trod enc Try.prog W 0 (fun _ => true) true fuel 22 ((cs.drop 1).take (Try.prog.cellsOf 22)) = some (d1, p1) := g1
    rw [show Try.prog.cellsOf 22 = 1 from by kernel_rfl] at h1
    clear g1
    clear hf
    obtain ⟨c0, c1, rfl⟩ : ∃ (c0 : Value) (c1 : Value), cs = [c0, c1] := by
      match cs, hl with
      | [c0, c1], _ => exact ⟨c0, c1, rfl⟩
    obtain ⟨x0, k0_, o0⟩ := (opens_slice Try.underlying22 (by kernel_rfl) opens150) enc W fuel _ _ _ h0
    obtain ⟨x1, k1_, o1⟩ := (opens_slice Try.underlying22 (by kernel_rfl) opens150) enc W fuel _ _ _ h1
    exact ⟨⟨x0, x1⟩, ⟨[c0], [c1], rfl, k0_, k1_⟩, ⟨o0, o1⟩⟩
end Go.Proofs.Ytpilinnhikpcfaa.XA
