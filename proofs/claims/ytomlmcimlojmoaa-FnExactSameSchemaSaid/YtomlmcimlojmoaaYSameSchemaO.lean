/- What the laws' parameters read as leads to values of the printed kinds. Conditions: each theorem's own premises. -/
import Derived.Test.YtomlmcimlojmoaaYSameSchema0
import Derived.Test.YtomlmcimlojmoaaOpen
import Derived.KernelRfl
namespace Go.Proofs.Ytomlmcimlojmoaa.XA
open Go.RowKit Go.Proofs.YtomlmcimlojmoaaW.PrintWords Go.Proofs.YtomlmcimlojmoaaW.PrintLast Go.Proofs.YtomlmcimlojmoaaW.PrintMore Go.Proofs.Ytomlmcimlojmoaa.Opening
set_option linter.unusedVariables false
def ok86 (x : S86) : Prop := (x.f0.length ≤ maxLen ∧ ∀ y_ ∈ x.f0, (fun (n : Int) => (Lit.int .i64 n).wf = true) y_) ∧ (Lit.int .i64 x.f1).wf = true
theorem opens86 : Opens Try.prog 86 k86 ok86 := by
  intro H enc W fuel cs d ps hd
  cases fuel with
  | zero => simp [DataW.trod] at hd
  | succ fuel =>
    obtain ⟨hl, hf⟩ := trod_struct Try.underlying86 hd
    rw [show Try.prog.cellsOf 86 = 2 from by kernel_rfl] at hl
    clear hd
    obtain ⟨d0, p0, g0⟩ := hf 0 _ rfl
    have h0 : DataW.trod enc Try.prog W 0 (fun _ => true) true fuel 52 ((cs.drop 0).take (Try.prog.cellsOf 52)) = some (d0, p0) := g0
    rw [show Try.prog.cellsOf 52 = 1 from by kernel_rfl] at h0
    clear g0
    obtain ⟨d1, p1, g1⟩ := hf 1 _ rfl
    have h1 : DataW.trod enc Try.prog W 0 (fun _ => true) true fuel 3 ((cs.drop 1).take (Try.prog.cellsOf 3)) = some (d1, p1) := g1
    rw [show Try.prog.cellsOf 3 = 1 from by kernel_rfl] at h1
    clear g1
    clear hf
    obtain ⟨c0, c1, rfl⟩ : ∃ (c0 : Value) (c1 : Value), cs = [c0, c1] := by
      match cs, hl with
      | [c0, c1], _ => exact ⟨c0, c1, rfl⟩
    obtain ⟨x0, k0_, o0⟩ := (opens_slice Try.underlying52 (by kernel_rfl) (opens_int Try.underlying3)) enc W fuel _ _ _ h0
    obtain ⟨x1, k1_, o1⟩ := (opens_int Try.underlying3) enc W fuel _ _ _ h1
    exact ⟨⟨x0, x1⟩, ⟨[c0], [c1], rfl, k0_, k1_⟩, ⟨o0, o1⟩⟩
def ok76 (x : S76) : Prop := x.f0.size ≤ maxLen ∧ True ∧ (x.f2.length ≤ maxLen ∧ ∀ y_ ∈ x.f2, ok86 y_)
theorem opens76 : Opens Try.prog 76 k76 ok76 := by
  intro H enc W fuel cs d ps hd
  cases fuel with
  | zero => simp [DataW.trod] at hd
  | succ fuel =>
    obtain ⟨hl, hf⟩ := trod_struct Try.underlying76 hd
    rw [show Try.prog.cellsOf 76 = 3 from by kernel_rfl] at hl
    clear hd
    obtain ⟨d0, p0, g0⟩ := hf 0 _ rfl
    have h0 : DataW.trod enc Try.prog W 0 (fun _ => true) true fuel 9 ((cs.drop 0).take (Try.prog.cellsOf 9)) = some (d0, p0) := g0
    rw [show Try.prog.cellsOf 9 = 1 from by kernel_rfl] at h0
    clear g0
    obtain ⟨d1, p1, g1⟩ := hf 1 _ rfl
    have h1 : DataW.trod enc Try.prog W 0 (fun _ => true) true fuel 4 ((cs.drop 1).take (Try.prog.cellsOf 4)) = some (d1, p1) := g1
    rw [show Try.prog.cellsOf 4 = 1 from by kernel_rfl] at h1
    clear g1
    obtain ⟨d2, p2, g2⟩ := hf 2 _ rfl
    have h2 : DataW.trod enc Try.prog W 0 (fun _ => true) true fuel 35 ((cs.drop 2).take (Try.prog.cellsOf 35)) = some (d2, p2) := g2
    rw [show Try.prog.cellsOf 35 = 1 from by kernel_rfl] at h2
    clear g2
    clear hf
    obtain ⟨c0, c1, c2, rfl⟩ : ∃ (c0 : Value) (c1 : Value) (c2 : Value), cs = [c0, c1, c2] := by
      match cs, hl with
      | [c0, c1, c2], _ => exact ⟨c0, c1, c2, rfl⟩
    obtain ⟨x0, k0_, o0⟩ := (opens_string Try.underlying9) enc W fuel _ _ _ h0
    obtain ⟨x1, k1_, o1⟩ := (opens_bool Try.underlying4) enc W fuel _ _ _ h1
    obtain ⟨x2, k2_, o2⟩ := (opens_slice Try.underlying35 (by kernel_rfl) opens86) enc W fuel _ _ _ h2
    exact ⟨⟨x0, x1, x2⟩, ⟨[c0], [c1, c2], rfl, k0_, ⟨[c1], [c2], rfl, k1_, k2_⟩⟩, ⟨o0, o1, o2⟩⟩
end Go.Proofs.Ytomlmcimlojmoaa.XA
