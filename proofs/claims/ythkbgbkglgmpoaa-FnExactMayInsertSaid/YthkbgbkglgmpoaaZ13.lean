/- Words and contracts of this claim, put together out of several texts by a program of this session's. Conditions: each theorem's own premises. -/
import Derived.Test.YthkbgbkglgmpoaaZ1
import Derived.Test.YthkbgbkglgmpoaaZ12
import Derived.KernelRfl
section
namespace Go.Proofs.Ythkbgbkglgmpoaa.XA
open Go.RowKit Go.Proofs.YthkbgbkglgmpoaaW.PrintWords Go.Proofs.YthkbgbkglgmpoaaW.PrintLast Go.Proofs.YthkbgbkglgmpoaaW.PrintMore Go.Proofs.Ythkbgbkglgmpoaa.Opening
set_option linter.unusedVariables false
def ok75 (x : S75) : Prop := (x.f0.length ≤ maxLen ∧ ∀ y_ ∈ x.f0, (fun (n : Int) => (Lit.int .i64 n).wf = true) y_) ∧ (Lit.int .i64 x.f1).wf = true
theorem opens75 : Opens Try.prog 75 k75 ok75 := by
  intro H enc W fuel cs d ps hd
  cases fuel with
  | zero => simp [DataW.trod] at hd
  | succ fuel =>
    obtain ⟨hl, hf⟩ := trod_struct Try.underlying75 hd
    rw [show Try.prog.cellsOf 75 = 2 from by kernel_rfl] at hl
    clear hd
    obtain ⟨d0, p0, g0⟩ := hf 0 _ rfl
    have h0 : DataW.trod enc Try.prog W 0 (fun _ => true) true fuel 39 ((cs.drop 0).take (Try.prog.cellsOf 39)) = some (d0, p0) := g0
    rw [show Try.prog.cellsOf 39 = 1 from by kernel_rfl] at h0
    clear g0
    obtain ⟨d1, p1, g1⟩ := hf 1 _ rfl
    have h1 : DataW.trod enc Try.prog W 0 (fun _ => true) true fuel 3 ((cs.drop 1).take (Try.prog.cellsOf 3)) = some (d1, p1) := g1
    rw [show Try.prog.cellsOf 3 = 1 from by kernel_rfl] at h1
    clear g1
    clear hf
    obtain ⟨c0, c1, rfl⟩ : ∃ (c0 : Value) (c1 : Value), cs = [c0, c1] := by
      match cs, hl with
      | [c0, c1], _ => exact ⟨c0, c1, rfl⟩
    obtain ⟨x0, k0_, o0⟩ := (opens_slice Try.underlying39 (by kernel_rfl) (opens_int Try.underlying3)) enc W fuel _ _ _ h0
    obtain ⟨x1, k1_, o1⟩ := (opens_int Try.underlying3) enc W fuel _ _ _ h1
    exact ⟨⟨x0, x1⟩, ⟨[c0], [c1], rfl, k0_, k1_⟩, ⟨o0, o1⟩⟩
def ok93 (x : S93) : Prop := x.f0.size ≤ maxLen ∧ True ∧ (x.f2.length ≤ maxLen ∧ ∀ y_ ∈ x.f2, ok75 y_)
theorem opens93 : Opens Try.prog 93 k93 ok93 := by
  intro H enc W fuel cs d ps hd
  cases fuel with
  | zero => simp [DataW.trod] at hd
  | succ fuel =>
    obtain ⟨hl, hf⟩ := trod_struct Try.underlying93 hd
    rw [show Try.prog.cellsOf 93 = 3 from by kernel_rfl] at hl
    clear hd
    obtain ⟨d0, p0, g0⟩ := hf 0 _ rfl
    have h0 : DataW.trod enc Try.prog W 0 (fun _ => true) true fuel 9 ((cs.drop 0).take (Try.prog.cellsOf 9)) = some (d0, p0) := g0
    rw [show Try.prog.cellsOf 9 = 1 from by kernel_rfl] at h0
    clear g0
    obtain ⟨d1, p1, g1⟩ := hf 1 _ rfl
    have h1 : DataW.trod enc Try.prog W 0 (fun _ => true) true fuel 4 ((cs.drop 1).take (Try.prog.cellsOf 4)) = some (d1, p1) := g1
    rw [show Try.prog.cellsOf 4 = 1 from by kernel_rfl] at h1
    clear g1
    obtain ⟨d2, p2, g2⟩ := hf 2 _ rfl
    have h2 : DataW.trod enc Try.prog W 0 (fun _ => true) true fuel 22 ((cs.drop 2).take (Try.prog.cellsOf 22)) = some (d2, p2) := g2
    rw [show Try.prog.cellsOf 22 = 1 from by kernel_rfl] at h2
    clear g2
    clear hf
    obtain ⟨c0, c1, c2, rfl⟩ : ∃ (c0 : Value) (c1 : Value) (c2 : Value), cs = [c0, c1, c2] := by
      match cs, hl with
      | [c0, c1, c2], _ => exact ⟨c0, c1, c2, rfl⟩
    obtain ⟨x0, k0_, o0⟩ := (opens_string Try.underlying9) enc W fuel _ _ _ h0
    obtain ⟨x1, k1_, o1⟩ := (opens_bool Try.underlying4) enc W fuel _ _ _ h1
    obtain ⟨x2, k2_, o2⟩ := (opens_slice Try.underlying22 (by kernel_rfl) opens75) enc W fuel _ _ _ h2
    exact ⟨⟨x0, x1, x2⟩, ⟨[c0], [c1, c2], rfl, k0_, ⟨[c1], [c2], rfl, k1_, k2_⟩⟩, ⟨o0, o1, o2⟩⟩
def ok142 (x : S142) : Prop := (Lit.int .i64 x.f0).wf = true ∧ (Lit.int .i64 x.f1).wf = true ∧ (Lit.int .i64 x.f2).wf = true ∧ x.f3.size ≤ maxLen ∧ (x.f4.length ≤ maxLen ∧ ∀ y_ ∈ x.f4, (fun (n : Int) => (Lit.int .i64 n).wf = true) y_)
theorem opens142 : Opens Try.prog 142 k142 ok142 := by
  intro H enc W fuel cs d ps hd
  cases fuel with
  | zero => simp [DataW.trod] at hd
  | succ fuel =>
    obtain ⟨hl, hf⟩ := trod_struct Try.underlying142 hd
    rw [show Try.prog.cellsOf 142 = 5 from by kernel_rfl] at hl
    clear hd
    obtain ⟨d0, p0, g0⟩ := hf 0 _ rfl
    have h0 : DataW.trod enc Try.prog W 0 (fun _ => true) true fuel 3 ((cs.drop 0).take (Try.prog.cellsOf 3)) = some (d0, p0) := g0
    rw [show Try.prog.cellsOf 3 = 1 from by kernel_rfl] at h0
    clear g0
    obtain ⟨d1, p1, g1⟩ := hf 1 _ rfl
    have h1 : DataW.trod enc Try.prog W 0 (fun _ => true) true fuel 3 ((cs.drop 1).take (Try.prog.cellsOf 3)) = some (d1, p1) := g1
    rw [show Try.prog.cellsOf 3 = 1 from by kernel_rfl] at h1
    clear g1
    obtain ⟨d2, p2, g2⟩ := hf 2 _ rfl
    have h2 : DataW.trod enc Try.prog W 0 (fun _ => true) true fuel 3 ((cs.drop 2).take (Try.prog.cellsOf 3)) = some (d2, p2) := g2
    rw [show Try.prog.cellsOf 3 = 1 from by kernel_rfl] at h2
    clear g2
    obtain ⟨d3, p3, g3⟩ := hf 3 _ rfl
    have h3 : DataW.trod enc Try.prog W 0 (fun _ => true) true fuel 9 ((cs.drop 3).take (Try.prog.cellsOf 9)) = some (d3, p3) := g3
    rw [show Try.prog.cellsOf 9 = 1 from by kernel_rfl] at h3
    clear g3
    obtain ⟨d4, p4, g4⟩ := hf 4 _ rfl
    have h4 : DataW.trod enc Try.prog W 0 (fun _ => true) true fuel 39 ((cs.drop 4).take (Try.prog.cellsOf 39)) = some (d4, p4) := g4
    rw [show Try.prog.cellsOf 39 = 1 from by kernel_rfl] at h4
    clear g4
    clear hf
    obtain ⟨c0, c1, c2, c3, c4, rfl⟩ : ∃ (c0 : Value) (c1 : Value) (c2 : Value) (c3 : Value) (c4 : Value), cs = [c0, c1, c2, c3, c4] := by
      match cs, hl with
      | [c0, c1, c2, c3, c4], _ => exact ⟨c0, c1, c2, c3, c4, rfl⟩
    obtain ⟨x0, k0_, o0⟩ := (opens_int Try.underlying3) enc W fuel _ _ _ h0
    obtain ⟨x1, k1_, o1⟩ := (opens_int Try.underlying3) enc W fuel _ _ _ h1
    obtain ⟨x2, k2_, o2⟩ := (opens_int Try.underlying3) enc W fuel _ _ _ h2
    obtain ⟨x3, k3_, o3⟩ := (opens_string Try.underlying9) enc W fuel _ _ _ h3
    obtain ⟨x4, k4_, o4⟩ := (opens_slice Try.underlying39 (by kernel_rfl) (opens_int Try.underlying3)) enc W fuel _ _ _ h4
    exact ⟨⟨x0, x1, x2, x3, x4⟩, ⟨[c0], [c1, c2, c3, c4], rfl, k0_, ⟨[c1], [c2, c3, c4], rfl, k1_, ⟨[c2], [c3, c4], rfl, k2_, ⟨[c3], [c4], rfl, k3_, k4_⟩⟩⟩⟩, ⟨o0, o1, o2, o3, o4⟩⟩
def ok60 (x : S60) : Prop := (Lit.int .i64 x.f0).wf = true ∧ (Lit.int .i64 x.f1).wf = true ∧ (x.f2.length ≤ maxLen ∧ ∀ y_ ∈ x.f2, ok142 y_)
theorem opens60 : Opens Try.prog 60 k60 ok60 := by
  intro H enc W fuel cs d ps hd
  cases fuel with
  | zero => simp [DataW.trod] at hd
  | succ fuel =>
    obtain ⟨hl, hf⟩ := trod_struct Try.underlying60 hd
    rw [show Try.prog.cellsOf 60 = 3 from by kernel_rfl] at hl
    clear hd
    obtain ⟨d0, p0, g0⟩ := hf 0 _ rfl
    have h0 : DataW.trod enc Try.prog W 0 (fun _ => true) true fuel 3 ((cs.drop 0).take (Try.prog.cellsOf 3)) = some (d0, p0) := g0
    rw [show Try.prog.cellsOf 3 = 1 from by kernel_rfl] at h0
    clear g0
    obtain ⟨d1, p1, g1⟩ := hf 1 _ rfl
    have h1 : DataW.trod enc Try.prog W 0 (fun _ => true) true fuel 3 ((cs.drop 1).take (Try.prog.cellsOf 3)) = some (d1, p1) := g1
    rw [show Try.prog.cellsOf 3 = 1 from by kernel_rfl] at h1
    clear g1
    obtain ⟨d2, p2, g2⟩ := hf 2 _ rfl
    have h2 : DataW.trod enc Try.prog W 0 (fun _ => true) true fuel 58 ((cs.drop 2).take (Try.prog.cellsOf 58)) = some (d2, p2) := g2
    rw [show Try.prog.cellsOf 58 = 1 from by kernel_rfl] at h2
    clear g2
    clear hf
    obtain ⟨c0, c1, c2, rfl⟩ : ∃ (c0 : Value) (c1 : Value) (c2 : Value), cs = [c0, c1, c2] := by
      match cs, hl with
      | [c0, c1, c2], _ => exact ⟨c0, c1, c2, rfl⟩
    obtain ⟨x0, k0_, o0⟩ := (opens_int Try.underlying3) enc W fuel _ _ _ h0
    obtain ⟨x1, k1_, o1⟩ := (opens_int Try.underlying3) enc W fuel _ _ _ h1
    obtain ⟨x2, k2_, o2⟩ := (opens_slice Try.underlying58 (by kernel_rfl) opens142) enc W fuel _ _ _ h2
    exact ⟨⟨x0, x1, x2⟩, ⟨[c0], [c1, c2], rfl, k0_, ⟨[c1], [c2], rfl, k1_, k2_⟩⟩, ⟨o0, o1, o2⟩⟩
end Go.Proofs.Ythkbgbkglgmpoaa.XA
end
