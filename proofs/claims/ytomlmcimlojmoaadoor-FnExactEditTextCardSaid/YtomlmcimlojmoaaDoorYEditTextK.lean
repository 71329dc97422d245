/- Each law comes to one fact: the reference's function and the program's come to one value. Conditions: each theorem's own premises. -/
import Derived.Test.YtomlmcimlojmoaaDoorYEditText1
import Derived.Test.YtomlmcimlojmoaaDoorYEditText3
import Derived.Test.YtomlmcimlojmoaaDoorYEditText6
import Derived.Test.YtomlmcimlojmoaaDoorYEditText7
import Derived.Test.YtomlmcimlojmoaaDoorYEditTextC
namespace Go.Proofs.YtomlmcimlojmoaaDoor.XA
open Go.RowKit Go.Proofs.YtomlmcimlojmoaaDoorW.PrintWords Go.Proofs.YtomlmcimlojmoaaDoorW.PrintLast Go.Proofs.YtomlmcimlojmoaaDoorW.PrintMore Go.Proofs.YtomlmcimlojmoaaDoor.Pk
set_option linter.unusedVariables false
set_option linter.unusedSimpArgs false
def laws_FnExactEditText.Pure : Prop := ∀ (x0 : S23), ok23 x0 → ∃ k, laws_FnExactEditText.f k x0.f0 x0.f1 x0.f2 x0.f3 x0.f4 = some true
theorem core_FnExactEditText (H : ∀ (x0 : S23), ok23 x0 → sm23 x0 → ∃ (r0 : ByteArray) (r1 : Int), Ev (fun k => spec_EditText.f k x0.f0 x0.f1 x0.f2 x0.f3 x0.f4) (r0, r1) ∧ Ev (fun k => impl_EditText.f k x0.f0 x0.f1 x0.f2 x0.f3 x0.f4) (r0, r1)) : laws_FnExactEditText.Pure := by
  intro x0 o0
  obtain ⟨v0, ⟨K0, e0⟩, l0, s0⟩ := sz23 x0 o0 1048576 (by omega) (by omega)
  by_cases c0 : v0 < 0
  · refine ⟨0 + K0 + 4, ?_⟩
    have z0_4 := e0 (0 + K0 + 4) (by omega)
    have z0_3 := e0 (0 + K0 + 3) (by omega)
    have z0_2 := e0 (0 + K0 + 2) (by omega)
    have z0_1 := e0 (0 + K0 + 1) (by omega)
    simp only [laws_FnExactEditText.f, z0_4, z0_3, z0_2, z0_1, if_pos c0, Option.bind_some, bne_self_eq_false, Bool.false_eq_true, if_false, if_true]
  have sm0_ : sm23 x0 := by rcases s0 with h_ | h_ <;> first | exact h_.2 | exact absurd h_ c0
  obtain ⟨T0, t0⟩ := to23 x0 sm0_
  obtain ⟨r0, r1, ⟨A, a⟩, ⟨B, b⟩⟩ := H x0 o0 sm0_
  refine ⟨0 + K0 + T0 + A + B + 4, ?_⟩
  have z0_4 := e0 (0 + K0 + T0 + A + B + 4) (by omega)
  have z0_3 := e0 (0 + K0 + T0 + A + B + 3) (by omega)
  have z0_2 := e0 (0 + K0 + T0 + A + B + 2) (by omega)
  have z0_1 := e0 (0 + K0 + T0 + A + B + 1) (by omega)
  have z1_4 := t0 (0 + K0 + T0 + A + B + 4) (by omega)
  have z1_3 := t0 (0 + K0 + T0 + A + B + 3) (by omega)
  have z1_2 := t0 (0 + K0 + T0 + A + B + 2) (by omega)
  have z1_1 := t0 (0 + K0 + T0 + A + B + 1) (by omega)
  have z2_4 := a (0 + K0 + T0 + A + B + 4) (by omega)
  have z2_3 := a (0 + K0 + T0 + A + B + 3) (by omega)
  have z2_2 := a (0 + K0 + T0 + A + B + 2) (by omega)
  have z2_1 := a (0 + K0 + T0 + A + B + 1) (by omega)
  have z3_4 := b (0 + K0 + T0 + A + B + 4) (by omega)
  have z3_3 := b (0 + K0 + T0 + A + B + 3) (by omega)
  have z3_2 := b (0 + K0 + T0 + A + B + 2) (by omega)
  have z3_1 := b (0 + K0 + T0 + A + B + 1) (by omega)
  simp only [laws_FnExactEditText.f, z0_4, z0_3, z0_2, z0_1, z1_4, z1_3, z1_2, z1_1, z2_4, z2_3, z2_2, z2_1, z3_4, z3_3, z3_2, z3_1, if_neg c0, Option.bind_some, bne_self_eq_false, Bool.false_eq_true, if_false, if_true]
  try rfl
  try simp
end Go.Proofs.YtomlmcimlojmoaaDoor.XA
