/- Each law comes to one fact: the reference's function and the program's come to one value. Conditions: each theorem's own premises. -/
import Derived.Test.YtomlmcimlojmoaaYSameSchema1
import Derived.Test.YtomlmcimlojmoaaYSameSchema4
import Derived.Test.YtomlmcimlojmoaaYSameSchema7
import Derived.Test.YtomlmcimlojmoaaYSameSchema9
import Derived.Test.YtomlmcimlojmoaaYSameSchemaC
namespace Go.Proofs.Ytomlmcimlojmoaa.XA
open Go.RowKit Go.Proofs.YtomlmcimlojmoaaW.PrintWords Go.Proofs.YtomlmcimlojmoaaW.PrintLast Go.Proofs.YtomlmcimlojmoaaW.PrintMore Go.Proofs.Ytomlmcimlojmoaa.Pk
set_option linter.unusedVariables false
set_option linter.unusedSimpArgs false
def laws_FnExactSameSchema.Pure : Prop := ∀ (x0 : List (S76)) (x1 : List (S76)), (x0.length ≤ maxLen ∧ ∀ y_ ∈ x0, ok76 y_) → (x1.length ≤ maxLen ∧ ∀ y_ ∈ x1, ok76 y_) → ∃ k, laws_FnExactSameSchema.f k x0 x1 = some true
theorem core_FnExactSameSchema (H : ∀ (x0 : List (S76)) (x1 : List (S76)), (x0.length ≤ maxLen ∧ ∀ y_ ∈ x0, ok76 y_) → (x1.length ≤ maxLen ∧ ∀ y_ ∈ x1, ok76 y_) → (x0.length ≤ 1048576 ∧ ∀ y_ ∈ x0, sm76 y_) → (x1.length ≤ 1048576 ∧ ∀ y_ ∈ x1, sm76 y_) → ∃ (r0 : Bool), Ev (fun k => spec_SameSchema.f k (x0.map cv76) (x1.map cv76)) r0 ∧ Ev (fun k => impl_SameSchema.f k (x0.map cv76) (x1.map cv76)) r0) : laws_FnExactSameSchema.Pure := by
  intro x0 x1 o0 o1
  obtain ⟨v0, ⟨K0, e0⟩, l0, s0⟩ := sz22 x0 o0 1048576 (by omega) (by omega)
  by_cases c0 : v0 < 0
  · refine ⟨0 + K0 + 4, ?_⟩
    have z0_4 := e0 (0 + K0 + 4) (by omega)
    have z0_3 := e0 (0 + K0 + 3) (by omega)
    have z0_2 := e0 (0 + K0 + 2) (by omega)
    have z0_1 := e0 (0 + K0 + 1) (by omega)
    simp only [laws_FnExactSameSchema.f, z0_4, z0_3, z0_2, z0_1, if_pos c0, Option.bind_some, bne_self_eq_false, Bool.false_eq_true, if_false, if_true]
  have sm0_ : (x0.length ≤ 1048576 ∧ ∀ y_ ∈ x0, sm76 y_) := by rcases s0 with h_ | h_ <;> first | exact h_.2 | exact absurd h_ c0
  obtain ⟨v1, ⟨K1, e1⟩, l1, s1⟩ := sz22 x1 o1 v0 (by omega) (by omega)
  by_cases c1 : v1 < 0
  · refine ⟨0 + K0 + K1 + 4, ?_⟩
    have z0_4 := e0 (0 + K0 + K1 + 4) (by omega)
    have z0_3 := e0 (0 + K0 + K1 + 3) (by omega)
    have z0_2 := e0 (0 + K0 + K1 + 2) (by omega)
    have z0_1 := e0 (0 + K0 + K1 + 1) (by omega)
    have z1_4 := e1 (0 + K0 + K1 + 4) (by omega)
    have z1_3 := e1 (0 + K0 + K1 + 3) (by omega)
    have z1_2 := e1 (0 + K0 + K1 + 2) (by omega)
    have z1_1 := e1 (0 + K0 + K1 + 1) (by omega)
    simp only [laws_FnExactSameSchema.f, z0_4, z0_3, z0_2, z0_1, z1_4, z1_3, z1_2, z1_1, if_neg c0, if_pos c1, Option.bind_some, bne_self_eq_false, Bool.false_eq_true, if_false, if_true]
  have sm1_ : (x1.length ≤ 1048576 ∧ ∀ y_ ∈ x1, sm76 y_) := by rcases s1 with h_ | h_ <;> first | exact h_.2 | exact absurd h_ c1
  obtain ⟨T0, t0⟩ := to22 x0 sm0_
  obtain ⟨Q0, q0⟩ := eq25 (x0.map cv76) ⟨Nat.le_trans (Nat.le_of_eq (show (x0.map cv76).length = _ from List.length_map _)) sm0_.1, fun y hy => by obtain ⟨z, hz, rfl⟩ := (List.mem_map (f := cv76) (l := x0)).1 hy; exact (smcv76 _ (sm0_.2 z hz))⟩
  obtain ⟨T1, t1⟩ := to22 x1 sm1_
  obtain ⟨Q1, q1⟩ := eq25 (x1.map cv76) ⟨Nat.le_trans (Nat.le_of_eq (show (x1.map cv76).length = _ from List.length_map _)) sm1_.1, fun y hy => by obtain ⟨z, hz, rfl⟩ := (List.mem_map (f := cv76) (l := x1)).1 hy; exact (smcv76 _ (sm1_.2 z hz))⟩
  obtain ⟨r0, ⟨A, a⟩, ⟨B, b⟩⟩ := H x0 x1 o0 o1 sm0_ sm1_
  refine ⟨0 + K0 + K1 + T0 + Q0 + T1 + Q1 + A + B + 4, ?_⟩
  have z0_4 := e0 (0 + K0 + K1 + T0 + Q0 + T1 + Q1 + A + B + 4) (by omega)
  have z0_3 := e0 (0 + K0 + K1 + T0 + Q0 + T1 + Q1 + A + B + 3) (by omega)
  have z0_2 := e0 (0 + K0 + K1 + T0 + Q0 + T1 + Q1 + A + B + 2) (by omega)
  have z0_1 := e0 (0 + K0 + K1 + T0 + Q0 + T1 + Q1 + A + B + 1) (by omega)
  have z1_4 := e1 (0 + K0 + K1 + T0 + Q0 + T1 + Q1 + A + B + 4) (by omega)
  have z1_3 := e1 (0 + K0 + K1 + T0 + Q0 + T1 + Q1 + A + B + 3) (by omega)
  have z1_2 := e1 (0 + K0 + K1 + T0 + Q0 + T1 + Q1 + A + B + 2) (by omega)
  have z1_1 := e1 (0 + K0 + K1 + T0 + Q0 + T1 + Q1 + A + B + 1) (by omega)
  have z2_4 := t0 (0 + K0 + K1 + T0 + Q0 + T1 + Q1 + A + B + 4) (by omega)
  have z2_3 := t0 (0 + K0 + K1 + T0 + Q0 + T1 + Q1 + A + B + 3) (by omega)
  have z2_2 := t0 (0 + K0 + K1 + T0 + Q0 + T1 + Q1 + A + B + 2) (by omega)
  have z2_1 := t0 (0 + K0 + K1 + T0 + Q0 + T1 + Q1 + A + B + 1) (by omega)
  have z3_4 := q0 (0 + K0 + K1 + T0 + Q0 + T1 + Q1 + A + B + 4) (by omega)
  have z3_3 := q0 (0 + K0 + K1 + T0 + Q0 + T1 + Q1 + A + B + 3) (by omega)
  have z3_2 := q0 (0 + K0 + K1 + T0 + Q0 + T1 + Q1 + A + B + 2) (by omega)
  have z3_1 := q0 (0 + K0 + K1 + T0 + Q0 + T1 + Q1 + A + B + 1) (by omega)
  have z4_4 := t1 (0 + K0 + K1 + T0 + Q0 + T1 + Q1 + A + B + 4) (by omega)
  have z4_3 := t1 (0 + K0 + K1 + T0 + Q0 + T1 + Q1 + A + B + 3) (by omega)
  have z4_2 := t1 (0 + K0 + K1 + T0 + Q0 + T1 + Q1 + A + B + 2) (by omega)
  have z4_1 := t1 (0 + K0 + K1 + T0 + Q0 + T1 + Q1 + A + B + 1) (by omega)
  have z5_4 := q1 (0 + K0 + K1 + T0 + Q0 + T1 + Q1 + A + B + 4) (by omega)
  have z5_3 := q1 (0 + K0 + K1 + T0 + Q0 + T1 + Q1 + A + B + 3) (by omega)
  have z5_2 := q1 (0 + K0 + K1 + T0 + Q0 + T1 + Q1 + A + B + 2) (by omega)
  have z5_1 := q1 (0 + K0 + K1 + T0 + Q0 + T1 + Q1 + A + B + 1) (by omega)
  have z6_4 := a (0 + K0 + K1 + T0 + Q0 + T1 + Q1 + A + B + 4) (by omega)
  have z6_3 := a (0 + K0 + K1 + T0 + Q0 + T1 + Q1 + A + B + 3) (by omega)
  have z6_2 := a (0 + K0 + K1 + T0 + Q0 + T1 + Q1 + A + B + 2) (by omega)
  have z6_1 := a (0 + K0 + K1 + T0 + Q0 + T1 + Q1 + A + B + 1) (by omega)
  have z7_4 := b (0 + K0 + K1 + T0 + Q0 + T1 + Q1 + A + B + 4) (by omega)
  have z7_3 := b (0 + K0 + K1 + T0 + Q0 + T1 + Q1 + A + B + 3) (by omega)
  have z7_2 := b (0 + K0 + K1 + T0 + Q0 + T1 + Q1 + A + B + 2) (by omega)
  have z7_1 := b (0 + K0 + K1 + T0 + Q0 + T1 + Q1 + A + B + 1) (by omega)
  simp only [laws_FnExactSameSchema.f, z0_4, z0_3, z0_2, z0_1, z1_4, z1_3, z1_2, z1_1, z2_4, z2_3, z2_2, z2_1, z3_4, z3_3, z3_2, z3_1, z4_4, z4_3, z4_2, z4_1, z5_4, z5_3, z5_2, z5_1, z6_4, z6_3, z6_2, z6_1, z7_4, z7_3, z7_2, z7_1, if_neg c0, if_neg c1, Option.bind_some, bne_self_eq_false, Bool.false_eq_true, if_false, if_true]
  try rfl
  try simp
end Go.Proofs.Ytomlmcimlojmoaa.XA
