/- Each law comes to one fact: the reference's function and the program's come to one value. Conditions: each theorem's own premises. -/
import Derived.Test.YtpilinnhikpcfaaYKindOf1
import Derived.Test.YtpilinnhikpcfaaYKindOf4
import Derived.Test.YtpilinnhikpcfaaYKindOf8
import Derived.Test.YtpilinnhikpcfaaYKindOf10
import Derived.Test.YtpilinnhikpcfaaYKindOfC
namespace Go.Proofs.Ytpilinnhikpcfaa.XA
open Go.RowKit Go.Proofs.YtpilinnhikpcfaaW.PrintWords Go.Proofs.YtpilinnhikpcfaaW.PrintLast Go.Proofs.YtpilinnhikpcfaaW.PrintMore Go.Proofs.Ytpilinnhikpcfaa.Pk
set_option linter.unusedVariables false
set_option linter.unusedSimpArgs false
def laws_FnExactKindOf.Pure : Prop := ∀ (x0 : List (S75)) (x1 : ByteArray), (x0.length ≤ maxLen ∧ ∀ y_ ∈ x0, ok75 y_) → x1.size ≤ maxLen → ∃ k, laws_FnExactKindOf.f k x0 x1 = some true
theorem core_FnExactKindOf (H : ∀ (x0 : List (S75)) (x1 : ByteArray), (x0.length ≤ maxLen ∧ ∀ y_ ∈ x0, ok75 y_) → x1.size ≤ maxLen → (x0.length ≤ 1048576 ∧ ∀ y_ ∈ x0, sm75 y_) → x1.size ≤ 1048576 → ∃ (r0 : Int) (r1 : Int), Ev (fun k => spec_KindOf.f k (x0.map cv75) x1) (r0, r1) ∧ Ev (fun k => impl_KindOf.f k (x0.map cv75) x1) (r0, r1)) : laws_FnExactKindOf.Pure := by
  intro x0 x1 o0 o1
  have hM : maxLen = 9223372036854775807 := rfl
  by_cases b1 : (x1.size : Int) > 1048576
  · refine ⟨0 + 4, ?_⟩
    simp only [laws_FnExactKindOf.f, laws_FnExactKindOf.j0, if_pos b1, Option.bind_some, bne_self_eq_false, Bool.false_eq_true, if_false, if_true]
  have sm1_ : x1.size ≤ 1048576 := by omega
  obtain ⟨v0, ⟨K0, e0⟩, l0, s0⟩ := sz85 x0 o0 1048576 (by omega) (by omega)
  by_cases c0 : v0 < 0
  · refine ⟨0 + K0 + 4, ?_⟩
    have z0_4 := e0 (0 + K0 + 4) (by omega)
    have z0_3 := e0 (0 + K0 + 3) (by omega)
    have z0_2 := e0 (0 + K0 + 2) (by omega)
    have z0_1 := e0 (0 + K0 + 1) (by omega)
    simp only [laws_FnExactKindOf.f, laws_FnExactKindOf.j0, z0_4, z0_3, z0_2, z0_1, if_neg b1, if_pos c0, Option.bind_some, bne_self_eq_false, Bool.false_eq_true, if_false, if_true]
  have sm0_ : (x0.length ≤ 1048576 ∧ ∀ y_ ∈ x0, sm75 y_) := by rcases s0 with h_ | h_ <;> first | exact h_.2 | exact absurd h_ c0
  obtain ⟨T0, t0⟩ := to85 x0 sm0_
  obtain ⟨Q0, q0⟩ := eq88 (x0.map cv75) ⟨Nat.le_trans (Nat.le_of_eq (show (x0.map cv75).length = _ from List.length_map _)) sm0_.1, fun y hy => by obtain ⟨z, hz, rfl⟩ := (List.mem_map (f := cv75) (l := x0)).1 hy; exact (smcv75 _ (sm0_.2 z hz))⟩
  obtain ⟨r0, r1, ⟨A, a⟩, ⟨B, b⟩⟩ := H x0 x1 o0 o1 sm0_ sm1_
  refine ⟨0 + K0 + T0 + Q0 + A + B + 4, ?_⟩
  have z0_4 := e0 (0 + K0 + T0 + Q0 + A + B + 4) (by omega)
  have z0_3 := e0 (0 + K0 + T0 + Q0 + A + B + 3) (by omega)
  have z0_2 := e0 (0 + K0 + T0 + Q0 + A + B + 2) (by omega)
  have z0_1 := e0 (0 + K0 + T0 + Q0 + A + B + 1) (by omega)
  have z1_4 := t0 (0 + K0 + T0 + Q0 + A + B + 4) (by omega)
  have z1_3 := t0 (0 + K0 + T0 + Q0 + A + B + 3) (by omega)
  have z1_2 := t0 (0 + K0 + T0 + Q0 + A + B + 2) (by omega)
  have z1_1 := t0 (0 + K0 + T0 + Q0 + A + B + 1) (by omega)
  have z2_4 := q0 (0 + K0 + T0 + Q0 + A + B + 4) (by omega)
  have z2_3 := q0 (0 + K0 + T0 + Q0 + A + B + 3) (by omega)
  have z2_2 := q0 (0 + K0 + T0 + Q0 + A + B + 2) (by omega)
  have z2_1 := q0 (0 + K0 + T0 + Q0 + A + B + 1) (by omega)
  have z3_4 := a (0 + K0 + T0 + Q0 + A + B + 4) (by omega)
  have z3_3 := a (0 + K0 + T0 + Q0 + A + B + 3) (by omega)
  have z3_2 := a (0 + K0 + T0 + Q0 + A + B + 2) (by omega)
  have z3_1 := a (0 + K0 + T0 + Q0 + A + B + 1) (by omega)
  have z4_4 := b (0 + K0 + T0 + Q0 + A + B + 4) (by omega)
  have z4_3 := b (0 + K0 + T0 + Q0 + A + B + 3) (by omega)
  have z4_2 := b (0 + K0 + T0 + Q0 + A + B + 2) (by omega)
  have z4_1 := b (0 + K0 + T0 + Q0 + A + B + 1) (by omega)
  simp only [laws_FnExactKindOf.f, laws_FnExactKindOf.j0, z0_4, z0_3, z0_2, z0_1, z1_4, z1_3, z1_2, z1_1, z2_4, z2_3, z2_2, z2_1, z3_4, z3_3, z3_2, z3_1, z4_4, z4_3, z4_2, z4_1, if_neg b1, if_neg c0, Option.bind_some, bne_self_eq_false, Bool.false_eq_true, if_false, if_true]
  try rfl
  try simp
end Go.Proofs.Ytpilinnhikpcfaa.XA
