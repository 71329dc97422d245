/- Each law comes to one fact: the reference's function and the program's come to one value. Conditions: each theorem's own premises. -/
import Derived.Test.YtfemohapampkiaaYCopySub1
import Derived.Test.YtfemohapampkiaaYCopySub7
import Derived.Test.YtfemohapampkiaaYCopySub10
import Derived.Test.YtfemohapampkiaaYCopySub12
import Derived.Test.YtfemohapampkiaaYCopySubC
import Derived.Test.YtfemohapampkiaaYCopySubMarkP
import Derived.Test.YtfemohapampkiaaYCopySubMarkH
namespace Go.Proofs.Ytfemohapampkiaa.XA
open Go.RowKit Go.Proofs.YtfemohapampkiaaW.PrintWords Go.Proofs.YtfemohapampkiaaW.PrintLast Go.Proofs.YtfemohapampkiaaW.PrintMore Go.Proofs.Ytfemohapampkiaa.Pk
set_option linter.unusedVariables false
set_option linter.unusedSimpArgs false
def laws_FnExactCopySub.Pure : Prop := ∀ (x0 : S24) (x1 : Int), ok24 x0 → (Lit.int .i64 x1).wf = true → ∃ k, laws_FnExactCopySub.f k x0.f0 x0.f1 x0.f2 x1 = some true
theorem core_FnExactCopySub (H : ∀ (x0 : S24) (x1 : Int), ok24 x0 → (Lit.int .i64 x1).wf = true → sm24 x0 → ∃ (r0 : Int) (r1 : Int) (r2 : List (S88)) (r3 : Int), sm29 (⟨r0, r1, r2⟩ : S29) ∧ Ev (fun k => spec_CopySub.f k x0.f0 x0.f1 (x0.f2.map cv138) x1) (r0, r1, r2, r3) ∧ Ev (fun k => impl_CopySub.f k x0.f0 x0.f1 (x0.f2.map cv138) x1) (r0, r1, r2, r3)) : laws_FnExactCopySub.Pure := by
  intro x0 x1 o0 o1
  obtain ⟨v0, ⟨K0, e0⟩, l0, s0⟩ := sz24 x0 o0 1048576 (by omega) (by omega)
  by_cases c0 : v0 < 0
  · refine ⟨0 + K0 + 4, ?_⟩
    have z0_4 := e0 (0 + K0 + 4) (by omega)
    have z0_3 := e0 (0 + K0 + 3) (by omega)
    have z0_2 := e0 (0 + K0 + 2) (by omega)
    have z0_1 := e0 (0 + K0 + 1) (by omega)
    simp only [laws_FnExactCopySub.f, laws_FnExactCopySub.j0, laws_FnExactCopySub.j1, laws_FnExactCopySub.j2, z0_4, z0_3, z0_2, z0_1, if_pos c0, Option.bind_some, bne_self_eq_false, Bool.false_eq_true, if_false, if_true]
  have sm0_ : sm24 x0 := by rcases s0 with h_ | h_ <;> first | exact h_.2 | exact absurd h_ c0
  obtain ⟨T0, t0⟩ := to24 x0 sm0_
  obtain ⟨Q0, q0⟩ := eq29 (cv24 x0) (smcv24 _ sm0_)
  simp only [cv24] at q0
  obtain ⟨r0, r1, r2, r3, bd0, ⟨A, a⟩, ⟨B, b⟩⟩ := H x0 x1 o0 o1 sm0_
  obtain ⟨⟨m0_, ml0_⟩, ⟨M0, em0⟩, hm0⟩ := markDoc_ev x0.f0 x0.f1 (x0.f2.map cv138) 1 (by omega) (by omega) (Nat.le_trans (Nat.le_of_eq (List.length_map _)) sm0_.2.2.1) (fun y hy => by obtain ⟨z, hz, rfl⟩ := List.mem_map.1 hy; exact (sm0_.2.2.2 z hz).2.2.2.2)
  simp only [List.length_map] at hm0
  have hl0_ := sm0_.2.2.1
  obtain ⟨QR0, qr0⟩ := eq29 (⟨r0, r1, r2⟩ : S29) bd0
  dsimp only at qr0
  obtain ⟨mn0_, mr0_, hm0_, ⟨MR0, mr0⟩, ⟨HR0, hr0⟩⟩ := markDeep_ev r0 r1 r2 bd0.2.2.1 (fun y hy => (bd0.2.2.2 y hy).2.2.2.2)
  refine ⟨0 + K0 + T0 + Q0 + A + B + M0 + QR0 + MR0 + HR0 + 4, ?_⟩
  have z0_4 := e0 (0 + K0 + T0 + Q0 + A + B + M0 + QR0 + MR0 + HR0 + 4) (by omega)
  have z0_3 := e0 (0 + K0 + T0 + Q0 + A + B + M0 + QR0 + MR0 + HR0 + 3) (by omega)
  have z0_2 := e0 (0 + K0 + T0 + Q0 + A + B + M0 + QR0 + MR0 + HR0 + 2) (by omega)
  have z0_1 := e0 (0 + K0 + T0 + Q0 + A + B + M0 + QR0 + MR0 + HR0 + 1) (by omega)
  have z1_4 := t0 (0 + K0 + T0 + Q0 + A + B + M0 + QR0 + MR0 + HR0 + 4) (by omega)
  have z1_3 := t0 (0 + K0 + T0 + Q0 + A + B + M0 + QR0 + MR0 + HR0 + 3) (by omega)
  have z1_2 := t0 (0 + K0 + T0 + Q0 + A + B + M0 + QR0 + MR0 + HR0 + 2) (by omega)
  have z1_1 := t0 (0 + K0 + T0 + Q0 + A + B + M0 + QR0 + MR0 + HR0 + 1) (by omega)
  have z2_4 := q0 (0 + K0 + T0 + Q0 + A + B + M0 + QR0 + MR0 + HR0 + 4) (by omega)
  have z2_3 := q0 (0 + K0 + T0 + Q0 + A + B + M0 + QR0 + MR0 + HR0 + 3) (by omega)
  have z2_2 := q0 (0 + K0 + T0 + Q0 + A + B + M0 + QR0 + MR0 + HR0 + 2) (by omega)
  have z2_1 := q0 (0 + K0 + T0 + Q0 + A + B + M0 + QR0 + MR0 + HR0 + 1) (by omega)
  have z3_4 := a (0 + K0 + T0 + Q0 + A + B + M0 + QR0 + MR0 + HR0 + 4) (by omega)
  have z3_3 := a (0 + K0 + T0 + Q0 + A + B + M0 + QR0 + MR0 + HR0 + 3) (by omega)
  have z3_2 := a (0 + K0 + T0 + Q0 + A + B + M0 + QR0 + MR0 + HR0 + 2) (by omega)
  have z3_1 := a (0 + K0 + T0 + Q0 + A + B + M0 + QR0 + MR0 + HR0 + 1) (by omega)
  have z4_4 := b (0 + K0 + T0 + Q0 + A + B + M0 + QR0 + MR0 + HR0 + 4) (by omega)
  have z4_3 := b (0 + K0 + T0 + Q0 + A + B + M0 + QR0 + MR0 + HR0 + 3) (by omega)
  have z4_2 := b (0 + K0 + T0 + Q0 + A + B + M0 + QR0 + MR0 + HR0 + 2) (by omega)
  have z4_1 := b (0 + K0 + T0 + Q0 + A + B + M0 + QR0 + MR0 + HR0 + 1) (by omega)
  have z5_4 := em0 (0 + K0 + T0 + Q0 + A + B + M0 + QR0 + MR0 + HR0 + 4) (by omega)
  have z5_3 := em0 (0 + K0 + T0 + Q0 + A + B + M0 + QR0 + MR0 + HR0 + 3) (by omega)
  have z5_2 := em0 (0 + K0 + T0 + Q0 + A + B + M0 + QR0 + MR0 + HR0 + 2) (by omega)
  have z5_1 := em0 (0 + K0 + T0 + Q0 + A + B + M0 + QR0 + MR0 + HR0 + 1) (by omega)
  have z6_4 := qr0 (0 + K0 + T0 + Q0 + A + B + M0 + QR0 + MR0 + HR0 + 4) (by omega)
  have z6_3 := qr0 (0 + K0 + T0 + Q0 + A + B + M0 + QR0 + MR0 + HR0 + 3) (by omega)
  have z6_2 := qr0 (0 + K0 + T0 + Q0 + A + B + M0 + QR0 + MR0 + HR0 + 2) (by omega)
  have z6_1 := qr0 (0 + K0 + T0 + Q0 + A + B + M0 + QR0 + MR0 + HR0 + 1) (by omega)
  have z7_4 := mr0 (0 + K0 + T0 + Q0 + A + B + M0 + QR0 + MR0 + HR0 + 4) (by omega)
  have z7_3 := mr0 (0 + K0 + T0 + Q0 + A + B + M0 + QR0 + MR0 + HR0 + 3) (by omega)
  have z7_2 := mr0 (0 + K0 + T0 + Q0 + A + B + M0 + QR0 + MR0 + HR0 + 2) (by omega)
  have z7_1 := mr0 (0 + K0 + T0 + Q0 + A + B + M0 + QR0 + MR0 + HR0 + 1) (by omega)
  have z8_4 := hr0 (0 + K0 + T0 + Q0 + A + B + M0 + QR0 + MR0 + HR0 + 4) (by omega)
  have z8_3 := hr0 (0 + K0 + T0 + Q0 + A + B + M0 + QR0 + MR0 + HR0 + 3) (by omega)
  have z8_2 := hr0 (0 + K0 + T0 + Q0 + A + B + M0 + QR0 + MR0 + HR0 + 2) (by omega)
  have z8_1 := hr0 (0 + K0 + T0 + Q0 + A + B + M0 + QR0 + MR0 + HR0 + 1) (by omega)
  simp only [laws_FnExactCopySub.f, laws_FnExactCopySub.j0, laws_FnExactCopySub.j1, laws_FnExactCopySub.j2, z0_4, z0_3, z0_2, z0_1, z1_4, z1_3, z1_2, z1_1, z2_4, z2_3, z2_2, z2_1, z3_4, z3_3, z3_2, z3_1, z4_4, z4_3, z4_2, z4_1, z5_4, z5_3, z5_2, z5_1, z6_4, z6_3, z6_2, z6_1, z7_4, z7_3, z7_2, z7_1, z8_4, z8_3, z8_2, z8_1, if_neg c0, if_neg (show ¬ (m0_ : Int) < 0 by omega), if_neg (show ¬ mn0_ < 0 by omega), Option.bind_some, bne_self_eq_false, Bool.false_eq_true, if_false, if_true]
  try rfl
  try simp
end Go.Proofs.Ytfemohapampkiaa.XA
