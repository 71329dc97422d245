/- Each law comes to one fact: the reference's function and the program's come to one value. Conditions: each theorem's own premises. -/
import Derived.Test.YtocelbmpnjnnbaaYPutHold1
import Derived.Test.YtocelbmpnjnnbaaYPutHold8
import Derived.Test.YtocelbmpnjnnbaaYPutHold16
import Derived.Test.YtocelbmpnjnnbaaYPutHold19
import Derived.Test.YtocelbmpnjnnbaaYPutHoldC
import Derived.Test.YtocelbmpnjnnbaaYPutHoldMarkP
import Derived.Test.YtocelbmpnjnnbaaYPutHoldMarkHold
import Derived.Test.YtocelbmpnjnnbaaYPutHoldMarkHoldH
namespace Go.Proofs.Ytocelbmpnjnnbaa.XA
open Go.RowKit Go.Proofs.YtocelbmpnjnnbaaW.PrintWords Go.Proofs.YtocelbmpnjnnbaaW.PrintLast Go.Proofs.YtocelbmpnjnnbaaW.PrintMore Go.Proofs.Ytocelbmpnjnnbaa.Pk
set_option linter.unusedVariables false
set_option linter.unusedSimpArgs false
def laws_FnExactPutHold.Pure : Prop := ∀ (x0 : S24) (x1 : List (S27)) (x2 : S27), ok24 x0 → (x1.length ≤ maxLen ∧ ∀ y_ ∈ x1, ok27 y_) → ok27 x2 → ∃ k, laws_FnExactPutHold.f k x0.f0 x0.f1 x0.f2 x1 x2.f0 x2.f1 x2.f2 = some true
theorem core_FnExactPutHold (H : ∀ (x0 : S24) (x1 : List (S27)) (x2 : S27), ok24 x0 → (x1.length ≤ maxLen ∧ ∀ y_ ∈ x1, ok27 y_) → ok27 x2 → sm24 x0 → (x1.length ≤ 1048576 ∧ ∀ y_ ∈ x1, sm27 y_) → sm27 x2 → ∃ (r0 : List (S38)) (r1 : Int), r0.length ≤ 1048576 ∧ Ev (fun k => spec_PutHold.f k x0.f0 x0.f1 (x0.f2.map cv144) (x1.map cv27) x2.f0 x2.f1 x2.f2) (r0, r1) ∧ Ev (fun k => impl_PutHold.f k x0.f0 x0.f1 (x0.f2.map cv144) (x1.map cv27) x2.f0 x2.f1 x2.f2) (r0, r1)) : laws_FnExactPutHold.Pure := by
  intro x0 x1 x2 o0 o1 o2
  obtain ⟨v0, ⟨K0, e0⟩, l0, s0⟩ := sz24 x0 o0 1048576 (by omega) (by omega)
  by_cases c0 : v0 < 0
  · refine ⟨0 + K0 + 4, ?_⟩
    have z0_4 := e0 (0 + K0 + 4) (by omega)
    have z0_3 := e0 (0 + K0 + 3) (by omega)
    have z0_2 := e0 (0 + K0 + 2) (by omega)
    have z0_1 := e0 (0 + K0 + 1) (by omega)
    simp only [laws_FnExactPutHold.f, laws_FnExactPutHold.j0, laws_FnExactPutHold.j1, laws_FnExactPutHold.j2, z0_4, z0_3, z0_2, z0_1, if_pos c0, Option.bind_some, bne_self_eq_false, Bool.false_eq_true, if_false, if_true]
  have sm0_ : sm24 x0 := by rcases s0 with h_ | h_ <;> first | exact h_.2 | exact absurd h_ c0
  obtain ⟨v1, ⟨K1, e1⟩, l1, s1⟩ := sz25 x1 o1 v0 (by omega) (by omega)
  by_cases c1 : v1 < 0
  · refine ⟨0 + K0 + K1 + 4, ?_⟩
    have z0_4 := e0 (0 + K0 + K1 + 4) (by omega)
    have z0_3 := e0 (0 + K0 + K1 + 3) (by omega)
    have z0_2 := e0 (0 + K0 + K1 + 2) (by omega)
    have z0_1 := e0 (0 + K0 + K1 + 1) (by omega)
    have z1_4 := e1 (0 + K0 + K1 + 4) (by omega)
    have z1_3 := e1 (0 + K0 + K1 + 3) (by omega)
    have z1_2 := e1 (0 + K0 + K1 + 2) (by omega)
    have z1_1 := e1 (0 + K0 + K1 + 1) (by omega)
    simp only [laws_FnExactPutHold.f, laws_FnExactPutHold.j0, laws_FnExactPutHold.j1, laws_FnExactPutHold.j2, z0_4, z0_3, z0_2, z0_1, z1_4, z1_3, z1_2, z1_1, if_neg c0, if_pos c1, Option.bind_some, bne_self_eq_false, Bool.false_eq_true, if_false, if_true]
  have sm1_ : (x1.length ≤ 1048576 ∧ ∀ y_ ∈ x1, sm27 y_) := by rcases s1 with h_ | h_ <;> first | exact h_.2 | exact absurd h_ c1
  have sm2_ : sm27 x2 := by simp [sm27]
  obtain ⟨T0, t0⟩ := to24 x0 sm0_
  obtain ⟨Q0, q0⟩ := eq35 (cv24 x0) (smcv24 _ sm0_)
  simp only [cv24] at q0
  obtain ⟨T1, t1⟩ := to25 x1 sm1_
  obtain ⟨Q1, q1⟩ := eq30 (x1.map cv27) ⟨Nat.le_trans (Nat.le_of_eq (show (x1.map cv27).length = _ from List.length_map _)) sm1_.1, fun y hy => by obtain ⟨z, hz, rfl⟩ := (List.mem_map (f := cv27) (l := x1)).1 hy; exact (smcv27 _ (sm1_.2 z hz))⟩
  obtain ⟨T2, t2⟩ := to27 x2 sm2_
  obtain ⟨Q2, q2⟩ := eq38 (cv27 x2) (smcv27 _ sm2_)
  simp only [cv27] at q2
  obtain ⟨r0, r1, bd0, ⟨A, a⟩, ⟨B, b⟩⟩ := H x0 x1 x2 o0 o1 o2 sm0_ sm1_ sm2_
  obtain ⟨⟨m0_, ml0_⟩, ⟨M0, em0⟩, hm0⟩ := markDoc_ev x0.f0 x0.f1 (x0.f2.map cv144) 1 (by omega) (by omega) (Nat.le_trans (Nat.le_of_eq (List.length_map _)) sm0_.2.2.1) (fun y hy => by obtain ⟨z, hz, rfl⟩ := List.mem_map.1 hy; exact (sm0_.2.2.2 z hz).2.2.2.2)
  simp only [List.length_map] at hm0
  have hl0_ := sm0_.2.2.1
  obtain ⟨⟨m1_, ml1_⟩, ⟨M1, em1⟩, hm1⟩ := markHoldS_ex (x1.map cv27) m0_ (by omega) (by omega) (Nat.le_trans (Nat.le_of_eq (List.length_map _)) sm1_.1)
  simp only [List.length_map] at hm1
  have hl1_ := sm1_.1
  obtain ⟨QR0, qr0⟩ := eq30 r0 ⟨by omega, fun y _ => by simp [sm38]⟩
  obtain ⟨MR0, mr0⟩ := markHoldS_ev r0 1 (by omega) (by omega)
  obtain ⟨HR0, hr0⟩ := heldHoldS_ev r0.length 1 (by omega) (by omega)
  refine ⟨0 + K0 + K1 + T0 + Q0 + T1 + Q1 + T2 + Q2 + A + B + M0 + M1 + QR0 + MR0 + HR0 + 4, ?_⟩
  have z0_4 := e0 (0 + K0 + K1 + T0 + Q0 + T1 + Q1 + T2 + Q2 + A + B + M0 + M1 + QR0 + MR0 + HR0 + 4) (by omega)
  have z0_3 := e0 (0 + K0 + K1 + T0 + Q0 + T1 + Q1 + T2 + Q2 + A + B + M0 + M1 + QR0 + MR0 + HR0 + 3) (by omega)
  have z0_2 := e0 (0 + K0 + K1 + T0 + Q0 + T1 + Q1 + T2 + Q2 + A + B + M0 + M1 + QR0 + MR0 + HR0 + 2) (by omega)
  have z0_1 := e0 (0 + K0 + K1 + T0 + Q0 + T1 + Q1 + T2 + Q2 + A + B + M0 + M1 + QR0 + MR0 + HR0 + 1) (by omega)
  have z1_4 := e1 (0 + K0 + K1 + T0 + Q0 + T1 + Q1 + T2 + Q2 + A + B + M0 + M1 + QR0 + MR0 + HR0 + 4) (by omega)
  have z1_3 := e1 (0 + K0 + K1 + T0 + Q0 + T1 + Q1 + T2 + Q2 + A + B + M0 + M1 + QR0 + MR0 + HR0 + 3) (by omega)
  have z1_2 := e1 (0 + K0 + K1 + T0 + Q0 + T1 + Q1 + T2 + Q2 + A + B + M0 + M1 + QR0 + MR0 + HR0 + 2) (by omega)
  have z1_1 := e1 (0 + K0 + K1 + T0 + Q0 + T1 + Q1 + T2 + Q2 + A + B + M0 + M1 + QR0 + MR0 + HR0 + 1) (by omega)
  have z2_4 := t0 (0 + K0 + K1 + T0 + Q0 + T1 + Q1 + T2 + Q2 + A + B + M0 + M1 + QR0 + MR0 + HR0 + 4) (by omega)
  have z2_3 := t0 (0 + K0 + K1 + T0 + Q0 + T1 + Q1 + T2 + Q2 + A + B + M0 + M1 + QR0 + MR0 + HR0 + 3) (by omega)
  have z2_2 := t0 (0 + K0 + K1 + T0 + Q0 + T1 + Q1 + T2 + Q2 + A + B + M0 + M1 + QR0 + MR0 + HR0 + 2) (by omega)
  have z2_1 := t0 (0 + K0 + K1 + T0 + Q0 + T1 + Q1 + T2 + Q2 + A + B + M0 + M1 + QR0 + MR0 + HR0 + 1) (by omega)
  have z3_4 := q0 (0 + K0 + K1 + T0 + Q0 + T1 + Q1 + T2 + Q2 + A + B + M0 + M1 + QR0 + MR0 + HR0 + 4) (by omega)
  have z3_3 := q0 (0 + K0 + K1 + T0 + Q0 + T1 + Q1 + T2 + Q2 + A + B + M0 + M1 + QR0 + MR0 + HR0 + 3) (by omega)
  have z3_2 := q0 (0 + K0 + K1 + T0 + Q0 + T1 + Q1 + T2 + Q2 + A + B + M0 + M1 + QR0 + MR0 + HR0 + 2) (by omega)
  have z3_1 := q0 (0 + K0 + K1 + T0 + Q0 + T1 + Q1 + T2 + Q2 + A + B + M0 + M1 + QR0 + MR0 + HR0 + 1) (by omega)
  have z4_4 := t1 (0 + K0 + K1 + T0 + Q0 + T1 + Q1 + T2 + Q2 + A + B + M0 + M1 + QR0 + MR0 + HR0 + 4) (by omega)
  have z4_3 := t1 (0 + K0 + K1 + T0 + Q0 + T1 + Q1 + T2 + Q2 + A + B + M0 + M1 + QR0 + MR0 + HR0 + 3) (by omega)
  have z4_2 := t1 (0 + K0 + K1 + T0 + Q0 + T1 + Q1 + T2 + Q2 + A + B + M0 + M1 + QR0 + MR0 + HR0 + 2) (by omega)
  have z4_1 := t1 (0 + K0 + K1 + T0 + Q0 + T1 + Q1 + T2 + Q2 + A + B + M0 + M1 + QR0 + MR0 + HR0 + 1) (by omega)
  have z5_4 := q1 (0 + K0 + K1 + T0 + Q0 + T1 + Q1 + T2 + Q2 + A + B + M0 + M1 + QR0 + MR0 + HR0 + 4) (by omega)
  have z5_3 := q1 (0 + K0 + K1 + T0 + Q0 + T1 + Q1 + T2 + Q2 + A + B + M0 + M1 + QR0 + MR0 + HR0 + 3) (by omega)
  have z5_2 := q1 (0 + K0 + K1 + T0 + Q0 + T1 + Q1 + T2 + Q2 + A + B + M0 + M1 + QR0 + MR0 + HR0 + 2) (by omega)
  have z5_1 := q1 (0 + K0 + K1 + T0 + Q0 + T1 + Q1 + T2 + Q2 + A + B + M0 + M1 + QR0 + MR0 + HR0 + 1) (by omega)
  have z6_4 := t2 (0 + K0 + K1 + T0 + Q0 + T1 + Q1 + T2 + Q2 + A + B + M0 + M1 + QR0 + MR0 + HR0 + 4) (by omega)
  have z6_3 := t2 (0 + K0 + K1 + T0 + Q0 + T1 + Q1 + T2 + Q2 + A + B + M0 + M1 + QR0 + MR0 + HR0 + 3) (by omega)
  have z6_2 := t2 (0 + K0 + K1 + T0 + Q0 + T1 + Q1 + T2 + Q2 + A + B + M0 + M1 + QR0 + MR0 + HR0 + 2) (by omega)
  have z6_1 := t2 (0 + K0 + K1 + T0 + Q0 + T1 + Q1 + T2 + Q2 + A + B + M0 + M1 + QR0 + MR0 + HR0 + 1) (by omega)
  have z7_4 := q2 (0 + K0 + K1 + T0 + Q0 + T1 + Q1 + T2 + Q2 + A + B + M0 + M1 + QR0 + MR0 + HR0 + 4) (by omega)
  have z7_3 := q2 (0 + K0 + K1 + T0 + Q0 + T1 + Q1 + T2 + Q2 + A + B + M0 + M1 + QR0 + MR0 + HR0 + 3) (by omega)
  have z7_2 := q2 (0 + K0 + K1 + T0 + Q0 + T1 + Q1 + T2 + Q2 + A + B + M0 + M1 + QR0 + MR0 + HR0 + 2) (by omega)
  have z7_1 := q2 (0 + K0 + K1 + T0 + Q0 + T1 + Q1 + T2 + Q2 + A + B + M0 + M1 + QR0 + MR0 + HR0 + 1) (by omega)
  have z8_4 := a (0 + K0 + K1 + T0 + Q0 + T1 + Q1 + T2 + Q2 + A + B + M0 + M1 + QR0 + MR0 + HR0 + 4) (by omega)
  have z8_3 := a (0 + K0 + K1 + T0 + Q0 + T1 + Q1 + T2 + Q2 + A + B + M0 + M1 + QR0 + MR0 + HR0 + 3) (by omega)
  have z8_2 := a (0 + K0 + K1 + T0 + Q0 + T1 + Q1 + T2 + Q2 + A + B + M0 + M1 + QR0 + MR0 + HR0 + 2) (by omega)
  have z8_1 := a (0 + K0 + K1 + T0 + Q0 + T1 + Q1 + T2 + Q2 + A + B + M0 + M1 + QR0 + MR0 + HR0 + 1) (by omega)
  have z9_4 := b (0 + K0 + K1 + T0 + Q0 + T1 + Q1 + T2 + Q2 + A + B + M0 + M1 + QR0 + MR0 + HR0 + 4) (by omega)
  have z9_3 := b (0 + K0 + K1 + T0 + Q0 + T1 + Q1 + T2 + Q2 + A + B + M0 + M1 + QR0 + MR0 + HR0 + 3) (by omega)
  have z9_2 := b (0 + K0 + K1 + T0 + Q0 + T1 + Q1 + T2 + Q2 + A + B + M0 + M1 + QR0 + MR0 + HR0 + 2) (by omega)
  have z9_1 := b (0 + K0 + K1 + T0 + Q0 + T1 + Q1 + T2 + Q2 + A + B + M0 + M1 + QR0 + MR0 + HR0 + 1) (by omega)
  have z10_4 := em0 (0 + K0 + K1 + T0 + Q0 + T1 + Q1 + T2 + Q2 + A + B + M0 + M1 + QR0 + MR0 + HR0 + 4) (by omega)
  have z10_3 := em0 (0 + K0 + K1 + T0 + Q0 + T1 + Q1 + T2 + Q2 + A + B + M0 + M1 + QR0 + MR0 + HR0 + 3) (by omega)
  have z10_2 := em0 (0 + K0 + K1 + T0 + Q0 + T1 + Q1 + T2 + Q2 + A + B + M0 + M1 + QR0 + MR0 + HR0 + 2) (by omega)
  have z10_1 := em0 (0 + K0 + K1 + T0 + Q0 + T1 + Q1 + T2 + Q2 + A + B + M0 + M1 + QR0 + MR0 + HR0 + 1) (by omega)
  have z11_4 := em1 (0 + K0 + K1 + T0 + Q0 + T1 + Q1 + T2 + Q2 + A + B + M0 + M1 + QR0 + MR0 + HR0 + 4) (by omega)
  have z11_3 := em1 (0 + K0 + K1 + T0 + Q0 + T1 + Q1 + T2 + Q2 + A + B + M0 + M1 + QR0 + MR0 + HR0 + 3) (by omega)
  have z11_2 := em1 (0 + K0 + K1 + T0 + Q0 + T1 + Q1 + T2 + Q2 + A + B + M0 + M1 + QR0 + MR0 + HR0 + 2) (by omega)
  have z11_1 := em1 (0 + K0 + K1 + T0 + Q0 + T1 + Q1 + T2 + Q2 + A + B + M0 + M1 + QR0 + MR0 + HR0 + 1) (by omega)
  have z12_4 := qr0 (0 + K0 + K1 + T0 + Q0 + T1 + Q1 + T2 + Q2 + A + B + M0 + M1 + QR0 + MR0 + HR0 + 4) (by omega)
  have z12_3 := qr0 (0 + K0 + K1 + T0 + Q0 + T1 + Q1 + T2 + Q2 + A + B + M0 + M1 + QR0 + MR0 + HR0 + 3) (by omega)
  have z12_2 := qr0 (0 + K0 + K1 + T0 + Q0 + T1 + Q1 + T2 + Q2 + A + B + M0 + M1 + QR0 + MR0 + HR0 + 2) (by omega)
  have z12_1 := qr0 (0 + K0 + K1 + T0 + Q0 + T1 + Q1 + T2 + Q2 + A + B + M0 + M1 + QR0 + MR0 + HR0 + 1) (by omega)
  have z13_4 := mr0 (0 + K0 + K1 + T0 + Q0 + T1 + Q1 + T2 + Q2 + A + B + M0 + M1 + QR0 + MR0 + HR0 + 4) (by omega)
  have z13_3 := mr0 (0 + K0 + K1 + T0 + Q0 + T1 + Q1 + T2 + Q2 + A + B + M0 + M1 + QR0 + MR0 + HR0 + 3) (by omega)
  have z13_2 := mr0 (0 + K0 + K1 + T0 + Q0 + T1 + Q1 + T2 + Q2 + A + B + M0 + M1 + QR0 + MR0 + HR0 + 2) (by omega)
  have z13_1 := mr0 (0 + K0 + K1 + T0 + Q0 + T1 + Q1 + T2 + Q2 + A + B + M0 + M1 + QR0 + MR0 + HR0 + 1) (by omega)
  have z14_4 := hr0 (0 + K0 + K1 + T0 + Q0 + T1 + Q1 + T2 + Q2 + A + B + M0 + M1 + QR0 + MR0 + HR0 + 4) (by omega)
  have z14_3 := hr0 (0 + K0 + K1 + T0 + Q0 + T1 + Q1 + T2 + Q2 + A + B + M0 + M1 + QR0 + MR0 + HR0 + 3) (by omega)
  have z14_2 := hr0 (0 + K0 + K1 + T0 + Q0 + T1 + Q1 + T2 + Q2 + A + B + M0 + M1 + QR0 + MR0 + HR0 + 2) (by omega)
  have z14_1 := hr0 (0 + K0 + K1 + T0 + Q0 + T1 + Q1 + T2 + Q2 + A + B + M0 + M1 + QR0 + MR0 + HR0 + 1) (by omega)
  simp only [laws_FnExactPutHold.f, laws_FnExactPutHold.j0, laws_FnExactPutHold.j1, laws_FnExactPutHold.j2, z0_4, z0_3, z0_2, z0_1, z1_4, z1_3, z1_2, z1_1, z2_4, z2_3, z2_2, z2_1, z3_4, z3_3, z3_2, z3_1, z4_4, z4_3, z4_2, z4_1, z5_4, z5_3, z5_2, z5_1, z6_4, z6_3, z6_2, z6_1, z7_4, z7_3, z7_2, z7_1, z8_4, z8_3, z8_2, z8_1, z9_4, z9_3, z9_2, z9_1, z10_4, z10_3, z10_2, z10_1, z11_4, z11_3, z11_2, z11_1, z12_4, z12_3, z12_2, z12_1, z13_4, z13_3, z13_2, z13_1, z14_4, z14_3, z14_2, z14_1, if_neg c0, if_neg c1, if_neg (show ¬ (m1_ : Int) < 0 by omega), if_neg (show ¬ ((1 : Int) + 3 * (r0.length : Int)) < 0 by omega), Option.bind_some, bne_self_eq_false, Bool.false_eq_true, if_false, if_true]
  try rfl
  try simp
end Go.Proofs.Ytocelbmpnjnnbaa.XA
