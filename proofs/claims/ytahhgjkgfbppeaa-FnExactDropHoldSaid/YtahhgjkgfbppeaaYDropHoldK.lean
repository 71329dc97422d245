/- Each law comes to one fact: the reference's function and the program's come to one value. Conditions: each theorem's own premises. -/
import Derived.Test.YtahhgjkgfbppeaaYDropHold1
import Derived.Test.YtahhgjkgfbppeaaYDropHold6
import Derived.Test.YtahhgjkgfbppeaaYDropHold13
import Derived.Test.YtahhgjkgfbppeaaYDropHold16
import Derived.Test.YtahhgjkgfbppeaaYDropHoldC
import Derived.Test.YtahhgjkgfbppeaaYDropHoldMarkP
import Derived.Test.YtahhgjkgfbppeaaYDropHoldMarkHold
import Derived.Test.YtahhgjkgfbppeaaYDropHoldMarkHoldH
namespace Go.Proofs.Ytahhgjkgfbppeaa.XA
open Go.RowKit Go.Proofs.YtahhgjkgfbppeaaW.PrintWords Go.Proofs.YtahhgjkgfbppeaaW.PrintLast Go.Proofs.YtahhgjkgfbppeaaW.PrintMore Go.Proofs.Ytahhgjkgfbppeaa.Pk
set_option linter.unusedVariables false
set_option linter.unusedSimpArgs false
def laws_FnExactDropHold.Pure : Prop := ∀ (x0 : S24) (x1 : List (S42)) (x2 : Int) (x3 : Int), ok24 x0 → (x1.length ≤ maxLen ∧ ∀ y_ ∈ x1, ok42 y_) → (Lit.int .i64 x2).wf = true → (Lit.int .i64 x3).wf = true → ∃ k, laws_FnExactDropHold.f k x0.f0 x0.f1 x0.f2 x1 x2 x3 = some true
theorem core_FnExactDropHold (H : ∀ (x0 : S24) (x1 : List (S42)) (x2 : Int) (x3 : Int), ok24 x0 → (x1.length ≤ maxLen ∧ ∀ y_ ∈ x1, ok42 y_) → (Lit.int .i64 x2).wf = true → (Lit.int .i64 x3).wf = true → sm24 x0 → (x1.length ≤ 1048576 ∧ ∀ y_ ∈ x1, sm42 y_) → ∃ (r0 : List (S44)) (r1 : Int), r0.length ≤ 1048576 ∧ Ev (fun k => spec_DropHold.f k x0.f0 x0.f1 (x0.f2.map cv153) (x1.map cv42) x2 x3) (r0, r1) ∧ Ev (fun k => impl_DropHold.f k x0.f0 x0.f1 (x0.f2.map cv153) (x1.map cv42) x2 x3) (r0, r1)) : laws_FnExactDropHold.Pure := by
  intro x0 x1 x2 x3 o0 o1 o2 o3
  obtain ⟨v0, ⟨K0, e0⟩, l0, s0⟩ := sz24 x0 o0 1048576 (by omega) (by omega)
  by_cases c0 : v0 < 0
  · refine ⟨0 + K0 + 4, ?_⟩
    have z0_4 := e0 (0 + K0 + 4) (by omega)
    have z0_3 := e0 (0 + K0 + 3) (by omega)
    have z0_2 := e0 (0 + K0 + 2) (by omega)
    have z0_1 := e0 (0 + K0 + 1) (by omega)
    simp only [laws_FnExactDropHold.f, laws_FnExactDropHold.j0, laws_FnExactDropHold.j1, laws_FnExactDropHold.j2, z0_4, z0_3, z0_2, z0_1, if_pos c0, Option.bind_some, bne_self_eq_false, Bool.false_eq_true, if_false, if_true]
  have sm0_ : sm24 x0 := by rcases s0 with h_ | h_ <;> first | exact h_.2 | exact absurd h_ c0
  obtain ⟨v1, ⟨K1, e1⟩, l1, s1⟩ := sz25 x1 o1 v0 (by omega) (by omega)
  by_cases c1 : v1 < 0
  · refine ⟨0 + K0 + K1 + 4, ?_⟩
    have z0_4 := e0 (0 + K0 + K1 + 4) (by omega)
    have z0_3 := e0 (0 + K0 + K1 + 3) (by omega)
    have z0_2 := e0 (0 + K0 + K1 + 2) (by omega)
    have z0_1 := e0 (0 + K0 + K1 + 1) (by omega)
    have z1_4 := e1 (0 + K0 + K1 + 4) (by omega)
    have z1_3 := e1 (0 + K0 + K1 + 3) (by omega)
    have z1_2 := e1 (0 + K0 + K1 + 2) (by omega)
    have z1_1 := e1 (0 + K0 + K1 + 1) (by omega)
    simp only [laws_FnExactDropHold.f, laws_FnExactDropHold.j0, laws_FnExactDropHold.j1, laws_FnExactDropHold.j2, z0_4, z0_3, z0_2, z0_1, z1_4, z1_3, z1_2, z1_1, if_neg c0, if_pos c1, Option.bind_some, bne_self_eq_false, Bool.false_eq_true, if_false, if_true]
  have sm1_ : (x1.length ≤ 1048576 ∧ ∀ y_ ∈ x1, sm42 y_) := by rcases s1 with h_ | h_ <;> first | exact h_.2 | exact absurd h_ c1
  obtain ⟨T0, t0⟩ := to24 x0 sm0_
  obtain ⟨Q0, q0⟩ := eq33 (cv24 x0) (smcv24 _ sm0_)
  simp only [cv24] at q0
  obtain ⟨T1, t1⟩ := to25 x1 sm1_
  obtain ⟨Q1, q1⟩ := eq28 (x1.map cv42) ⟨Nat.le_trans (Nat.le_of_eq (show (x1.map cv42).length = _ from List.length_map _)) sm1_.1, fun y hy => by obtain ⟨z, hz, rfl⟩ := (List.mem_map (f := cv42) (l := x1)).1 hy; exact (smcv42 _ (sm1_.2 z hz))⟩
  obtain ⟨r0, r1, bd0, ⟨A, a⟩, ⟨B, b⟩⟩ := H x0 x1 x2 x3 o0 o1 o2 o3 sm0_ sm1_
  obtain ⟨⟨m0_, ml0_⟩, ⟨M0, em0⟩, hm0⟩ := markDoc_ev x0.f0 x0.f1 (x0.f2.map cv153) 1 (by omega) (by omega) (Nat.le_trans (Nat.le_of_eq (List.length_map _)) sm0_.2.2.1) (fun y hy => by obtain ⟨z, hz, rfl⟩ := List.mem_map.1 hy; exact (sm0_.2.2.2 z hz).2.2.2.2)
  simp only [List.length_map] at hm0
  have hl0_ := sm0_.2.2.1
  obtain ⟨⟨m1_, ml1_⟩, ⟨M1, em1⟩, hm1⟩ := markHoldS_ex (x1.map cv42) m0_ (by omega) (by omega) (Nat.le_trans (Nat.le_of_eq (List.length_map _)) sm1_.1)
  simp only [List.length_map] at hm1
  have hl1_ := sm1_.1
  obtain ⟨QR0, qr0⟩ := eq28 r0 ⟨by omega, fun y _ => by simp [sm44]⟩
  obtain ⟨MR0, mr0⟩ := markHoldS_ev r0 1 (by omega) (by omega)
  obtain ⟨HR0, hr0⟩ := heldHoldS_ev r0.length 1 (by omega) (by omega)
  refine ⟨0 + K0 + K1 + T0 + Q0 + T1 + Q1 + A + B + M0 + M1 + QR0 + MR0 + HR0 + 4, ?_⟩
  have z0_4 := e0 (0 + K0 + K1 + T0 + Q0 + T1 + Q1 + A + B + M0 + M1 + QR0 + MR0 + HR0 + 4) (by omega)
  have z0_3 := e0 (0 + K0 + K1 + T0 + Q0 + T1 + Q1 + A + B + M0 + M1 + QR0 + MR0 + HR0 + 3) (by omega)
  have z0_2 := e0 (0 + K0 + K1 + T0 + Q0 + T1 + Q1 + A + B + M0 + M1 + QR0 + MR0 + HR0 + 2) (by omega)
  have z0_1 := e0 (0 + K0 + K1 + T0 + Q0 + T1 + Q1 + A + B + M0 + M1 + QR0 + MR0 + HR0 + 1) (by omega)
  have z1_4 := e1 (0 + K0 + K1 + T0 + Q0 + T1 + Q1 + A + B + M0 + M1 + QR0 + MR0 + HR0 + 4) (by omega)
  have z1_3 := e1 (0 + K0 + K1 + T0 + Q0 + T1 + Q1 + A + B + M0 + M1 + QR0 + MR0 + HR0 + 3) (by omega)
  have z1_2 := e1 (0 + K0 + K1 + T0 + Q0 + T1 + Q1 + A + B + M0 + M1 + QR0 + MR0 + HR0 + 2) (by omega)
  have z1_1 := e1 (0 + K0 + K1 + T0 + Q0 + T1 + Q1 + A + B + M0 + M1 + QR0 + MR0 + HR0 + 1) (by omega)
  have z2_4 := t0 (0 + K0 + K1 + T0 + Q0 + T1 + Q1 + A + B + M0 + M1 + QR0 + MR0 + HR0 + 4) (by omega)
  have z2_3 := t0 (0 + K0 + K1 + T0 + Q0 + T1 + Q1 + A + B + M0 + M1 + QR0 + MR0 + HR0 + 3) (by omega)
  have z2_2 := t0 (0 + K0 + K1 + T0 + Q0 + T1 + Q1 + A + B + M0 + M1 + QR0 + MR0 + HR0 + 2) (by omega)
  have z2_1 := t0 (0 + K0 + K1 + T0 + Q0 + T1 + Q1 + A + B + M0 + M1 + QR0 + MR0 + HR0 + 1) (by omega)
  have z3_4 := q0 (0 + K0 + K1 + T0 + Q0 + T1 + Q1 + A + B + M0 + M1 + QR0 + MR0 + HR0 + 4) (by omega)
  have z3_3 := q0 (0 + K0 + K1 + T0 + Q0 + T1 + Q1 + A + B + M0 + M1 + QR0 + MR0 + HR0 + 3) (by omega)
  have z3_2 := q0 (0 + K0 + K1 + T0 + Q0 + T1 + Q1 + A + B + M0 + M1 + QR0 + MR0 + HR0 + 2) (by omega)
  have z3_1 := q0 (0 + K0 + K1 + T0 + Q0 + T1 + Q1 + A + B + M0 + M1 + QR0 + MR0 + HR0 + 1) (by omega)
  have z4_4 := t1 (0 + K0 + K1 + T0 + Q0 + T1 + Q1 + A + B + M0 + M1 + QR0 + MR0 + HR0 + 4) (by omega)
  have z4_3 := t1 (0 + K0 + K1 + T0 + Q0 + T1 + Q1 + A + B + M0 + M1 + QR0 + MR0 + HR0 + 3) (by omega)
  have z4_2 := t1 (0 + K0 + K1 + T0 + Q0 + T1 + Q1 + A + B + M0 + M1 + QR0 + MR0 + HR0 + 2) (by omega)
  have z4_1 := t1 (0 + K0 + K1 + T0 + Q0 + T1 + Q1 + A + B + M0 + M1 + QR0 + MR0 + HR0 + 1) (by omega)
  have z5_4 := q1 (0 + K0 + K1 + T0 + Q0 + T1 + Q1 + A + B + M0 + M1 + QR0 + MR0 + HR0 + 4) (by omega)
  have z5_3 := q1 (0 + K0 + K1 + T0 + Q0 + T1 + Q1 + A + B + M0 + M1 + QR0 + MR0 + HR0 + 3) (by omega)
  have z5_2 := q1 (0 + K0 + K1 + T0 + Q0 + T1 + Q1 + A + B + M0 + M1 + QR0 + MR0 + HR0 + 2) (by omega)
  have z5_1 := q1 (0 + K0 + K1 + T0 + Q0 + T1 + Q1 + A + B + M0 + M1 + QR0 + MR0 + HR0 + 1) (by omega)
  have z6_4 := a (0 + K0 + K1 + T0 + Q0 + T1 + Q1 + A + B + M0 + M1 + QR0 + MR0 + HR0 + 4) (by omega)
  have z6_3 := a (0 + K0 + K1 + T0 + Q0 + T1 + Q1 + A + B + M0 + M1 + QR0 + MR0 + HR0 + 3) (by omega)
  have z6_2 := a (0 + K0 + K1 + T0 + Q0 + T1 + Q1 + A + B + M0 + M1 + QR0 + MR0 + HR0 + 2) (by omega)
  have z6_1 := a (0 + K0 + K1 + T0 + Q0 + T1 + Q1 + A + B + M0 + M1 + QR0 + MR0 + HR0 + 1) (by omega)
  have z7_4 := b (0 + K0 + K1 + T0 + Q0 + T1 + Q1 + A + B + M0 + M1 + QR0 + MR0 + HR0 + 4) (by omega)
  have z7_3 := b (0 + K0 + K1 + T0 + Q0 + T1 + Q1 + A + B + M0 + M1 + QR0 + MR0 + HR0 + 3) (by omega)
  have z7_2 := b (0 + K0 + K1 + T0 + Q0 + T1 + Q1 + A + B + M0 + M1 + QR0 + MR0 + HR0 + 2) (by omega)
  have z7_1 := b (0 + K0 + K1 + T0 + Q0 + T1 + Q1 + A + B + M0 + M1 + QR0 + MR0 + HR0 + 1) (by omega)
  have z8_4 := em0 (0 + K0 + K1 + T0 + Q0 + T1 + Q1 + A + B + M0 + M1 + QR0 + MR0 + HR0 + 4) (by omega)
  have z8_3 := em0 (0 + K0 + K1 + T0 + Q0 + T1 + Q1 + A + B + M0 + M1 + QR0 + MR0 + HR0 + 3) (by omega)
  have z8_2 := em0 (0 + K0 + K1 + T0 + Q0 + T1 + Q1 + A + B + M0 + M1 + QR0 + MR0 + HR0 + 2) (by omega)
  have z8_1 := em0 (0 + K0 + K1 + T0 + Q0 + T1 + Q1 + A + B + M0 + M1 + QR0 + MR0 + HR0 + 1) (by omega)
  have z9_4 := em1 (0 + K0 + K1 + T0 + Q0 + T1 + Q1 + A + B + M0 + M1 + QR0 + MR0 + HR0 + 4) (by omega)
  have z9_3 := em1 (0 + K0 + K1 + T0 + Q0 + T1 + Q1 + A + B + M0 + M1 + QR0 + MR0 + HR0 + 3) (by omega)
  have z9_2 := em1 (0 + K0 + K1 + T0 + Q0 + T1 + Q1 + A + B + M0 + M1 + QR0 + MR0 + HR0 + 2) (by omega)
  have z9_1 := em1 (0 + K0 + K1 + T0 + Q0 + T1 + Q1 + A + B + M0 + M1 + QR0 + MR0 + HR0 + 1) (by omega)
  have z10_4 := qr0 (0 + K0 + K1 + T0 + Q0 + T1 + Q1 + A + B + M0 + M1 + QR0 + MR0 + HR0 + 4) (by omega)
  have z10_3 := qr0 (0 + K0 + K1 + T0 + Q0 + T1 + Q1 + A + B + M0 + M1 + QR0 + MR0 + HR0 + 3) (by omega)
  have z10_2 := qr0 (0 + K0 + K1 + T0 + Q0 + T1 + Q1 + A + B + M0 + M1 + QR0 + MR0 + HR0 + 2) (by omega)
  have z10_1 := qr0 (0 + K0 + K1 + T0 + Q0 + T1 + Q1 + A + B + M0 + M1 + QR0 + MR0 + HR0 + 1) (by omega)
  have z11_4 := mr0 (0 + K0 + K1 + T0 + Q0 + T1 + Q1 + A + B + M0 + M1 + QR0 + MR0 + HR0 + 4) (by omega)
  have z11_3 := mr0 (0 + K0 + K1 + T0 + Q0 + T1 + Q1 + A + B + M0 + M1 + QR0 + MR0 + HR0 + 3) (by omega)
  have z11_2 := mr0 (0 + K0 + K1 + T0 + Q0 + T1 + Q1 + A + B + M0 + M1 + QR0 + MR0 + HR0 + 2) (by omega)
  have z11_1 := mr0 (0 + K0 + K1 + T0 + Q0 + T1 + Q1 + A + B + M0 + M1 + QR0 + MR0 + HR0 + 1) (by omega)
  have z12_4 := hr0 (0 + K0 + K1 + T0 + Q0 + T1 + Q1 + A + B + M0 + M1 + QR0 + MR0 + HR0 + 4) (by omega)
  have z12_3 := hr0 (0 + K0 + K1 + T0 + Q0 + T1 + Q1 + A + B + M0 + M1 + QR0 + MR0 + HR0 + 3) (by omega)
  have z12_2 := hr0 (0 + K0 + K1 + T0 + Q0 + T1 + Q1 + A + B + M0 + M1 + QR0 + MR0 + HR0 + 2) (by omega)
  have z12_1 := hr0 (0 + K0 + K1 + T0 + Q0 + T1 + Q1 + A + B + M0 + M1 + QR0 + MR0 + HR0 + 1) (by omega)
  simp only [laws_FnExactDropHold.f, laws_FnExactDropHold.j0, laws_FnExactDropHold.j1, laws_FnExactDropHold.j2, z0_4, z0_3, z0_2, z0_1, z1_4, z1_3, z1_2, z1_1, z2_4, z2_3, z2_2, z2_1, z3_4, z3_3, z3_2, z3_1, z4_4, z4_3, z4_2, z4_1, z5_4, z5_3, z5_2, z5_1, z6_4, z6_3, z6_2, z6_1, z7_4, z7_3, z7_2, z7_1, z8_4, z8_3, z8_2, z8_1, z9_4, z9_3, z9_2, z9_1, z10_4, z10_3, z10_2, z10_1, z11_4, z11_3, z11_2, z11_1, z12_4, z12_3, z12_2, z12_1, if_neg c0, if_neg c1, if_neg (show ¬ (m1_ : Int) < 0 by omega), if_neg (show ¬ ((1 : Int) + 3 * (r0.length : Int)) < 0 by omega), Option.bind_some, bne_self_eq_false, Bool.false_eq_true, if_false, if_true]
  try rfl
  try simp
end Go.Proofs.Ytahhgjkgfbppeaa.XA
