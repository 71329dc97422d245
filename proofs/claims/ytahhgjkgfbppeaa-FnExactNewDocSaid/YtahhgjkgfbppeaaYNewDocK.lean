/- Each law comes to one fact: the reference's function and the program's come to one value. Conditions: each theorem's own premises. -/
import Derived.Test.YtahhgjkgfbppeaaYNewDoc2
import Derived.Test.YtahhgjkgfbppeaaYNewDoc4
import Derived.Test.YtahhgjkgfbppeaaYNewDocC
import Derived.Test.YtahhgjkgfbppeaaYNewDocMarkH
namespace Go.Proofs.Ytahhgjkgfbppeaa.XA
open Go.RowKit Go.Proofs.YtahhgjkgfbppeaaW.PrintWords Go.Proofs.YtahhgjkgfbppeaaW.PrintLast Go.Proofs.YtahhgjkgfbppeaaW.PrintMore Go.Proofs.Ytahhgjkgfbppeaa.Pk
set_option linter.unusedVariables false
set_option linter.unusedSimpArgs false
def laws_FnExactNewDoc.Pure : Prop := ∀ (x0 : Int), (Lit.int .i64 x0).wf = true → ∃ k, laws_FnExactNewDoc.f k x0 = some true
theorem core_FnExactNewDoc (H : ∀ (x0 : Int), (Lit.int .i64 x0).wf = true → ∃ (r0 : Int) (r1 : Int) (r2 : List (S73)) (r3 : Int), sm33 (⟨r0, r1, r2⟩ : S33) ∧ Ev (fun k => spec_NewDoc.f x0) (r0, r1, r2, r3) ∧ Ev (fun k => impl_NewDoc.f x0) (r0, r1, r2, r3)) : laws_FnExactNewDoc.Pure := by
  intro x0 o0
  obtain ⟨r0, r1, r2, r3, bd0, ⟨A, a⟩, ⟨B, b⟩⟩ := H x0 o0 
  obtain ⟨QR0, qr0⟩ := eq33 (⟨r0, r1, r2⟩ : S33) bd0
  dsimp only at qr0
  obtain ⟨mn0_, mr0_, hm0_, ⟨MR0, mr0⟩, ⟨HR0, hr0⟩⟩ := markDeep_ev r0 r1 r2 bd0.2.2.1 (fun y hy => (bd0.2.2.2 y hy).2.2.2.2)
  refine ⟨0 + A + B + QR0 + MR0 + HR0 + 4, ?_⟩
  have z0_4 := a (0 + A + B + QR0 + MR0 + HR0 + 4) (by omega)
  have z0_3 := a (0 + A + B + QR0 + MR0 + HR0 + 3) (by omega)
  have z0_2 := a (0 + A + B + QR0 + MR0 + HR0 + 2) (by omega)
  have z0_1 := a (0 + A + B + QR0 + MR0 + HR0 + 1) (by omega)
  have z1_4 := b (0 + A + B + QR0 + MR0 + HR0 + 4) (by omega)
  have z1_3 := b (0 + A + B + QR0 + MR0 + HR0 + 3) (by omega)
  have z1_2 := b (0 + A + B + QR0 + MR0 + HR0 + 2) (by omega)
  have z1_1 := b (0 + A + B + QR0 + MR0 + HR0 + 1) (by omega)
  have z2_4 := qr0 (0 + A + B + QR0 + MR0 + HR0 + 4) (by omega)
  have z2_3 := qr0 (0 + A + B + QR0 + MR0 + HR0 + 3) (by omega)
  have z2_2 := qr0 (0 + A + B + QR0 + MR0 + HR0 + 2) (by omega)
  have z2_1 := qr0 (0 + A + B + QR0 + MR0 + HR0 + 1) (by omega)
  have z3_4 := mr0 (0 + A + B + QR0 + MR0 + HR0 + 4) (by omega)
  have z3_3 := mr0 (0 + A + B + QR0 + MR0 + HR0 + 3) (by omega)
  have z3_2 := mr0 (0 + A + B + QR0 + MR0 + HR0 + 2) (by omega)
  have z3_1 := mr0 (0 + A + B + QR0 + MR0 + HR0 + 1) (by omega)
  have z4_4 := hr0 (0 + A + B + QR0 + MR0 + HR0 + 4) (by omega)
  have z4_3 := hr0 (0 + A + B + QR0 + MR0 + HR0 + 3) (by omega)
  have z4_2 := hr0 (0 + A + B + QR0 + MR0 + HR0 + 2) (by omega)
  have z4_1 := hr0 (0 + A + B + QR0 + MR0 + HR0 + 1) (by omega)
  simp only [laws_FnExactNewDoc.f, laws_FnExactNewDoc.j0, laws_FnExactNewDoc.j1, z0_4, z0_3, z0_2, z0_1, z1_4, z1_3, z1_2, z1_1, z2_4, z2_3, z2_2, z2_1, z3_4, z3_3, z3_2, z3_1, z4_4, z4_3, z4_2, z4_1, if_neg (show ¬ (1 : Int) < 0 by omega), if_neg (show ¬ mn0_ < 0 by omega), Option.bind_some, bne_self_eq_false, Bool.false_eq_true, if_false, if_true]
  try rfl
  try simp
end Go.Proofs.Ytahhgjkgfbppeaa.XA
