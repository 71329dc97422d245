/- The program's NewDoc answers what the reference's answers: the pure statement of FnExactNewDoc (not built yet: g3 was not turned; ErrKind is 10). Conditions: none. -/
import Derived.Test.YtahhgjkgfbppeaaYNewDocK
set_option linter.unusedVariables false
set_option linter.unusedSimpArgs false
namespace Go.Proofs.Ytahhgjkgfbppeaa.Pure
set_option linter.unusedVariables false
open Go.RowKit Go.Proofs.Ytahhgjkgfbppeaa.XA Go.Proofs.Ytahhgjkgfbppeaa.Pk Go.Proofs.YtahhgjkgfbppeaaW.PrintWords
theorem FnExactNewDoc : laws_FnExactNewDoc.Pure := core_FnExactNewDoc (fun x0 o0 => by
 by_cases h1 : x0 ≥ 1 <;> by_cases h2 : x0 ≤ 8
 ·refine ⟨1, 2, [⟨1, x0, 0, ⟨#[]⟩, []⟩], 0, ⟨trivial, trivial, by simp, fun y hy => ?_⟩, ⟨5, fun k hk => ?_⟩, ⟨5, fun k hk => ?_⟩⟩
  ·rw [List.mem_singleton.1 hy]
   exact ⟨trivial, trivial, trivial, by show (0 : Nat) ≤ _; omega, by simp⟩
  ·simp [spec_NewDoc.f, spec_l02Kind.f, spec_l01In.f, spec_l02New.f, h1, h2]
  ·simp [impl_NewDoc.f, impl_within.f, h1, h2]
 all_goals
  refine ⟨0, 0, [], 10, ⟨trivial, trivial, Nat.zero_le _, fun y hy => by cases hy⟩, ⟨5, fun k hk => ?_⟩, ⟨5, fun k hk => ?_⟩⟩
  ·simp [spec_NewDoc.f, spec_l02Kind.f, spec_l01In.f, h1, h2]
  ·simp [impl_NewDoc.f, impl_within.f, h1, h2])
end Go.Proofs.Ytahhgjkgfbppeaa.Pure
