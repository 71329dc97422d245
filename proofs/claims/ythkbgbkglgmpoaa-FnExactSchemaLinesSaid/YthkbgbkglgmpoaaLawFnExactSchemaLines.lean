/- The given statement of FnExactSchemaLines: the given row of this law, out of its pure statement and the printed walk. Conditions: none. -/
import Derived.Test.YthkbgbkglgmpoaaRows
import Derived.Test.YthkbgbkglgmpoaaYSchemaLinesWalk
import Derived.Test.YthkbgbkglgmpoaaYSchemaLinesO
import Derived.Test.YthkbgbkglgmpoaaPureFnExactSchemaLines
import Derived.WalkKit
import Derived.ProofKit
import Derived.OpenShut
import Derived.ShutString
import Derived.ChangeOld
import Derived.Below
import Derived.SizedLaws
import Derived.Carry
namespace Go.Proofs.Ythkbgbkglgmpoaa.fnExactSchemaLines
open Go.ChangeShapes Go.WideShapes Go.ChangeAt Go.RowKit
open Go.ChangeMaps (open_string shut_string)
open Go.Proofs.YthkbgbkglgmpoaaW.PrintWords Go.Proofs.YthkbgbkglgmpoaaW.PrintLast Go.Proofs.YthkbgbkglgmpoaaW.PrintMore Go.Proofs.Ythkbgbkglgmpoaa.XA Go.Proofs.Ythkbgbkglgmpoaa.Opening
set_option linter.unusedVariables false
theorem own : ownKnob Try.prog.godebug = none := by kernel_rfl
theorem laidOut : laidOutB Try.prog = true := by kernel_rfl
set_option maxRecDepth 100000 in
theorem lifted (os : Os) (started : os.Started) (H : Type) (enc : TypeId × Value → H) :
    ReturnsInHanded {} Try.checked os 5 .any (Rows.fnExactSchemaLinesSpec.pre6 enc Try.prog Try.f5 Rows.fnExactSchemaLinesRow.domain false) (Rows.fnExactSchemaLinesSpec.post enc Try.prog Try.f5 false true false false) := by
  refine returnsInHanded_of_change_sized (C := Try.checked) own started (by kernel_rfl) Try.func5
    (ChangeSpec.witness6 (enc := enc) (C := Try.checked) false ⟨#[], #[.slice none 0 0], []⟩ 8 (by kernel_rfl) (by kernel_rfl) (by kernel_rfl) (by kernel_rfl)) ?_
  intro W base args ds gs before hval0 hW hcnd hsz0 _
  have hval : ∀ (j : Nat) t v, Try.f5.params[j]? = some t → args[j]? = some v → Value.okWide Try.prog W .any base t v := hval0
  have hW' := hW
  obtain ⟨p, q, hA0, hV, rfl, hfz, hnd⟩ := hW
  have hA : DataW.TrodAll enc Try.prog W 0 (fun _ => true) true Try.f5.params.toList args.toList ds p := hA0
  rw [Try.params5] at hA hval
  obtain ⟨v0, vs0, d0, ds0, p0, q0, hargs, rfl, rfl, h0, r0⟩ := trodAll_cons hA
  obtain ⟨rfl, rfl, rfl⟩ := trodAll_nil r0
  obtain rfl : args = #[v0] := by cases args; simp_all
  obtain ⟨rfl, rfl⟩ := trodVars_none hV
  have t0 := h0
  have lt0 : ∀ x ∈ p0, x.block < W.heap.size := by obtain ⟨m, hm⟩ := t0; exact DataW.trod_lt m _ _ _ hm
  obtain ⟨fu0, hd0⟩ := h0
  obtain ⟨x0, ⟨A0, c0, e0, l0, g0⟩, ok0_⟩ := (opens_slice Try.underlying46 (by kernel_rfl) opens93) enc W fu0 _ _ _ hd0
  obtain rfl := slice_val Try.underlying46 (hval 0 46 v0 rfl rfl) e0
  obtain ⟨k, hk⟩ := Pure.FnExactSchemaLines x0 ok0_
  refine (laws_FnExactSchemaLines.calls (k := k) (r := true) (hr_ := rfl) (w := W) (l0 := x0) (A0 := A0) (c0 := c0) (hr0 := g0) (hc0 := l0) (h := hk)).mono fun e W' ⟨he, bel⟩ => ?_
  subst he
  exact ⟨_, rfl, _, _, _, [], _, [], hW', trodAll_mk1 (shut_bool Try.underlying4 _), (trodAll_cons_mk (Below.trod laidOut (by kernel_rfl) (of_decide_eq_true (by kernel_rfl)) t0 bel lt0) trodAll_mk0), rfl, bel.frame _, fun h => by cases h⟩
theorem over : Rows.fnExactSchemaLinesRow.holds Try.pinned (OpenSpec.ofChange Rows.fnExactSchemaLinesSpec) :=
  OpenClaim.holds_of_wide 5 Try.f5 rfl rfl rfl rfl rfl rfl rfl ⟨rfl, rfl, rfl, rfl, rfl⟩ rfl rfl rfl rfl rfl (by kernel_rfl) Try.func5 (by kernel_rfl)
    (of_decide_eq_true (by kernel_rfl)) (by unfold Func.isWrapper; first | (rw [if_pos (by decide +kernel)]; kernel_rfl) | (rw [if_neg (by decide +kernel)]; exact ⟨rfl, rfl⟩))
    (fun os started H enc _ => lifted os started H enc)
theorem proved : Rows.FnExactSchemaLinesSaid := over
#print axioms proved
end Go.Proofs.Ythkbgbkglgmpoaa.fnExactSchemaLines
namespace Go.Proofs.Ythkbgbkglgmpoaa
/-- The row, under a short name, for the claim. -/
theorem fnExactSchemaLines_holds : Rows.FnExactSchemaLinesSaid := fnExactSchemaLines.proved
end Go.Proofs.Ythkbgbkglgmpoaa
