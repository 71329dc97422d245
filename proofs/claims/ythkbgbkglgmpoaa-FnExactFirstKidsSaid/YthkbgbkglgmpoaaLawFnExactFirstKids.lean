/- The given statement of FnExactFirstKids: the given row of this law, out of its pure statement and the printed walk. Conditions: none. -/
import Derived.Test.YthkbgbkglgmpoaaRows
import Derived.Test.YthkbgbkglgmpoaaYFirstKidsWalk
import Derived.Test.YthkbgbkglgmpoaaYFirstKidsO
import Derived.Test.YthkbgbkglgmpoaaPureFnExactFirstKids
import Derived.WalkKit
import Derived.ProofKit
import Derived.OpenShut
import Derived.ShutString
import Derived.ChangeOld
import Derived.Below
import Derived.SizedLaws
import Derived.Carry
namespace Go.Proofs.Ythkbgbkglgmpoaa.fnExactFirstKids
open Go.ChangeShapes Go.WideShapes Go.ChangeAt Go.RowKit
open Go.ChangeMaps (open_string shut_string)
open Go.Proofs.YthkbgbkglgmpoaaW.PrintWords Go.Proofs.YthkbgbkglgmpoaaW.PrintLast Go.Proofs.YthkbgbkglgmpoaaW.PrintMore Go.Proofs.Ythkbgbkglgmpoaa.XA Go.Proofs.Ythkbgbkglgmpoaa.Opening
set_option linter.unusedVariables false
theorem own : ownKnob Try.prog.godebug = none := by kernel_rfl
theorem laidOut : laidOutB Try.prog = true := by kernel_rfl
set_option maxRecDepth 100000 in
theorem lifted (os : Os) (started : os.Started) (H : Type) (enc : TypeId × Value → H) :
    ReturnsInHanded {} Try.checked os 4 .any (Rows.fnExactFirstKidsSpec.pre6 enc Try.prog Try.f4 Rows.fnExactFirstKidsRow.domain false) (Rows.fnExactFirstKidsSpec.post enc Try.prog Try.f4 false true false false) := by
  refine returnsInHanded_of_change_sized (C := Try.checked) own started (by kernel_rfl) Try.func4
    (ChangeSpec.witness6 (enc := enc) (C := Try.checked) false ⟨#[], #[.agg #[.slice none 0 0, .slice none 0 0]], []⟩ 8 (by kernel_rfl) (by kernel_rfl) (by kernel_rfl) (by kernel_rfl)) ?_
  intro W base args ds gs before hval0 hW hcnd hsz0 _
  have hval : ∀ (j : Nat) t v, Try.f4.params[j]? = some t → args[j]? = some v → Value.okWide Try.prog W .any base t v := hval0
  have hW' := hW
  obtain ⟨p, q, hA0, hV, rfl, hfz, hnd⟩ := hW
  have hA : DataW.TrodAll enc Try.prog W 0 (fun _ => true) true Try.f4.params.toList args.toList ds p := hA0
  rw [Try.params4] at hA hval
  obtain ⟨v0, vs0, d0, ds0, p0, q0, hargs, rfl, rfl, h0, r0⟩ := trodAll_cons hA
  obtain ⟨rfl, rfl, rfl⟩ := trodAll_nil r0
  obtain rfl : args = #[v0] := by cases args; simp_all
  obtain ⟨rfl, rfl⟩ := trodVars_none hV
  have t0 := h0
  have lt0 : ∀ x ∈ p0, x.block < W.heap.size := by obtain ⟨m, hm⟩ := t0; exact DataW.trod_lt m _ _ _ hm
  obtain ⟨fu0, hd0⟩ := h0
  obtain ⟨x0, kx0, ok0_⟩ := opens37 enc W fu0 _ _ _ hd0
  obtain ⟨cz0, rfl⟩ := agg_val Try.underlying37 (hval 0 37 v0 rfl rfl)
  obtain ⟨A0_0, c0_0, A0_1, c0_1, e0, l0_0, g0_0, l0_1, g0_1⟩ := k37_open kx0
  obtain rfl : cz0 = #[.slice A0_0 x0.f0.length c0_0, .slice A0_1 x0.f1.length c0_1] := by cases cz0; exact congrArg Array.mk e0
  obtain ⟨k, hk⟩ := Pure.FnExactFirstKids x0 ok0_
  refine (laws_FnExactFirstKids.calls (k := k) (r := true) (hr_ := rfl) (w := W) (l0_0 := x0.f0) (A0_0 := A0_0) (c0_0 := c0_0) (l0_1 := x0.f1) (A0_1 := A0_1) (c0_1 := c0_1) (hr0_0 := g0_0) (hc0_0 := l0_0) (hr0_1 := g0_1) (hc0_1 := l0_1) (h := hk)).mono fun e W' ⟨he, bel⟩ => ?_
  subst he
  exact ⟨_, rfl, _, _, _, [], _, [], hW', trodAll_mk1 (shut_bool Try.underlying4 _), (trodAll_cons_mk (Below.trod laidOut (by kernel_rfl) (of_decide_eq_true (by kernel_rfl)) t0 bel lt0) trodAll_mk0), rfl, bel.frame _, fun h => by cases h⟩
theorem over : Rows.fnExactFirstKidsRow.holds Try.pinned (OpenSpec.ofChange Rows.fnExactFirstKidsSpec) :=
  OpenClaim.holds_of_wide 4 Try.f4 rfl rfl rfl rfl rfl rfl rfl ⟨rfl, rfl, rfl, rfl, rfl⟩ rfl rfl rfl rfl rfl (by kernel_rfl) Try.func4 (by kernel_rfl)
    (of_decide_eq_true (by kernel_rfl)) (by unfold Func.isWrapper; first | (rw [if_pos (by decide +kernel)]; kernel_rfl) | (rw [if_neg (by decide +kernel)]; exact ⟨rfl, rfl⟩))
    (fun os started H enc _ => lifted os started H enc)
theorem proved : Rows.FnExactFirstKidsSaid := over
#print axioms proved
end Go.Proofs.Ythkbgbkglgmpoaa.fnExactFirstKids
namespace Go.Proofs.Ythkbgbkglgmpoaa
/-- The row, under a short name, for the claim. -/
theorem fnExactFirstKids_holds : Rows.FnExactFirstKidsSaid := fnExactFirstKids.proved
end Go.Proofs.Ythkbgbkglgmpoaa
