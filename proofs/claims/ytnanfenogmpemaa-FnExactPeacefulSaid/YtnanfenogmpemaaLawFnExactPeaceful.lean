/- The given statement of FnExactPeaceful: the given row of this law, out of its pure statement and the printed walk. Conditions: none. -/
import Derived.Test.YtnanfenogmpemaaRows
import Derived.Test.YtnanfenogmpemaaYPeaceful25
import Derived.Test.YtnanfenogmpemaaYPeacefulO
import Derived.Test.YtnanfenogmpemaaPureFnExactPeaceful
import Derived.WalkKit
import Derived.ProofKit
import Derived.OpenShut
import Derived.ShutString
import Derived.ChangeOld
import Derived.Below
import Derived.SizedLaws
import Derived.Carry
namespace Go.Proofs.Ytnanfenogmpemaa.fnExactPeaceful
open Go.ChangeShapes Go.WideShapes Go.ChangeAt Go.RowKit
open Go.ChangeMaps (open_string shut_string)
open Go.Proofs.YtnanfenogmpemaaW.PrintWords Go.Proofs.YtnanfenogmpemaaW.PrintLast Go.Proofs.YtnanfenogmpemaaW.PrintMore Go.Proofs.Ytnanfenogmpemaa.XA Go.Proofs.Ytnanfenogmpemaa.Opening
set_option linter.unusedVariables false
theorem own : ownKnob Try.prog.godebug = none := by kernel_rfl
theorem laidOut : laidOutB Try.prog = true := by kernel_rfl
set_option maxRecDepth 100000 in
theorem lifted (os : Os) (started : os.Started) (H : Type) (enc : TypeId × Value → H) :
    ReturnsInHanded {} Try.checked os 8 .any (Rows.fnExactPeacefulSpec.pre6 enc Try.prog Try.f8 Rows.fnExactPeacefulRow.domain false) (Rows.fnExactPeacefulSpec.post enc Try.prog Try.f8 false true false false) := by
  refine returnsInHanded_of_change_sized (C := Try.checked) own started (by kernel_rfl) Try.func8
    (ChangeSpec.witness6 (enc := enc) (C := Try.checked) false ⟨#[], #[.agg #[.int .i64 0, .int .i64 0, .slice none 0 0], .slice none 0 0], []⟩ 8 (by kernel_rfl) (by kernel_rfl) (by kernel_rfl) (by kernel_rfl)) ?_
  intro W base args ds gs before hval0 hW hcnd hsz0 _
  have hval : ∀ (j : Nat) t v, Try.f8.params[j]? = some t → args[j]? = some v → Value.okWide Try.prog W .any base t v := hval0
  have hW' := hW
  obtain ⟨p, q, hA0, hV, rfl, hfz, hnd⟩ := hW
  have hA : DataW.TrodAll enc Try.prog W 0 (fun _ => true) true Try.f8.params.toList args.toList ds p := hA0
  rw [Try.params8] at hA hval
  obtain ⟨v0, vs0, d0, ds0, p0, q0, hargs, rfl, rfl, h0, r0⟩ := trodAll_cons hA
  obtain ⟨v1, vs1, d1, ds1, p1, q1, rfl, rfl, rfl, h1, r1⟩ := trodAll_cons r0
  obtain ⟨rfl, rfl, rfl⟩ := trodAll_nil r1
  obtain rfl : args = #[v0, v1] := by cases args; simp_all
  obtain ⟨rfl, rfl⟩ := trodVars_none hV
  have t0 := h0
  have lt0 : ∀ x ∈ p0, x.block < W.heap.size := by obtain ⟨m, hm⟩ := t0; exact DataW.trod_lt m _ _ _ hm
  obtain ⟨fu0, hd0⟩ := h0
  obtain ⟨x0, kx0, ok0_⟩ := opens24 enc W fu0 _ _ _ hd0
  obtain ⟨cz0, rfl⟩ := agg_val Try.underlying24 (hval 0 24 v0 rfl rfl)
  obtain ⟨A0_2, c0_2, e0, l0_2, g0_2⟩ := k24_open kx0
  obtain rfl : cz0 = #[.int .i64 x0.f0, .int .i64 x0.f1, .slice A0_2 x0.f2.length c0_2] := by cases cz0; exact congrArg Array.mk e0
  have t1 := h1
  have lt1 : ∀ x ∈ p1, x.block < W.heap.size := by obtain ⟨m, hm⟩ := t1; exact DataW.trod_lt m _ _ _ hm
  obtain ⟨fu1, hd1⟩ := h1
  obtain ⟨x1, ⟨A1, c1, e1, l1, g1⟩, ok1_⟩ := (opens_slice Try.underlying25 (by kernel_rfl) opens53) enc W fu1 _ _ _ hd1
  obtain rfl := slice_val Try.underlying25 (hval 1 25 v1 rfl rfl) e1
  obtain ⟨k, hk⟩ := Pure.FnExactPeaceful x0 x1 ok0_ ok1_
  refine (laws_FnExactPeaceful.calls (k := k) (r := true) (hr_ := rfl) (w := W) (a0_0 := x0.f0) (a0_1 := x0.f1) (l0_2 := x0.f2) (A0_2 := A0_2) (c0_2 := c0_2) (l1 := x1) (A1 := A1) (c1 := c1) (hr0_2 := g0_2) (hc0_2 := l0_2) (hr1 := g1) (hc1 := l1) (h := hk)).mono fun e W' ⟨he, bel⟩ => ?_
  subst he
  exact ⟨_, rfl, _, _, _, [], _, [], hW', trodAll_mk1 (shut_bool Try.underlying4 _), (trodAll_cons_mk (Below.trod laidOut (by kernel_rfl) (of_decide_eq_true (by kernel_rfl)) t0 bel lt0) (trodAll_cons_mk (Below.trod laidOut (by kernel_rfl) (of_decide_eq_true (by kernel_rfl)) t1 bel lt1) trodAll_mk0)), rfl, bel.frame _, fun h => by cases h⟩
theorem over : Rows.fnExactPeacefulRow.holds Try.pinned (OpenSpec.ofChange Rows.fnExactPeacefulSpec) :=
  OpenClaim.holds_of_wide 8 Try.f8 rfl rfl rfl rfl rfl rfl rfl ⟨rfl, rfl, rfl, rfl, rfl⟩ rfl rfl rfl rfl rfl (by kernel_rfl) Try.func8 (by kernel_rfl)
    (of_decide_eq_true (by kernel_rfl)) (by unfold Func.isWrapper; first | (rw [if_pos (by decide +kernel)]; kernel_rfl) | (rw [if_neg (by decide +kernel)]; exact ⟨rfl, rfl⟩))
    (fun os started H enc _ => lifted os started H enc)
theorem proved : Rows.FnExactPeacefulSaid := over
#print axioms proved
end Go.Proofs.Ytnanfenogmpemaa.fnExactPeaceful
namespace Go.Proofs.Ytnanfenogmpemaa
/-- The row, under a short name, for the claim. -/
theorem fnExactPeaceful_holds : Rows.FnExactPeacefulSaid := fnExactPeaceful.proved
end Go.Proofs.Ytnanfenogmpemaa
