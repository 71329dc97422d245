/- The given statement of FnExactMayInsert: the given row of this law, out of its pure statement and the printed walk. Conditions: none. -/
import Derived.Test.YthkbgbkglgmpoaaRows
import Derived.Test.YthkbgbkglgmpoaaZ11
import Derived.Test.YthkbgbkglgmpoaaZ13
import Derived.Test.YthkbgbkglgmpoaaPureFnExactMayInsert
import Derived.WalkKit
import Derived.ProofKit
import Derived.OpenShut
import Derived.ShutString
import Derived.ChangeOld
import Derived.Below
import Derived.SizedLaws
import Derived.Carry
namespace Go.Proofs.Ythkbgbkglgmpoaa.fnExactMayInsert
open Go.ChangeShapes Go.WideShapes Go.ChangeAt Go.RowKit
open Go.ChangeMaps (open_string shut_string)
open Go.Proofs.YthkbgbkglgmpoaaW.PrintWords Go.Proofs.YthkbgbkglgmpoaaW.PrintLast Go.Proofs.YthkbgbkglgmpoaaW.PrintMore Go.Proofs.Ythkbgbkglgmpoaa.XA Go.Proofs.Ythkbgbkglgmpoaa.Opening
set_option linter.unusedVariables false
theorem own : ownKnob Try.prog.godebug = none := by kernel_rfl
theorem laidOut : laidOutB Try.prog = true := by kernel_rfl
set_option maxRecDepth 100000 in
theorem lifted (os : Os) (started : os.Started) (H : Type) (enc : TypeId × Value → H) :
    ReturnsInHanded {} Try.checked os 6 .any (Rows.fnExactMayInsertSpec.pre6 enc Try.prog Try.f6 Rows.fnExactMayInsertRow.domain false) (Rows.fnExactMayInsertSpec.post enc Try.prog Try.f6 false true false false) := by
  refine returnsInHanded_of_change_sized (C := Try.checked) own started (by kernel_rfl) Try.func6
    (ChangeSpec.witness6 (enc := enc) (C := Try.checked) false ⟨#[], #[.slice none 0 0, .agg #[.int .i64 0, .int .i64 0, .slice none 0 0], .int .i64 0], []⟩ 8 (by kernel_rfl) (by kernel_rfl) (by kernel_rfl) (by kernel_rfl)) ?_
  intro W base args ds gs before hval0 hW hcnd hsz0 _
  have hval : ∀ (j : Nat) t v, Try.f6.params[j]? = some t → args[j]? = some v → Value.okWide Try.prog W .any base t v := hval0
  have hW' := hW
  obtain ⟨p, q, hA0, hV, rfl, hfz, hnd⟩ := hW
  have hA : DataW.TrodAll enc Try.prog W 0 (fun _ => true) true Try.f6.params.toList args.toList ds p := hA0
  rw [Try.params6] at hA hval
  obtain ⟨v0, vs0, d0, ds0, p0, q0, hargs, rfl, rfl, h0, r0⟩ := trodAll_cons hA
  obtain ⟨v1, vs1, d1, ds1, p1, q1, rfl, rfl, rfl, h1, r1⟩ := trodAll_cons r0
  obtain ⟨v2, vs2, d2, ds2, p2, q2, rfl, rfl, rfl, h2, r2⟩ := trodAll_cons r1
  obtain ⟨rfl, rfl, rfl⟩ := trodAll_nil r2
  obtain rfl : args = #[v0, v1, v2] := by cases args; simp_all
  obtain ⟨rfl, rfl⟩ := trodVars_none hV
  have t0 := h0
  have lt0 : ∀ x ∈ p0, x.block < W.heap.size := by obtain ⟨m, hm⟩ := t0; exact DataW.trod_lt m _ _ _ hm
  obtain ⟨fu0, hd0⟩ := h0
  obtain ⟨x0, ⟨A0, c0, e0, l0, g0⟩, ok0_⟩ := (opens_slice Try.underlying46 (by kernel_rfl) opens93) enc W fu0 _ _ _ hd0
  obtain rfl := slice_val Try.underlying46 (hval 0 46 v0 rfl rfl) e0
  have t1 := h1
  have lt1 : ∀ x ∈ p1, x.block < W.heap.size := by obtain ⟨m, hm⟩ := t1; exact DataW.trod_lt m _ _ _ hm
  obtain ⟨fu1, hd1⟩ := h1
  obtain ⟨x1, kx1, ok1_⟩ := opens60 enc W fu1 _ _ _ hd1
  obtain ⟨cz1, rfl⟩ := agg_val Try.underlying60 (hval 1 60 v1 rfl rfl)
  obtain ⟨A1_2, c1_2, e1, l1_2, g1_2⟩ := k60_open kx1
  obtain rfl : cz1 = #[.int .i64 x1.f0, .int .i64 x1.f1, .slice A1_2 x1.f2.length c1_2] := by cases cz1; exact congrArg Array.mk e1
  have t2 := h2
  have lt2 : ∀ x ∈ p2, x.block < W.heap.size := by obtain ⟨m, hm⟩ := t2; exact DataW.trod_lt m _ _ _ hm
  obtain ⟨fu2, hd2⟩ := h2
  obtain ⟨x2, rfl, rfl, rfl, ok2_⟩ := open_int Try.underlying3 (hval 2 3 v2 rfl rfl) t2
  obtain ⟨k, hk⟩ := Pure.FnExactMayInsert x0 x1 x2 ok0_ ok1_ ok2_
  refine (laws_FnExactMayInsert.calls (k := k) (r := true) (hr_ := rfl) (w := W) (l0 := x0) (A0 := A0) (c0 := c0) (a1_0 := x1.f0) (a1_1 := x1.f1) (l1_2 := x1.f2) (A1_2 := A1_2) (c1_2 := c1_2) (a2 := x2) (hr0 := g0) (hc0 := l0) (hr1_2 := g1_2) (hc1_2 := l1_2) (h := hk)).mono fun e W' ⟨he, bel⟩ => ?_
  subst he
  exact ⟨_, rfl, _, _, _, [], _, [], hW', trodAll_mk1 (shut_bool Try.underlying4 _), (trodAll_cons_mk (Below.trod laidOut (by kernel_rfl) (of_decide_eq_true (by kernel_rfl)) t0 bel lt0) (trodAll_cons_mk (Below.trod laidOut (by kernel_rfl) (of_decide_eq_true (by kernel_rfl)) t1 bel lt1) (trodAll_cons_mk (Below.trod laidOut (by kernel_rfl) (of_decide_eq_true (by kernel_rfl)) t2 bel lt2) trodAll_mk0))), rfl, bel.frame _, fun h => by cases h⟩
theorem over : Rows.fnExactMayInsertRow.holds Try.pinned (OpenSpec.ofChange Rows.fnExactMayInsertSpec) :=
  OpenClaim.holds_of_wide 6 Try.f6 rfl rfl rfl rfl rfl rfl rfl ⟨rfl, rfl, rfl, rfl, rfl⟩ rfl rfl rfl rfl rfl (by kernel_rfl) Try.func6 (by kernel_rfl)
    (of_decide_eq_true (by kernel_rfl)) (by unfold Func.isWrapper; first | (rw [if_pos (by decide +kernel)]; kernel_rfl) | (rw [if_neg (by decide +kernel)]; exact ⟨rfl, rfl⟩))
    (fun os started H enc _ => lifted os started H enc)
theorem proved : Rows.FnExactMayInsertSaid := over
#print axioms proved
end Go.Proofs.Ythkbgbkglgmpoaa.fnExactMayInsert
namespace Go.Proofs.Ythkbgbkglgmpoaa
/-- The row, under a short name, for the claim. -/
theorem fnExactMayInsert_holds : Rows.FnExactMayInsertSaid := fnExactMayInsert.proved
end Go.Proofs.Ythkbgbkglgmpoaa
