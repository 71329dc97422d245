/- The given statement of FnExactPutHold: the given row of this law, out of its pure statement and the printed walk. Conditions: none. -/
import Derived.Test.YtocelbmpnjnnbaaRows
import Derived.Test.YtocelbmpnjnnbaaYPutHold19
import Derived.Test.YtocelbmpnjnnbaaYPutHoldO
import Derived.Test.YtocelbmpnjnnbaaPureFnExactPutHold
import Derived.WalkKit
import Derived.ProofKit
import Derived.OpenShut
import Derived.ShutString
import Derived.ChangeOld
import Derived.Below
import Derived.SizedLaws
import Derived.Carry
namespace Go.Proofs.Ytocelbmpnjnnbaa.fnExactPutHold
open Go.ChangeShapes Go.WideShapes Go.ChangeAt Go.RowKit
open Go.ChangeMaps (open_string shut_string)
open Go.Proofs.YtocelbmpnjnnbaaW.PrintWords Go.Proofs.YtocelbmpnjnnbaaW.PrintLast Go.Proofs.YtocelbmpnjnnbaaW.PrintMore Go.Proofs.Ytocelbmpnjnnbaa.XA Go.Proofs.Ytocelbmpnjnnbaa.Opening
set_option linter.unusedVariables false
theorem own : ownKnob Try.prog.godebug = none := by kernel_rfl
theorem laidOut : laidOutB Try.prog = true := by kernel_rfl
set_option maxRecDepth 100000 in
theorem lifted (os : Os) (started : os.Started) (H : Type) (enc : TypeId × Value → H) :
    ReturnsInHanded {} Try.checked os 3 .any (Rows.fnExactPutHoldSpec.pre6 enc Try.prog Try.f3 Rows.fnExactPutHoldRow.domain false) (Rows.fnExactPutHoldSpec.post enc Try.prog Try.f3 false true false false) := by
  refine returnsInHanded_of_change_sized (C := Try.checked) own started (by kernel_rfl) Try.func3
    (ChangeSpec.witness6 (enc := enc) (C := Try.checked) false ⟨#[], #[.agg #[.int .i64 0, .int .i64 0, .slice none 0 0], .slice none 0 0, .agg #[.int .i64 0, .int .i64 0, .int .i64 0]], []⟩ 8 (by kernel_rfl) (by kernel_rfl) (by kernel_rfl) (by kernel_rfl)) ?_
  intro W base args ds gs before hval0 hW hcnd hsz0 _
  have hval : ∀ (j : Nat) t v, Try.f3.params[j]? = some t → args[j]? = some v → Value.okWide Try.prog W .any base t v := hval0
  have hW' := hW
  obtain ⟨p, q, hA0, hV, rfl, hfz, hnd⟩ := hW
  have hA : DataW.TrodAll enc Try.prog W 0 (fun _ => true) true Try.f3.params.toList args.toList ds p := hA0
  rw [Try.params3] at hA hval
  obtain ⟨v0, vs0, d0, ds0, p0, q0, hargs, rfl, rfl, h0, r0⟩ := trodAll_cons hA
  obtain ⟨v1, vs1, d1, ds1, p1, q1, rfl, rfl, rfl, h1, r1⟩ := trodAll_cons r0
  obtain ⟨v2, vs2, d2, ds2, p2, q2, rfl, rfl, rfl, h2, r2⟩ := trodAll_cons r1
  obtain ⟨rfl, rfl, rfl⟩ := trodAll_nil r2
  obtain rfl : args = #[v0, v1, v2] := by cases args; simp_all
  obtain ⟨rfl, rfl⟩ := trodVars_none hV
  have t0 := h0
  have lt0 : ∀ x ∈ p0, x.block < W.heap.size := by obtain ⟨m, hm⟩ := t0; exact DataW.trod_lt m _ _ _ hm
  obtain ⟨fu0, hd0⟩ := h0
  obtain ⟨x0, kx0, ok0_⟩ := opens24 enc W fu0 _ _ _ hd0
  obtain ⟨cz0, rfl⟩ := agg_val Try.underlying24 (hval 0 24 v0 rfl rfl)
  obtain ⟨A0_2, c0_2, e0, l0_2, g0_2⟩ := k24_open kx0
  obtain rfl : cz0 = #[.int .i64 x0.f0, .int .i64 x0.f1, .slice A0_2 x0.f2.length c0_2] := by cases cz0; exact congrArg Array.mk e0
  have t1 := h1
  have lt1 : ∀ x ∈ p1, x.block < W.heap.size := by obtain ⟨m, hm⟩ := t1; exact DataW.trod_lt m _ _ _ hm
  obtain ⟨fu1, hd1⟩ := h1
  obtain ⟨x1, ⟨A1, c1, e1, l1, g1⟩, ok1_⟩ := (opens_slice Try.underlying25 (by kernel_rfl) opens27) enc W fu1 _ _ _ hd1
  obtain rfl := slice_val Try.underlying25 (hval 1 25 v1 rfl rfl) e1
  have t2 := h2
  have lt2 : ∀ x ∈ p2, x.block < W.heap.size := by obtain ⟨m, hm⟩ := t2; exact DataW.trod_lt m _ _ _ hm
  obtain ⟨fu2, hd2⟩ := h2
  obtain ⟨x2, kx2, ok2_⟩ := opens27 enc W fu2 _ _ _ hd2
  obtain ⟨cz2, rfl⟩ := agg_val Try.underlying27 (hval 2 27 v2 rfl rfl)
  have e2 := k27_open kx2
  obtain rfl : cz2 = #[.int .i64 x2.f0, .int .i64 x2.f1, .int .i64 x2.f2] := by cases cz2; exact congrArg Array.mk e2
  obtain ⟨k, hk⟩ := Pure.FnExactPutHold x0 x1 x2 ok0_ ok1_ ok2_
  refine (laws_FnExactPutHold.calls (k := k) (r := true) (hr_ := rfl) (w := W) (a0_0 := x0.f0) (a0_1 := x0.f1) (l0_2 := x0.f2) (A0_2 := A0_2) (c0_2 := c0_2) (l1 := x1) (A1 := A1) (c1 := c1) (a2_0 := x2.f0) (a2_1 := x2.f1) (a2_2 := x2.f2) (hr0_2 := g0_2) (hc0_2 := l0_2) (hr1 := g1) (hc1 := l1) (h := hk)).mono fun e W' ⟨he, bel⟩ => ?_
  subst he
  exact ⟨_, rfl, _, _, _, [], _, [], hW', trodAll_mk1 (shut_bool Try.underlying4 _), (trodAll_cons_mk (Below.trod laidOut (by kernel_rfl) (of_decide_eq_true (by kernel_rfl)) t0 bel lt0) (trodAll_cons_mk (Below.trod laidOut (by kernel_rfl) (of_decide_eq_true (by kernel_rfl)) t1 bel lt1) (trodAll_cons_mk (Below.trod laidOut (by kernel_rfl) (of_decide_eq_true (by kernel_rfl)) t2 bel lt2) trodAll_mk0))), rfl, bel.frame _, fun h => by cases h⟩
theorem over : Rows.fnExactPutHoldRow.holds Try.pinned (OpenSpec.ofChange Rows.fnExactPutHoldSpec) :=
  OpenClaim.holds_of_wide 3 Try.f3 rfl rfl rfl rfl rfl rfl rfl ⟨rfl, rfl, rfl, rfl, rfl⟩ rfl rfl rfl rfl rfl (by kernel_rfl) Try.func3 (by kernel_rfl)
    (of_decide_eq_true (by kernel_rfl)) (by unfold Func.isWrapper; first | (rw [if_pos (by decide +kernel)]; kernel_rfl) | (rw [if_neg (by decide +kernel)]; exact ⟨rfl, rfl⟩))
    (fun os started H enc _ => lifted os started H enc)
theorem proved : Rows.FnExactPutHoldSaid := over
#print axioms proved
end Go.Proofs.Ytocelbmpnjnnbaa.fnExactPutHold
namespace Go.Proofs.Ytocelbmpnjnnbaa
/-- The row, under a short name, for the claim. -/
theorem fnExactPutHold_holds : Rows.FnExactPutHoldSaid := fnExactPutHold.proved
end Go.Proofs.Ytocelbmpnjnnbaa
