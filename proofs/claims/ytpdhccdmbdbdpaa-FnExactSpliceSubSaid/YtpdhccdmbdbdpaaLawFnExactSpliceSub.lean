/- The given statement of FnExactSpliceSub: the given row of this law, out of its pure statement and the printed walk. Conditions: none. -/
import Derived.Test.YtpdhccdmbdbdpaaRows
import Derived.Test.YtpdhccdmbdbdpaaZ9
import Derived.Test.YtpdhccdmbdbdpaaZ11
import Derived.Test.YtpdhccdmbdbdpaaPureFnExactSpliceSub
import Derived.WalkKit
import Derived.ProofKit
import Derived.OpenShut
import Derived.ShutString
import Derived.ChangeOld
import Derived.Below
import Derived.SizedLaws
import Derived.Carry
namespace Go.Proofs.Ytpdhccdmbdbdpaa.fnExactSpliceSub
open Go.ChangeShapes Go.WideShapes Go.ChangeAt Go.RowKit
open Go.ChangeMaps (open_string shut_string)
open Go.Proofs.YtpdhccdmbdbdpaaW.PrintWords Go.Proofs.YtpdhccdmbdbdpaaW.PrintLast Go.Proofs.YtpdhccdmbdbdpaaW.PrintMore Go.Proofs.Ytpdhccdmbdbdpaa.XA Go.Proofs.Ytpdhccdmbdbdpaa.Opening
set_option linter.unusedVariables false
theorem own : ownKnob Try.prog.godebug = none := by kernel_rfl
theorem laidOut : laidOutB Try.prog = true := by kernel_rfl
set_option maxRecDepth 100000 in
theorem lifted (os : Os) (started : os.Started) (H : Type) (enc : TypeId × Value → H) :
    ReturnsInHanded {} Try.checked os 12 .any (Rows.fnExactSpliceSubSpec.pre6 enc Try.prog Try.f12 Rows.fnExactSpliceSubRow.domain false) (Rows.fnExactSpliceSubSpec.post enc Try.prog Try.f12 false true false false) := by
  refine returnsInHanded_of_change_sized (C := Try.checked) own started (by kernel_rfl) Try.func12
    (ChangeSpec.witness6 (enc := enc) (C := Try.checked) false ⟨#[], #[.agg #[.int .i64 0, .int .i64 0, .slice none 0 0], .agg #[.int .i64 0, .int .i64 0, .slice none 0 0]], []⟩ 8 (by kernel_rfl) (by kernel_rfl) (by kernel_rfl) (by kernel_rfl)) ?_
  intro W base args ds gs before hval0 hW hcnd hsz0 _
  have hval : ∀ (j : Nat) t v, Try.f12.params[j]? = some t → args[j]? = some v → Value.okWide Try.prog W .any base t v := hval0
  have hW' := hW
  obtain ⟨p, q, hA0, hV, rfl, hfz, hnd⟩ := hW
  have hA : DataW.TrodAll enc Try.prog W 0 (fun _ => true) true Try.f12.params.toList args.toList ds p := hA0
  rw [Try.params12] at hA hval
  obtain ⟨v0, vs0, d0, ds0, p0, q0, hargs, rfl, rfl, h0, r0⟩ := trodAll_cons hA
  obtain ⟨v1, vs1, d1, ds1, p1, q1, rfl, rfl, rfl, h1, r1⟩ := trodAll_cons r0
  obtain ⟨rfl, rfl, rfl⟩ := trodAll_nil r1
  obtain rfl : args = #[v0, v1] := by cases args; simp_all
  obtain ⟨rfl, rfl⟩ := trodVars_none hV
  have t0 := h0
  have lt0 : ∀ x ∈ p0, x.block < W.heap.size := by obtain ⟨m, hm⟩ := t0; exact DataW.trod_lt m _ _ _ hm
  obtain ⟨fu0, hd0⟩ := h0
  obtain ⟨x0, kx0, ok0_⟩ := opens24 enc W fu0 _ _ _ hd0
  obtain ⟨cz0, rfl⟩ := agg_val Try.underlying24 (hval 0 24 v0 rfl rfl)
  obtain ⟨A0_2, c0_2, e0, l0_2, g0_2⟩ := k24_open kx0
  obtain rfl : cz0 = #[.int .i64 x0.f0, .int .i64 x0.f1, .slice A0_2 x0.f2.length c0_2] := by cases cz0; exact congrArg Array.mk e0
  have t1 := h1
  have lt1 : ∀ x ∈ p1, x.block < W.heap.size := by obtain ⟨m, hm⟩ := t1; exact DataW.trod_lt m _ _ _ hm
  obtain ⟨fu1, hd1⟩ := h1
  obtain ⟨x1, kx1, ok1_⟩ := opens24 enc W fu1 _ _ _ hd1
  obtain ⟨cz1, rfl⟩ := agg_val Try.underlying24 (hval 1 24 v1 rfl rfl)
  obtain ⟨A1_2, c1_2, e1, l1_2, g1_2⟩ := k24_open kx1
  obtain rfl : cz1 = #[.int .i64 x1.f0, .int .i64 x1.f1, .slice A1_2 x1.f2.length c1_2] := by cases cz1; exact congrArg Array.mk e1
  obtain ⟨k, hk⟩ := Pure.FnExactSpliceSub x0 x1 ok0_ ok1_
  refine (laws_FnExactSpliceSub.calls (k := k) (r := true) (hr_ := rfl) (w := W) (a0_0 := x0.f0) (a0_1 := x0.f1) (l0_2 := x0.f2) (A0_2 := A0_2) (c0_2 := c0_2) (a1_0 := x1.f0) (a1_1 := x1.f1) (l1_2 := x1.f2) (A1_2 := A1_2) (c1_2 := c1_2) (hr0_2 := g0_2) (hc0_2 := l0_2) (hr1_2 := g1_2) (hc1_2 := l1_2) (h := hk)).mono fun e W' ⟨he, bel⟩ => ?_
  subst he
  exact ⟨_, rfl, _, _, _, [], _, [], hW', trodAll_mk1 (shut_bool Try.underlying4 _), (trodAll_cons_mk (Below.trod laidOut (by kernel_rfl) (of_decide_eq_true (by kernel_rfl)) t0 bel lt0) (trodAll_cons_mk (Below.trod laidOut (by kernel_rfl) (of_decide_eq_true (by kernel_rfl)) t1 bel lt1) trodAll_mk0)), rfl, bel.frame _, fun h => by cases h⟩
theorem over : Rows.fnExactSpliceSubRow.holds Try.pinned (OpenSpec.ofChange Rows.fnExactSpliceSubSpec) :=
  OpenClaim.holds_of_wide 12 Try.f12 rfl rfl rfl rfl rfl rfl rfl ⟨rfl, rfl, rfl, rfl, rfl⟩ rfl rfl rfl rfl rfl (by kernel_rfl) Try.func12 (by kernel_rfl)
    (of_decide_eq_true (by kernel_rfl)) (by unfold Func.isWrapper; first | (rw [if_pos (by decide +kernel)]; kernel_rfl) | (rw [if_neg (by decide +kernel)]; exact ⟨rfl, rfl⟩))
    (fun os started H enc _ => lifted os started H enc)
theorem proved : Rows.FnExactSpliceSubSaid := over
#print axioms proved
end Go.Proofs.Ytpdhccdmbdbdpaa.fnExactSpliceSub
namespace Go.Proofs.Ytpdhccdmbdbdpaa
/-- The row, under a short name, for the claim. -/
theorem fnExactSpliceSub_holds : Rows.FnExactSpliceSubSaid := fnExactSpliceSub.proved
end Go.Proofs.Ytpdhccdmbdbdpaa
