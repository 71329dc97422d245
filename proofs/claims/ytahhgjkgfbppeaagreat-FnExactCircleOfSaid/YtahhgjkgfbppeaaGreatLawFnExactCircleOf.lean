/- The given statement of FnExactCircleOf: the given row of this law, out of its pure statement and the printed walk. Conditions: none. -/
import Derived.Test.YtahhgjkgfbppeaaGreatRows
import Derived.Test.YtahhgjkgfbppeaaGreatZ10
import Derived.Test.YtahhgjkgfbppeaaGreatZ12
import Derived.Test.YtahhgjkgfbppeaaGreatPureFnExactCircleOf
import Derived.WalkKit
import Derived.ProofKit
import Derived.OpenShut
import Derived.ShutString
import Derived.ChangeOld
import Derived.Below
import Derived.SizedLaws
import Derived.Carry
namespace Go.Proofs.YtahhgjkgfbppeaaGreat.fnExactCircleOf
open Go.ChangeShapes Go.WideShapes Go.ChangeAt Go.RowKit
open Go.ChangeMaps (open_string shut_string)
open Go.Proofs.YtahhgjkgfbppeaaGreatW.PrintWords Go.Proofs.YtahhgjkgfbppeaaGreatW.PrintLast Go.Proofs.YtahhgjkgfbppeaaGreatW.PrintMore Go.Proofs.YtahhgjkgfbppeaaGreat.XA Go.Proofs.YtahhgjkgfbppeaaGreat.Opening
set_option linter.unusedVariables false
theorem own : ownKnob Tryz.prog.godebug = none := by kernel_rfl
theorem laidOut : laidOutB Tryz.prog = true := by kernel_rfl
set_option maxRecDepth 100000 in
theorem lifted (os : Os) (started : os.Started) (H : Type) (enc : TypeId × Value → H) :
    ReturnsInHanded {} Tryz.checked os 5 .any (Rows.fnExactCircleOfSpec.pre6 enc Tryz.prog Tryz.f5 Rows.fnExactCircleOfRow.domain false) (Rows.fnExactCircleOfSpec.post enc Tryz.prog Tryz.f5 false true false false) := by
  refine returnsInHanded_of_change_sized (C := Tryz.checked) own started (by kernel_rfl) Tryz.func5
    (ChangeSpec.witness6 (enc := enc) (C := Tryz.checked) false ⟨#[], #[.agg #[.int .i64 0, .int .i64 0, .slice none 0 0], .agg #[.slice none 0 0, .slice none 0 0], .int .i64 0], []⟩ 8 (by kernel_rfl) (by kernel_rfl) (by kernel_rfl) (by kernel_rfl)) ?_
  intro W base args ds gs before hval0 hW hcnd hsz0 _
  have hval : ∀ (j : Nat) t v, Tryz.f5.params[j]? = some t → args[j]? = some v → Value.okWide Tryz.prog W .any base t v := hval0
  have hW' := hW
  obtain ⟨p, q, hA0, hV, rfl, hfz, hnd⟩ := hW
  have hA : DataW.TrodAll enc Tryz.prog W 0 (fun _ => true) true Tryz.f5.params.toList args.toList ds p := hA0
  rw [Tryz.params5] at hA hval
  obtain ⟨v0, vs0, d0, ds0, p0, q0, hargs, rfl, rfl, h0, r0⟩ := trodAll_cons hA
  obtain ⟨v1, vs1, d1, ds1, p1, q1, rfl, rfl, rfl, h1, r1⟩ := trodAll_cons r0
  obtain ⟨v2, vs2, d2, ds2, p2, q2, rfl, rfl, rfl, h2, r2⟩ := trodAll_cons r1
  obtain ⟨rfl, rfl, rfl⟩ := trodAll_nil r2
  obtain rfl : args = #[v0, v1, v2] := by cases args; simp_all
  obtain ⟨rfl, rfl⟩ := trodVars_none hV
  have t0 := h0
  have lt0 : ∀ x ∈ p0, x.block < W.heap.size := by obtain ⟨m, hm⟩ := t0; exact DataW.trod_lt m _ _ _ hm
  obtain ⟨fu0, hd0⟩ := h0
  obtain ⟨x0, kx0, ok0_⟩ := opens24 enc W fu0 _ _ _ hd0
  obtain ⟨cz0, rfl⟩ := agg_val Tryz.underlying24 (hval 0 24 v0 rfl rfl)
  obtain ⟨A0_2, c0_2, e0, l0_2, g0_2⟩ := k24_open kx0
  obtain rfl : cz0 = #[.int .i64 x0.f0, .int .i64 x0.f1, .slice A0_2 x0.f2.length c0_2] := by cases cz0; exact congrArg Array.mk e0
  have t1 := h1
  have lt1 : ∀ x ∈ p1, x.block < W.heap.size := by obtain ⟨m, hm⟩ := t1; exact DataW.trod_lt m _ _ _ hm
  obtain ⟨fu1, hd1⟩ := h1
  obtain ⟨x1, kx1, ok1_⟩ := opens49 enc W fu1 _ _ _ hd1
  obtain ⟨cz1, rfl⟩ := agg_val Tryz.underlying49 (hval 1 49 v1 rfl rfl)
  obtain ⟨A1_0, c1_0, A1_1, c1_1, e1, l1_0, g1_0, l1_1, g1_1⟩ := k49_open kx1
  obtain rfl : cz1 = #[.slice A1_0 x1.f0.length c1_0, .slice A1_1 x1.f1.length c1_1] := by cases cz1; exact congrArg Array.mk e1
  have t2 := h2
  have lt2 : ∀ x ∈ p2, x.block < W.heap.size := by obtain ⟨m, hm⟩ := t2; exact DataW.trod_lt m _ _ _ hm
  obtain ⟨fu2, hd2⟩ := h2
  obtain ⟨x2, rfl, rfl, rfl, ok2_⟩ := open_int Tryz.underlying3 (hval 2 3 v2 rfl rfl) t2
  obtain ⟨k, hk⟩ := Pure.FnExactCircleOf x0 x1 x2 ok0_ ok1_ ok2_
  refine (laws_FnExactCircleOf.calls (k := k) (r := true) (hr_ := rfl) (w := W) (a0_0 := x0.f0) (a0_1 := x0.f1) (l0_2 := x0.f2) (A0_2 := A0_2) (c0_2 := c0_2) (l1_0 := x1.f0) (A1_0 := A1_0) (c1_0 := c1_0) (l1_1 := x1.f1) (A1_1 := A1_1) (c1_1 := c1_1) (a2 := x2) (hr0_2 := g0_2) (hc0_2 := l0_2) (hr1_0 := g1_0) (hc1_0 := l1_0) (hr1_1 := g1_1) (hc1_1 := l1_1) (h := hk)).mono fun e W' ⟨he, bel⟩ => ?_
  subst he
  exact ⟨_, rfl, _, _, _, [], _, [], hW', trodAll_mk1 (shut_bool Tryz.underlying4 _), (trodAll_cons_mk (Below.trod laidOut (by kernel_rfl) (of_decide_eq_true (by kernel_rfl)) t0 bel lt0) (trodAll_cons_mk (Below.trod laidOut (by kernel_rfl) (of_decide_eq_true (by kernel_rfl)) t1 bel lt1) (trodAll_cons_mk (Below.trod laidOut (by kernel_rfl) (of_decide_eq_true (by kernel_rfl)) t2 bel lt2) trodAll_mk0))), rfl, bel.frame _, fun h => by cases h⟩
theorem over : Rows.fnExactCircleOfRow.holds Tryz.pinned (OpenSpec.ofChange Rows.fnExactCircleOfSpec) :=
  OpenClaim.holds_of_wide 5 Tryz.f5 rfl rfl rfl rfl rfl rfl rfl ⟨rfl, rfl, rfl, rfl, rfl⟩ rfl rfl rfl rfl rfl (by kernel_rfl) Tryz.func5 (by kernel_rfl)
    (of_decide_eq_true (by kernel_rfl)) (by unfold Func.isWrapper; first | (rw [if_pos (by decide +kernel)]; kernel_rfl) | (rw [if_neg (by decide +kernel)]; exact ⟨rfl, rfl⟩))
    (fun os started H enc _ => lifted os started H enc)
theorem proved : Rows.FnExactCircleOfSaid := over
#print axioms proved
end Go.Proofs.YtahhgjkgfbppeaaGreat.fnExactCircleOf
namespace Go.Proofs.YtahhgjkgfbppeaaGreat
theorem fnExactCircleOf_holds : Rows.FnExactCircleOfSaid := fnExactCircleOf.proved
end Go.Proofs.YtahhgjkgfbppeaaGreat
