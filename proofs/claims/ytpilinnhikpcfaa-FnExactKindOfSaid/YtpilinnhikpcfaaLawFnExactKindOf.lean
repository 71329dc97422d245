/- The given statement of FnExactKindOf: the given row of this law, out of its pure statement and the printed walk. Conditions: none. -/
import Derived.Test.YtpilinnhikpcfaaRows
import Derived.Test.YtpilinnhikpcfaaYKindOf10
import Derived.Test.YtpilinnhikpcfaaYKindOfO
import Derived.Test.YtpilinnhikpcfaaPureFnExactKindOf
import Derived.WalkKit
import Derived.ProofKit
import Derived.OpenShut
import Derived.ShutString
import Derived.ChangeOld
import Derived.Below
import Derived.SizedLaws
import Derived.Carry
namespace Go.Proofs.Ytpilinnhikpcfaa.fnExactKindOf
open Go.ChangeShapes Go.WideShapes Go.ChangeAt Go.RowKit
open Go.ChangeMaps (open_string shut_string)
open Go.Proofs.YtpilinnhikpcfaaW.PrintWords Go.Proofs.YtpilinnhikpcfaaW.PrintLast Go.Proofs.YtpilinnhikpcfaaW.PrintMore Go.Proofs.Ytpilinnhikpcfaa.XA Go.Proofs.Ytpilinnhikpcfaa.Opening
set_option linter.unusedVariables false
theorem own : ownKnob Try.prog.godebug = none := by kernel_rfl
theorem laidOut : laidOutB Try.prog = true := by kernel_rfl
set_option maxRecDepth 100000 in
theorem lifted (os : Os) (started : os.Started) (H : Type) (enc : TypeId × Value → H) :
    ReturnsInHanded {} Try.checked os 11 .any (Rows.fnExactKindOfSpec.pre6 enc Try.prog Try.f11 Rows.fnExactKindOfRow.domain false) (Rows.fnExactKindOfSpec.post enc Try.prog Try.f11 false true false false) := by
  refine returnsInHanded_of_change_sized (C := Try.checked) own started (by kernel_rfl) Try.func11
    (ChangeSpec.witness6 (enc := enc) (C := Try.checked) false ⟨#[], #[.slice none 0 0, .string ByteArray.empty], []⟩ 8 (by kernel_rfl) (by kernel_rfl) (by kernel_rfl) (by kernel_rfl)) ?_
  intro W base args ds gs before hval0 hW hcnd hsz0 _
  have hval : ∀ (j : Nat) t v, Try.f11.params[j]? = some t → args[j]? = some v → Value.okWide Try.prog W .any base t v := hval0
  have hW' := hW
  obtain ⟨p, q, hA0, hV, rfl, hfz, hnd⟩ := hW
  have hA : DataW.TrodAll enc Try.prog W 0 (fun _ => true) true Try.f11.params.toList args.toList ds p := hA0
  rw [Try.params11] at hA hval
  obtain ⟨v0, vs0, d0, ds0, p0, q0, hargs, rfl, rfl, h0, r0⟩ := trodAll_cons hA
  obtain ⟨v1, vs1, d1, ds1, p1, q1, rfl, rfl, rfl, h1, r1⟩ := trodAll_cons r0
  obtain ⟨rfl, rfl, rfl⟩ := trodAll_nil r1
  obtain rfl : args = #[v0, v1] := by cases args; simp_all
  obtain ⟨rfl, rfl⟩ := trodVars_none hV
  have t0 := h0
  have lt0 : ∀ x ∈ p0, x.block < W.heap.size := by obtain ⟨m, hm⟩ := t0; exact DataW.trod_lt m _ _ _ hm
  obtain ⟨fu0, hd0⟩ := h0
  obtain ⟨x0, ⟨A0, c0, e0, l0, g0⟩, ok0_⟩ := (opens_slice Try.underlying85 (by kernel_rfl) opens75) enc W fu0 _ _ _ hd0
  obtain rfl := slice_val Try.underlying85 (hval 0 85 v0 rfl rfl) e0
  have t1 := h1
  have lt1 : ∀ x ∈ p1, x.block < W.heap.size := by obtain ⟨m, hm⟩ := t1; exact DataW.trod_lt m _ _ _ hm
  obtain ⟨fu1, hd1⟩ := h1
  obtain ⟨x1, rfl, rfl, rfl, ok1_⟩ := open_string Try.underlying9 (hval 1 9 v1 rfl rfl) t1
  obtain ⟨k, hk⟩ := Pure.FnExactKindOf x0 x1 ok0_ ok1_
  refine (laws_FnExactKindOf.calls (k := k) (r := true) (hr_ := rfl) (w := W) (l0 := x0) (A0 := A0) (c0 := c0) (a1 := x1) (hr0 := g0) (hc0 := l0) (h := hk)).mono fun e W' ⟨he, bel⟩ => ?_
  subst he
  exact ⟨_, rfl, _, _, _, [], _, [], hW', trodAll_mk1 (shut_bool Try.underlying4 _), (trodAll_cons_mk (Below.trod laidOut (by kernel_rfl) (of_decide_eq_true (by kernel_rfl)) t0 bel lt0) (trodAll_cons_mk (Below.trod laidOut (by kernel_rfl) (of_decide_eq_true (by kernel_rfl)) t1 bel lt1) trodAll_mk0)), rfl, bel.frame _, fun h => by cases h⟩
theorem over : Rows.fnExactKindOfRow.holds Try.pinned (OpenSpec.ofChange Rows.fnExactKindOfSpec) :=
  OpenClaim.holds_of_wide 11 Try.f11 rfl rfl rfl rfl rfl rfl rfl ⟨rfl, rfl, rfl, rfl, rfl⟩ rfl rfl rfl rfl rfl (by kernel_rfl) Try.func11 (by kernel_rfl)
    (of_decide_eq_true (by kernel_rfl)) (by unfold Func.isWrapper; first | (rw [if_pos (by decide +kernel)]; kernel_rfl) | (rw [if_neg (by decide +kernel)]; exact ⟨rfl, rfl⟩))
    (fun os started H enc _ => lifted os started H enc)
theorem proved : Rows.FnExactKindOfSaid := over
#print axioms proved
end Go.Proofs.Ytpilinnhikpcfaa.fnExactKindOf
namespace Go.Proofs.Ytpilinnhikpcfaa
/-- The row, under a short name, for the claim. -/
theorem fnExactKindOf_holds : Rows.FnExactKindOfSaid := fnExactKindOf.proved
end Go.Proofs.Ytpilinnhikpcfaa
