/- What the laws' own conversions, measures and comparisons come to, type by type. Conditions: each theorem's own premises. -/
import Derived.Test.YtomlmcimlojmoaaDoorYEditText1
import Derived.Test.YtomlmcimlojmoaaDoorYEditText3
import Derived.Test.YtomlmcimlojmoaaDoorYEditTextO
import Derived.Test.YtomlmcimlojmoaaDoorPk
namespace Go.Proofs.YtomlmcimlojmoaaDoor.XA
open Go.RowKit Go.Proofs.YtomlmcimlojmoaaDoorW.PrintWords Go.Proofs.YtomlmcimlojmoaaDoorW.PrintLast Go.Proofs.YtomlmcimlojmoaaDoorW.PrintMore Go.Proofs.YtomlmcimlojmoaaDoor.Pk
set_option linter.unusedVariables false
set_option linter.unusedSimpArgs false
def sm23 (x : S23) : Prop := True ∧ True ∧ True ∧ True ∧ x.f4.size ≤ 1048576
def cv23 (x : S23) : S27 := ⟨x.f0, x.f1, x.f2, x.f3, x.f4⟩
def sm27 (x : S27) : Prop := True ∧ True ∧ True ∧ True ∧ x.f4.size ≤ 1048576
theorem smcv23 (x : S23) (h : sm23 x) : sm27 (cv23 x) := by
  obtain ⟨h0, h1, h2, h3, h4⟩ := h
  exact ⟨h0, h1, h2, h3, h4⟩
theorem to23 (x : S23) (h : sm23 x) : Ev (fun k => laws_toEdit.f x.f0 x.f1 x.f2 x.f3 x.f4) (x.f0, x.f1, x.f2, x.f3, x.f4) := by
  refine ⟨0, fun k hk => ?_⟩
  show laws_toEdit.f x.f0 x.f1 x.f2 x.f3 x.f4 = _
  unfold laws_toEdit.f
  rfl
theorem sz23 (x : S23) (o : ok23 x) (left : Int) (h0 : 0 ≤ left) (h1 : left ≤ 1048576) : ∃ v : Int, Ev (fun k => laws_szEdit.f x.f0 x.f1 x.f2 x.f3 x.f4 left) v ∧ v ≤ left ∧ (v < 0 ∨ 0 ≤ v ∧ sm23 x) := by
  have hM : maxLen = 9223372036854775807 := rfl
  have o4 : x.f4.size ≤ maxLen := o.2.2.2.2
  obtain ⟨v4, hv4⟩ : ∃ v : Int, v = left - (x.f4.size : Int) := ⟨_, rfl⟩
  have w4 : wrap64 (left - (x.f4.size : Int)) = v4 := (wrap_id _ (by omega) (by omega)).trans hv4.symm
  have s4 : v4 < 0 ∨ 0 ≤ v4 ∧ x.f4.size ≤ 1048576 := by omega
  have l4 : v4 ≤ left := by omega
  by_cases c4 : v4 < 0
  · refine ⟨-1, ⟨0, fun k hk => ?_⟩, by omega, .inl (by omega)⟩
    show laws_szEdit.f x.f0 x.f1 x.f2 x.f3 x.f4 left = _
    unfold laws_szEdit.f
    simp only [w4, if_pos c4, Option.bind_some]
  refine ⟨v4, ⟨0, fun k hk => ?_⟩, by omega, .inr ⟨by omega, ?_⟩⟩
  · show laws_szEdit.f x.f0 x.f1 x.f2 x.f3 x.f4 left = _
    unfold laws_szEdit.f
    simp only [w4, if_neg c4, Option.bind_some]
  · exact ⟨trivial, trivial, trivial, trivial, (by rcases s4 with h_ | h_ <;> first | exact h_.2 | exact absurd h_ c4)⟩
end Go.Proofs.YtomlmcimlojmoaaDoor.XA
