/- What the laws' own conversions, measures and comparisons come to, type by type. Conditions: each theorem's own premises. -/
import Derived.Test.YtpilinnhikpcfaaYRequestOK2
import Derived.Test.YtpilinnhikpcfaaYRequestOK5
import Derived.Test.YtpilinnhikpcfaaYRequestOKO
import Derived.Test.YtpilinnhikpcfaaPk
namespace Go.Proofs.Ytpilinnhikpcfaa.XA
open Go.RowKit Go.Proofs.YtpilinnhikpcfaaW.PrintWords Go.Proofs.YtpilinnhikpcfaaW.PrintLast Go.Proofs.YtpilinnhikpcfaaW.PrintMore Go.Proofs.Ytpilinnhikpcfaa.Pk
set_option linter.unusedVariables false
set_option linter.unusedSimpArgs false
def sm40 (x : S40) : Prop := True ∧ True ∧ True ∧ True ∧ x.f4.size ≤ 1048576
def cv40 (x : S40) : S45 := ⟨x.f0, x.f1, x.f2, x.f3, x.f4⟩
def sm45 (x : S45) : Prop := True ∧ True ∧ True ∧ True ∧ x.f4.size ≤ 1048576
theorem smcv40 (x : S40) (h : sm40 x) : sm45 (cv40 x) := by
  obtain ⟨h0, h1, h2, h3, h4⟩ := h
  exact ⟨h0, h1, h2, h3, h4⟩
theorem to40 (x : S40) (h : sm40 x) : Ev (fun k => laws_toEdit.f x.f0 x.f1 x.f2 x.f3 x.f4) (x.f0, x.f1, x.f2, x.f3, x.f4) := by
  refine ⟨0, fun k hk => ?_⟩
  show laws_toEdit.f x.f0 x.f1 x.f2 x.f3 x.f4 = _
  unfold laws_toEdit.f
  rfl
def sm42 (x : S42) : Prop := True ∧ True ∧ True ∧ True ∧ sm40 x.f4
def cv42 (x : S42) : S47 := ⟨x.f0, x.f1, x.f2, x.f3, (cv40 x.f4)⟩
def sm47 (x : S47) : Prop := True ∧ True ∧ True ∧ True ∧ sm45 x.f4
theorem smcv42 (x : S42) (h : sm42 x) : sm47 (cv42 x) := by
  obtain ⟨h0, h1, h2, h3, h4⟩ := h
  exact ⟨h0, h1, h2, h3, (smcv40 _ h4)⟩
theorem to42 (x : S42) (h : sm42 x) : Ev (fun k => laws_toRequest.f x.f0 x.f1 x.f2 x.f3 x.f4.f0 x.f4.f1 x.f4.f2 x.f4.f3 x.f4.f4) (x.f0, x.f1, x.f2, x.f3, x.f4.f0, x.f4.f1, x.f4.f2, x.f4.f3, x.f4.f4) := by
  obtain ⟨K4, e4⟩ := to40 x.f4 h.2.2.2.2
  refine ⟨0 + K4, fun k hk => ?_⟩
  have e4 := e4 k (by omega)
  show laws_toRequest.f x.f0 x.f1 x.f2 x.f3 x.f4.f0 x.f4.f1 x.f4.f2 x.f4.f3 x.f4.f4 = _
  unfold laws_toRequest.f
  simp only [e4, Option.bind_some]
  try rfl
theorem sz40 (x : S40) (o : ok40 x) (left : Int) (h0 : 0 ≤ left) (h1 : left ≤ 1048576) : ∃ v : Int, Ev (fun k => laws_szEdit.f x.f0 x.f1 x.f2 x.f3 x.f4 left) v ∧ v ≤ left ∧ (v < 0 ∨ 0 ≤ v ∧ sm40 x) := by
  have hM : maxLen = 9223372036854775807 := rfl
  have o4 : x.f4.size ≤ maxLen := o.2.2.2.2
  obtain ⟨v4, hv4⟩ : ∃ v : Int, v = left - (x.f4.size : Int) := ⟨_, rfl⟩
  have w4 : wrap64 (left - (x.f4.size : Int)) = v4 := (wrap_id _ (by omega) (by omega)).trans hv4.symm
  have s4 : v4 < 0 ∨ 0 ≤ v4 ∧ x.f4.size ≤ 1048576 := by omega
  have l4 : v4 ≤ left := by omega
  by_cases c4 : v4 < 0
  · refine ⟨-1, ⟨0, fun k hk => ?_⟩, by omega, .inl (by omega)⟩
    show laws_szEdit.f x.f0 x.f1 x.f2 x.f3 x.f4 left = _
    unfold laws_szEdit.f
    simp only [w4, if_pos c4, Option.bind_some]
  refine ⟨v4, ⟨0, fun k hk => ?_⟩, by omega, .inr ⟨by omega, ?_⟩⟩
  · show laws_szEdit.f x.f0 x.f1 x.f2 x.f3 x.f4 left = _
    unfold laws_szEdit.f
    simp only [w4, if_neg c4, Option.bind_some]
  · exact ⟨trivial, trivial, trivial, trivial, (by rcases s4 with h_ | h_ <;> first | exact h_.2 | exact absurd h_ c4)⟩
theorem sz42 (x : S42) (o : ok42 x) (left : Int) (h0 : 0 ≤ left) (h1 : left ≤ 1048576) : ∃ v : Int, Ev (fun k => laws_szRequest.f x.f0 x.f1 x.f2 x.f3 x.f4.f0 x.f4.f1 x.f4.f2 x.f4.f3 x.f4.f4 left) v ∧ v ≤ left ∧ (v < 0 ∨ 0 ≤ v ∧ sm42 x) := by
  obtain ⟨v4, ⟨K4, e4⟩, l4, s4⟩ := sz40 x.f4 o.2.2.2.2 left (by omega) (by omega)
  by_cases c4 : v4 < 0
  · refine ⟨-1, ⟨0 + K4, fun k hk => ?_⟩, by omega, .inl (by omega)⟩
    have e4 := e4 k (by omega)
    show laws_szRequest.f x.f0 x.f1 x.f2 x.f3 x.f4.f0 x.f4.f1 x.f4.f2 x.f4.f3 x.f4.f4 left = _
    unfold laws_szRequest.f
    simp only [e4, if_pos c4, Option.bind_some]
  refine ⟨v4, ⟨0 + K4, fun k hk => ?_⟩, by omega, .inr ⟨by omega, ?_⟩⟩
  · have e4 := e4 k (by omega)
    show laws_szRequest.f x.f0 x.f1 x.f2 x.f3 x.f4.f0 x.f4.f1 x.f4.f2 x.f4.f3 x.f4.f4 left = _
    unfold laws_szRequest.f
    simp only [e4, if_neg c4, Option.bind_some]
  · exact ⟨trivial, trivial, trivial, trivial, (by rcases s4 with h_ | h_ <;> first | exact h_.2 | exact absurd h_ c4)⟩
end Go.Proofs.Ytpilinnhikpcfaa.XA
