/- What the laws' own conversions, measures and comparisons come to, type by type. Conditions: each theorem's own premises. -/
import Derived.Test.YtpilinnhikpcfaaYSameTable2
import Derived.Test.YtpilinnhikpcfaaYSameTable3
import Derived.Test.YtpilinnhikpcfaaYSameTableO
import Derived.Test.YtpilinnhikpcfaaPk
namespace Go.Proofs.Ytpilinnhikpcfaa.XA
open Go.RowKit Go.Proofs.YtpilinnhikpcfaaW.PrintWords Go.Proofs.YtpilinnhikpcfaaW.PrintLast Go.Proofs.YtpilinnhikpcfaaW.PrintMore Go.Proofs.Ytpilinnhikpcfaa.Pk
set_option linter.unusedVariables false
set_option linter.unusedSimpArgs false
def sm150 (x : S150) : Prop := True ∧ True ∧ True
def cv150 (x : S150) : S148 := ⟨x.f0, x.f1, x.f2⟩
def sm148 (x : S148) : Prop := True ∧ True ∧ True
theorem smcv150 (x : S150) (h : sm150 x) : sm148 (cv150 x) := by
  obtain ⟨h0, h1, h2⟩ := h
  exact ⟨h0, h1, h2⟩
theorem to150 (x : S150) (h : sm150 x) : Ev (fun k => laws_toHold.f x.f0 x.f1 x.f2) (x.f0, x.f1, x.f2) := by
  refine ⟨0, fun k hk => ?_⟩
  show laws_toHold.f x.f0 x.f1 x.f2 = _
  unfold laws_toHold.f
  rfl
theorem to22 (l : List (S150)) (h : (l.length ≤ 1048576 ∧ ∀ y_ ∈ l, sm150 y_)) : Ev (fun k => laws_toHoldS.f k l) (l.map cv150) := by
  have hn : l.length ≤ 1048576 := h.1
  have key : Ev (fun k => laws_toHoldS.l0 k l (List.replicate l.length z148) 0) (l.map cv150) := by
    refine fill_loop l cv150 z150 z148 (fun k out i => laws_toHoldS.l0 k l out i) ?_ ?_
    · intro i out r hi ho hr
      obtain ⟨K, hr⟩ := hr
      obtain ⟨K2, e2⟩ := to150 (l.getD i z150) (h.2 _ (getD_mem l _ i hi))
      refine ⟨K + K2 + 1, fun k hk => ?_⟩
      obtain ⟨m, rfl⟩ : ∃ m, k = m + 1 := ⟨k - 1, by omega⟩
      have e1 := hr m (by omega)
      have e2 := e2 m (by omega)
      show laws_toHoldS.l0 (m + 1) l out (i : Int) = some r
      rw [laws_toHoldS.l0, if_pos (by omega), if_pos (by omega)]
      refine (congrArg (fun o => Option.bind o _) (show _ = some _ from e2)).trans ?_
      simp only [Option.bind_some]
      rw [if_pos (by omega), wrap_id _ (by omega) (by omega)]
      exact e1
    · intro out ho
      refine ⟨1, fun k hk => ?_⟩
      obtain ⟨m, rfl⟩ : ∃ m, k = m + 1 := ⟨k - 1, by omega⟩
      show laws_toHoldS.l0 (m + 1) l out (l.length : Int) = some out
      rw [laws_toHoldS.l0, if_neg (by omega)]
  obtain ⟨K, key⟩ := key
  refine ⟨K, fun k hk => ?_⟩
  show laws_toHoldS.f k l = _
  unfold laws_toHoldS.f
  rw [if_pos (by omega), if_pos (by omega)]
  exact key k hk
def sm24 (x : S24) : Prop := (x.f0.length ≤ 1048576 ∧ ∀ y_ ∈ x.f0, sm150 y_) ∧ (x.f1.length ≤ 1048576 ∧ ∀ y_ ∈ x.f1, sm150 y_)
def cv24 (x : S24) : S29 := ⟨(x.f0.map cv150), (x.f1.map cv150)⟩
def sm29 (x : S29) : Prop := (x.f0.length ≤ 1048576 ∧ ∀ y_ ∈ x.f0, sm148 y_) ∧ (x.f1.length ≤ 1048576 ∧ ∀ y_ ∈ x.f1, sm148 y_)
theorem smcv24 (x : S24) (h : sm24 x) : sm29 (cv24 x) := by
  obtain ⟨h0, h1⟩ := h
  exact ⟨⟨Nat.le_trans (Nat.le_of_eq (show (x.f0.map cv150).length = _ from List.length_map _)) h0.1, fun y hy => by obtain ⟨z, hz, rfl⟩ := (List.mem_map (f := cv150) (l := x.f0)).1 hy; exact (smcv150 _ (h0.2 z hz))⟩, ⟨Nat.le_trans (Nat.le_of_eq (show (x.f1.map cv150).length = _ from List.length_map _)) h1.1, fun y hy => by obtain ⟨z, hz, rfl⟩ := (List.mem_map (f := cv150) (l := x.f1)).1 hy; exact (smcv150 _ (h1.2 z hz))⟩⟩
theorem to24 (x : S24) (h : sm24 x) : Ev (fun k => laws_toTable.f k x.f0 x.f1) ((x.f0.map cv150), (x.f1.map cv150)) := by
  obtain ⟨K0, e0⟩ := to22 x.f0 h.1
  obtain ⟨K1, e1⟩ := to22 x.f1 h.2
  refine ⟨0 + K0 + K1, fun k hk => ?_⟩
  have e0 := e0 k (by omega)
  have e1 := e1 k (by omega)
  show laws_toTable.f k x.f0 x.f1 = _
  unfold laws_toTable.f
  simp only [e0, e1, Option.bind_some]
  try rfl
theorem eq148 (x : S148) (h : sm148 x) : Ev (fun k => laws_eqHold.f x.f0 x.f1 x.f2 x.f0 x.f1 x.f2) true := by
  refine ⟨0, fun k hk => ?_⟩
  show laws_eqHold.f x.f0 x.f1 x.f2 x.f0 x.f1 x.f2 = _
  unfold laws_eqHold.f
  simp []
theorem eq27 (l : List (S148)) (h : (l.length ≤ 1048576 ∧ ∀ y_ ∈ l, sm148 y_)) : Ev (fun k => laws_eqHoldS.f k l l) true := by
  have hn : l.length ≤ 1048576 := h.1
  have key : Ev (fun k => laws_eqHoldS.l0 k l l 0) true := by
    refine go_loop l.length (fun k i => laws_eqHoldS.l0 k l l i) true ?_ ?_
    · intro i hi hr
      obtain ⟨K, hr⟩ := hr
      obtain ⟨K2, e2⟩ := eq148 (l.getD i z148) (h.2 _ (getD_mem l _ i hi))
      refine ⟨K + K2 + 1, fun k hk => ?_⟩
      obtain ⟨m, rfl⟩ : ∃ m, k = m + 1 := ⟨k - 1, by omega⟩
      have e1 := hr m (by omega)
      have e2 := e2 m (by omega)
      show laws_eqHoldS.l0 (m + 1) l l (i : Int) = some true
      rw [laws_eqHoldS.l0, if_pos (by omega), if_pos (by omega), if_pos (by omega)]
      refine (congrArg (fun o => Option.bind o _) (show _ = some true from e2)).trans ?_
      simp only [Option.bind_some, if_true]
      rw [wrap_id _ (by omega) (by omega)]
      exact e1
    · refine ⟨1, fun k hk => ?_⟩
      obtain ⟨m, rfl⟩ : ∃ m, k = m + 1 := ⟨k - 1, by omega⟩
      show laws_eqHoldS.l0 (m + 1) l l (l.length : Int) = some true
      rw [laws_eqHoldS.l0, if_neg (by omega)]
  obtain ⟨K, key⟩ := key
  refine ⟨K, fun k hk => ?_⟩
  show laws_eqHoldS.f k l l = _
  unfold laws_eqHoldS.f
  rw [if_pos rfl]
  exact key k hk
theorem eq29 (x : S29) (h : sm29 x) : Ev (fun k => laws_eqTable.f k x.f0 x.f1 x.f0 x.f1) true := by
  obtain ⟨K0, e0⟩ := eq27 x.f0 h.1
  obtain ⟨K1, e1⟩ := eq27 x.f1 h.2
  refine ⟨0 + K0 + K1, fun k hk => ?_⟩
  have e0 := e0 k (by omega)
  have e1 := e1 k (by omega)
  show laws_eqTable.f k x.f0 x.f1 x.f0 x.f1 = _
  unfold laws_eqTable.f
  simp [e0, e1]
theorem sz22 (l : List (S150)) (o : (l.length ≤ maxLen ∧ ∀ y_ ∈ l, ok150 y_)) (left : Int) (h0 : 0 ≤ left) (h1 : left ≤ 1048576) : ∃ v : Int, Ev (fun k => laws_szHoldS.f l left) v ∧ v ≤ left ∧ (v < 0 ∨ 0 ≤ v ∧ (l.length ≤ 1048576 ∧ ∀ y_ ∈ l, sm150 y_)) := by
  have hM : maxLen = 9223372036854775807 := rfl
  have o1 : l.length ≤ maxLen := o.1
  have w : wrap64 (left - (l.length : Int)) = left - (l.length : Int) := wrap_id _ (by omega) (by omega)
  by_cases c : left - (l.length : Int) < 0
  · refine ⟨-1, ⟨0, fun k hk => ?_⟩, by omega, .inl (by omega)⟩
    show laws_szHoldS.f l left = _
    unfold laws_szHoldS.f
    simp only [w, if_pos c]
  · refine ⟨left - (l.length : Int), ⟨0, fun k hk => ?_⟩, by omega, .inr ⟨by omega, ⟨by omega, fun y _ => by simp [sm150]⟩⟩⟩
    show laws_szHoldS.f l left = _
    unfold laws_szHoldS.f
    simp only [w, if_neg c]
theorem sz24 (x : S24) (o : ok24 x) (left : Int) (h0 : 0 ≤ left) (h1 : left ≤ 1048576) : ∃ v : Int, Ev (fun k => laws_szTable.f x.f0 x.f1 left) v ∧ v ≤ left ∧ (v < 0 ∨ 0 ≤ v ∧ sm24 x) := by
  obtain ⟨v0, ⟨K0, e0⟩, l0, s0⟩ := sz22 x.f0 o.1 left (by omega) (by omega)
  by_cases c0 : v0 < 0
  · refine ⟨-1, ⟨0 + K0, fun k hk => ?_⟩, by omega, .inl (by omega)⟩
    have e0 := e0 k (by omega)
    show laws_szTable.f x.f0 x.f1 left = _
    unfold laws_szTable.f
    simp only [e0, if_pos c0, Option.bind_some]
  obtain ⟨v1, ⟨K1, e1⟩, l1, s1⟩ := sz22 x.f1 o.2 v0 (by omega) (by omega)
  by_cases c1 : v1 < 0
  · refine ⟨-1, ⟨0 + K0 + K1, fun k hk => ?_⟩, by omega, .inl (by omega)⟩
    have e0 := e0 k (by omega)
    have e1 := e1 k (by omega)
    show laws_szTable.f x.f0 x.f1 left = _
    unfold laws_szTable.f
    simp only [e0, if_neg c0, e1, if_pos c1, Option.bind_some]
  refine ⟨v1, ⟨0 + K0 + K1, fun k hk => ?_⟩, by omega, .inr ⟨by omega, ?_⟩⟩
  · have e0 := e0 k (by omega)
    have e1 := e1 k (by omega)
    show laws_szTable.f x.f0 x.f1 left = _
    unfold laws_szTable.f
    simp only [e0, if_neg c0, e1, if_neg c1, Option.bind_some]
  · exact ⟨(by rcases s0 with h_ | h_ <;> first | exact h_.2 | exact absurd h_ c0), (by rcases s1 with h_ | h_ <;> first | exact h_.2 | exact absurd h_ c1)⟩
end Go.Proofs.Ytpilinnhikpcfaa.XA
