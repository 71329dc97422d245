/- What the laws' own conversions, measures and comparisons come to, type by type. Conditions: each theorem's own premises. -/
import Derived.Test.YthkbgbkglgmpoaaYSchemaLines1
import Derived.Test.YthkbgbkglgmpoaaYSchemaLines4
import Derived.Test.YthkbgbkglgmpoaaYSchemaLines8
import Derived.Test.YthkbgbkglgmpoaaYSchemaLines9
import Derived.Test.YthkbgbkglgmpoaaYSchemaLinesToRuleS
import Derived.Test.YthkbgbkglgmpoaaYSchemaLinesO
import Derived.Test.YthkbgbkglgmpoaaPk
namespace Go.Proofs.Ythkbgbkglgmpoaa.XA
open Go.RowKit Go.Proofs.YthkbgbkglgmpoaaW.PrintWords Go.Proofs.YthkbgbkglgmpoaaW.PrintLast Go.Proofs.YthkbgbkglgmpoaaW.PrintMore Go.Proofs.Ythkbgbkglgmpoaa.Pk
set_option linter.unusedVariables false
set_option linter.unusedSimpArgs false
theorem to39 (l : List (Int)) (h : (l.length ≤ 1048576)) : Ev (fun k => laws_toIntS.f k l) l := by
  have hn : l.length ≤ 1048576 := h
  have key : Ev (fun k => laws_toIntS.l0 k l (List.replicate l.length 0) 0) (l.map (fun y => y)) := by
    refine fill_loop l (fun y => y) 0 0 (fun k out i => laws_toIntS.l0 k l out i) ?_ ?_
    · intro i out r hi ho hr
      obtain ⟨K, hr⟩ := hr
      refine ⟨K + 1, fun k hk => ?_⟩
      obtain ⟨m, rfl⟩ : ∃ m, k = m + 1 := ⟨k - 1, by omega⟩
      have e1 := hr m (by omega)
      show laws_toIntS.l0 (m + 1) l out (i : Int) = some r
      rw [laws_toIntS.l0, if_pos (by omega), if_pos (by omega)]
      rw [if_pos (by omega), wrap_id _ (by omega) (by omega)]
      exact e1
    · intro out ho
      refine ⟨1, fun k hk => ?_⟩
      obtain ⟨m, rfl⟩ : ∃ m, k = m + 1 := ⟨k - 1, by omega⟩
      show laws_toIntS.l0 (m + 1) l out (l.length : Int) = some out
      rw [laws_toIntS.l0, if_neg (by omega)]
  rw [List.map_id'] at key
  obtain ⟨K, key⟩ := key
  refine ⟨K, fun k hk => ?_⟩
  show laws_toIntS.f k l = _
  unfold laws_toIntS.f
  rw [if_pos (by omega), if_pos (by omega)]
  exact key k hk
def sm75 (x : S75) : Prop := (x.f0.length ≤ 1048576) ∧ True
def cv75 (x : S75) : S78 := ⟨x.f0, x.f1⟩
def sm78 (x : S78) : Prop := (x.f0.length ≤ 1048576) ∧ True
theorem smcv75 (x : S75) (h : sm75 x) : sm78 (cv75 x) := by
  obtain ⟨h0, h1⟩ := h
  exact ⟨h0, h1⟩
theorem to75 (x : S75) (h : sm75 x) : Ev (fun k => laws_toTerm.f k x.f0 x.f1) (x.f0, x.f1) := by
  obtain ⟨K0, e0⟩ := to39 x.f0 h.1
  refine ⟨0 + K0, fun k hk => ?_⟩
  have e0 := e0 k (by omega)
  show laws_toTerm.f k x.f0 x.f1 = _
  unfold laws_toTerm.f
  simp only [e0, Option.bind_some]
  try rfl
theorem to22 (l : List (S75)) (h : (l.length ≤ 1048576 ∧ ∀ y_ ∈ l, sm75 y_)) : Ev (fun k => laws_toTermS.f k l) (l.map cv75) := by
  have hn : l.length ≤ 1048576 := h.1
  have key : Ev (fun k => laws_toTermS.l0 k l (List.replicate l.length z78) 0) (l.map cv75) := by
    refine fill_loop l cv75 z75 z78 (fun k out i => laws_toTermS.l0 k l out i) ?_ ?_
    · intro i out r hi ho hr
      obtain ⟨K, hr⟩ := hr
      obtain ⟨K2, e2⟩ := to75 (l.getD i z75) (h.2 _ (getD_mem l _ i hi))
      refine ⟨K + K2 + 1, fun k hk => ?_⟩
      obtain ⟨m, rfl⟩ : ∃ m, k = m + 1 := ⟨k - 1, by omega⟩
      have e1 := hr m (by omega)
      have e2 := e2 m (by omega)
      show laws_toTermS.l0 (m + 1) l out (i : Int) = some r
      rw [laws_toTermS.l0, if_pos (by omega), if_pos (by omega)]
      refine (congrArg (fun o => Option.bind o _) (show _ = some _ from e2)).trans ?_
      simp only [Option.bind_some]
      rw [if_pos (by omega), wrap_id _ (by omega) (by omega)]
      exact e1
    · intro out ho
      refine ⟨1, fun k hk => ?_⟩
      obtain ⟨m, rfl⟩ : ∃ m, k = m + 1 := ⟨k - 1, by omega⟩
      show laws_toTermS.l0 (m + 1) l out (l.length : Int) = some out
      rw [laws_toTermS.l0, if_neg (by omega)]
  obtain ⟨K, key⟩ := key
  refine ⟨K, fun k hk => ?_⟩
  show laws_toTermS.f k l = _
  unfold laws_toTermS.f
  rw [if_pos (by omega), if_pos (by omega)]
  exact key k hk
def sm93 (x : S93) : Prop := x.f0.size ≤ 1048576 ∧ True ∧ (x.f2.length ≤ 1048576 ∧ ∀ y_ ∈ x.f2, sm75 y_)
def cv93 (x : S93) : S97 := ⟨x.f0, x.f1, (x.f2.map cv75)⟩
def sm97 (x : S97) : Prop := x.f0.size ≤ 1048576 ∧ True ∧ (x.f2.length ≤ 1048576 ∧ ∀ y_ ∈ x.f2, sm78 y_)
theorem smcv93 (x : S93) (h : sm93 x) : sm97 (cv93 x) := by
  obtain ⟨h0, h1, h2⟩ := h
  exact ⟨h0, h1, ⟨Nat.le_trans (Nat.le_of_eq (show (x.f2.map cv75).length = _ from List.length_map _)) h2.1, fun y hy => by obtain ⟨z, hz, rfl⟩ := (List.mem_map (f := cv75) (l := x.f2)).1 hy; exact (smcv75 _ (h2.2 z hz))⟩⟩
theorem to93 (x : S93) (h : sm93 x) : Ev (fun k => laws_toRule.f k x.f0 x.f1 x.f2) (x.f0, x.f1, (x.f2.map cv75)) := by
  obtain ⟨K2, e2⟩ := to22 x.f2 h.2.2
  refine ⟨0 + K2, fun k hk => ?_⟩
  have e2 := e2 k (by omega)
  show laws_toRule.f k x.f0 x.f1 x.f2 = _
  unfold laws_toRule.f
  simp only [e2, Option.bind_some]
  try rfl
theorem to46 (l : List (S93)) (h : (l.length ≤ 1048576 ∧ ∀ y_ ∈ l, sm93 y_)) : Ev (fun k => laws_toRuleS.f k l) (l.map cv93) := by
  have hn : l.length ≤ 1048576 := h.1
  have key : Ev (fun k => laws_toRuleS.l0 k l (List.replicate l.length z97) 0) (l.map cv93) := by
    refine fill_loop l cv93 z93 z97 (fun k out i => laws_toRuleS.l0 k l out i) ?_ ?_
    · intro i out r hi ho hr
      obtain ⟨K, hr⟩ := hr
      obtain ⟨K2, e2⟩ := to93 (l.getD i z93) (h.2 _ (getD_mem l _ i hi))
      refine ⟨K + K2 + 1, fun k hk => ?_⟩
      obtain ⟨m, rfl⟩ : ∃ m, k = m + 1 := ⟨k - 1, by omega⟩
      have e1 := hr m (by omega)
      have e2 := e2 m (by omega)
      show laws_toRuleS.l0 (m + 1) l out (i : Int) = some r
      rw [laws_toRuleS.l0, if_pos (by omega), if_pos (by omega)]
      refine (congrArg (fun o => Option.bind o _) (show _ = some _ from e2)).trans ?_
      simp only [Option.bind_some]
      rw [if_pos (by omega), wrap_id _ (by omega) (by omega)]
      exact e1
    · intro out ho
      refine ⟨1, fun k hk => ?_⟩
      obtain ⟨m, rfl⟩ : ∃ m, k = m + 1 := ⟨k - 1, by omega⟩
      show laws_toRuleS.l0 (m + 1) l out (l.length : Int) = some out
      rw [laws_toRuleS.l0, if_neg (by omega)]
  obtain ⟨K, key⟩ := key
  refine ⟨K, fun k hk => ?_⟩
  show laws_toRuleS.f k l = _
  unfold laws_toRuleS.f
  rw [if_pos (by omega), if_pos (by omega)]
  exact key k hk
theorem eq39 (l : List (Int)) (h : (l.length ≤ 1048576)) : Ev (fun k => laws_eqIntS.f k l l) true := by
  have hn : l.length ≤ 1048576 := h
  have key : Ev (fun k => laws_eqIntS.l0 k l l 0) true := by
    refine go_loop l.length (fun k i => laws_eqIntS.l0 k l l i) true ?_ ?_
    · intro i hi hr
      obtain ⟨K, hr⟩ := hr
      refine ⟨K + 1, fun k hk => ?_⟩
      obtain ⟨m, rfl⟩ : ∃ m, k = m + 1 := ⟨k - 1, by omega⟩
      have e1 := hr m (by omega)
      show laws_eqIntS.l0 (m + 1) l l (i : Int) = some true
      rw [laws_eqIntS.l0, if_pos (by omega), if_pos (by omega), if_pos (by omega)]
      first | rw [if_pos rfl, wrap_id _ (by omega) (by omega)] | rw [if_neg (by simp), wrap_id _ (by omega) (by omega)]
      exact e1
    · refine ⟨1, fun k hk => ?_⟩
      obtain ⟨m, rfl⟩ : ∃ m, k = m + 1 := ⟨k - 1, by omega⟩
      show laws_eqIntS.l0 (m + 1) l l (l.length : Int) = some true
      rw [laws_eqIntS.l0, if_neg (by omega)]
  obtain ⟨K, key⟩ := key
  refine ⟨K, fun k hk => ?_⟩
  show laws_eqIntS.f k l l = _
  unfold laws_eqIntS.f
  rw [if_pos rfl]
  exact key k hk
theorem eq78 (x : S78) (h : sm78 x) : Ev (fun k => laws_eqTerm.f k x.f0 x.f1 x.f0 x.f1) true := by
  obtain ⟨K0, e0⟩ := eq39 x.f0 h.1
  refine ⟨0 + K0, fun k hk => ?_⟩
  have e0 := e0 k (by omega)
  show laws_eqTerm.f k x.f0 x.f1 x.f0 x.f1 = _
  unfold laws_eqTerm.f
  simp [e0]
theorem eq30 (l : List (S78)) (h : (l.length ≤ 1048576 ∧ ∀ y_ ∈ l, sm78 y_)) : Ev (fun k => laws_eqTermS.f k l l) true := by
  have hn : l.length ≤ 1048576 := h.1
  have key : Ev (fun k => laws_eqTermS.l0 k l l 0) true := by
    refine go_loop l.length (fun k i => laws_eqTermS.l0 k l l i) true ?_ ?_
    · intro i hi hr
      obtain ⟨K, hr⟩ := hr
      obtain ⟨K2, e2⟩ := eq78 (l.getD i z78) (h.2 _ (getD_mem l _ i hi))
      refine ⟨K + K2 + 1, fun k hk => ?_⟩
      obtain ⟨m, rfl⟩ : ∃ m, k = m + 1 := ⟨k - 1, by omega⟩
      have e1 := hr m (by omega)
      have e2 := e2 m (by omega)
      show laws_eqTermS.l0 (m + 1) l l (i : Int) = some true
      rw [laws_eqTermS.l0, if_pos (by omega), if_pos (by omega), if_pos (by omega)]
      refine (congrArg (fun o => Option.bind o _) (show _ = some true from e2)).trans ?_
      simp only [Option.bind_some, if_true]
      rw [wrap_id _ (by omega) (by omega)]
      exact e1
    · refine ⟨1, fun k hk => ?_⟩
      obtain ⟨m, rfl⟩ : ∃ m, k = m + 1 := ⟨k - 1, by omega⟩
      show laws_eqTermS.l0 (m + 1) l l (l.length : Int) = some true
      rw [laws_eqTermS.l0, if_neg (by omega)]
  obtain ⟨K, key⟩ := key
  refine ⟨K, fun k hk => ?_⟩
  show laws_eqTermS.f k l l = _
  unfold laws_eqTermS.f
  rw [if_pos rfl]
  exact key k hk
theorem eq48 (l : List (ByteArray)) (h : (l.length ≤ 1048576 ∧ ∀ y_ ∈ l, (fun (s : ByteArray) => s.size ≤ 1048576) y_)) : Ev (fun k => laws_eqStringS.f k l l) true := by
  have hn : l.length ≤ 1048576 := h.1
  have key : Ev (fun k => laws_eqStringS.l0 k l l 0) true := by
    refine go_loop l.length (fun k i => laws_eqStringS.l0 k l l i) true ?_ ?_
    · intro i hi hr
      obtain ⟨K, hr⟩ := hr
      refine ⟨K + 1, fun k hk => ?_⟩
      obtain ⟨m, rfl⟩ : ∃ m, k = m + 1 := ⟨k - 1, by omega⟩
      have e1 := hr m (by omega)
      show laws_eqStringS.l0 (m + 1) l l (i : Int) = some true
      rw [laws_eqStringS.l0, if_pos (by omega), if_pos (by omega), if_pos (by omega)]
      first | rw [if_pos rfl, wrap_id _ (by omega) (by omega)] | rw [if_neg (by simp), wrap_id _ (by omega) (by omega)]
      exact e1
    · refine ⟨1, fun k hk => ?_⟩
      obtain ⟨m, rfl⟩ : ∃ m, k = m + 1 := ⟨k - 1, by omega⟩
      show laws_eqStringS.l0 (m + 1) l l (l.length : Int) = some true
      rw [laws_eqStringS.l0, if_neg (by omega)]
  obtain ⟨K, key⟩ := key
  refine ⟨K, fun k hk => ?_⟩
  show laws_eqStringS.f k l l = _
  unfold laws_eqStringS.f
  rw [if_pos rfl]
  exact key k hk
theorem eq97 (x : S97) (h : sm97 x) : Ev (fun k => laws_eqRule.f k x.f0 x.f1 x.f2 x.f0 x.f1 x.f2) true := by
  obtain ⟨K2, e2⟩ := eq30 x.f2 h.2.2
  refine ⟨0 + K2, fun k hk => ?_⟩
  have e2 := e2 k (by omega)
  show laws_eqRule.f k x.f0 x.f1 x.f2 x.f0 x.f1 x.f2 = _
  unfold laws_eqRule.f
  simp [e2]
theorem eq51 (l : List (S97)) (h : (l.length ≤ 1048576 ∧ ∀ y_ ∈ l, sm97 y_)) : Ev (fun k => laws_eqRuleS.f k l l) true := by
  have hn : l.length ≤ 1048576 := h.1
  have key : Ev (fun k => laws_eqRuleS.l0 k l l 0) true := by
    refine go_loop l.length (fun k i => laws_eqRuleS.l0 k l l i) true ?_ ?_
    · intro i hi hr
      obtain ⟨K, hr⟩ := hr
      obtain ⟨K2, e2⟩ := eq97 (l.getD i z97) (h.2 _ (getD_mem l _ i hi))
      refine ⟨K + K2 + 1, fun k hk => ?_⟩
      obtain ⟨m, rfl⟩ : ∃ m, k = m + 1 := ⟨k - 1, by omega⟩
      have e1 := hr m (by omega)
      have e2 := e2 m (by omega)
      show laws_eqRuleS.l0 (m + 1) l l (i : Int) = some true
      rw [laws_eqRuleS.l0, if_pos (by omega), if_pos (by omega), if_pos (by omega)]
      refine (congrArg (fun o => Option.bind o _) (show _ = some true from e2)).trans ?_
      simp only [Option.bind_some, if_true]
      rw [wrap_id _ (by omega) (by omega)]
      exact e1
    · refine ⟨1, fun k hk => ?_⟩
      obtain ⟨m, rfl⟩ : ∃ m, k = m + 1 := ⟨k - 1, by omega⟩
      show laws_eqRuleS.l0 (m + 1) l l (l.length : Int) = some true
      rw [laws_eqRuleS.l0, if_neg (by omega)]
  obtain ⟨K, key⟩ := key
  refine ⟨K, fun k hk => ?_⟩
  show laws_eqRuleS.f k l l = _
  unfold laws_eqRuleS.f
  rw [if_pos rfl]
  exact key k hk
theorem sz39 (l : List (Int)) (o : (l.length ≤ maxLen ∧ ∀ y_ ∈ l, (fun (n : Int) => (Lit.int .i64 n).wf = true) y_)) (left : Int) (h0 : 0 ≤ left) (h1 : left ≤ 1048576) : ∃ v : Int, Ev (fun k => laws_szIntS.f l left) v ∧ v ≤ left ∧ (v < 0 ∨ 0 ≤ v ∧ (l.length ≤ 1048576)) := by
  have hM : maxLen = 9223372036854775807 := rfl
  have o1 : l.length ≤ maxLen := o.1
  have w : wrap64 (left - (l.length : Int)) = left - (l.length : Int) := wrap_id _ (by omega) (by omega)
  by_cases c : left - (l.length : Int) < 0
  · refine ⟨-1, ⟨0, fun k hk => ?_⟩, by omega, .inl (by omega)⟩
    show laws_szIntS.f l left = _
    unfold laws_szIntS.f
    simp only [w, if_pos c]
  · refine ⟨left - (l.length : Int), ⟨0, fun k hk => ?_⟩, by omega, .inr ⟨by omega, by omega⟩⟩
    show laws_szIntS.f l left = _
    unfold laws_szIntS.f
    simp only [w, if_neg c]
theorem sz75 (x : S75) (o : ok75 x) (left : Int) (h0 : 0 ≤ left) (h1 : left ≤ 1048576) : ∃ v : Int, Ev (fun k => laws_szTerm.f x.f0 x.f1 left) v ∧ v ≤ left ∧ (v < 0 ∨ 0 ≤ v ∧ sm75 x) := by
  obtain ⟨v0, ⟨K0, e0⟩, l0, s0⟩ := sz39 x.f0 o.1 left (by omega) (by omega)
  by_cases c0 : v0 < 0
  · refine ⟨-1, ⟨0 + K0, fun k hk => ?_⟩, by omega, .inl (by omega)⟩
    have e0 := e0 k (by omega)
    show laws_szTerm.f x.f0 x.f1 left = _
    unfold laws_szTerm.f
    simp only [e0, if_pos c0, Option.bind_some]
  refine ⟨v0, ⟨0 + K0, fun k hk => ?_⟩, by omega, .inr ⟨by omega, ?_⟩⟩
  · have e0 := e0 k (by omega)
    show laws_szTerm.f x.f0 x.f1 left = _
    unfold laws_szTerm.f
    simp only [e0, if_neg c0, Option.bind_some]
  · exact ⟨(by rcases s0 with h_ | h_ <;> first | exact h_.2 | exact absurd h_ c0), trivial⟩
theorem sz22 (l : List (S75)) (o : (l.length ≤ maxLen ∧ ∀ y_ ∈ l, ok75 y_)) (left : Int) (h0 : 0 ≤ left) (h1 : left ≤ 1048576) : ∃ v : Int, Ev (fun k => laws_szTermS.f k l left) v ∧ v ≤ left ∧ (v < 0 ∨ 0 ≤ v ∧ (l.length ≤ 1048576 ∧ ∀ y_ ∈ l, sm75 y_)) := by
  have hM : maxLen = 9223372036854775807 := rfl
  have o1 : l.length ≤ maxLen := o.1
  have w : wrap64 (left - (l.length : Int)) = left - (l.length : Int) := wrap_id _ (by omega) (by omega)
  by_cases c : left - (l.length : Int) < 0
  · refine ⟨-1, ⟨0, fun k hk => ?_⟩, by omega, .inl (by omega)⟩
    show laws_szTermS.f k l left = _
    unfold laws_szTermS.f
    simp only [w, if_pos c]
  · have key := sz_loop l z75 sm75 (fun k left i => laws_szTermS.l0 k l left i) ?_ ?_ (left - (l.length : Int)) (by omega) (by omega)
    · obtain ⟨v, ⟨K, ev⟩, hle, hP⟩ := key
      refine ⟨v, ⟨K, fun k hk => ?_⟩, by omega, ?_⟩
      · show laws_szTermS.f k l left = _
        unfold laws_szTermS.f
        simp only [w, if_neg c]
        exact ev k hk
      · rcases hP with h | h
        · exact .inl h
        · exact .inr ⟨h.1, ⟨by omega, h.2⟩⟩
    · intro i left hi g0 g1
      obtain ⟨v, ⟨K2, e2⟩, hle, hP⟩ := sz75 (l.getD i z75) (o.2 _ (getD_mem l _ i hi)) left g0 g1
      refine ⟨v, hle, hP, ?_, ?_⟩
      · intro hv
        refine ⟨K2 + 1, fun k hk => ?_⟩
        obtain ⟨m, rfl⟩ : ∃ m, k = m + 1 := ⟨k - 1, by omega⟩
        have e2 := e2 m (by omega)
        show laws_szTermS.l0 (m + 1) l left (i : Int) = _
        rw [laws_szTermS.l0, if_pos (by omega), if_pos (by omega)]
        refine (congrArg (fun o => Option.bind o _) (show _ = some _ from e2)).trans ?_
        simp only [Option.bind_some]
        rw [if_pos hv]
      · intro hv r hr
        obtain ⟨K, hr⟩ := hr
        refine ⟨K + K2 + 1, fun k hk => ?_⟩
        obtain ⟨m, rfl⟩ : ∃ m, k = m + 1 := ⟨k - 1, by omega⟩
        have e1 := hr m (by omega)
        have e2 := e2 m (by omega)
        show laws_szTermS.l0 (m + 1) l left (i : Int) = _
        rw [laws_szTermS.l0, if_pos (by omega), if_pos (by omega)]
        refine (congrArg (fun o => Option.bind o _) (show _ = some _ from e2)).trans ?_
        simp only [Option.bind_some]
        rw [if_neg (by omega), wrap_id _ (by omega) (by omega)]
        exact e1
    · intro left
      refine ⟨1, fun k hk => ?_⟩
      obtain ⟨m, rfl⟩ : ∃ m, k = m + 1 := ⟨k - 1, by omega⟩
      show laws_szTermS.l0 (m + 1) l left (l.length : Int) = some left
      rw [laws_szTermS.l0, if_neg (by omega)]
theorem sz93 (x : S93) (o : ok93 x) (left : Int) (h0 : 0 ≤ left) (h1 : left ≤ 1048576) : ∃ v : Int, Ev (fun k => laws_szRule.f k x.f0 x.f1 x.f2 left) v ∧ v ≤ left ∧ (v < 0 ∨ 0 ≤ v ∧ sm93 x) := by
  have hM : maxLen = 9223372036854775807 := rfl
  have o0 : x.f0.size ≤ maxLen := o.1
  obtain ⟨v0, hv0⟩ : ∃ v : Int, v = left - (x.f0.size : Int) := ⟨_, rfl⟩
  have w0 : wrap64 (left - (x.f0.size : Int)) = v0 := (wrap_id _ (by omega) (by omega)).trans hv0.symm
  have s0 : v0 < 0 ∨ 0 ≤ v0 ∧ x.f0.size ≤ 1048576 := by omega
  have l0 : v0 ≤ left := by omega
  by_cases c0 : v0 < 0
  · refine ⟨-1, ⟨0, fun k hk => ?_⟩, by omega, .inl (by omega)⟩
    show laws_szRule.f k x.f0 x.f1 x.f2 left = _
    unfold laws_szRule.f
    simp only [w0, if_pos c0, Option.bind_some]
  obtain ⟨v2, ⟨K2, e2⟩, l2, s2⟩ := sz22 x.f2 o.2.2 v0 (by omega) (by omega)
  by_cases c2 : v2 < 0
  · refine ⟨-1, ⟨0 + K2, fun k hk => ?_⟩, by omega, .inl (by omega)⟩
    have e2 := e2 k (by omega)
    show laws_szRule.f k x.f0 x.f1 x.f2 left = _
    unfold laws_szRule.f
    simp only [w0, if_neg c0, e2, if_pos c2, Option.bind_some]
  refine ⟨v2, ⟨0 + K2, fun k hk => ?_⟩, by omega, .inr ⟨by omega, ?_⟩⟩
  · have e2 := e2 k (by omega)
    show laws_szRule.f k x.f0 x.f1 x.f2 left = _
    unfold laws_szRule.f
    simp only [w0, if_neg c0, e2, if_neg c2, Option.bind_some]
  · exact ⟨(by rcases s0 with h_ | h_ <;> first | exact h_.2 | exact absurd h_ c0), trivial, (by rcases s2 with h_ | h_ <;> first | exact h_.2 | exact absurd h_ c2)⟩
theorem sz46 (l : List (S93)) (o : (l.length ≤ maxLen ∧ ∀ y_ ∈ l, ok93 y_)) (left : Int) (h0 : 0 ≤ left) (h1 : left ≤ 1048576) : ∃ v : Int, Ev (fun k => laws_szRuleS.f k l left) v ∧ v ≤ left ∧ (v < 0 ∨ 0 ≤ v ∧ (l.length ≤ 1048576 ∧ ∀ y_ ∈ l, sm93 y_)) := by
  have hM : maxLen = 9223372036854775807 := rfl
  have o1 : l.length ≤ maxLen := o.1
  have w : wrap64 (left - (l.length : Int)) = left - (l.length : Int) := wrap_id _ (by omega) (by omega)
  by_cases c : left - (l.length : Int) < 0
  · refine ⟨-1, ⟨0, fun k hk => ?_⟩, by omega, .inl (by omega)⟩
    show laws_szRuleS.f k l left = _
    unfold laws_szRuleS.f
    simp only [w, if_pos c]
  · have key := sz_loop l z93 sm93 (fun k left i => laws_szRuleS.l0 k l left i) ?_ ?_ (left - (l.length : Int)) (by omega) (by omega)
    · obtain ⟨v, ⟨K, ev⟩, hle, hP⟩ := key
      refine ⟨v, ⟨K, fun k hk => ?_⟩, by omega, ?_⟩
      · show laws_szRuleS.f k l left = _
        unfold laws_szRuleS.f
        simp only [w, if_neg c]
        exact ev k hk
      · rcases hP with h | h
        · exact .inl h
        · exact .inr ⟨h.1, ⟨by omega, h.2⟩⟩
    · intro i left hi g0 g1
      obtain ⟨v, ⟨K2, e2⟩, hle, hP⟩ := sz93 (l.getD i z93) (o.2 _ (getD_mem l _ i hi)) left g0 g1
      refine ⟨v, hle, hP, ?_, ?_⟩
      · intro hv
        refine ⟨K2 + 1, fun k hk => ?_⟩
        obtain ⟨m, rfl⟩ : ∃ m, k = m + 1 := ⟨k - 1, by omega⟩
        have e2 := e2 m (by omega)
        show laws_szRuleS.l0 (m + 1) l left (i : Int) = _
        rw [laws_szRuleS.l0, if_pos (by omega), if_pos (by omega)]
        refine (congrArg (fun o => Option.bind o _) (show _ = some _ from e2)).trans ?_
        simp only [Option.bind_some]
        rw [if_pos hv]
      · intro hv r hr
        obtain ⟨K, hr⟩ := hr
        refine ⟨K + K2 + 1, fun k hk => ?_⟩
        obtain ⟨m, rfl⟩ : ∃ m, k = m + 1 := ⟨k - 1, by omega⟩
        have e1 := hr m (by omega)
        have e2 := e2 m (by omega)
        show laws_szRuleS.l0 (m + 1) l left (i : Int) = _
        rw [laws_szRuleS.l0, if_pos (by omega), if_pos (by omega)]
        refine (congrArg (fun o => Option.bind o _) (show _ = some _ from e2)).trans ?_
        simp only [Option.bind_some]
        rw [if_neg (by omega), wrap_id _ (by omega) (by omega)]
        exact e1
    · intro left
      refine ⟨1, fun k hk => ?_⟩
      obtain ⟨m, rfl⟩ : ∃ m, k = m + 1 := ⟨k - 1, by omega⟩
      show laws_szRuleS.l0 (m + 1) l left (l.length : Int) = some left
      rw [laws_szRuleS.l0, if_neg (by omega)]
end Go.Proofs.Ythkbgbkglgmpoaa.XA
