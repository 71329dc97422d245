/- Words and contracts of this claim, put together out of several texts by a program of this session's. Conditions: each theorem's own premises. -/
import Derived.Test.YthkbgbkglgmpoaaZ1
import Derived.Test.YthkbgbkglgmpoaaZ3
import Derived.Test.YthkbgbkglgmpoaaZ9
import Derived.Test.YthkbgbkglgmpoaaZ11
import Derived.Test.YthkbgbkglgmpoaaZ13
import Derived.Test.YthkbgbkglgmpoaaZ14
import Derived.Test.YthkbgbkglgmpoaaZ7
import Derived.Test.YthkbgbkglgmpoaaZ2
import Derived.Test.YthkbgbkglgmpoaaZ4
import Derived.Test.YthkbgbkglgmpoaaZ6
section
namespace Go.Proofs.Ythkbgbkglgmpoaa.XA
open Go.RowKit Go.Proofs.YthkbgbkglgmpoaaW.PrintWords Go.Proofs.YthkbgbkglgmpoaaW.PrintLast Go.Proofs.YthkbgbkglgmpoaaW.PrintMore Go.Proofs.Ythkbgbkglgmpoaa.Pk
set_option linter.unusedVariables false
set_option linter.unusedSimpArgs false
theorem to39 (l : List (Int)) (h : (l.length ≤ 1048576)) : Ev (fun k => laws_toIntS.f k l) l := by
  have hn : l.length ≤ 1048576 := h
  have key : Ev (fun k => laws_toIntS.l0 k l (List.replicate l.length 0) 0) (l.map (fun y => y)) := by
    refine fill_loop l (fun y => y) 0 0 (fun k out i => laws_toIntS.l0 k l out i) ?_ ?_
    · intro i out r hi ho hr
      obtain ⟨K, hr⟩ := hr
      refine ⟨K + 1, fun k hk => ?_⟩
      obtain ⟨m, rfl⟩ : ∃ m, k = m + 1 := ⟨k - 1, by omega⟩
      have e1 := hr m (by omega)
      show laws_toIntS.l0 (m + 1) l out (i : Int) = some r
      rw [laws_toIntS.l0, if_pos (by omega), if_pos (by omega)]
      rw [if_pos (by omega), wrap_id _ (by omega) (by omega)]
      exact e1
    · intro out ho
      refine ⟨1, fun k hk => ?_⟩
      obtain ⟨m, rfl⟩ : ∃ m, k = m + 1 := ⟨k - 1, by omega⟩
      show laws_toIntS.l0 (m + 1) l out (l.length : Int) = some out
      rw [laws_toIntS.l0, if_neg (by omega)]
  rw [List.map_id'] at key
  obtain ⟨K, key⟩ := key
  refine ⟨K, fun k hk => ?_⟩
  show laws_toIntS.f k l = _
  unfold laws_toIntS.f
  rw [if_pos (by omega), if_pos (by omega)]
  exact key k hk
def sm75 (x : S75) : Prop := (x.f0.length ≤ 1048576) ∧ True
def cv75 (x : S75) : S78 := ⟨x.f0, x.f1⟩
def sm78 (x : S78) : Prop := (x.f0.length ≤ 1048576) ∧ True
theorem smcv75 (x : S75) (h : sm75 x) : sm78 (cv75 x) := by
  obtain ⟨h0, h1⟩ := h
  exact ⟨h0, h1⟩
theorem to75 (x : S75) (h : sm75 x) : Ev (fun k => laws_toTerm.f k x.f0 x.f1) (x.f0, x.f1) := by
  obtain ⟨K0, e0⟩ := to39 x.f0 h.1
  refine ⟨0 + K0, fun k hk => ?_⟩
  have e0 := e0 k (by omega)
  show laws_toTerm.f k x.f0 x.f1 = _
  unfold laws_toTerm.f
  simp only [e0, Option.bind_some]
  try rfl
theorem to22 (l : List (S75)) (h : (l.length ≤ 1048576 ∧ ∀ y_ ∈ l, sm75 y_)) : Ev (fun k => laws_toTermS.f k l) (l.map cv75) := by
  have hn : l.length ≤ 1048576 := h.1
  have key : Ev (fun k => laws_toTermS.l0 k l (List.replicate l.length z78) 0) (l.map cv75) := by
    refine fill_loop l cv75 z75 z78 (fun k out i => laws_toTermS.l0 k l out i) ?_ ?_
    · intro i out r hi ho hr
      obtain ⟨K, hr⟩ := hr
      obtain ⟨K2, e2⟩ := to75 (l.getD i z75) (h.2 _ (getD_mem l _ i hi))
      refine ⟨K + K2 + 1, fun k hk => ?_⟩
      obtain ⟨m, rfl⟩ : ∃ m, k = m + 1 := ⟨k - 1, by omega⟩
      have e1 := hr m (by omega)
      have e2 := e2 m (by omega)
      show laws_toTermS.l0 (m + 1) l out (i : Int) = some r
      rw [laws_toTermS.l0, if_pos (by omega), if_pos (by omega)]
      refine (congrArg (fun o => Option.bind o _) (show _ = some _ from e2)).trans ?_
      simp only [Option.bind_some]
      rw [if_pos (by omega), wrap_id _ (by omega) (by omega)]
      exact e1
    · intro out ho
      refine ⟨1, fun k hk => ?_⟩
      obtain ⟨m, rfl⟩ : ∃ m, k = m + 1 := ⟨k - 1, by omega⟩
      show laws_toTermS.l0 (m + 1) l out (l.length : Int) = some out
      rw [laws_toTermS.l0, if_neg (by omega)]
  obtain ⟨K, key⟩ := key
  refine ⟨K, fun k hk => ?_⟩
  show laws_toTermS.f k l = _
  unfold laws_toTermS.f
  rw [if_pos (by omega), if_pos (by omega)]
  exact key k hk
def sm93 (x : S93) : Prop := x.f0.size ≤ 1048576 ∧ True ∧ (x.f2.length ≤ 1048576 ∧ ∀ y_ ∈ x.f2, sm75 y_)
def cv93 (x : S93) : S97 := ⟨x.f0, x.f1, (x.f2.map cv75)⟩
def sm97 (x : S97) : Prop := x.f0.size ≤ 1048576 ∧ True ∧ (x.f2.length ≤ 1048576 ∧ ∀ y_ ∈ x.f2, sm78 y_)
theorem smcv93 (x : S93) (h : sm93 x) : sm97 (cv93 x) := by
  obtain ⟨h0, h1, h2⟩ := h
  exact ⟨h0, h1, ⟨Nat.le_trans (Nat.le_of_eq (show (x.f2.map cv75).length = _ from List.length_map _)) h2.1, fun y hy => by obtain ⟨z, hz, rfl⟩ := (List.mem_map (f := cv75) (l := x.f2)).1 hy; exact (smcv75 _ (h2.2 z hz))⟩⟩
theorem to93 (x : S93) (h : sm93 x) : Ev (fun k => laws_toRule.f k x.f0 x.f1 x.f2) (x.f0, x.f1, (x.f2.map cv75)) := by
  obtain ⟨K2, e2⟩ := to22 x.f2 h.2.2
  refine ⟨0 + K2, fun k hk => ?_⟩
  have e2 := e2 k (by omega)
  show laws_toRule.f k x.f0 x.f1 x.f2 = _
  unfold laws_toRule.f
  simp only [e2, Option.bind_some]
  try rfl
theorem to46 (l : List (S93)) (h : (l.length ≤ 1048576 ∧ ∀ y_ ∈ l, sm93 y_)) : Ev (fun k => laws_toRuleS.f k l) (l.map cv93) := by
  have hn : l.length ≤ 1048576 := h.1
  have key : Ev (fun k => laws_toRuleS.l0 k l (List.replicate l.length z97) 0) (l.map cv93) := by
    refine fill_loop l cv93 z93 z97 (fun k out i => laws_toRuleS.l0 k l out i) ?_ ?_
    · intro i out r hi ho hr
      obtain ⟨K, hr⟩ := hr
      obtain ⟨K2, e2⟩ := to93 (l.getD i z93) (h.2 _ (getD_mem l _ i hi))
      refine ⟨K + K2 + 1, fun k hk => ?_⟩
      obtain ⟨m, rfl⟩ : ∃ m, k = m + 1 := ⟨k - 1, by omega⟩
      have e1 := hr m (by omega)
      have e2 := e2 m (by omega)
      show laws_toRuleS.l0 (m + 1) l out (i : Int) = some r
      rw [laws_toRuleS.l0, if_pos (by omega), if_pos (by omega)]
      refine (congrArg (fun o => Option.bind o _) (show _ = some _ from e2)).trans ?_
      simp only [Option.bind_some]
      rw [if_pos (by omega), wrap_id _ (by omega) (by omega)]
      exact e1
    · intro out ho
      refine ⟨1, fun k hk => ?_⟩
      obtain ⟨m, rfl⟩ : ∃ m, k = m + 1 := ⟨k - 1, by omega⟩
      show laws_toRuleS.l0 (m + 1) l out (l.length : Int) = some out
      rw [laws_toRuleS.l0, if_neg (by omega)]
  obtain ⟨K, key⟩ := key
  refine ⟨K, fun k hk => ?_⟩
  show laws_toRuleS.f k l = _
  unfold laws_toRuleS.f
  rw [if_pos (by omega), if_pos (by omega)]
  exact key k hk
def sm142 (x : S142) : Prop := True ∧ True ∧ True ∧ x.f3.size ≤ 1048576 ∧ (x.f4.length ≤ 1048576)
def cv142 (x : S142) : S103 := ⟨x.f0, x.f1, x.f2, x.f3, x.f4⟩
def sm103 (x : S103) : Prop := True ∧ True ∧ True ∧ x.f3.size ≤ 1048576 ∧ (x.f4.length ≤ 1048576)
theorem smcv142 (x : S142) (h : sm142 x) : sm103 (cv142 x) := by
  obtain ⟨h0, h1, h2, h3, h4⟩ := h
  exact ⟨h0, h1, h2, h3, h4⟩
theorem to142 (x : S142) (h : sm142 x) : Ev (fun k => laws_toNode.f k x.f0 x.f1 x.f2 x.f3 x.f4) (x.f0, x.f1, x.f2, x.f3, x.f4) := by
  obtain ⟨K4, e4⟩ := to39 x.f4 h.2.2.2.2
  refine ⟨0 + K4, fun k hk => ?_⟩
  have e4 := e4 k (by omega)
  show laws_toNode.f k x.f0 x.f1 x.f2 x.f3 x.f4 = _
  unfold laws_toNode.f
  simp only [e4, Option.bind_some]
  try rfl
theorem to58 (l : List (S142)) (h : (l.length ≤ 1048576 ∧ ∀ y_ ∈ l, sm142 y_)) : Ev (fun k => laws_toNodeS.f k l) (l.map cv142) := by
  have hn : l.length ≤ 1048576 := h.1
  have key : Ev (fun k => laws_toNodeS.l0 k l (List.replicate l.length z103) 0) (l.map cv142) := by
    refine fill_loop l cv142 z142 z103 (fun k out i => laws_toNodeS.l0 k l out i) ?_ ?_
    · intro i out r hi ho hr
      obtain ⟨K, hr⟩ := hr
      obtain ⟨K2, e2⟩ := to142 (l.getD i z142) (h.2 _ (getD_mem l _ i hi))
      refine ⟨K + K2 + 1, fun k hk => ?_⟩
      obtain ⟨m, rfl⟩ : ∃ m, k = m + 1 := ⟨k - 1, by omega⟩
      have e1 := hr m (by omega)
      have e2 := e2 m (by omega)
      show laws_toNodeS.l0 (m + 1) l out (i : Int) = some r
      rw [laws_toNodeS.l0, if_pos (by omega), if_pos (by omega)]
      refine (congrArg (fun o => Option.bind o _) (show _ = some _ from e2)).trans ?_
      simp only [Option.bind_some]
      rw [if_pos (by omega), wrap_id _ (by omega) (by omega)]
      exact e1
    · intro out ho
      refine ⟨1, fun k hk => ?_⟩
      obtain ⟨m, rfl⟩ : ∃ m, k = m + 1 := ⟨k - 1, by omega⟩
      show laws_toNodeS.l0 (m + 1) l out (l.length : Int) = some out
      rw [laws_toNodeS.l0, if_neg (by omega)]
  obtain ⟨K, key⟩ := key
  refine ⟨K, fun k hk => ?_⟩
  show laws_toNodeS.f k l = _
  unfold laws_toNodeS.f
  rw [if_pos (by omega), if_pos (by omega)]
  exact key k hk
def sm60 (x : S60) : Prop := True ∧ True ∧ (x.f2.length ≤ 1048576 ∧ ∀ y_ ∈ x.f2, sm142 y_)
def cv60 (x : S60) : S65 := ⟨x.f0, x.f1, (x.f2.map cv142)⟩
def sm65 (x : S65) : Prop := True ∧ True ∧ (x.f2.length ≤ 1048576 ∧ ∀ y_ ∈ x.f2, sm103 y_)
theorem smcv60 (x : S60) (h : sm60 x) : sm65 (cv60 x) := by
  obtain ⟨h0, h1, h2⟩ := h
  exact ⟨h0, h1, ⟨Nat.le_trans (Nat.le_of_eq (show (x.f2.map cv142).length = _ from List.length_map _)) h2.1, fun y hy => by obtain ⟨z, hz, rfl⟩ := (List.mem_map (f := cv142) (l := x.f2)).1 hy; exact (smcv142 _ (h2.2 z hz))⟩⟩
theorem to60 (x : S60) (h : sm60 x) : Ev (fun k => laws_toDoc.f k x.f0 x.f1 x.f2) (x.f0, x.f1, (x.f2.map cv142)) := by
  obtain ⟨K2, e2⟩ := to58 x.f2 h.2.2
  refine ⟨0 + K2, fun k hk => ?_⟩
  have e2 := e2 k (by omega)
  show laws_toDoc.f k x.f0 x.f1 x.f2 = _
  unfold laws_toDoc.f
  simp only [e2, Option.bind_some]
  try rfl
theorem eq39 (l : List (Int)) (h : (l.length ≤ 1048576)) : Ev (fun k => laws_eqIntS.f k l l) true := by
  have hn : l.length ≤ 1048576 := h
  have key : Ev (fun k => laws_eqIntS.l0 k l l 0) true := by
    refine go_loop l.length (fun k i => laws_eqIntS.l0 k l l i) true ?_ ?_
    · intro i hi hr
      obtain ⟨K, hr⟩ := hr
      refine ⟨K + 1, fun k hk => ?_⟩
      obtain ⟨m, rfl⟩ : ∃ m, k = m + 1 := ⟨k - 1, by omega⟩
      have e1 := hr m (by omega)
      show laws_eqIntS.l0 (m + 1) l l (i : Int) = some true
      rw [laws_eqIntS.l0, if_pos (by omega), if_pos (by omega), if_pos (by omega)]
      first | rw [if_pos rfl, wrap_id _ (by omega) (by omega)] | rw [if_neg (by simp), wrap_id _ (by omega) (by omega)]
      exact e1
    · refine ⟨1, fun k hk => ?_⟩
      obtain ⟨m, rfl⟩ : ∃ m, k = m + 1 := ⟨k - 1, by omega⟩
      show laws_eqIntS.l0 (m + 1) l l (l.length : Int) = some true
      rw [laws_eqIntS.l0, if_neg (by omega)]
  obtain ⟨K, key⟩ := key
  refine ⟨K, fun k hk => ?_⟩
  show laws_eqIntS.f k l l = _
  unfold laws_eqIntS.f
  rw [if_pos rfl]
  exact key k hk
theorem eq78 (x : S78) (h : sm78 x) : Ev (fun k => laws_eqTerm.f k x.f0 x.f1 x.f0 x.f1) true := by
  obtain ⟨K0, e0⟩ := eq39 x.f0 h.1
  refine ⟨0 + K0, fun k hk => ?_⟩
  have e0 := e0 k (by omega)
  show laws_eqTerm.f k x.f0 x.f1 x.f0 x.f1 = _
  unfold laws_eqTerm.f
  simp [e0]
theorem eq30 (l : List (S78)) (h : (l.length ≤ 1048576 ∧ ∀ y_ ∈ l, sm78 y_)) : Ev (fun k => laws_eqTermS.f k l l) true := by
  have hn : l.length ≤ 1048576 := h.1
  have key : Ev (fun k => laws_eqTermS.l0 k l l 0) true := by
    refine go_loop l.length (fun k i => laws_eqTermS.l0 k l l i) true ?_ ?_
    · intro i hi hr
      obtain ⟨K, hr⟩ := hr
      obtain ⟨K2, e2⟩ := eq78 (l.getD i z78) (h.2 _ (getD_mem l _ i hi))
      refine ⟨K + K2 + 1, fun k hk => ?_⟩
      obtain ⟨m, rfl⟩ : ∃ m, k = m + 1 := ⟨k - 1, by omega⟩
      have e1 := hr m (by omega)
      have e2 := e2 m (by omega)
      show laws_eqTermS.l0 (m + 1) l l (i : Int) = some true
      rw [laws_eqTermS.l0, if_pos (by omega), if_pos (by omega), if_pos (by omega)]
      refine (congrArg (fun o => Option.bind o _) (show _ = some true from e2)).trans ?_
      simp only [Option.bind_some, if_true]
      rw [wrap_id _ (by omega) (by omega)]
      exact e1
    · refine ⟨1, fun k hk => ?_⟩
      obtain ⟨m, rfl⟩ : ∃ m, k = m + 1 := ⟨k - 1, by omega⟩
      show laws_eqTermS.l0 (m + 1) l l (l.length : Int) = some true
      rw [laws_eqTermS.l0, if_neg (by omega)]
  obtain ⟨K, key⟩ := key
  refine ⟨K, fun k hk => ?_⟩
  show laws_eqTermS.f k l l = _
  unfold laws_eqTermS.f
  rw [if_pos rfl]
  exact key k hk
theorem eq97 (x : S97) (h : sm97 x) : Ev (fun k => laws_eqRule.f k x.f0 x.f1 x.f2 x.f0 x.f1 x.f2) true := by
  obtain ⟨K2, e2⟩ := eq30 x.f2 h.2.2
  refine ⟨0 + K2, fun k hk => ?_⟩
  have e2 := e2 k (by omega)
  show laws_eqRule.f k x.f0 x.f1 x.f2 x.f0 x.f1 x.f2 = _
  unfold laws_eqRule.f
  simp [e2]
theorem eq51 (l : List (S97)) (h : (l.length ≤ 1048576 ∧ ∀ y_ ∈ l, sm97 y_)) : Ev (fun k => laws_eqRuleS.f k l l) true := by
  have hn : l.length ≤ 1048576 := h.1
  have key : Ev (fun k => laws_eqRuleS.l0 k l l 0) true := by
    refine go_loop l.length (fun k i => laws_eqRuleS.l0 k l l i) true ?_ ?_
    · intro i hi hr
      obtain ⟨K, hr⟩ := hr
      obtain ⟨K2, e2⟩ := eq97 (l.getD i z97) (h.2 _ (getD_mem l _ i hi))
      refine ⟨K + K2 + 1, fun k hk => ?_⟩
      obtain ⟨m, rfl⟩ : ∃ m, k = m + 1 := ⟨k - 1, by omega⟩
      have e1 := hr m (by omega)
      have e2 := e2 m (by omega)
      show laws_eqRuleS.l0 (m + 1) l l (i : Int) = some true
      rw [laws_eqRuleS.l0, if_pos (by omega), if_pos (by omega), if_pos (by omega)]
      refine (congrArg (fun o => Option.bind o _) (show _ = some true from e2)).trans ?_
      simp only [Option.bind_some, if_true]
      rw [wrap_id _ (by omega) (by omega)]
      exact e1
    · refine ⟨1, fun k hk => ?_⟩
      obtain ⟨m, rfl⟩ : ∃ m, k = m + 1 := ⟨k - 1, by omega⟩
      show laws_eqRuleS.l0 (m + 1) l l (l.length : Int) = some true
      rw [laws_eqRuleS.l0, if_neg (by omega)]
  obtain ⟨K, key⟩ := key
  refine ⟨K, fun k hk => ?_⟩
  show laws_eqRuleS.f k l l = _
  unfold laws_eqRuleS.f
  rw [if_pos rfl]
  exact key k hk
theorem eq103 (x : S103) (h : sm103 x) : Ev (fun k => laws_eqNode.f k x.f0 x.f1 x.f2 x.f3 x.f4 x.f0 x.f1 x.f2 x.f3 x.f4) true := by
  obtain ⟨K4, e4⟩ := eq39 x.f4 h.2.2.2.2
  refine ⟨0 + K4, fun k hk => ?_⟩
  have e4 := e4 k (by omega)
  show laws_eqNode.f k x.f0 x.f1 x.f2 x.f3 x.f4 x.f0 x.f1 x.f2 x.f3 x.f4 = _
  unfold laws_eqNode.f
  simp [e4]
theorem eq63 (l : List (S103)) (h : (l.length ≤ 1048576 ∧ ∀ y_ ∈ l, sm103 y_)) : Ev (fun k => laws_eqNodeS.f k l l) true := by
  have hn : l.length ≤ 1048576 := h.1
  have key : Ev (fun k => laws_eqNodeS.l0 k l l 0) true := by
    refine go_loop l.length (fun k i => laws_eqNodeS.l0 k l l i) true ?_ ?_
    · intro i hi hr
      obtain ⟨K, hr⟩ := hr
      obtain ⟨K2, e2⟩ := eq103 (l.getD i z103) (h.2 _ (getD_mem l _ i hi))
      refine ⟨K + K2 + 1, fun k hk => ?_⟩
      obtain ⟨m, rfl⟩ : ∃ m, k = m + 1 := ⟨k - 1, by omega⟩
      have e1 := hr m (by omega)
      have e2 := e2 m (by omega)
      show laws_eqNodeS.l0 (m + 1) l l (i : Int) = some true
      rw [laws_eqNodeS.l0, if_pos (by omega), if_pos (by omega), if_pos (by omega)]
      refine (congrArg (fun o => Option.bind o _) (show _ = some true from e2)).trans ?_
      simp only [Option.bind_some, if_true]
      rw [wrap_id _ (by omega) (by omega)]
      exact e1
    · refine ⟨1, fun k hk => ?_⟩
      obtain ⟨m, rfl⟩ : ∃ m, k = m + 1 := ⟨k - 1, by omega⟩
      show laws_eqNodeS.l0 (m + 1) l l (l.length : Int) = some true
      rw [laws_eqNodeS.l0, if_neg (by omega)]
  obtain ⟨K, key⟩ := key
  refine ⟨K, fun k hk => ?_⟩
  show laws_eqNodeS.f k l l = _
  unfold laws_eqNodeS.f
  rw [if_pos rfl]
  exact key k hk
theorem eq65 (x : S65) (h : sm65 x) : Ev (fun k => laws_eqDoc.f k x.f0 x.f1 x.f2 x.f0 x.f1 x.f2) true := by
  obtain ⟨K2, e2⟩ := eq63 x.f2 h.2.2
  refine ⟨0 + K2, fun k hk => ?_⟩
  have e2 := e2 k (by omega)
  show laws_eqDoc.f k x.f0 x.f1 x.f2 x.f0 x.f1 x.f2 = _
  unfold laws_eqDoc.f
  simp [e2]
theorem sz39 (l : List (Int)) (o : (l.length ≤ maxLen ∧ ∀ y_ ∈ l, (fun (n : Int) => (Lit.int .i64 n).wf = true) y_)) (left : Int) (h0 : 0 ≤ left) (h1 : left ≤ 1048576) : ∃ v : Int, Ev (fun k => laws_szIntS.f l left) v ∧ v ≤ left ∧ (v < 0 ∨ 0 ≤ v ∧ (l.length ≤ 1048576)) := by
  have hM : maxLen = 9223372036854775807 := rfl
  have o1 : l.length ≤ maxLen := o.1
  have w : wrap64 (left - (l.length : Int)) = left - (l.length : Int) := wrap_id _ (by omega) (by omega)
  by_cases c : left - (l.length : Int) < 0
  · refine ⟨-1, ⟨0, fun k hk => ?_⟩, by omega, .inl (by omega)⟩
    show laws_szIntS.f l left = _
    unfold laws_szIntS.f
    simp only [w, if_pos c]
  · refine ⟨left - (l.length : Int), ⟨0, fun k hk => ?_⟩, by omega, .inr ⟨by omega, by omega⟩⟩
    show laws_szIntS.f l left = _
    unfold laws_szIntS.f
    simp only [w, if_neg c]
theorem sz75 (x : S75) (o : ok75 x) (left : Int) (h0 : 0 ≤ left) (h1 : left ≤ 1048576) : ∃ v : Int, Ev (fun k => laws_szTerm.f x.f0 x.f1 left) v ∧ v ≤ left ∧ (v < 0 ∨ 0 ≤ v ∧ sm75 x) := by
  obtain ⟨v0, ⟨K0, e0⟩, l0, s0⟩ := sz39 x.f0 o.1 left (by omega) (by omega)
  by_cases c0 : v0 < 0
  · refine ⟨-1, ⟨0 + K0, fun k hk => ?_⟩, by omega, .inl (by omega)⟩
    have e0 := e0 k (by omega)
    show laws_szTerm.f x.f0 x.f1 left = _
    unfold laws_szTerm.f
    simp only [e0, if_pos c0, Option.bind_some]
  refine ⟨v0, ⟨0 + K0, fun k hk => ?_⟩, by omega, .inr ⟨by omega, ?_⟩⟩
  · have e0 := e0 k (by omega)
    show laws_szTerm.f x.f0 x.f1 left = _
    unfold laws_szTerm.f
    simp only [e0, if_neg c0, Option.bind_some]
  · exact ⟨(by rcases s0 with h_ | h_ <;> first | exact h_.2 | exact absurd h_ c0), trivial⟩
theorem sz22 (l : List (S75)) (o : (l.length ≤ maxLen ∧ ∀ y_ ∈ l, ok75 y_)) (left : Int) (h0 : 0 ≤ left) (h1 : left ≤ 1048576) : ∃ v : Int, Ev (fun k => laws_szTermS.f k l left) v ∧ v ≤ left ∧ (v < 0 ∨ 0 ≤ v ∧ (l.length ≤ 1048576 ∧ ∀ y_ ∈ l, sm75 y_)) := by
  have hM : maxLen = 9223372036854775807 := rfl
  have o1 : l.length ≤ maxLen := o.1
  have w : wrap64 (left - (l.length : Int)) = left - (l.length : Int) := wrap_id _ (by omega) (by omega)
  by_cases c : left - (l.length : Int) < 0
  · refine ⟨-1, ⟨0, fun k hk => ?_⟩, by omega, .inl (by omega)⟩
    show laws_szTermS.f k l left = _
    unfold laws_szTermS.f
    simp only [w, if_pos c]
  · have key := sz_loop l z75 sm75 (fun k left i => laws_szTermS.l0 k l left i) ?_ ?_ (left - (l.length : Int)) (by omega) (by omega)
    · obtain ⟨v, ⟨K, ev⟩, hle, hP⟩ := key
      refine ⟨v, ⟨K, fun k hk => ?_⟩, by omega, ?_⟩
      · show laws_szTermS.f k l left = _
        unfold laws_szTermS.f
        simp only [w, if_neg c]
        exact ev k hk
      · rcases hP with h | h
        · exact .inl h
        · exact .inr ⟨h.1, ⟨by omega, h.2⟩⟩
    · intro i left hi g0 g1
      obtain ⟨v, ⟨K2, e2⟩, hle, hP⟩ := sz75 (l.getD i z75) (o.2 _ (getD_mem l _ i hi)) left g0 g1
      refine ⟨v, hle, hP, ?_, ?_⟩
      · intro hv
        refine ⟨K2 + 1, fun k hk => ?_⟩
        obtain ⟨m, rfl⟩ : ∃ m, k = m + 1 := ⟨k - 1, by omega⟩
        have e2 := e2 m (by omega)
        show laws_szTermS.l0 (m + 1) l left (i : Int) = _
        rw [laws_szTermS.l0, if_pos (by omega), if_pos (by omega)]
        refine (congrArg (fun o => Option.bind o _) (show _ = some _ from e2)).trans ?_
        simp only [Option.bind_some]
        rw [if_pos hv]
      · intro hv r hr
        obtain ⟨K, hr⟩ := hr
        refine ⟨K + K2 + 1, fun k hk => ?_⟩
        obtain ⟨m, rfl⟩ : ∃ m, k = m + 1 := ⟨k - 1, by omega⟩
        have e1 := hr m (by omega)
        have e2 := e2 m (by omega)
        show laws_szTermS.l0 (m + 1) l left (i : Int) = _
        rw [laws_szTermS.l0, if_pos (by omega), if_pos (by omega)]
        refine (congrArg (fun o => Option.bind o _) (show _ = some _ from e2)).trans ?_
        simp only [Option.bind_some]
        rw [if_neg (by omega), wrap_id _ (by omega) (by omega)]
        exact e1
    · intro left
      refine ⟨1, fun k hk => ?_⟩
      obtain ⟨m, rfl⟩ : ∃ m, k = m + 1 := ⟨k - 1, by omega⟩
      show laws_szTermS.l0 (m + 1) l left (l.length : Int) = some left
      rw [laws_szTermS.l0, if_neg (by omega)]
theorem sz93 (x : S93) (o : ok93 x) (left : Int) (h0 : 0 ≤ left) (h1 : left ≤ 1048576) : ∃ v : Int, Ev (fun k => laws_szRule.f k x.f0 x.f1 x.f2 left) v ∧ v ≤ left ∧ (v < 0 ∨ 0 ≤ v ∧ sm93 x) := by
  have hM : maxLen = 9223372036854775807 := rfl
  have o0 : x.f0.size ≤ maxLen := o.1
  obtain ⟨v0, hv0⟩ : ∃ v : Int, v = left - (x.f0.size : Int) := ⟨_, rfl⟩
  have w0 : wrap64 (left - (x.f0.size : Int)) = v0 := (wrap_id _ (by omega) (by omega)).trans hv0.symm
  have s0 : v0 < 0 ∨ 0 ≤ v0 ∧ x.f0.size ≤ 1048576 := by omega
  have l0 : v0 ≤ left := by omega
  by_cases c0 : v0 < 0
  · refine ⟨-1, ⟨0, fun k hk => ?_⟩, by omega, .inl (by omega)⟩
    show laws_szRule.f k x.f0 x.f1 x.f2 left = _
    unfold laws_szRule.f
    simp only [w0, if_pos c0, Option.bind_some]
  obtain ⟨v2, ⟨K2, e2⟩, l2, s2⟩ := sz22 x.f2 o.2.2 v0 (by omega) (by omega)
  by_cases c2 : v2 < 0
  · refine ⟨-1, ⟨0 + K2, fun k hk => ?_⟩, by omega, .inl (by omega)⟩
    have e2 := e2 k (by omega)
    show laws_szRule.f k x.f0 x.f1 x.f2 left = _
    unfold laws_szRule.f
    simp only [w0, if_neg c0, e2, if_pos c2, Option.bind_some]
  refine ⟨v2, ⟨0 + K2, fun k hk => ?_⟩, by omega, .inr ⟨by omega, ?_⟩⟩
  · have e2 := e2 k (by omega)
    show laws_szRule.f k x.f0 x.f1 x.f2 left = _
    unfold laws_szRule.f
    simp only [w0, if_neg c0, e2, if_neg c2, Option.bind_some]
  · exact ⟨(by rcases s0 with h_ | h_ <;> first | exact h_.2 | exact absurd h_ c0), trivial, (by rcases s2 with h_ | h_ <;> first | exact h_.2 | exact absurd h_ c2)⟩
theorem sz46 (l : List (S93)) (o : (l.length ≤ maxLen ∧ ∀ y_ ∈ l, ok93 y_)) (left : Int) (h0 : 0 ≤ left) (h1 : left ≤ 1048576) : ∃ v : Int, Ev (fun k => laws_szRuleS.f k l left) v ∧ v ≤ left ∧ (v < 0 ∨ 0 ≤ v ∧ (l.length ≤ 1048576 ∧ ∀ y_ ∈ l, sm93 y_)) := by
  have hM : maxLen = 9223372036854775807 := rfl
  have o1 : l.length ≤ maxLen := o.1
  have w : wrap64 (left - (l.length : Int)) = left - (l.length : Int) := wrap_id _ (by omega) (by omega)
  by_cases c : left - (l.length : Int) < 0
  · refine ⟨-1, ⟨0, fun k hk => ?_⟩, by omega, .inl (by omega)⟩
    show laws_szRuleS.f k l left = _
    unfold laws_szRuleS.f
    simp only [w, if_pos c]
  · have key := sz_loop l z93 sm93 (fun k left i => laws_szRuleS.l0 k l left i) ?_ ?_ (left - (l.length : Int)) (by omega) (by omega)
    · obtain ⟨v, ⟨K, ev⟩, hle, hP⟩ := key
      refine ⟨v, ⟨K, fun k hk => ?_⟩, by omega, ?_⟩
      · show laws_szRuleS.f k l left = _
        unfold laws_szRuleS.f
        simp only [w, if_neg c]
        exact ev k hk
      · rcases hP with h | h
        · exact .inl h
        · exact .inr ⟨h.1, ⟨by omega, h.2⟩⟩
    · intro i left hi g0 g1
      obtain ⟨v, ⟨K2, e2⟩, hle, hP⟩ := sz93 (l.getD i z93) (o.2 _ (getD_mem l _ i hi)) left g0 g1
      refine ⟨v, hle, hP, ?_, ?_⟩
      · intro hv
        refine ⟨K2 + 1, fun k hk => ?_⟩
        obtain ⟨m, rfl⟩ : ∃ m, k = m + 1 := ⟨k - 1, by omega⟩
        have e2 := e2 m (by omega)
        show laws_szRuleS.l0 (m + 1) l left (i : Int) = _
        rw [laws_szRuleS.l0, if_pos (by omega), if_pos (by omega)]
        refine (congrArg (fun o => Option.bind o _) (show _ = some _ from e2)).trans ?_
        simp only [Option.bind_some]
        rw [if_pos hv]
      · intro hv r hr
        obtain ⟨K, hr⟩ := hr
        refine ⟨K + K2 + 1, fun k hk => ?_⟩
        obtain ⟨m, rfl⟩ : ∃ m, k = m + 1 := ⟨k - 1, by omega⟩
        have e1 := hr m (by omega)
        have e2 := e2 m (by omega)
        show laws_szRuleS.l0 (m + 1) l left (i : Int) = _
        rw [laws_szRuleS.l0, if_pos (by omega), if_pos (by omega)]
        refine (congrArg (fun o => Option.bind o _) (show _ = some _ from e2)).trans ?_
        simp only [Option.bind_some]
        rw [if_neg (by omega), wrap_id _ (by omega) (by omega)]
        exact e1
    · intro left
      refine ⟨1, fun k hk => ?_⟩
      obtain ⟨m, rfl⟩ : ∃ m, k = m + 1 := ⟨k - 1, by omega⟩
      show laws_szRuleS.l0 (m + 1) l left (l.length : Int) = some left
      rw [laws_szRuleS.l0, if_neg (by omega)]
theorem sz142 (x : S142) (o : ok142 x) (left : Int) (h0 : 0 ≤ left) (h1 : left ≤ 1048576) : ∃ v : Int, Ev (fun k => laws_szNode.f x.f0 x.f1 x.f2 x.f3 x.f4 left) v ∧ v ≤ left ∧ (v < 0 ∨ 0 ≤ v ∧ sm142 x) := by
  have hM : maxLen = 9223372036854775807 := rfl
  have o3 : x.f3.size ≤ maxLen := o.2.2.2.1
  obtain ⟨v3, hv3⟩ : ∃ v : Int, v = left - (x.f3.size : Int) := ⟨_, rfl⟩
  have w3 : wrap64 (left - (x.f3.size : Int)) = v3 := (wrap_id _ (by omega) (by omega)).trans hv3.symm
  have s3 : v3 < 0 ∨ 0 ≤ v3 ∧ x.f3.size ≤ 1048576 := by omega
  have l3 : v3 ≤ left := by omega
  by_cases c3 : v3 < 0
  · refine ⟨-1, ⟨0, fun k hk => ?_⟩, by omega, .inl (by omega)⟩
    show laws_szNode.f x.f0 x.f1 x.f2 x.f3 x.f4 left = _
    unfold laws_szNode.f
    simp only [w3, if_pos c3, Option.bind_some]
  obtain ⟨v4, ⟨K4, e4⟩, l4, s4⟩ := sz39 x.f4 o.2.2.2.2 v3 (by omega) (by omega)
  by_cases c4 : v4 < 0
  · refine ⟨-1, ⟨0 + K4, fun k hk => ?_⟩, by omega, .inl (by omega)⟩
    have e4 := e4 k (by omega)
    show laws_szNode.f x.f0 x.f1 x.f2 x.f3 x.f4 left = _
    unfold laws_szNode.f
    simp only [w3, if_neg c3, e4, if_pos c4, Option.bind_some]
  refine ⟨v4, ⟨0 + K4, fun k hk => ?_⟩, by omega, .inr ⟨by omega, ?_⟩⟩
  · have e4 := e4 k (by omega)
    show laws_szNode.f x.f0 x.f1 x.f2 x.f3 x.f4 left = _
    unfold laws_szNode.f
    simp only [w3, if_neg c3, e4, if_neg c4, Option.bind_some]
  · exact ⟨trivial, trivial, trivial, (by rcases s3 with h_ | h_ <;> first | exact h_.2 | exact absurd h_ c3), (by rcases s4 with h_ | h_ <;> first | exact h_.2 | exact absurd h_ c4)⟩
theorem sz58 (l : List (S142)) (o : (l.length ≤ maxLen ∧ ∀ y_ ∈ l, ok142 y_)) (left : Int) (h0 : 0 ≤ left) (h1 : left ≤ 1048576) : ∃ v : Int, Ev (fun k => laws_szNodeS.f k l left) v ∧ v ≤ left ∧ (v < 0 ∨ 0 ≤ v ∧ (l.length ≤ 1048576 ∧ ∀ y_ ∈ l, sm142 y_)) := by
  have hM : maxLen = 9223372036854775807 := rfl
  have o1 : l.length ≤ maxLen := o.1
  have w : wrap64 (left - (l.length : Int)) = left - (l.length : Int) := wrap_id _ (by omega) (by omega)
  by_cases c : left - (l.length : Int) < 0
  · refine ⟨-1, ⟨0, fun k hk => ?_⟩, by omega, .inl (by omega)⟩
    show laws_szNodeS.f k l left = _
    unfold laws_szNodeS.f
    simp only [w, if_pos c]
  · have key := sz_loop l z142 sm142 (fun k left i => laws_szNodeS.l0 k l left i) ?_ ?_ (left - (l.length : Int)) (by omega) (by omega)
    · obtain ⟨v, ⟨K, ev⟩, hle, hP⟩ := key
      refine ⟨v, ⟨K, fun k hk => ?_⟩, by omega, ?_⟩
      · show laws_szNodeS.f k l left = _
        unfold laws_szNodeS.f
        simp only [w, if_neg c]
        exact ev k hk
      · rcases hP with h | h
        · exact .inl h
        · exact .inr ⟨h.1, ⟨by omega, h.2⟩⟩
    · intro i left hi g0 g1
      obtain ⟨v, ⟨K2, e2⟩, hle, hP⟩ := sz142 (l.getD i z142) (o.2 _ (getD_mem l _ i hi)) left g0 g1
      refine ⟨v, hle, hP, ?_, ?_⟩
      · intro hv
        refine ⟨K2 + 1, fun k hk => ?_⟩
        obtain ⟨m, rfl⟩ : ∃ m, k = m + 1 := ⟨k - 1, by omega⟩
        have e2 := e2 m (by omega)
        show laws_szNodeS.l0 (m + 1) l left (i : Int) = _
        rw [laws_szNodeS.l0, if_pos (by omega), if_pos (by omega)]
        refine (congrArg (fun o => Option.bind o _) (show _ = some _ from e2)).trans ?_
        simp only [Option.bind_some]
        rw [if_pos hv]
      · intro hv r hr
        obtain ⟨K, hr⟩ := hr
        refine ⟨K + K2 + 1, fun k hk => ?_⟩
        obtain ⟨m, rfl⟩ : ∃ m, k = m + 1 := ⟨k - 1, by omega⟩
        have e1 := hr m (by omega)
        have e2 := e2 m (by omega)
        show laws_szNodeS.l0 (m + 1) l left (i : Int) = _
        rw [laws_szNodeS.l0, if_pos (by omega), if_pos (by omega)]
        refine (congrArg (fun o => Option.bind o _) (show _ = some _ from e2)).trans ?_
        simp only [Option.bind_some]
        rw [if_neg (by omega), wrap_id _ (by omega) (by omega)]
        exact e1
    · intro left
      refine ⟨1, fun k hk => ?_⟩
      obtain ⟨m, rfl⟩ : ∃ m, k = m + 1 := ⟨k - 1, by omega⟩
      show laws_szNodeS.l0 (m + 1) l left (l.length : Int) = some left
      rw [laws_szNodeS.l0, if_neg (by omega)]
theorem sz60 (x : S60) (o : ok60 x) (left : Int) (h0 : 0 ≤ left) (h1 : left ≤ 1048576) : ∃ v : Int, Ev (fun k => laws_szDoc.f k x.f0 x.f1 x.f2 left) v ∧ v ≤ left ∧ (v < 0 ∨ 0 ≤ v ∧ sm60 x) := by
  obtain ⟨v2, ⟨K2, e2⟩, l2, s2⟩ := sz58 x.f2 o.2.2 left (by omega) (by omega)
  by_cases c2 : v2 < 0
  · refine ⟨-1, ⟨0 + K2, fun k hk => ?_⟩, by omega, .inl (by omega)⟩
    have e2 := e2 k (by omega)
    show laws_szDoc.f k x.f0 x.f1 x.f2 left = _
    unfold laws_szDoc.f
    simp only [e2, if_pos c2, Option.bind_some]
  refine ⟨v2, ⟨0 + K2, fun k hk => ?_⟩, by omega, .inr ⟨by omega, ?_⟩⟩
  · have e2 := e2 k (by omega)
    show laws_szDoc.f k x.f0 x.f1 x.f2 left = _
    unfold laws_szDoc.f
    simp only [e2, if_neg c2, Option.bind_some]
  · exact ⟨trivial, trivial, (by rcases s2 with h_ | h_ <;> first | exact h_.2 | exact absurd h_ c2)⟩
end Go.Proofs.Ythkbgbkglgmpoaa.XA
end
section
namespace Go.Proofs.Ythkbgbkglgmpoaa.XA
set_option linter.unusedVariables false
open Go.RowKit Go.Proofs.YthkbgbkglgmpoaaW.PrintWords Go.Proofs.YthkbgbkglgmpoaaW.PrintLast Go.Proofs.YthkbgbkglgmpoaaW.PrintMore Go.Proofs.Ythkbgbkglgmpoaa.Pk
theorem mark_loop {σ ρ : Type} (n : Nat) (I : Nat → σ → Prop) (R : ρ → Prop) (F : Nat → Int → σ → Option ρ)
    (hs : ∀ (i : Nat) (s : σ), i < n → I i s → (∀ s', I (i + 1) s' → ∃ r, Ev (fun k => F k ((i : Int) + 1) s') r ∧ R r) → ∃ r, Ev (fun k => F k (i : Int) s) r ∧ R r)
    (he : ∀ s, I n s → ∃ r, Ev (fun k => F k (n : Int) s) r ∧ R r) : ∀ s, I 0 s → ∃ r, Ev (fun k => F k 0 s) r ∧ R r := by
  have key : ∀ (m i : Nat) (s : σ), i + m = n → I i s → ∃ r, Ev (fun k => F k (i : Int) s) r ∧ R r := by
    intro m
    induction m with
    | zero =>
      intro i s hi h
      have e : i = n := by omega
      subst e
      exact he s h
    | succ m ih =>
      intro i s hi h
      exact hs i s (by omega) h (fun s' h' => ih (i + 1) s' (by omega) h')
  intro s h
  exact key n 0 s (by omega) h
def markL (n : Int) (m : Nat) : List Int := (List.range m).map (fun (j : Nat) => n + (j : Int))
theorem markL_len (n : Int) (m : Nat) : (markL n m).length = m := by simp [markL]
theorem markL_at (n : Int) (m j : Nat) (h : j < m) : (markL n m)[j]? = some (n + (j : Int)) := by simp [markL, h]
theorem markIntS_ev (l : List Int) (n : Int) (h0 : 0 ≤ n) (h : n + l.length ≤ 4000000000000000000) : Ev (fun k => laws_markIntS.f k l n) (n + l.length, markL n l.length) := by
  obtain ⟨r, hr, rfl⟩ := mark_loop l.length (fun i (s : List Int × Int) => s.2 = n + i ∧ s.1.length = l.length ∧ ∀ j, j < i → s.1[j]? = some (n + (j : Int))) (fun r => r = (n + (l.length : Int), markL n l.length)) (fun k i s => laws_markIntS.l0 k s.1 s.2 i)
    (fun i s hi hI hr => by
      obtain ⟨e, hl, hj⟩ := hI
      have a1 : wrap64 (s.2 + 1) = s.2 + 1 := wrap_id _ (by omega) (by omega)
      have a2 : wrap64 ((i : Int) + 1) = (i : Int) + 1 := wrap_id _ (by omega) (by omega)
      obtain ⟨r, h1, h2⟩ := hr (s.1.set i s.2, s.2 + 1) ⟨by simp only [e]; omega, by simp only [List.length_set]; exact hl, fun j hj' => by
        simp only
        by_cases c : j = i
        · subst c; rw [List.getElem?_set_self (by omega), e]
        · rw [List.getElem?_set_ne (by omega)]; exact hj j (by omega)⟩
      refine ⟨r, Ev.step (fun k => ?_) h1, h2⟩
      show laws_markIntS.l0 (k + 1) s.1 s.2 i = _
      rw [laws_markIntS.l0, if_pos (by omega), if_pos (by omega), a1, a2]
      rfl)
    (fun s hI => by
      obtain ⟨e, hl, hj⟩ := hI
      refine ⟨_, Ev.step (fun k => ?_) (Ev.now (s.2, s.1)), ?_⟩
      · show laws_markIntS.l0 (k + 1) s.1 s.2 l.length = _
        rw [laws_markIntS.l0, if_neg (by omega)]
      · rw [e]
        refine congrArg (Prod.mk _) (List.ext_getElem? (fun j => ?_))
        by_cases c : j < l.length
        · rw [hj j c, markL_at _ _ _ c]
        · rw [List.getElem?_eq_none (by omega), List.getElem?_eq_none (by rw [markL_len]; omega)])
    (l, n) ⟨by simp, rfl, fun j hj => by omega⟩
  exact hr
end Go.Proofs.Ythkbgbkglgmpoaa.XA
end
section
namespace Go.Proofs.Ythkbgbkglgmpoaa.XA
set_option linter.unusedVariables false
open Go.RowKit Go.Proofs.YthkbgbkglgmpoaaW.PrintWords Go.Proofs.YthkbgbkglgmpoaaW.PrintLast Go.Proofs.YthkbgbkglgmpoaaW.PrintMore Go.Proofs.Ythkbgbkglgmpoaa.Pk
theorem heldIntS_ev (m : Nat) (n : Int) (h0 : 0 ≤ n) (h : n + m ≤ 4000000000000000000) : Ev (fun k => laws_heldIntS.f k (markL n m) n) (n + m) := by
  obtain ⟨r, hr, rfl⟩ := mark_loop m (fun i (s : Int) => s = n + i) (fun r => r = n + (m : Int)) (fun k i s => laws_heldIntS.l0 k (markL n m) s i)
    (fun i s hi e hr => by
      subst e
      have a1 : wrap64 (n + (i : Int) + 1) = n + (i : Int) + 1 := wrap_id _ (by omega) (by omega)
      have a2 : wrap64 ((i : Int) + 1) = (i : Int) + 1 := wrap_id _ (by omega) (by omega)
      have a3 : rd (markL n m) (i : Int) = n + (i : Int) := by
        show (markL n m).getD i 0 = _
        rw [List.getD_eq_getElem?_getD, markL_at _ _ _ hi]
        rfl
      obtain ⟨r, h1, h2⟩ := hr (n + (i : Int) + 1) (by omega)
      refine ⟨r, Ev.step (fun k => ?_) h1, h2⟩
      show laws_heldIntS.l0 (k + 1) (markL n m) (n + (i : Int)) i = _
      rw [laws_heldIntS.l0, if_pos (by rw [markL_len]; omega), if_pos (by omega), if_pos a3, a1, a2])
    (fun s e => by
      refine ⟨_, Ev.step (fun k => ?_) (Ev.now s), e⟩
      show laws_heldIntS.l0 (k + 1) (markL n m) s m = _
      rw [laws_heldIntS.l0, if_neg (by rw [markL_len]; omega)])
    n (by simp)
  exact hr
end Go.Proofs.Ythkbgbkglgmpoaa.XA
end
section
namespace Go.Proofs.Ythkbgbkglgmpoaa.XA
set_option linter.unusedVariables false
open Go.RowKit Go.Proofs.YthkbgbkglgmpoaaW.PrintWords Go.Proofs.YthkbgbkglgmpoaaW.PrintLast Go.Proofs.YthkbgbkglgmpoaaW.PrintMore
def laws_markIntSS.l0 : Nat → List (List Int) → Int → Int → Option (Int × List (List Int))
  | 0, _, _, _ => none
  | k + 1, xs_, n_, i_ => if i_ < (xs_.length : Int) then (if 0 ≤ i_ then ((laws_markIntS.f k (rdOf ([] : List Int) xs_ i_) n_).bind fun p_ => laws_markIntSS.l0 k (xs_.set i_.toNat p_.2) p_.1 (wrap64 (i_ + 1))) else none) else some (n_, xs_)
def laws_markIntSS.f (k : Nat) (l0 : List (List Int)) (a1 : Int) : Option (Int × List (List Int)) := laws_markIntSS.l0 k l0 a1 0
theorem MS_one {α : Type} {d : Kd α} {e : Nat} {ws w0 w : World} {g n cap : Nat} {P oki : Nat → Prop} {xs : List α} {i : Int} {v4 : Value} {ks : List Int} {a : Value} (m : XR.MS d e ws w0 w P oki g n cap xs i [a] v4 ks) (h5 : d.sz = 1) :
    w.cell? ⟨g, i.toNat, none⟩ = some a ∧ w.frozen? ⟨g, i.toNat, none⟩ = false := by
  have hc := m.cell 0 (u := a) rfl
  have hf := m.thaw 0
  rw [h5] at hc hf
  exact ⟨by simpa using hc, by simpa using hf⟩
set_option maxHeartbeats 8000000 in
set_option maxRecDepth 100000 in
theorem laws_markIntSS.calls (k : Nat) (P_ : Nat → Prop) (u_ : Value) (l0 : List (List Int)) (a1 r1 : Int) (r2 : List (List Int)) (w0 w : World) (hB : Below w0.heap.size w0 w) (ho : Kd.S (Kd.slice 3 (Kd.int .i64)) 39 w w0.heap.size P_ u_ l0) (h : laws_markIntSS.f k l0 a1 = some (r1, r2)) :
    Calls Try.prog 52 #[u_, .int .i64 a1] w fun e w' => e = .returned (.int .i64 r1) ∧ Kd.S (Kd.slice 3 (Kd.int .i64)) 39 w' w0.heap.size P_ u_ r2 ∧ Below w0.heap.size w0 w' ∧ Kept w w' P_ := by
  obtain ⟨A, c0, rfl⟩ := Kd.S_slice ho
  obtain ⟨N, hN⟩ : ∃ N, N = l0.length := ⟨_, rfl⟩
  rw [← hN] at ho ⊢
  have HN := Aside0.mk hN.symm
  have HS := Aside0.mk ho
  have HB := Aside0.mk hB
  have HK := Aside0.mk (Kept.refl w P_)
  have H' := Aside0.mk (show laws_markIntSS.l0 k l0 a1 0 = some (r1, r2) from h)
  clear ho hB h hN
  go_enter Try.func52, Try.ntmps52
  go_wp2
  go_loopg [1, 5] k (fun kq v1 v5 w' => ∃ (n_ i_ : Int) (xs_ : List (List Int)), v1 = .int .i64 n_ ∧ v5 = .int .i64 i_ ∧ Aside0 (laws_markIntSS.l0 kq xs_ n_ i_ = some (r1, r2)) ∧ Aside0 (kq ≤ k) ∧ Aside0 (xs_.length = N) ∧ Aside0 (Kd.S (Kd.slice 3 (Kd.int .i64)) 39 w' w0.heap.size P_ (.slice A N c0) xs_) ∧ Aside0 (Below w0.heap.size w0 w') ∧ Aside0 (Kept w w' P_))
  case atStart => exact ⟨a1, 0, l0, by first | rfl | (simp; done), by first | rfl | (simp; done), H', ⟨Nat.le_refl _⟩, HN, HS, HB, HK⟩
  case round =>
    clear H' HS HB HK HN
    obtain ⟨n_, i_, xs_, rfl, rfl, HA, HK1, HL, HS, HB, HK⟩ := hrel
    cases gk with
    | zero => cases HA.out
    | succ k1 =>
      have H := HA.out
      clear HA
      simp only [laws_markIntSS.l0] at H
      obtain ⟨c1, H⟩ | ⟨c1, H⟩ := XW.Xiu H
      · obtain ⟨c2, H⟩ := XW.Xif H
        obtain ⟨⟨n2, ks'⟩, HI, H⟩ := XW.Xbi H
        (try dsimp only at H)
        have H' := Aside0.mk H
        clear H
        have hL := HL.out
        have hp : 0 < xs_.length := by omega
        obtain ⟨g, cap, e_, hg, _, _⟩ := Kd.S_form HS.out hp
        injection e_ with e1 e2 e3
        subst e1 e3
        clear e2
        have c1' : i_ < (N : Int) := by omega
        obtain ⟨oki, ce, hcl, hM, _, _, hoki, hH⟩ := Kd.S_elem HS.out ([] : List Int) i_ c2 c1'
        obtain ⟨v4, rfl, hr⟩ := hM
        replace hr : (Kd.int .i64).R 3 _ w0.heap.size oki v4 (rdOf ([] : List Int) xs_ i_) := hr
        obtain ⟨A4, c4, rfl⟩ := Kd.R_slice hr
        have M0 := Aside0.mk (show XR.MS (Kd.slice 3 (Kd.int .i64)) 39 w w0 _ P_ oki g N c0 xs_ i_ [(.slice A4 (rdOf ([] : List Int) xs_ i_).length c4)] (.slice A4 (rdOf ([] : List Int) xs_ i_).length c4) (rdOf ([] : List Int) xs_ i_) from ⟨hH, hr, fun k hk => (hoki k hk).2, (Kd.S_R HS.out).1 g (by simp [Value.ownBlock]), hcl, c2, c1', HK.out, HB.out, hg⟩)
        have b0 : decide (i_ < (N : Int)) = true := decide_eq_true c1'
        have b1 : decide (0 ≤ i_) = true := decide_eq_true c2
        have b2 : decide (i_ < 0) = false := decide_eq_false (by omega)
        have p1 := eq_true c2
        have p2 := eq_true c1'
        clear c1 hp hcl hoki hH hr HS HB HK hL hg c1' c2
        obtain ⟨hx0, hf0⟩ := MS_one M0.out rfl
        go_wp2_with (first
          | ((with_reducible refine gate_callee (f := 22) rfl ?_); refine XW.Xgo 17 Try.func22 #[.slice A4 (rdOf ([] : List Int) xs_ i_).length c4, .int .i64 n_] ?_; (with_reducible refine (laws_markIntS.calls k1 (fun k_ => oki k_) _ (rdOf ([] : List Int) xs_ i_) n_ n2 ks' w0 _ M0.out.below M0.out.r HI.out).mono ?_); rintro e wf ⟨rfl, hr, hb, hk⟩; refine ⟨_, rfl, ?_⟩; have M1 := Aside0.mk (M0.out.kids hr hb hk); clear hr hb hk hx0 hf0 M0))
        go_roundg k1
        case measure => have := HK1.out; omega
        case rel => exact ⟨n2, wrap64 (i_ + 1), _, by first | rfl | (simp; done) | (simp [*]; done), by first | rfl | (simp; done) | (simp [*]; done), H', ⟨by have := HK1.out; omega⟩, ⟨by rw [List.length_set]; exact HL.out⟩, ⟨Kd.H_back M1.out.h (Kd.M_row M1.out.r) (fun _ hk => hk)⟩, ⟨M1.out.below⟩, ⟨M1.out.kept⟩⟩
      · simp only [Option.some.injEq, Prod.mk.injEq] at H
        obtain ⟨rfl, rfl⟩ := H
        have hL := HL.out
        have b0 : decide (i_ < (N : Int)) = false := decide_eq_false (by omega)
        clear hL c1
        go_wp2
        go_ret
        exact ⟨by first | rfl | (simp; done) | (simp [*]; done), HS.out, HB.out, HK.out⟩
end Go.Proofs.Ythkbgbkglgmpoaa.XA
end
section
namespace Go.Proofs.Ythkbgbkglgmpoaa.XA
set_option linter.unusedVariables false
open Go.RowKit Go.Proofs.YthkbgbkglgmpoaaW.PrintWords Go.Proofs.YthkbgbkglgmpoaaW.PrintLast Go.Proofs.YthkbgbkglgmpoaaW.PrintMore Go.Proofs.Ythkbgbkglgmpoaa.Pk
theorem markText_ev (n : Int) (h : n ≤ 4000000000000000000) : ∃ t, Ev (fun k => laws_markText.f k n) t := by
  by_cases h0 : n ≤ 0
  · exact ⟨_, 0, fun k _ => by show laws_markText.f k n = some _; unfold laws_markText.f; rw [if_pos h0]⟩
  have key : ∀ (m : Nat) (n : Int) (x : ByteArray), n ≤ m → 0 ≤ n → n + x.size ≤ 4000000000000000000 → ∃ t, Ev (fun k => laws_markText.l0 k n x) t := by
    intro m
    induction m with
    | zero =>
      intro n x hm hn hx
      refine ⟨_, Ev.step (fun k => ?_) (Ev.now ((⟨#[109]⟩ : ByteArray) ++ x))⟩
      show laws_markText.l0 (k + 1) n x = _
      rw [laws_markText.l0, if_neg (by omega), if_pos (by omega)]
    | succ m ih =>
      intro n x hm hn hx
      by_cases hp : n > 0
      · obtain ⟨s, hs⟩ : ∃ s, s = strOfNums ([(wrap64 (48 + (Int.tmod n 10))) % 256] : List Int) := ⟨_, rfl⟩
        have hsz : s.size = 1 := by rw [hs]; rfl
        have hd : Int.tdiv n 10 = n / 10 := Int.tdiv_eq_ediv_of_nonneg hn
        have hw : wrap64 (Int.tdiv n 10) = n / 10 := by rw [hd]; exact wrap_id _ (by omega) (by omega)
        obtain ⟨t, ht⟩ := ih (n / 10) (s ++ x) (by omega) (by omega) (by rw [ByteArray.size_append, hsz]; omega)
        refine ⟨t, Ev.step (fun k => ?_) ht⟩
        show laws_markText.l0 (k + 1) n x = _
        rw [laws_markText.l0, if_pos hp]
        simp only [Option.bind_some]
        rw [← hs, hw, if_pos (by rw [hsz]; omega)]
      · refine ⟨_, Ev.step (fun k => ?_) (Ev.now ((⟨#[109]⟩ : ByteArray) ++ x))⟩
        show laws_markText.l0 (k + 1) n x = _
        rw [laws_markText.l0, if_neg hp, if_pos (by omega)]
  obtain ⟨t, K, ht⟩ := key n.toNat n (⟨#[]⟩ : ByteArray) (by omega) (by omega) (by show n + ((0 : Nat) : Int) ≤ _; omega)
  exact ⟨t, K, fun k hk => by show laws_markText.f k n = some t; unfold laws_markText.f; rw [if_neg h0]; exact ht k hk⟩
end Go.Proofs.Ythkbgbkglgmpoaa.XA
end
section
namespace Go.Proofs.Ythkbgbkglgmpoaa.XA
set_option linter.unusedVariables false
open Go.RowKit Go.Proofs.YthkbgbkglgmpoaaW.PrintWords Go.Proofs.YthkbgbkglgmpoaaW.PrintLast Go.Proofs.YthkbgbkglgmpoaaW.PrintMore Go.Proofs.Ythkbgbkglgmpoaa.Pk
theorem markNodeS_ev (l : List S103) (n : Int) (h0 : 0 ≤ n) (h : n ≤ 2000000000000000000) (hl : l.length ≤ 1048576) (hk : ∀ x ∈ l, x.f4.length ≤ 1048576) :
    ∃ r, Ev (fun k => laws_markNodeS.f k l n) r ∧ n ≤ r.1 ∧ r.1 ≤ n + 1048580 * l.length := by
  refine mark_loop l.length (fun i (s : List S103 × Int) => n ≤ s.2 ∧ s.2 ≤ n + 1048580 * i ∧ s.1.length = l.length ∧ ∀ j, i ≤ j → s.1[j]? = l[j]?) (fun r => n ≤ r.1 ∧ r.1 ≤ n + 1048580 * l.length) (fun k i s => laws_markNodeS.l0 k s.1 s.2 i) ?_ ?_ (l, n) ⟨by simp, by simp, rfl, fun _ _ => rfl⟩
  · rintro i ⟨xs, c⟩ hi ⟨e1, e2, e3, e4⟩ hr
    simp only at e1 e2 e3 e4
    have a1 : wrap64 (c + 1) = c + 1 := wrap_id _ (by omega) (by omega)
    have a2 : wrap64 (c + 1 + 1) = c + 1 + 1 := wrap_id _ (by omega) (by omega)
    have a3 : wrap64 (c + 1 + 1 + 1) = c + 1 + 1 + 1 := wrap_id _ (by omega) (by omega)
    have a4 : wrap64 (c + 1 + 1 + 1 + 1) = c + 1 + 1 + 1 + 1 := wrap_id _ (by omega) (by omega)
    have a5 : wrap64 ((i : Int) + 1) = (i : Int) + 1 := wrap_id _ (by omega) (by omega)
    obtain ⟨t, ht⟩ := markText_ev (c + 1 + 1 + 1) (by omega)
    have hkl : (rd_T103 xs (i : Int)).f4.length ≤ 1048576 := by
      have : rd_T103 xs (i : Int) ∈ l := by
        have h1 := e4 i (Nat.le_refl _)
        rw [List.getElem?_eq_getElem hi] at h1
        show xs.getD i _ ∈ l
        rw [List.getD_eq_getElem?_getD, h1]
        exact List.getElem_mem hi
      exact hk _ this
    have hm := markIntS_ev (rd_T103 xs (i : Int)).f4 (c + 1 + 1 + 1 + 1) (by omega) (by omega)
    obtain ⟨r, h1, h2⟩ := hr (xs.set i ⟨c, c + 1, c + 1 + 1, t, markL (c + 1 + 1 + 1 + 1) (rd_T103 xs (i : Int)).f4.length⟩, c + 1 + 1 + 1 + 1 + (rd_T103 xs (i : Int)).f4.length)
      ⟨by simp only; omega, by simp only; omega, by simp only [List.length_set]; exact e3, fun j hj => by simp only; rw [List.getElem?_set_ne (by omega)]; exact e4 j (by omega)⟩
    obtain ⟨A, ht⟩ := ht
    obtain ⟨B, hm⟩ := hm
    obtain ⟨C, h1⟩ := h1
    refine ⟨r, ⟨A + B + C + 1, fun k hk' => ?_⟩, h2⟩
    obtain ⟨k, rfl⟩ : ∃ y, k = y + 1 := ⟨k - 1, by omega⟩
    have ht := ht k (by omega)
    have hm := hm k (by omega)
    have h1 := h1 k (by omega)
    simp only at ht hm h1
    show laws_markNodeS.l0 (k + 1) xs c i = some r
    rw [laws_markNodeS.l0, if_pos (by omega), if_pos (by omega), a1, a2, a3, a4, a5, ht]
    simp only [Option.bind_some, hm]
    exact h1
  · rintro ⟨xs, c⟩ ⟨e1, e2, e3, e4⟩
    refine ⟨(c, xs), Ev.step (fun k => ?_) (Ev.now (c, xs)), e1, e2⟩
    show laws_markNodeS.l0 (k + 1) xs c l.length = _
    rw [laws_markNodeS.l0, if_neg (by simp only at e3; omega)]
theorem markDoc_ev (a b : Int) (l : List S103) (n : Int) (h0 : 0 ≤ n) (h : n ≤ 2000000000000000000) (hl : l.length ≤ 1048576) (hk : ∀ x ∈ l, x.f4.length ≤ 1048576) :
    ∃ r, Ev (fun k => laws_markDoc.f k a b l n) r ∧ n ≤ r.1 ∧ r.1 ≤ n + 1048580 * l.length := markNodeS_ev l n h0 h hl hk
end Go.Proofs.Ythkbgbkglgmpoaa.XA
end
section
namespace Go.Proofs.Ythkbgbkglgmpoaa.XA
set_option linter.unusedVariables false
open Go.RowKit Go.Proofs.YthkbgbkglgmpoaaW.PrintWords Go.Proofs.YthkbgbkglgmpoaaW.PrintLast Go.Proofs.YthkbgbkglgmpoaaW.PrintMore Go.Proofs.Ythkbgbkglgmpoaa.Pk
/-- How many numbers terms hold. -/
def sumT : List S78 → Int
  | [] => 0
  | x :: r => x.f0.length + 1 + sumT r
theorem sumT_ge : ∀ l : List S78, 0 ≤ sumT l
  | [] => Int.le_refl 0
  | x :: r => by
    have := sumT_ge r
    show 0 ≤ (x.f0.length : Int) + 1 + sumT r
    omega
theorem markTermS_loop : ∀ (r pre : List S78) (n : Int), 0 ≤ n → n + sumT r ≤ 4000000000000000000 → pre.length + r.length ≤ 1048576 → ∃ q, Ev (fun k => laws_markTermS.l0 k (pre ++ r) n (pre.length : Int)) (n + sumT r, q)
  | [], pre, n, h0, h, hl => by
    refine ⟨pre ++ [], Ev.step (fun k => by rw [laws_markTermS.l0]) ?_⟩
    rw [show n + sumT [] = n from Int.add_zero n]
    exact Ev.neg (by simp) (Ev.now _)
  | x :: r, pre, n, h0, h, hl => by
    have hs := sumT_ge r
    have e : sumT (x :: r) = x.f0.length + 1 + sumT r := rfl
    simp only [List.length_cons] at hl
    have g : rd_T78 (pre ++ x :: r) (pre.length : Int) = x := by
      show (pre ++ x :: r).getD ((pre.length : Nat) : Int).toNat z78 = x
      simp
    obtain ⟨q, ih⟩ := markTermS_loop r (pre ++ [⟨markL n x.f0.length, n + x.f0.length⟩]) (n + x.f0.length + 1) (by omega) (by omega) (by simp; omega)
    refine ⟨q, Ev.step (fun k => by rw [laws_markTermS.l0]) ?_⟩
    rw [g]
    refine Ev.pos (by simp; omega) (Ev.pos (by omega) (Ev.bind (markIntS_ev x.f0 n h0 (by omega)) ?_))
    simp only
    rw [show (pre ++ x :: r).set ((pre.length : Int)).toNat ⟨markL n x.f0.length, n + x.f0.length⟩ = (pre ++ [⟨markL n x.f0.length, n + x.f0.length⟩]) ++ r by simp, show wrap64 ((pre.length : Int) + 1) = (((pre ++ [(⟨markL n x.f0.length, n + x.f0.length⟩ : S78)]).length : Nat) : Int) by rw [wrap_id _ (by omega) (by omega)]; simp, wrap_id (n + x.f0.length + 1) (by omega) (by omega)]
    rw [e, show n + ((x.f0.length : Int) + 1 + sumT r) = n + x.f0.length + 1 + sumT r by omega]
    exact ih
theorem markTermS_ex (l : List S78) (n : Int) (h0 : 0 ≤ n) (h : n + sumT l ≤ 4000000000000000000) (hl : l.length ≤ 1048576) : ∃ q, Ev (fun k => laws_markTermS.f k l n) (n + sumT l, q) := markTermS_loop l [] n h0 h (by simpa using hl)
end Go.Proofs.Ythkbgbkglgmpoaa.XA
end
section
namespace Go.Proofs.Ythkbgbkglgmpoaa.XA
set_option linter.unusedVariables false
open Go.RowKit Go.Proofs.YthkbgbkglgmpoaaW.PrintWords Go.Proofs.YthkbgbkglgmpoaaW.PrintLast Go.Proofs.YthkbgbkglgmpoaaW.PrintMore Go.Proofs.Ythkbgbkglgmpoaa.Pk
/-- How many numbers rules hold. -/
def sumR : List S97 → Int
  | [] => 0
  | x :: r => 2 + sumT x.f2 + sumR r
theorem sumR_ge : ∀ l : List S97, 0 ≤ sumR l
  | [] => Int.le_refl 0
  | x :: r => by
    have h1 := sumR_ge r
    have h2 := sumT_ge x.f2
    show 0 ≤ 2 + sumT x.f2 + sumR r
    omega
theorem markRuleS_loop : ∀ (r pre : List S97) (n : Int), 0 ≤ n → n + sumR r ≤ 4000000000000000000 → pre.length + r.length ≤ 1048576 → (∀ x ∈ r, x.f2.length ≤ 1048576) → ∃ q, Ev (fun k => laws_markRuleS.l0 k (pre ++ r) n (pre.length : Int)) (n + sumR r, q)
  | [], pre, n, h0, h, hl, hx => by
    refine ⟨pre ++ [], Ev.step (fun k => by rw [laws_markRuleS.l0]) ?_⟩
    rw [show n + sumR [] = n from Int.add_zero n]
    exact Ev.neg (by simp) (Ev.now _)
  | x :: r, pre, n, h0, h, hl, hx => by
    have hs := sumR_ge r
    have ht := sumT_ge x.f2
    have e : sumR (x :: r) = 2 + sumT x.f2 + sumR r := rfl
    simp only [List.length_cons] at hl
    have g : rd_T97 (pre ++ x :: r) (pre.length : Int) = x := by
      show (pre ++ x :: r).getD ((pre.length : Nat) : Int).toNat z97 = x
      simp
    have w1 : wrap64 (n + 1) = n + 1 := wrap_id _ (by omega) (by omega)
    have w2 : wrap64 (n + 1 + 1) = n + 1 + 1 := wrap_id _ (by omega) (by omega)
    obtain ⟨t, et⟩ := markText_ev n (by omega)
    obtain ⟨q1, em⟩ := markTermS_ex x.f2 (n + 1 + 1) (by omega) (by omega) (hx x List.mem_cons_self)
    obtain ⟨q, ih⟩ := markRuleS_loop r (pre ++ [⟨t, Int.tmod (n + 1) 3 == 0, q1⟩]) (n + 1 + 1 + sumT x.f2) (by omega) (by omega) (by simp; omega) (fun y hy => hx y (List.mem_cons_of_mem _ hy))
    refine ⟨q, Ev.step (fun k => by rw [laws_markRuleS.l0]) ?_⟩
    rw [g]
    simp only [w1, w2]
    refine Ev.pos (by simp; omega) (Ev.pos (by omega) (Ev.bind et (Ev.bind em ?_)))
    simp only
    rw [show (pre ++ x :: r).set ((pre.length : Int)).toNat ⟨t, Int.tmod (n + 1) 3 == 0, q1⟩ = (pre ++ [⟨t, Int.tmod (n + 1) 3 == 0, q1⟩]) ++ r by simp, show wrap64 ((pre.length : Int) + 1) = (((pre ++ [(⟨t, Int.tmod (n + 1) 3 == 0, q1⟩ : S97)]).length : Nat) : Int) by rw [wrap_id _ (by omega) (by omega)]; simp]
    rw [e, show n + (2 + sumT x.f2 + sumR r) = n + 1 + 1 + sumT x.f2 + sumR r by omega]
    exact ih
theorem markRuleS_ex (l : List S97) (n : Int) (h0 : 0 ≤ n) (h : n + sumR l ≤ 4000000000000000000) (hl : l.length ≤ 1048576) (hx : ∀ x ∈ l, x.f2.length ≤ 1048576) : ∃ q, Ev (fun k => laws_markRuleS.f k l n) (n + sumR l, q) := markRuleS_loop l [] n h0 h (by simpa using hl) hx
end Go.Proofs.Ythkbgbkglgmpoaa.XA
end
section
namespace Go.Proofs.Ythkbgbkglgmpoaa.XA
set_option linter.unusedVariables false
open Go.RowKit Go.Proofs.YthkbgbkglgmpoaaW.PrintWords Go.Proofs.YthkbgbkglgmpoaaW.PrintLast Go.Proofs.YthkbgbkglgmpoaaW.PrintMore Go.Proofs.Ythkbgbkglgmpoaa.Pk
/-- How many numbers rows hold. -/
def sumL : List (List Int) → Int
  | [] => 0
  | x :: r => x.length + sumL r
theorem sumL_ge : ∀ l : List (List Int), 0 ≤ sumL l
  | [] => Int.le_refl 0
  | x :: r => by
    have := sumL_ge r
    show 0 ≤ (x.length : Int) + sumL r
    omega
def markLL : Int → List (List Int) → List (List Int)
  | _, [] => []
  | n, x :: r => markL n x.length :: markLL (n + x.length) r
theorem mid_get (pre r : List (List Int)) (x : List Int) : rdOf ([] : List Int) (pre ++ x :: r) (pre.length : Int) = x := by
  show (pre ++ x :: r).getD ((pre.length : Nat) : Int).toNat [] = x
  simp
theorem mid_set (pre r : List (List Int)) (x y : List Int) : (pre ++ x :: r).set ((pre.length : Int)).toNat y = (pre ++ [y]) ++ r := by
  simp
theorem markSS_loop : ∀ (r pre : List (List Int)) (n : Int), 0 ≤ n → n + sumL r ≤ 4000000000000000000 → pre.length + r.length ≤ 1048576 → Ev (fun k => laws_markIntSS.l0 k (pre ++ r) n (pre.length : Int)) (n + sumL r, pre ++ markLL n r)
  | [], pre, n, h0, h, hl => by
    refine Ev.step (fun k => by rw [laws_markIntSS.l0]) ?_
    rw [show n + sumL [] = n from Int.add_zero n, show pre ++ markLL n [] = pre ++ [] from rfl]
    exact Ev.neg (by simp) (Ev.now _)
  | x :: r, pre, n, h0, h, hl => by
    have hs := sumL_ge r
    have e : sumL (x :: r) = x.length + sumL r := rfl
    simp only [List.length_cons] at hl
    have ih := markSS_loop r (pre ++ [markL n x.length]) (n + x.length) (by omega) (by omega) (by simp; omega)
    refine Ev.step (fun k => by rw [laws_markIntSS.l0]) ?_
    rw [mid_get]
    refine Ev.pos (by simp; omega) (Ev.pos (by omega) (Ev.bind (markIntS_ev x n h0 (by omega)) ?_))
    simp only
    rw [mid_set, show wrap64 ((pre.length : Int) + 1) = (((pre ++ [markL n x.length]).length : Nat) : Int) by rw [wrap_id _ (by omega) (by omega)]; simp]
    rw [e, show n + ((x.length : Int) + sumL r) = n + x.length + sumL r by omega, show pre ++ markLL n (x :: r) = pre ++ [markL n x.length] ++ markLL (n + x.length) r by simp [markLL]]
    exact ih
theorem markIntSS_ev (l : List (List Int)) (n : Int) (h0 : 0 ≤ n) (h : n + sumL l ≤ 4000000000000000000) (hl : l.length ≤ 1048576) : Ev (fun k => laws_markIntSS.f k l n) (n + sumL l, markLL n l) := markSS_loop l [] n h0 h (by simpa using hl)
end Go.Proofs.Ythkbgbkglgmpoaa.XA
end
section
namespace Go.Proofs.Ythkbgbkglgmpoaa.XA
end Go.Proofs.Ythkbgbkglgmpoaa.XA
end
