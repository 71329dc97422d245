/- What the laws' own conversions, measures and comparisons come to, type by type. Conditions: each theorem's own premises. -/
import Derived.Test.YtpdhccdmbdbdpaaYCheckNode1
import Derived.Test.YtpdhccdmbdbdpaaYCheckNode2
import Derived.Test.YtpdhccdmbdbdpaaYCheckNode3
import Derived.Test.YtpdhccdmbdbdpaaYCheckNode10
import Derived.Test.YtpdhccdmbdbdpaaYCheckNode11
import Derived.Test.YtpdhccdmbdbdpaaYCheckNode18
import Derived.Test.YtpdhccdmbdbdpaaYCheckNode19
import Derived.Test.YtpdhccdmbdbdpaaYCheckNodeO
import Derived.Test.YtpdhccdmbdbdpaaPk
namespace Go.Proofs.Ytpdhccdmbdbdpaa.XA
open Go.RowKit Go.Proofs.YtpdhccdmbdbdpaaW.PrintWords Go.Proofs.YtpdhccdmbdbdpaaW.PrintLast Go.Proofs.YtpdhccdmbdbdpaaW.PrintMore Go.Proofs.Ytpdhccdmbdbdpaa.Pk
set_option linter.unusedVariables false
set_option linter.unusedSimpArgs false
theorem to37 (l : List (Int)) (h : (l.length ≤ 1048576)) : Ev (fun k => laws_toIntS.f k l) l := by
  have hn : l.length ≤ 1048576 := h
  have key : Ev (fun k => laws_toIntS.l0 k l (List.replicate l.length 0) 0) (l.map (fun y => y)) := by
    refine fill_loop l (fun y => y) 0 0 (fun k out i => laws_toIntS.l0 k l out i) ?_ ?_
    · intro i out r hi ho hr
      obtain ⟨K, hr⟩ := hr
      refine ⟨K + 1, fun k hk => ?_⟩
      obtain ⟨m, rfl⟩ : ∃ m, k = m + 1 := ⟨k - 1, by omega⟩
      have e1 := hr m (by omega)
      show laws_toIntS.l0 (m + 1) l out (i : Int) = some r
      rw [laws_toIntS.l0, if_pos (by omega), if_pos (by omega)]
      rw [if_pos (by omega), wrap_id _ (by omega) (by omega)]
      exact e1
    · intro out ho
      refine ⟨1, fun k hk => ?_⟩
      obtain ⟨m, rfl⟩ : ∃ m, k = m + 1 := ⟨k - 1, by omega⟩
      show laws_toIntS.l0 (m + 1) l out (l.length : Int) = some out
      rw [laws_toIntS.l0, if_neg (by omega)]
  rw [List.map_id'] at key
  obtain ⟨K, key⟩ := key
  refine ⟨K, fun k hk => ?_⟩
  show laws_toIntS.f k l = _
  unfold laws_toIntS.f
  rw [if_pos (by omega), if_pos (by omega)]
  exact key k hk
def sm112 (x : S112) : Prop := True ∧ True ∧ True ∧ x.f3.size ≤ 1048576 ∧ (x.f4.length ≤ 1048576)
def cv112 (x : S112) : S43 := ⟨x.f0, x.f1, x.f2, x.f3, x.f4⟩
def sm43 (x : S43) : Prop := True ∧ True ∧ True ∧ x.f3.size ≤ 1048576 ∧ (x.f4.length ≤ 1048576)
theorem smcv112 (x : S112) (h : sm112 x) : sm43 (cv112 x) := by
  obtain ⟨h0, h1, h2, h3, h4⟩ := h
  exact ⟨h0, h1, h2, h3, h4⟩
theorem to112 (x : S112) (h : sm112 x) : Ev (fun k => laws_toNode.f k x.f0 x.f1 x.f2 x.f3 x.f4) (x.f0, x.f1, x.f2, x.f3, x.f4) := by
  obtain ⟨K4, e4⟩ := to37 x.f4 h.2.2.2.2
  refine ⟨0 + K4, fun k hk => ?_⟩
  have e4 := e4 k (by omega)
  show laws_toNode.f k x.f0 x.f1 x.f2 x.f3 x.f4 = _
  unfold laws_toNode.f
  simp only [e4, Option.bind_some]
  try rfl
theorem to22 (l : List (S112)) (h : (l.length ≤ 1048576 ∧ ∀ y_ ∈ l, sm112 y_)) : Ev (fun k => laws_toNodeS.f k l) (l.map cv112) := by
  have hn : l.length ≤ 1048576 := h.1
  have key : Ev (fun k => laws_toNodeS.l0 k l (List.replicate l.length z43) 0) (l.map cv112) := by
    refine fill_loop l cv112 z112 z43 (fun k out i => laws_toNodeS.l0 k l out i) ?_ ?_
    · intro i out r hi ho hr
      obtain ⟨K, hr⟩ := hr
      obtain ⟨K2, e2⟩ := to112 (l.getD i z112) (h.2 _ (getD_mem l _ i hi))
      refine ⟨K + K2 + 1, fun k hk => ?_⟩
      obtain ⟨m, rfl⟩ : ∃ m, k = m + 1 := ⟨k - 1, by omega⟩
      have e1 := hr m (by omega)
      have e2 := e2 m (by omega)
      show laws_toNodeS.l0 (m + 1) l out (i : Int) = some r
      rw [laws_toNodeS.l0, if_pos (by omega), if_pos (by omega)]
      refine (congrArg (fun o => Option.bind o _) (show _ = some _ from e2)).trans ?_
      simp only [Option.bind_some]
      rw [if_pos (by omega), wrap_id _ (by omega) (by omega)]
      exact e1
    · intro out ho
      refine ⟨1, fun k hk => ?_⟩
      obtain ⟨m, rfl⟩ : ∃ m, k = m + 1 := ⟨k - 1, by omega⟩
      show laws_toNodeS.l0 (m + 1) l out (l.length : Int) = some out
      rw [laws_toNodeS.l0, if_neg (by omega)]
  obtain ⟨K, key⟩ := key
  refine ⟨K, fun k hk => ?_⟩
  show laws_toNodeS.f k l = _
  unfold laws_toNodeS.f
  rw [if_pos (by omega), if_pos (by omega)]
  exact key k hk
def sm24 (x : S24) : Prop := True ∧ True ∧ (x.f2.length ≤ 1048576 ∧ ∀ y_ ∈ x.f2, sm112 y_)
def cv24 (x : S24) : S29 := ⟨x.f0, x.f1, (x.f2.map cv112)⟩
def sm29 (x : S29) : Prop := True ∧ True ∧ (x.f2.length ≤ 1048576 ∧ ∀ y_ ∈ x.f2, sm43 y_)
theorem smcv24 (x : S24) (h : sm24 x) : sm29 (cv24 x) := by
  obtain ⟨h0, h1, h2⟩ := h
  exact ⟨h0, h1, ⟨Nat.le_trans (Nat.le_of_eq (show (x.f2.map cv112).length = _ from List.length_map _)) h2.1, fun y hy => by obtain ⟨z, hz, rfl⟩ := (List.mem_map (f := cv112) (l := x.f2)).1 hy; exact (smcv112 _ (h2.2 z hz))⟩⟩
theorem to24 (x : S24) (h : sm24 x) : Ev (fun k => laws_toDoc.f k x.f0 x.f1 x.f2) (x.f0, x.f1, (x.f2.map cv112)) := by
  obtain ⟨K2, e2⟩ := to22 x.f2 h.2.2
  refine ⟨0 + K2, fun k hk => ?_⟩
  have e2 := e2 k (by omega)
  show laws_toDoc.f k x.f0 x.f1 x.f2 = _
  unfold laws_toDoc.f
  simp only [e2, Option.bind_some]
  try rfl
def sm142 (x : S142) : Prop := (x.f0.length ≤ 1048576) ∧ True
def cv142 (x : S142) : S135 := ⟨x.f0, x.f1⟩
def sm135 (x : S135) : Prop := (x.f0.length ≤ 1048576) ∧ True
theorem smcv142 (x : S142) (h : sm142 x) : sm135 (cv142 x) := by
  obtain ⟨h0, h1⟩ := h
  exact ⟨h0, h1⟩
theorem to142 (x : S142) (h : sm142 x) : Ev (fun k => laws_toTerm.f k x.f0 x.f1) (x.f0, x.f1) := by
  obtain ⟨K0, e0⟩ := to37 x.f0 h.1
  refine ⟨0 + K0, fun k hk => ?_⟩
  have e0 := e0 k (by omega)
  show laws_toTerm.f k x.f0 x.f1 = _
  unfold laws_toTerm.f
  simp only [e0, Option.bind_some]
  try rfl
theorem to88 (l : List (S142)) (h : (l.length ≤ 1048576 ∧ ∀ y_ ∈ l, sm142 y_)) : Ev (fun k => laws_toTermS.f k l) (l.map cv142) := by
  have hn : l.length ≤ 1048576 := h.1
  have key : Ev (fun k => laws_toTermS.l0 k l (List.replicate l.length z135) 0) (l.map cv142) := by
    refine fill_loop l cv142 z142 z135 (fun k out i => laws_toTermS.l0 k l out i) ?_ ?_
    · intro i out r hi ho hr
      obtain ⟨K, hr⟩ := hr
      obtain ⟨K2, e2⟩ := to142 (l.getD i z142) (h.2 _ (getD_mem l _ i hi))
      refine ⟨K + K2 + 1, fun k hk => ?_⟩
      obtain ⟨m, rfl⟩ : ∃ m, k = m + 1 := ⟨k - 1, by omega⟩
      have e1 := hr m (by omega)
      have e2 := e2 m (by omega)
      show laws_toTermS.l0 (m + 1) l out (i : Int) = some r
      rw [laws_toTermS.l0, if_pos (by omega), if_pos (by omega)]
      refine (congrArg (fun o => Option.bind o _) (show _ = some _ from e2)).trans ?_
      simp only [Option.bind_some]
      rw [if_pos (by omega), wrap_id _ (by omega) (by omega)]
      exact e1
    · intro out ho
      refine ⟨1, fun k hk => ?_⟩
      obtain ⟨m, rfl⟩ : ∃ m, k = m + 1 := ⟨k - 1, by omega⟩
      show laws_toTermS.l0 (m + 1) l out (l.length : Int) = some out
      rw [laws_toTermS.l0, if_neg (by omega)]
  obtain ⟨K, key⟩ := key
  refine ⟨K, fun k hk => ?_⟩
  show laws_toTermS.f k l = _
  unfold laws_toTermS.f
  rw [if_pos (by omega), if_pos (by omega)]
  exact key k hk
def sm90 (x : S90) : Prop := x.f0.size ≤ 1048576 ∧ True ∧ (x.f2.length ≤ 1048576 ∧ ∀ y_ ∈ x.f2, sm142 y_)
def cv90 (x : S90) : S95 := ⟨x.f0, x.f1, (x.f2.map cv142)⟩
def sm95 (x : S95) : Prop := x.f0.size ≤ 1048576 ∧ True ∧ (x.f2.length ≤ 1048576 ∧ ∀ y_ ∈ x.f2, sm135 y_)
theorem smcv90 (x : S90) (h : sm90 x) : sm95 (cv90 x) := by
  obtain ⟨h0, h1, h2⟩ := h
  exact ⟨h0, h1, ⟨Nat.le_trans (Nat.le_of_eq (show (x.f2.map cv142).length = _ from List.length_map _)) h2.1, fun y hy => by obtain ⟨z, hz, rfl⟩ := (List.mem_map (f := cv142) (l := x.f2)).1 hy; exact (smcv142 _ (h2.2 z hz))⟩⟩
theorem to90 (x : S90) (h : sm90 x) : Ev (fun k => laws_toRule.f k x.f0 x.f1 x.f2) (x.f0, x.f1, (x.f2.map cv142)) := by
  obtain ⟨K2, e2⟩ := to88 x.f2 h.2.2
  refine ⟨0 + K2, fun k hk => ?_⟩
  have e2 := e2 k (by omega)
  show laws_toRule.f k x.f0 x.f1 x.f2 = _
  unfold laws_toRule.f
  simp only [e2, Option.bind_some]
  try rfl
theorem to52 (l : List (S90)) (h : (l.length ≤ 1048576 ∧ ∀ y_ ∈ l, sm90 y_)) : Ev (fun k => laws_toRuleS.f k l) (l.map cv90) := by
  have hn : l.length ≤ 1048576 := h.1
  have key : Ev (fun k => laws_toRuleS.l0 k l (List.replicate l.length z95) 0) (l.map cv90) := by
    refine fill_loop l cv90 z90 z95 (fun k out i => laws_toRuleS.l0 k l out i) ?_ ?_
    · intro i out r hi ho hr
      obtain ⟨K, hr⟩ := hr
      obtain ⟨K2, e2⟩ := to90 (l.getD i z90) (h.2 _ (getD_mem l _ i hi))
      refine ⟨K + K2 + 1, fun k hk => ?_⟩
      obtain ⟨m, rfl⟩ : ∃ m, k = m + 1 := ⟨k - 1, by omega⟩
      have e1 := hr m (by omega)
      have e2 := e2 m (by omega)
      show laws_toRuleS.l0 (m + 1) l out (i : Int) = some r
      rw [laws_toRuleS.l0, if_pos (by omega), if_pos (by omega)]
      refine (congrArg (fun o => Option.bind o _) (show _ = some _ from e2)).trans ?_
      simp only [Option.bind_some]
      rw [if_pos (by omega), wrap_id _ (by omega) (by omega)]
      exact e1
    · intro out ho
      refine ⟨1, fun k hk => ?_⟩
      obtain ⟨m, rfl⟩ : ∃ m, k = m + 1 := ⟨k - 1, by omega⟩
      show laws_toRuleS.l0 (m + 1) l out (l.length : Int) = some out
      rw [laws_toRuleS.l0, if_neg (by omega)]
  obtain ⟨K, key⟩ := key
  refine ⟨K, fun k hk => ?_⟩
  show laws_toRuleS.f k l = _
  unfold laws_toRuleS.f
  rw [if_pos (by omega), if_pos (by omega)]
  exact key k hk
theorem eq37 (l : List (Int)) (h : (l.length ≤ 1048576)) : Ev (fun k => laws_eqIntS.f k l l) true := by
  have hn : l.length ≤ 1048576 := h
  have key : Ev (fun k => laws_eqIntS.l0 k l l 0) true := by
    refine go_loop l.length (fun k i => laws_eqIntS.l0 k l l i) true ?_ ?_
    · intro i hi hr
      obtain ⟨K, hr⟩ := hr
      refine ⟨K + 1, fun k hk => ?_⟩
      obtain ⟨m, rfl⟩ : ∃ m, k = m + 1 := ⟨k - 1, by omega⟩
      have e1 := hr m (by omega)
      show laws_eqIntS.l0 (m + 1) l l (i : Int) = some true
      rw [laws_eqIntS.l0, if_pos (by omega), if_pos (by omega), if_pos (by omega)]
      first | rw [if_pos rfl, wrap_id _ (by omega) (by omega)] | rw [if_neg (by simp), wrap_id _ (by omega) (by omega)]
      exact e1
    · refine ⟨1, fun k hk => ?_⟩
      obtain ⟨m, rfl⟩ : ∃ m, k = m + 1 := ⟨k - 1, by omega⟩
      show laws_eqIntS.l0 (m + 1) l l (l.length : Int) = some true
      rw [laws_eqIntS.l0, if_neg (by omega)]
  obtain ⟨K, key⟩ := key
  refine ⟨K, fun k hk => ?_⟩
  show laws_eqIntS.f k l l = _
  unfold laws_eqIntS.f
  rw [if_pos rfl]
  exact key k hk
theorem eq43 (x : S43) (h : sm43 x) : Ev (fun k => laws_eqNode.f k x.f0 x.f1 x.f2 x.f3 x.f4 x.f0 x.f1 x.f2 x.f3 x.f4) true := by
  obtain ⟨K4, e4⟩ := eq37 x.f4 h.2.2.2.2
  refine ⟨0 + K4, fun k hk => ?_⟩
  have e4 := e4 k (by omega)
  show laws_eqNode.f k x.f0 x.f1 x.f2 x.f3 x.f4 x.f0 x.f1 x.f2 x.f3 x.f4 = _
  unfold laws_eqNode.f
  simp [e4]
theorem eq27 (l : List (S43)) (h : (l.length ≤ 1048576 ∧ ∀ y_ ∈ l, sm43 y_)) : Ev (fun k => laws_eqNodeS.f k l l) true := by
  have hn : l.length ≤ 1048576 := h.1
  have key : Ev (fun k => laws_eqNodeS.l0 k l l 0) true := by
    refine go_loop l.length (fun k i => laws_eqNodeS.l0 k l l i) true ?_ ?_
    · intro i hi hr
      obtain ⟨K, hr⟩ := hr
      obtain ⟨K2, e2⟩ := eq43 (l.getD i z43) (h.2 _ (getD_mem l _ i hi))
      refine ⟨K + K2 + 1, fun k hk => ?_⟩
      obtain ⟨m, rfl⟩ : ∃ m, k = m + 1 := ⟨k - 1, by omega⟩
      have e1 := hr m (by omega)
      have e2 := e2 m (by omega)
      show laws_eqNodeS.l0 (m + 1) l l (i : Int) = some true
      rw [laws_eqNodeS.l0, if_pos (by omega), if_pos (by omega), if_pos (by omega)]
      refine (congrArg (fun o => Option.bind o _) (show _ = some true from e2)).trans ?_
      simp only [Option.bind_some, if_true]
      rw [wrap_id _ (by omega) (by omega)]
      exact e1
    · refine ⟨1, fun k hk => ?_⟩
      obtain ⟨m, rfl⟩ : ∃ m, k = m + 1 := ⟨k - 1, by omega⟩
      show laws_eqNodeS.l0 (m + 1) l l (l.length : Int) = some true
      rw [laws_eqNodeS.l0, if_neg (by omega)]
  obtain ⟨K, key⟩ := key
  refine ⟨K, fun k hk => ?_⟩
  show laws_eqNodeS.f k l l = _
  unfold laws_eqNodeS.f
  rw [if_pos rfl]
  exact key k hk
theorem eq29 (x : S29) (h : sm29 x) : Ev (fun k => laws_eqDoc.f k x.f0 x.f1 x.f2 x.f0 x.f1 x.f2) true := by
  obtain ⟨K2, e2⟩ := eq27 x.f2 h.2.2
  refine ⟨0 + K2, fun k hk => ?_⟩
  have e2 := e2 k (by omega)
  show laws_eqDoc.f k x.f0 x.f1 x.f2 x.f0 x.f1 x.f2 = _
  unfold laws_eqDoc.f
  simp [e2]
theorem eq135 (x : S135) (h : sm135 x) : Ev (fun k => laws_eqTerm.f k x.f0 x.f1 x.f0 x.f1) true := by
  obtain ⟨K0, e0⟩ := eq37 x.f0 h.1
  refine ⟨0 + K0, fun k hk => ?_⟩
  have e0 := e0 k (by omega)
  show laws_eqTerm.f k x.f0 x.f1 x.f0 x.f1 = _
  unfold laws_eqTerm.f
  simp [e0]
theorem eq93 (l : List (S135)) (h : (l.length ≤ 1048576 ∧ ∀ y_ ∈ l, sm135 y_)) : Ev (fun k => laws_eqTermS.f k l l) true := by
  have hn : l.length ≤ 1048576 := h.1
  have key : Ev (fun k => laws_eqTermS.l0 k l l 0) true := by
    refine go_loop l.length (fun k i => laws_eqTermS.l0 k l l i) true ?_ ?_
    · intro i hi hr
      obtain ⟨K, hr⟩ := hr
      obtain ⟨K2, e2⟩ := eq135 (l.getD i z135) (h.2 _ (getD_mem l _ i hi))
      refine ⟨K + K2 + 1, fun k hk => ?_⟩
      obtain ⟨m, rfl⟩ : ∃ m, k = m + 1 := ⟨k - 1, by omega⟩
      have e1 := hr m (by omega)
      have e2 := e2 m (by omega)
      show laws_eqTermS.l0 (m + 1) l l (i : Int) = some true
      rw [laws_eqTermS.l0, if_pos (by omega), if_pos (by omega), if_pos (by omega)]
      refine (congrArg (fun o => Option.bind o _) (show _ = some true from e2)).trans ?_
      simp only [Option.bind_some, if_true]
      rw [wrap_id _ (by omega) (by omega)]
      exact e1
    · refine ⟨1, fun k hk => ?_⟩
      obtain ⟨m, rfl⟩ : ∃ m, k = m + 1 := ⟨k - 1, by omega⟩
      show laws_eqTermS.l0 (m + 1) l l (l.length : Int) = some true
      rw [laws_eqTermS.l0, if_neg (by omega)]
  obtain ⟨K, key⟩ := key
  refine ⟨K, fun k hk => ?_⟩
  show laws_eqTermS.f k l l = _
  unfold laws_eqTermS.f
  rw [if_pos rfl]
  exact key k hk
theorem eq95 (x : S95) (h : sm95 x) : Ev (fun k => laws_eqRule.f k x.f0 x.f1 x.f2 x.f0 x.f1 x.f2) true := by
  obtain ⟨K2, e2⟩ := eq93 x.f2 h.2.2
  refine ⟨0 + K2, fun k hk => ?_⟩
  have e2 := e2 k (by omega)
  show laws_eqRule.f k x.f0 x.f1 x.f2 x.f0 x.f1 x.f2 = _
  unfold laws_eqRule.f
  simp [e2]
theorem eq55 (l : List (S95)) (h : (l.length ≤ 1048576 ∧ ∀ y_ ∈ l, sm95 y_)) : Ev (fun k => laws_eqRuleS.f k l l) true := by
  have hn : l.length ≤ 1048576 := h.1
  have key : Ev (fun k => laws_eqRuleS.l0 k l l 0) true := by
    refine go_loop l.length (fun k i => laws_eqRuleS.l0 k l l i) true ?_ ?_
    · intro i hi hr
      obtain ⟨K, hr⟩ := hr
      obtain ⟨K2, e2⟩ := eq95 (l.getD i z95) (h.2 _ (getD_mem l _ i hi))
      refine ⟨K + K2 + 1, fun k hk => ?_⟩
      obtain ⟨m, rfl⟩ : ∃ m, k = m + 1 := ⟨k - 1, by omega⟩
      have e1 := hr m (by omega)
      have e2 := e2 m (by omega)
      show laws_eqRuleS.l0 (m + 1) l l (i : Int) = some true
      rw [laws_eqRuleS.l0, if_pos (by omega), if_pos (by omega), if_pos (by omega)]
      refine (congrArg (fun o => Option.bind o _) (show _ = some true from e2)).trans ?_
      simp only [Option.bind_some, if_true]
      rw [wrap_id _ (by omega) (by omega)]
      exact e1
    · refine ⟨1, fun k hk => ?_⟩
      obtain ⟨m, rfl⟩ : ∃ m, k = m + 1 := ⟨k - 1, by omega⟩
      show laws_eqRuleS.l0 (m + 1) l l (l.length : Int) = some true
      rw [laws_eqRuleS.l0, if_neg (by omega)]
  obtain ⟨K, key⟩ := key
  refine ⟨K, fun k hk => ?_⟩
  show laws_eqRuleS.f k l l = _
  unfold laws_eqRuleS.f
  rw [if_pos rfl]
  exact key k hk
theorem sz37 (l : List (Int)) (o : (l.length ≤ maxLen ∧ ∀ y_ ∈ l, (fun (n : Int) => (Lit.int .i64 n).wf = true) y_)) (left : Int) (h0 : 0 ≤ left) (h1 : left ≤ 1048576) : ∃ v : Int, Ev (fun k => laws_szIntS.f l left) v ∧ v ≤ left ∧ (v < 0 ∨ 0 ≤ v ∧ (l.length ≤ 1048576)) := by
  have hM : maxLen = 9223372036854775807 := rfl
  have o1 : l.length ≤ maxLen := o.1
  have w : wrap64 (left - (l.length : Int)) = left - (l.length : Int) := wrap_id _ (by omega) (by omega)
  by_cases c : left - (l.length : Int) < 0
  · refine ⟨-1, ⟨0, fun k hk => ?_⟩, by omega, .inl (by omega)⟩
    show laws_szIntS.f l left = _
    unfold laws_szIntS.f
    simp only [w, if_pos c]
  · refine ⟨left - (l.length : Int), ⟨0, fun k hk => ?_⟩, by omega, .inr ⟨by omega, by omega⟩⟩
    show laws_szIntS.f l left = _
    unfold laws_szIntS.f
    simp only [w, if_neg c]
theorem sz112 (x : S112) (o : ok112 x) (left : Int) (h0 : 0 ≤ left) (h1 : left ≤ 1048576) : ∃ v : Int, Ev (fun k => laws_szNode.f x.f0 x.f1 x.f2 x.f3 x.f4 left) v ∧ v ≤ left ∧ (v < 0 ∨ 0 ≤ v ∧ sm112 x) := by
  have hM : maxLen = 9223372036854775807 := rfl
  have o3 : x.f3.size ≤ maxLen := o.2.2.2.1
  obtain ⟨v3, hv3⟩ : ∃ v : Int, v = left - (x.f3.size : Int) := ⟨_, rfl⟩
  have w3 : wrap64 (left - (x.f3.size : Int)) = v3 := (wrap_id _ (by omega) (by omega)).trans hv3.symm
  have s3 : v3 < 0 ∨ 0 ≤ v3 ∧ x.f3.size ≤ 1048576 := by omega
  have l3 : v3 ≤ left := by omega
  by_cases c3 : v3 < 0
  · refine ⟨-1, ⟨0, fun k hk => ?_⟩, by omega, .inl (by omega)⟩
    show laws_szNode.f x.f0 x.f1 x.f2 x.f3 x.f4 left = _
    unfold laws_szNode.f
    simp only [w3, if_pos c3, Option.bind_some]
  obtain ⟨v4, ⟨K4, e4⟩, l4, s4⟩ := sz37 x.f4 o.2.2.2.2 v3 (by omega) (by omega)
  by_cases c4 : v4 < 0
  · refine ⟨-1, ⟨0 + K4, fun k hk => ?_⟩, by omega, .inl (by omega)⟩
    have e4 := e4 k (by omega)
    show laws_szNode.f x.f0 x.f1 x.f2 x.f3 x.f4 left = _
    unfold laws_szNode.f
    simp only [w3, if_neg c3, e4, if_pos c4, Option.bind_some]
  refine ⟨v4, ⟨0 + K4, fun k hk => ?_⟩, by omega, .inr ⟨by omega, ?_⟩⟩
  · have e4 := e4 k (by omega)
    show laws_szNode.f x.f0 x.f1 x.f2 x.f3 x.f4 left = _
    unfold laws_szNode.f
    simp only [w3, if_neg c3, e4, if_neg c4, Option.bind_some]
  · exact ⟨trivial, trivial, trivial, (by rcases s3 with h_ | h_ <;> first | exact h_.2 | exact absurd h_ c3), (by rcases s4 with h_ | h_ <;> first | exact h_.2 | exact absurd h_ c4)⟩
theorem sz22 (l : List (S112)) (o : (l.length ≤ maxLen ∧ ∀ y_ ∈ l, ok112 y_)) (left : Int) (h0 : 0 ≤ left) (h1 : left ≤ 1048576) : ∃ v : Int, Ev (fun k => laws_szNodeS.f k l left) v ∧ v ≤ left ∧ (v < 0 ∨ 0 ≤ v ∧ (l.length ≤ 1048576 ∧ ∀ y_ ∈ l, sm112 y_)) := by
  have hM : maxLen = 9223372036854775807 := rfl
  have o1 : l.length ≤ maxLen := o.1
  have w : wrap64 (left - (l.length : Int)) = left - (l.length : Int) := wrap_id _ (by omega) (by omega)
  by_cases c : left - (l.length : Int) < 0
  · refine ⟨-1, ⟨0, fun k hk => ?_⟩, by omega, .inl (by omega)⟩
    show laws_szNodeS.f k l left = _
    unfold laws_szNodeS.f
    simp only [w, if_pos c]
  · have key := sz_loop l z112 sm112 (fun k left i => laws_szNodeS.l0 k l left i) ?_ ?_ (left - (l.length : Int)) (by omega) (by omega)
    · obtain ⟨v, ⟨K, ev⟩, hle, hP⟩ := key
      refine ⟨v, ⟨K, fun k hk => ?_⟩, by omega, ?_⟩
      · show laws_szNodeS.f k l left = _
        unfold laws_szNodeS.f
        simp only [w, if_neg c]
        exact ev k hk
      · rcases hP with h | h
        · exact .inl h
        · exact .inr ⟨h.1, ⟨by omega, h.2⟩⟩
    · intro i left hi g0 g1
      obtain ⟨v, ⟨K2, e2⟩, hle, hP⟩ := sz112 (l.getD i z112) (o.2 _ (getD_mem l _ i hi)) left g0 g1
      refine ⟨v, hle, hP, ?_, ?_⟩
      · intro hv
        refine ⟨K2 + 1, fun k hk => ?_⟩
        obtain ⟨m, rfl⟩ : ∃ m, k = m + 1 := ⟨k - 1, by omega⟩
        have e2 := e2 m (by omega)
        show laws_szNodeS.l0 (m + 1) l left (i : Int) = _
        rw [laws_szNodeS.l0, if_pos (by omega), if_pos (by omega)]
        refine (congrArg (fun o => Option.bind o _) (show _ = some _ from e2)).trans ?_
        simp only [Option.bind_some]
        rw [if_pos hv]
      · intro hv r hr
        obtain ⟨K, hr⟩ := hr
        refine ⟨K + K2 + 1, fun k hk => ?_⟩
        obtain ⟨m, rfl⟩ : ∃ m, k = m + 1 := ⟨k - 1, by omega⟩
        have e1 := hr m (by omega)
        have e2 := e2 m (by omega)
        show laws_szNodeS.l0 (m + 1) l left (i : Int) = _
        rw [laws_szNodeS.l0, if_pos (by omega), if_pos (by omega)]
        refine (congrArg (fun o => Option.bind o _) (show _ = some _ from e2)).trans ?_
        simp only [Option.bind_some]
        rw [if_neg (by omega), wrap_id _ (by omega) (by omega)]
        exact e1
    · intro left
      refine ⟨1, fun k hk => ?_⟩
      obtain ⟨m, rfl⟩ : ∃ m, k = m + 1 := ⟨k - 1, by omega⟩
      show laws_szNodeS.l0 (m + 1) l left (l.length : Int) = some left
      rw [laws_szNodeS.l0, if_neg (by omega)]
theorem sz24 (x : S24) (o : ok24 x) (left : Int) (h0 : 0 ≤ left) (h1 : left ≤ 1048576) : ∃ v : Int, Ev (fun k => laws_szDoc.f k x.f0 x.f1 x.f2 left) v ∧ v ≤ left ∧ (v < 0 ∨ 0 ≤ v ∧ sm24 x) := by
  obtain ⟨v2, ⟨K2, e2⟩, l2, s2⟩ := sz22 x.f2 o.2.2 left (by omega) (by omega)
  by_cases c2 : v2 < 0
  · refine ⟨-1, ⟨0 + K2, fun k hk => ?_⟩, by omega, .inl (by omega)⟩
    have e2 := e2 k (by omega)
    show laws_szDoc.f k x.f0 x.f1 x.f2 left = _
    unfold laws_szDoc.f
    simp only [e2, if_pos c2, Option.bind_some]
  refine ⟨v2, ⟨0 + K2, fun k hk => ?_⟩, by omega, .inr ⟨by omega, ?_⟩⟩
  · have e2 := e2 k (by omega)
    show laws_szDoc.f k x.f0 x.f1 x.f2 left = _
    unfold laws_szDoc.f
    simp only [e2, if_neg c2, Option.bind_some]
  · exact ⟨trivial, trivial, (by rcases s2 with h_ | h_ <;> first | exact h_.2 | exact absurd h_ c2)⟩
theorem sz142 (x : S142) (o : ok142 x) (left : Int) (h0 : 0 ≤ left) (h1 : left ≤ 1048576) : ∃ v : Int, Ev (fun k => laws_szTerm.f x.f0 x.f1 left) v ∧ v ≤ left ∧ (v < 0 ∨ 0 ≤ v ∧ sm142 x) := by
  obtain ⟨v0, ⟨K0, e0⟩, l0, s0⟩ := sz37 x.f0 o.1 left (by omega) (by omega)
  by_cases c0 : v0 < 0
  · refine ⟨-1, ⟨0 + K0, fun k hk => ?_⟩, by omega, .inl (by omega)⟩
    have e0 := e0 k (by omega)
    show laws_szTerm.f x.f0 x.f1 left = _
    unfold laws_szTerm.f
    simp only [e0, if_pos c0, Option.bind_some]
  refine ⟨v0, ⟨0 + K0, fun k hk => ?_⟩, by omega, .inr ⟨by omega, ?_⟩⟩
  · have e0 := e0 k (by omega)
    show laws_szTerm.f x.f0 x.f1 left = _
    unfold laws_szTerm.f
    simp only [e0, if_neg c0, Option.bind_some]
  · exact ⟨(by rcases s0 with h_ | h_ <;> first | exact h_.2 | exact absurd h_ c0), trivial⟩
theorem sz88 (l : List (S142)) (o : (l.length ≤ maxLen ∧ ∀ y_ ∈ l, ok142 y_)) (left : Int) (h0 : 0 ≤ left) (h1 : left ≤ 1048576) : ∃ v : Int, Ev (fun k => laws_szTermS.f k l left) v ∧ v ≤ left ∧ (v < 0 ∨ 0 ≤ v ∧ (l.length ≤ 1048576 ∧ ∀ y_ ∈ l, sm142 y_)) := by
  have hM : maxLen = 9223372036854775807 := rfl
  have o1 : l.length ≤ maxLen := o.1
  have w : wrap64 (left - (l.length : Int)) = left - (l.length : Int) := wrap_id _ (by omega) (by omega)
  by_cases c : left - (l.length : Int) < 0
  · refine ⟨-1, ⟨0, fun k hk => ?_⟩, by omega, .inl (by omega)⟩
    show laws_szTermS.f k l left = _
    unfold laws_szTermS.f
    simp only [w, if_pos c]
  · have key := sz_loop l z142 sm142 (fun k left i => laws_szTermS.l0 k l left i) ?_ ?_ (left - (l.length : Int)) (by omega) (by omega)
    · obtain ⟨v, ⟨K, ev⟩, hle, hP⟩ := key
      refine ⟨v, ⟨K, fun k hk => ?_⟩, by omega, ?_⟩
      · show laws_szTermS.f k l left = _
        unfold laws_szTermS.f
        simp only [w, if_neg c]
        exact ev k hk
      · rcases hP with h | h
        · exact .inl h
        · exact .inr ⟨h.1, ⟨by omega, h.2⟩⟩
    · intro i left hi g0 g1
      obtain ⟨v, ⟨K2, e2⟩, hle, hP⟩ := sz142 (l.getD i z142) (o.2 _ (getD_mem l _ i hi)) left g0 g1
      refine ⟨v, hle, hP, ?_, ?_⟩
      · intro hv
        refine ⟨K2 + 1, fun k hk => ?_⟩
        obtain ⟨m, rfl⟩ : ∃ m, k = m + 1 := ⟨k - 1, by omega⟩
        have e2 := e2 m (by omega)
        show laws_szTermS.l0 (m + 1) l left (i : Int) = _
        rw [laws_szTermS.l0, if_pos (by omega), if_pos (by omega)]
        refine (congrArg (fun o => Option.bind o _) (show _ = some _ from e2)).trans ?_
        simp only [Option.bind_some]
        rw [if_pos hv]
      · intro hv r hr
        obtain ⟨K, hr⟩ := hr
        refine ⟨K + K2 + 1, fun k hk => ?_⟩
        obtain ⟨m, rfl⟩ : ∃ m, k = m + 1 := ⟨k - 1, by omega⟩
        have e1 := hr m (by omega)
        have e2 := e2 m (by omega)
        show laws_szTermS.l0 (m + 1) l left (i : Int) = _
        rw [laws_szTermS.l0, if_pos (by omega), if_pos (by omega)]
        refine (congrArg (fun o => Option.bind o _) (show _ = some _ from e2)).trans ?_
        simp only [Option.bind_some]
        rw [if_neg (by omega), wrap_id _ (by omega) (by omega)]
        exact e1
    · intro left
      refine ⟨1, fun k hk => ?_⟩
      obtain ⟨m, rfl⟩ : ∃ m, k = m + 1 := ⟨k - 1, by omega⟩
      show laws_szTermS.l0 (m + 1) l left (l.length : Int) = some left
      rw [laws_szTermS.l0, if_neg (by omega)]
theorem sz90 (x : S90) (o : ok90 x) (left : Int) (h0 : 0 ≤ left) (h1 : left ≤ 1048576) : ∃ v : Int, Ev (fun k => laws_szRule.f k x.f0 x.f1 x.f2 left) v ∧ v ≤ left ∧ (v < 0 ∨ 0 ≤ v ∧ sm90 x) := by
  have hM : maxLen = 9223372036854775807 := rfl
  have o0 : x.f0.size ≤ maxLen := o.1
  obtain ⟨v0, hv0⟩ : ∃ v : Int, v = left - (x.f0.size : Int) := ⟨_, rfl⟩
  have w0 : wrap64 (left - (x.f0.size : Int)) = v0 := (wrap_id _ (by omega) (by omega)).trans hv0.symm
  have s0 : v0 < 0 ∨ 0 ≤ v0 ∧ x.f0.size ≤ 1048576 := by omega
  have l0 : v0 ≤ left := by omega
  by_cases c0 : v0 < 0
  · refine ⟨-1, ⟨0, fun k hk => ?_⟩, by omega, .inl (by omega)⟩
    show laws_szRule.f k x.f0 x.f1 x.f2 left = _
    unfold laws_szRule.f
    simp only [w0, if_pos c0, Option.bind_some]
  obtain ⟨v2, ⟨K2, e2⟩, l2, s2⟩ := sz88 x.f2 o.2.2 v0 (by omega) (by omega)
  by_cases c2 : v2 < 0
  · refine ⟨-1, ⟨0 + K2, fun k hk => ?_⟩, by omega, .inl (by omega)⟩
    have e2 := e2 k (by omega)
    show laws_szRule.f k x.f0 x.f1 x.f2 left = _
    unfold laws_szRule.f
    simp only [w0, if_neg c0, e2, if_pos c2, Option.bind_some]
  refine ⟨v2, ⟨0 + K2, fun k hk => ?_⟩, by omega, .inr ⟨by omega, ?_⟩⟩
  · have e2 := e2 k (by omega)
    show laws_szRule.f k x.f0 x.f1 x.f2 left = _
    unfold laws_szRule.f
    simp only [w0, if_neg c0, e2, if_neg c2, Option.bind_some]
  · exact ⟨(by rcases s0 with h_ | h_ <;> first | exact h_.2 | exact absurd h_ c0), trivial, (by rcases s2 with h_ | h_ <;> first | exact h_.2 | exact absurd h_ c2)⟩
theorem sz52 (l : List (S90)) (o : (l.length ≤ maxLen ∧ ∀ y_ ∈ l, ok90 y_)) (left : Int) (h0 : 0 ≤ left) (h1 : left ≤ 1048576) : ∃ v : Int, Ev (fun k => laws_szRuleS.f k l left) v ∧ v ≤ left ∧ (v < 0 ∨ 0 ≤ v ∧ (l.length ≤ 1048576 ∧ ∀ y_ ∈ l, sm90 y_)) := by
  have hM : maxLen = 9223372036854775807 := rfl
  have o1 : l.length ≤ maxLen := o.1
  have w : wrap64 (left - (l.length : Int)) = left - (l.length : Int) := wrap_id _ (by omega) (by omega)
  by_cases c : left - (l.length : Int) < 0
  · refine ⟨-1, ⟨0, fun k hk => ?_⟩, by omega, .inl (by omega)⟩
    show laws_szRuleS.f k l left = _
    unfold laws_szRuleS.f
    simp only [w, if_pos c]
  · have key := sz_loop l z90 sm90 (fun k left i => laws_szRuleS.l0 k l left i) ?_ ?_ (left - (l.length : Int)) (by omega) (by omega)
    · obtain ⟨v, ⟨K, ev⟩, hle, hP⟩ := key
      refine ⟨v, ⟨K, fun k hk => ?_⟩, by omega, ?_⟩
      · show laws_szRuleS.f k l left = _
        unfold laws_szRuleS.f
        simp only [w, if_neg c]
        exact ev k hk
      · rcases hP with h | h
        · exact .inl h
        · exact .inr ⟨h.1, ⟨by omega, h.2⟩⟩
    · intro i left hi g0 g1
      obtain ⟨v, ⟨K2, e2⟩, hle, hP⟩ := sz90 (l.getD i z90) (o.2 _ (getD_mem l _ i hi)) left g0 g1
      refine ⟨v, hle, hP, ?_, ?_⟩
      · intro hv
        refine ⟨K2 + 1, fun k hk => ?_⟩
        obtain ⟨m, rfl⟩ : ∃ m, k = m + 1 := ⟨k - 1, by omega⟩
        have e2 := e2 m (by omega)
        show laws_szRuleS.l0 (m + 1) l left (i : Int) = _
        rw [laws_szRuleS.l0, if_pos (by omega), if_pos (by omega)]
        refine (congrArg (fun o => Option.bind o _) (show _ = some _ from e2)).trans ?_
        simp only [Option.bind_some]
        rw [if_pos hv]
      · intro hv r hr
        obtain ⟨K, hr⟩ := hr
        refine ⟨K + K2 + 1, fun k hk => ?_⟩
        obtain ⟨m, rfl⟩ : ∃ m, k = m + 1 := ⟨k - 1, by omega⟩
        have e1 := hr m (by omega)
        have e2 := e2 m (by omega)
        show laws_szRuleS.l0 (m + 1) l left (i : Int) = _
        rw [laws_szRuleS.l0, if_pos (by omega), if_pos (by omega)]
        refine (congrArg (fun o => Option.bind o _) (show _ = some _ from e2)).trans ?_
        simp only [Option.bind_some]
        rw [if_neg (by omega), wrap_id _ (by omega) (by omega)]
        exact e1
    · intro left
      refine ⟨1, fun k hk => ?_⟩
      obtain ⟨m, rfl⟩ : ∃ m, k = m + 1 := ⟨k - 1, by omega⟩
      show laws_szRuleS.l0 (m + 1) l left (l.length : Int) = some left
      rw [laws_szRuleS.l0, if_neg (by omega)]
end Go.Proofs.Ytpdhccdmbdbdpaa.XA
