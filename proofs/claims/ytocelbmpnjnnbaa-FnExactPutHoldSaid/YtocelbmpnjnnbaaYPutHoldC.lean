/- What the laws' own conversions, measures and comparisons come to, type by type. Conditions: each theorem's own premises. -/
import Derived.Test.YtocelbmpnjnnbaaYPutHold1
import Derived.Test.YtocelbmpnjnnbaaYPutHold8
import Derived.Test.YtocelbmpnjnnbaaYPutHold16
import Derived.Test.YtocelbmpnjnnbaaYPutHold17
import Derived.Test.YtocelbmpnjnnbaaYPutHoldO
import Derived.Test.YtocelbmpnjnnbaaPk
namespace Go.Proofs.Ytocelbmpnjnnbaa.XA
open Go.RowKit Go.Proofs.YtocelbmpnjnnbaaW.PrintWords Go.Proofs.YtocelbmpnjnnbaaW.PrintLast Go.Proofs.YtocelbmpnjnnbaaW.PrintMore Go.Proofs.Ytocelbmpnjnnbaa.Pk
set_option linter.unusedVariables false
set_option linter.unusedSimpArgs false
theorem to56 (l : List (Int)) (h : (l.length ≤ 1048576)) : Ev (fun k => laws_toIntS.f k l) l := by
  have hn : l.length ≤ 1048576 := h
  have key : Ev (fun k => laws_toIntS.l0 k l (List.replicate l.length 0) 0) (l.map (fun y => y)) := by
    refine fill_loop l (fun y => y) 0 0 (fun k out i => laws_toIntS.l0 k l out i) ?_ ?_
    · intro i out r hi ho hr
      obtain ⟨K, hr⟩ := hr
      refine ⟨K + 1, fun k hk => ?_⟩
      obtain ⟨m, rfl⟩ : ∃ m, k = m + 1 := ⟨k - 1, by omega⟩
      have e1 := hr m (by omega)
      show laws_toIntS.l0 (m + 1) l out (i : Int) = some r
      rw [laws_toIntS.l0, if_pos (by omega), if_pos (by omega)]
      rw [if_pos (by omega), wrap_id _ (by omega) (by omega)]
      exact e1
    · intro out ho
      refine ⟨1, fun k hk => ?_⟩
      obtain ⟨m, rfl⟩ : ∃ m, k = m + 1 := ⟨k - 1, by omega⟩
      show laws_toIntS.l0 (m + 1) l out (l.length : Int) = some out
      rw [laws_toIntS.l0, if_neg (by omega)]
  rw [List.map_id'] at key
  obtain ⟨K, key⟩ := key
  refine ⟨K, fun k hk => ?_⟩
  show laws_toIntS.f k l = _
  unfold laws_toIntS.f
  rw [if_pos (by omega), if_pos (by omega)]
  exact key k hk
def sm144 (x : S144) : Prop := True ∧ True ∧ True ∧ x.f3.size ≤ 1048576 ∧ (x.f4.length ≤ 1048576)
def cv144 (x : S144) : S64 := ⟨x.f0, x.f1, x.f2, x.f3, x.f4⟩
def sm64 (x : S64) : Prop := True ∧ True ∧ True ∧ x.f3.size ≤ 1048576 ∧ (x.f4.length ≤ 1048576)
theorem smcv144 (x : S144) (h : sm144 x) : sm64 (cv144 x) := by
  obtain ⟨h0, h1, h2, h3, h4⟩ := h
  exact ⟨h0, h1, h2, h3, h4⟩
theorem to144 (x : S144) (h : sm144 x) : Ev (fun k => laws_toNode.f k x.f0 x.f1 x.f2 x.f3 x.f4) (x.f0, x.f1, x.f2, x.f3, x.f4) := by
  obtain ⟨K4, e4⟩ := to56 x.f4 h.2.2.2.2
  refine ⟨0 + K4, fun k hk => ?_⟩
  have e4 := e4 k (by omega)
  show laws_toNode.f k x.f0 x.f1 x.f2 x.f3 x.f4 = _
  unfold laws_toNode.f
  simp only [e4, Option.bind_some]
  try rfl
theorem to22 (l : List (S144)) (h : (l.length ≤ 1048576 ∧ ∀ y_ ∈ l, sm144 y_)) : Ev (fun k => laws_toNodeS.f k l) (l.map cv144) := by
  have hn : l.length ≤ 1048576 := h.1
  have key : Ev (fun k => laws_toNodeS.l0 k l (List.replicate l.length z64) 0) (l.map cv144) := by
    refine fill_loop l cv144 z144 z64 (fun k out i => laws_toNodeS.l0 k l out i) ?_ ?_
    · intro i out r hi ho hr
      obtain ⟨K, hr⟩ := hr
      obtain ⟨K2, e2⟩ := to144 (l.getD i z144) (h.2 _ (getD_mem l _ i hi))
      refine ⟨K + K2 + 1, fun k hk => ?_⟩
      obtain ⟨m, rfl⟩ : ∃ m, k = m + 1 := ⟨k - 1, by omega⟩
      have e1 := hr m (by omega)
      have e2 := e2 m (by omega)
      show laws_toNodeS.l0 (m + 1) l out (i : Int) = some r
      rw [laws_toNodeS.l0, if_pos (by omega), if_pos (by omega)]
      refine (congrArg (fun o => Option.bind o _) (show _ = some _ from e2)).trans ?_
      simp only [Option.bind_some]
      rw [if_pos (by omega), wrap_id _ (by omega) (by omega)]
      exact e1
    · intro out ho
      refine ⟨1, fun k hk => ?_⟩
      obtain ⟨m, rfl⟩ : ∃ m, k = m + 1 := ⟨k - 1, by omega⟩
      show laws_toNodeS.l0 (m + 1) l out (l.length : Int) = some out
      rw [laws_toNodeS.l0, if_neg (by omega)]
  obtain ⟨K, key⟩ := key
  refine ⟨K, fun k hk => ?_⟩
  show laws_toNodeS.f k l = _
  unfold laws_toNodeS.f
  rw [if_pos (by omega), if_pos (by omega)]
  exact key k hk
def sm24 (x : S24) : Prop := True ∧ True ∧ (x.f2.length ≤ 1048576 ∧ ∀ y_ ∈ x.f2, sm144 y_)
def cv24 (x : S24) : S35 := ⟨x.f0, x.f1, (x.f2.map cv144)⟩
def sm35 (x : S35) : Prop := True ∧ True ∧ (x.f2.length ≤ 1048576 ∧ ∀ y_ ∈ x.f2, sm64 y_)
theorem smcv24 (x : S24) (h : sm24 x) : sm35 (cv24 x) := by
  obtain ⟨h0, h1, h2⟩ := h
  exact ⟨h0, h1, ⟨Nat.le_trans (Nat.le_of_eq (show (x.f2.map cv144).length = _ from List.length_map _)) h2.1, fun y hy => by obtain ⟨z, hz, rfl⟩ := (List.mem_map (f := cv144) (l := x.f2)).1 hy; exact (smcv144 _ (h2.2 z hz))⟩⟩
theorem to24 (x : S24) (h : sm24 x) : Ev (fun k => laws_toDoc.f k x.f0 x.f1 x.f2) (x.f0, x.f1, (x.f2.map cv144)) := by
  obtain ⟨K2, e2⟩ := to22 x.f2 h.2.2
  refine ⟨0 + K2, fun k hk => ?_⟩
  have e2 := e2 k (by omega)
  show laws_toDoc.f k x.f0 x.f1 x.f2 = _
  unfold laws_toDoc.f
  simp only [e2, Option.bind_some]
  try rfl
def sm27 (x : S27) : Prop := True ∧ True ∧ True
def cv27 (x : S27) : S38 := ⟨x.f0, x.f1, x.f2⟩
def sm38 (x : S38) : Prop := True ∧ True ∧ True
theorem smcv27 (x : S27) (h : sm27 x) : sm38 (cv27 x) := by
  obtain ⟨h0, h1, h2⟩ := h
  exact ⟨h0, h1, h2⟩
theorem to27 (x : S27) (h : sm27 x) : Ev (fun k => laws_toHold.f x.f0 x.f1 x.f2) (x.f0, x.f1, x.f2) := by
  refine ⟨0, fun k hk => ?_⟩
  show laws_toHold.f x.f0 x.f1 x.f2 = _
  unfold laws_toHold.f
  rfl
theorem to25 (l : List (S27)) (h : (l.length ≤ 1048576 ∧ ∀ y_ ∈ l, sm27 y_)) : Ev (fun k => laws_toHoldS.f k l) (l.map cv27) := by
  have hn : l.length ≤ 1048576 := h.1
  have key : Ev (fun k => laws_toHoldS.l0 k l (List.replicate l.length z38) 0) (l.map cv27) := by
    refine fill_loop l cv27 z27 z38 (fun k out i => laws_toHoldS.l0 k l out i) ?_ ?_
    · intro i out r hi ho hr
      obtain ⟨K, hr⟩ := hr
      obtain ⟨K2, e2⟩ := to27 (l.getD i z27) (h.2 _ (getD_mem l _ i hi))
      refine ⟨K + K2 + 1, fun k hk => ?_⟩
      obtain ⟨m, rfl⟩ : ∃ m, k = m + 1 := ⟨k - 1, by omega⟩
      have e1 := hr m (by omega)
      have e2 := e2 m (by omega)
      show laws_toHoldS.l0 (m + 1) l out (i : Int) = some r
      rw [laws_toHoldS.l0, if_pos (by omega), if_pos (by omega)]
      refine (congrArg (fun o => Option.bind o _) (show _ = some _ from e2)).trans ?_
      simp only [Option.bind_some]
      rw [if_pos (by omega), wrap_id _ (by omega) (by omega)]
      exact e1
    · intro out ho
      refine ⟨1, fun k hk => ?_⟩
      obtain ⟨m, rfl⟩ : ∃ m, k = m + 1 := ⟨k - 1, by omega⟩
      show laws_toHoldS.l0 (m + 1) l out (l.length : Int) = some out
      rw [laws_toHoldS.l0, if_neg (by omega)]
  obtain ⟨K, key⟩ := key
  refine ⟨K, fun k hk => ?_⟩
  show laws_toHoldS.f k l = _
  unfold laws_toHoldS.f
  rw [if_pos (by omega), if_pos (by omega)]
  exact key k hk
theorem eq38 (x : S38) (h : sm38 x) : Ev (fun k => laws_eqHold.f x.f0 x.f1 x.f2 x.f0 x.f1 x.f2) true := by
  refine ⟨0, fun k hk => ?_⟩
  show laws_eqHold.f x.f0 x.f1 x.f2 x.f0 x.f1 x.f2 = _
  unfold laws_eqHold.f
  simp []
theorem eq30 (l : List (S38)) (h : (l.length ≤ 1048576 ∧ ∀ y_ ∈ l, sm38 y_)) : Ev (fun k => laws_eqHoldS.f k l l) true := by
  have hn : l.length ≤ 1048576 := h.1
  have key : Ev (fun k => laws_eqHoldS.l0 k l l 0) true := by
    refine go_loop l.length (fun k i => laws_eqHoldS.l0 k l l i) true ?_ ?_
    · intro i hi hr
      obtain ⟨K, hr⟩ := hr
      obtain ⟨K2, e2⟩ := eq38 (l.getD i z38) (h.2 _ (getD_mem l _ i hi))
      refine ⟨K + K2 + 1, fun k hk => ?_⟩
      obtain ⟨m, rfl⟩ : ∃ m, k = m + 1 := ⟨k - 1, by omega⟩
      have e1 := hr m (by omega)
      have e2 := e2 m (by omega)
      show laws_eqHoldS.l0 (m + 1) l l (i : Int) = some true
      rw [laws_eqHoldS.l0, if_pos (by omega), if_pos (by omega), if_pos (by omega)]
      refine (congrArg (fun o => Option.bind o _) (show _ = some true from e2)).trans ?_
      simp only [Option.bind_some, if_true]
      rw [wrap_id _ (by omega) (by omega)]
      exact e1
    · refine ⟨1, fun k hk => ?_⟩
      obtain ⟨m, rfl⟩ : ∃ m, k = m + 1 := ⟨k - 1, by omega⟩
      show laws_eqHoldS.l0 (m + 1) l l (l.length : Int) = some true
      rw [laws_eqHoldS.l0, if_neg (by omega)]
  obtain ⟨K, key⟩ := key
  refine ⟨K, fun k hk => ?_⟩
  show laws_eqHoldS.f k l l = _
  unfold laws_eqHoldS.f
  rw [if_pos rfl]
  exact key k hk
theorem eq56 (l : List (Int)) (h : (l.length ≤ 1048576)) : Ev (fun k => laws_eqIntS.f k l l) true := by
  have hn : l.length ≤ 1048576 := h
  have key : Ev (fun k => laws_eqIntS.l0 k l l 0) true := by
    refine go_loop l.length (fun k i => laws_eqIntS.l0 k l l i) true ?_ ?_
    · intro i hi hr
      obtain ⟨K, hr⟩ := hr
      refine ⟨K + 1, fun k hk => ?_⟩
      obtain ⟨m, rfl⟩ : ∃ m, k = m + 1 := ⟨k - 1, by omega⟩
      have e1 := hr m (by omega)
      show laws_eqIntS.l0 (m + 1) l l (i : Int) = some true
      rw [laws_eqIntS.l0, if_pos (by omega), if_pos (by omega), if_pos (by omega)]
      first | rw [if_pos rfl, wrap_id _ (by omega) (by omega)] | rw [if_neg (by simp), wrap_id _ (by omega) (by omega)]
      exact e1
    · refine ⟨1, fun k hk => ?_⟩
      obtain ⟨m, rfl⟩ : ∃ m, k = m + 1 := ⟨k - 1, by omega⟩
      show laws_eqIntS.l0 (m + 1) l l (l.length : Int) = some true
      rw [laws_eqIntS.l0, if_neg (by omega)]
  obtain ⟨K, key⟩ := key
  refine ⟨K, fun k hk => ?_⟩
  show laws_eqIntS.f k l l = _
  unfold laws_eqIntS.f
  rw [if_pos rfl]
  exact key k hk
theorem eq64 (x : S64) (h : sm64 x) : Ev (fun k => laws_eqNode.f k x.f0 x.f1 x.f2 x.f3 x.f4 x.f0 x.f1 x.f2 x.f3 x.f4) true := by
  obtain ⟨K4, e4⟩ := eq56 x.f4 h.2.2.2.2
  refine ⟨0 + K4, fun k hk => ?_⟩
  have e4 := e4 k (by omega)
  show laws_eqNode.f k x.f0 x.f1 x.f2 x.f3 x.f4 x.f0 x.f1 x.f2 x.f3 x.f4 = _
  unfold laws_eqNode.f
  simp [e4]
theorem eq33 (l : List (S64)) (h : (l.length ≤ 1048576 ∧ ∀ y_ ∈ l, sm64 y_)) : Ev (fun k => laws_eqNodeS.f k l l) true := by
  have hn : l.length ≤ 1048576 := h.1
  have key : Ev (fun k => laws_eqNodeS.l0 k l l 0) true := by
    refine go_loop l.length (fun k i => laws_eqNodeS.l0 k l l i) true ?_ ?_
    · intro i hi hr
      obtain ⟨K, hr⟩ := hr
      obtain ⟨K2, e2⟩ := eq64 (l.getD i z64) (h.2 _ (getD_mem l _ i hi))
      refine ⟨K + K2 + 1, fun k hk => ?_⟩
      obtain ⟨m, rfl⟩ : ∃ m, k = m + 1 := ⟨k - 1, by omega⟩
      have e1 := hr m (by omega)
      have e2 := e2 m (by omega)
      show laws_eqNodeS.l0 (m + 1) l l (i : Int) = some true
      rw [laws_eqNodeS.l0, if_pos (by omega), if_pos (by omega), if_pos (by omega)]
      refine (congrArg (fun o => Option.bind o _) (show _ = some true from e2)).trans ?_
      simp only [Option.bind_some, if_true]
      rw [wrap_id _ (by omega) (by omega)]
      exact e1
    · refine ⟨1, fun k hk => ?_⟩
      obtain ⟨m, rfl⟩ : ∃ m, k = m + 1 := ⟨k - 1, by omega⟩
      show laws_eqNodeS.l0 (m + 1) l l (l.length : Int) = some true
      rw [laws_eqNodeS.l0, if_neg (by omega)]
  obtain ⟨K, key⟩ := key
  refine ⟨K, fun k hk => ?_⟩
  show laws_eqNodeS.f k l l = _
  unfold laws_eqNodeS.f
  rw [if_pos rfl]
  exact key k hk
theorem eq35 (x : S35) (h : sm35 x) : Ev (fun k => laws_eqDoc.f k x.f0 x.f1 x.f2 x.f0 x.f1 x.f2) true := by
  obtain ⟨K2, e2⟩ := eq33 x.f2 h.2.2
  refine ⟨0 + K2, fun k hk => ?_⟩
  have e2 := e2 k (by omega)
  show laws_eqDoc.f k x.f0 x.f1 x.f2 x.f0 x.f1 x.f2 = _
  unfold laws_eqDoc.f
  simp [e2]
theorem sz56 (l : List (Int)) (o : (l.length ≤ maxLen ∧ ∀ y_ ∈ l, (fun (n : Int) => (Lit.int .i64 n).wf = true) y_)) (left : Int) (h0 : 0 ≤ left) (h1 : left ≤ 1048576) : ∃ v : Int, Ev (fun k => laws_szIntS.f l left) v ∧ v ≤ left ∧ (v < 0 ∨ 0 ≤ v ∧ (l.length ≤ 1048576)) := by
  have hM : maxLen = 9223372036854775807 := rfl
  have o1 : l.length ≤ maxLen := o.1
  have w : wrap64 (left - (l.length : Int)) = left - (l.length : Int) := wrap_id _ (by omega) (by omega)
  by_cases c : left - (l.length : Int) < 0
  · refine ⟨-1, ⟨0, fun k hk => ?_⟩, by omega, .inl (by omega)⟩
    show laws_szIntS.f l left = _
    unfold laws_szIntS.f
    simp only [w, if_pos c]
  · refine ⟨left - (l.length : Int), ⟨0, fun k hk => ?_⟩, by omega, .inr ⟨by omega, by omega⟩⟩
    show laws_szIntS.f l left = _
    unfold laws_szIntS.f
    simp only [w, if_neg c]
theorem sz144 (x : S144) (o : ok144 x) (left : Int) (h0 : 0 ≤ left) (h1 : left ≤ 1048576) : ∃ v : Int, Ev (fun k => laws_szNode.f x.f0 x.f1 x.f2 x.f3 x.f4 left) v ∧ v ≤ left ∧ (v < 0 ∨ 0 ≤ v ∧ sm144 x) := by
  have hM : maxLen = 9223372036854775807 := rfl
  have o3 : x.f3.size ≤ maxLen := o.2.2.2.1
  obtain ⟨v3, hv3⟩ : ∃ v : Int, v = left - (x.f3.size : Int) := ⟨_, rfl⟩
  have w3 : wrap64 (left - (x.f3.size : Int)) = v3 := (wrap_id _ (by omega) (by omega)).trans hv3.symm
  have s3 : v3 < 0 ∨ 0 ≤ v3 ∧ x.f3.size ≤ 1048576 := by omega
  have l3 : v3 ≤ left := by omega
  by_cases c3 : v3 < 0
  · refine ⟨-1, ⟨0, fun k hk => ?_⟩, by omega, .inl (by omega)⟩
    show laws_szNode.f x.f0 x.f1 x.f2 x.f3 x.f4 left = _
    unfold laws_szNode.f
    simp only [w3, if_pos c3, Option.bind_some]
  obtain ⟨v4, ⟨K4, e4⟩, l4, s4⟩ := sz56 x.f4 o.2.2.2.2 v3 (by omega) (by omega)
  by_cases c4 : v4 < 0
  · refine ⟨-1, ⟨0 + K4, fun k hk => ?_⟩, by omega, .inl (by omega)⟩
    have e4 := e4 k (by omega)
    show laws_szNode.f x.f0 x.f1 x.f2 x.f3 x.f4 left = _
    unfold laws_szNode.f
    simp only [w3, if_neg c3, e4, if_pos c4, Option.bind_some]
  refine ⟨v4, ⟨0 + K4, fun k hk => ?_⟩, by omega, .inr ⟨by omega, ?_⟩⟩
  · have e4 := e4 k (by omega)
    show laws_szNode.f x.f0 x.f1 x.f2 x.f3 x.f4 left = _
    unfold laws_szNode.f
    simp only [w3, if_neg c3, e4, if_neg c4, Option.bind_some]
  · exact ⟨trivial, trivial, trivial, (by rcases s3 with h_ | h_ <;> first | exact h_.2 | exact absurd h_ c3), (by rcases s4 with h_ | h_ <;> first | exact h_.2 | exact absurd h_ c4)⟩
theorem sz22 (l : List (S144)) (o : (l.length ≤ maxLen ∧ ∀ y_ ∈ l, ok144 y_)) (left : Int) (h0 : 0 ≤ left) (h1 : left ≤ 1048576) : ∃ v : Int, Ev (fun k => laws_szNodeS.f k l left) v ∧ v ≤ left ∧ (v < 0 ∨ 0 ≤ v ∧ (l.length ≤ 1048576 ∧ ∀ y_ ∈ l, sm144 y_)) := by
  have hM : maxLen = 9223372036854775807 := rfl
  have o1 : l.length ≤ maxLen := o.1
  have w : wrap64 (left - (l.length : Int)) = left - (l.length : Int) := wrap_id _ (by omega) (by omega)
  by_cases c : left - (l.length : Int) < 0
  · refine ⟨-1, ⟨0, fun k hk => ?_⟩, by omega, .inl (by omega)⟩
    show laws_szNodeS.f k l left = _
    unfold laws_szNodeS.f
    simp only [w, if_pos c]
  · have key := sz_loop l z144 sm144 (fun k left i => laws_szNodeS.l0 k l left i) ?_ ?_ (left - (l.length : Int)) (by omega) (by omega)
    · obtain ⟨v, ⟨K, ev⟩, hle, hP⟩ := key
      refine ⟨v, ⟨K, fun k hk => ?_⟩, by omega, ?_⟩
      · show laws_szNodeS.f k l left = _
        unfold laws_szNodeS.f
        simp only [w, if_neg c]
        exact ev k hk
      · rcases hP with h | h
        · exact .inl h
        · exact .inr ⟨h.1, ⟨by omega, h.2⟩⟩
    · intro i left hi g0 g1
      obtain ⟨v, ⟨K2, e2⟩, hle, hP⟩ := sz144 (l.getD i z144) (o.2 _ (getD_mem l _ i hi)) left g0 g1
      refine ⟨v, hle, hP, ?_, ?_⟩
      · intro hv
        refine ⟨K2 + 1, fun k hk => ?_⟩
        obtain ⟨m, rfl⟩ : ∃ m, k = m + 1 := ⟨k - 1, by omega⟩
        have e2 := e2 m (by omega)
        show laws_szNodeS.l0 (m + 1) l left (i : Int) = _
        rw [laws_szNodeS.l0, if_pos (by omega), if_pos (by omega)]
        refine (congrArg (fun o => Option.bind o _) (show _ = some _ from e2)).trans ?_
        simp only [Option.bind_some]
        rw [if_pos hv]
      · intro hv r hr
        obtain ⟨K, hr⟩ := hr
        refine ⟨K + K2 + 1, fun k hk => ?_⟩
        obtain ⟨m, rfl⟩ : ∃ m, k = m + 1 := ⟨k - 1, by omega⟩
        have e1 := hr m (by omega)
        have e2 := e2 m (by omega)
        show laws_szNodeS.l0 (m + 1) l left (i : Int) = _
        rw [laws_szNodeS.l0, if_pos (by omega), if_pos (by omega)]
        refine (congrArg (fun o => Option.bind o _) (show _ = some _ from e2)).trans ?_
        simp only [Option.bind_some]
        rw [if_neg (by omega), wrap_id _ (by omega) (by omega)]
        exact e1
    · intro left
      refine ⟨1, fun k hk => ?_⟩
      obtain ⟨m, rfl⟩ : ∃ m, k = m + 1 := ⟨k - 1, by omega⟩
      show laws_szNodeS.l0 (m + 1) l left (l.length : Int) = some left
      rw [laws_szNodeS.l0, if_neg (by omega)]
theorem sz24 (x : S24) (o : ok24 x) (left : Int) (h0 : 0 ≤ left) (h1 : left ≤ 1048576) : ∃ v : Int, Ev (fun k => laws_szDoc.f k x.f0 x.f1 x.f2 left) v ∧ v ≤ left ∧ (v < 0 ∨ 0 ≤ v ∧ sm24 x) := by
  obtain ⟨v2, ⟨K2, e2⟩, l2, s2⟩ := sz22 x.f2 o.2.2 left (by omega) (by omega)
  by_cases c2 : v2 < 0
  · refine ⟨-1, ⟨0 + K2, fun k hk => ?_⟩, by omega, .inl (by omega)⟩
    have e2 := e2 k (by omega)
    show laws_szDoc.f k x.f0 x.f1 x.f2 left = _
    unfold laws_szDoc.f
    simp only [e2, if_pos c2, Option.bind_some]
  refine ⟨v2, ⟨0 + K2, fun k hk => ?_⟩, by omega, .inr ⟨by omega, ?_⟩⟩
  · have e2 := e2 k (by omega)
    show laws_szDoc.f k x.f0 x.f1 x.f2 left = _
    unfold laws_szDoc.f
    simp only [e2, if_neg c2, Option.bind_some]
  · exact ⟨trivial, trivial, (by rcases s2 with h_ | h_ <;> first | exact h_.2 | exact absurd h_ c2)⟩
theorem sz25 (l : List (S27)) (o : (l.length ≤ maxLen ∧ ∀ y_ ∈ l, ok27 y_)) (left : Int) (h0 : 0 ≤ left) (h1 : left ≤ 1048576) : ∃ v : Int, Ev (fun k => laws_szHoldS.f l left) v ∧ v ≤ left ∧ (v < 0 ∨ 0 ≤ v ∧ (l.length ≤ 1048576 ∧ ∀ y_ ∈ l, sm27 y_)) := by
  have hM : maxLen = 9223372036854775807 := rfl
  have o1 : l.length ≤ maxLen := o.1
  have w : wrap64 (left - (l.length : Int)) = left - (l.length : Int) := wrap_id _ (by omega) (by omega)
  by_cases c : left - (l.length : Int) < 0
  · refine ⟨-1, ⟨0, fun k hk => ?_⟩, by omega, .inl (by omega)⟩
    show laws_szHoldS.f l left = _
    unfold laws_szHoldS.f
    simp only [w, if_pos c]
  · refine ⟨left - (l.length : Int), ⟨0, fun k hk => ?_⟩, by omega, .inr ⟨by omega, ⟨by omega, fun y _ => by simp [sm27]⟩⟩⟩
    show laws_szHoldS.f l left = _
    unfold laws_szHoldS.f
    simp only [w, if_neg c]
end Go.Proofs.Ytocelbmpnjnnbaa.XA
