/- Words and contracts of this claim. Conditions: each theorem's own premises. -/
import Derived.Test.YtahhgjkgfbppeaaGreatZ1
import Derived.Test.YtahhgjkgfbppeaaGreatZ12
import Derived.Test.YtahhgjkgfbppeaaGreatZ13
import Derived.Test.YtahhgjkgfbppeaaGreatZ10
import Derived.Test.YtahhgjkgfbppeaaGreatZ3
import Derived.Test.YtahhgjkgfbppeaaGreatZ8
section
namespace Go.Proofs.YtahhgjkgfbppeaaGreat.XA
open Go.RowKit Go.Proofs.YtahhgjkgfbppeaaGreatW.PrintWords Go.Proofs.YtahhgjkgfbppeaaGreatW.PrintLast Go.Proofs.YtahhgjkgfbppeaaGreatW.PrintMore Go.Proofs.YtahhgjkgfbppeaaGreat.Pk
set_option linter.unusedVariables false
set_option linter.unusedSimpArgs false
theorem to30 (l : List (Int)) (h : (l.length ≤ 1048576)) : Ev (fun k => laws_toIntS.f k l) l := by
  have hn : l.length ≤ 1048576 := h
  have key : Ev (fun k => laws_toIntS.l0 k l (List.replicate l.length 0) 0) (l.map (fun y => y)) := by
    refine fill_loop l (fun y => y) 0 0 (fun k out i => laws_toIntS.l0 k l out i) ?_ ?_
    · intro i out r hi ho hr
      obtain ⟨K, hr⟩ := hr
      refine ⟨K + 1, fun k hk => ?_⟩
      obtain ⟨m, rfl⟩ : ∃ m, k = m + 1 := ⟨k - 1, by omega⟩
      have e1 := hr m (by omega)
      show laws_toIntS.l0 (m + 1) l out (i : Int) = some r
      rw [laws_toIntS.l0, if_pos (by omega), if_pos (by omega)]
      rw [if_pos (by omega), wrap_id _ (by omega) (by omega)]
      exact e1
    · intro out ho
      refine ⟨1, fun k hk => ?_⟩
      obtain ⟨m, rfl⟩ : ∃ m, k = m + 1 := ⟨k - 1, by omega⟩
      show laws_toIntS.l0 (m + 1) l out (l.length : Int) = some out
      rw [laws_toIntS.l0, if_neg (by omega)]
  rw [List.map_id'] at key
  obtain ⟨K, key⟩ := key
  refine ⟨K, fun k hk => ?_⟩
  show laws_toIntS.f k l = _
  unfold laws_toIntS.f
  rw [if_pos (by omega), if_pos (by omega)]
  exact key k hk
def sm109 (x : S109) : Prop := True ∧ True ∧ True ∧ x.f3.size ≤ 1048576 ∧ (x.f4.length ≤ 1048576)
def cv109 (x : S109) : S113 := ⟨x.f0, x.f1, x.f2, x.f3, x.f4⟩
def sm113 (x : S113) : Prop := True ∧ True ∧ True ∧ x.f3.size ≤ 1048576 ∧ (x.f4.length ≤ 1048576)
theorem smcv109 (x : S109) (h : sm109 x) : sm113 (cv109 x) := by
  obtain ⟨h0, h1, h2, h3, h4⟩ := h
  exact ⟨h0, h1, h2, h3, h4⟩
theorem to109 (x : S109) (h : sm109 x) : Ev (fun k => laws_toNode.f k x.f0 x.f1 x.f2 x.f3 x.f4) (x.f0, x.f1, x.f2, x.f3, x.f4) := by
  obtain ⟨K4, e4⟩ := to30 x.f4 h.2.2.2.2
  refine ⟨0 + K4, fun k hk => ?_⟩
  have e4 := e4 k (by omega)
  show laws_toNode.f k x.f0 x.f1 x.f2 x.f3 x.f4 = _
  unfold laws_toNode.f
  simp only [e4, Option.bind_some]
  try rfl
theorem to22 (l : List (S109)) (h : (l.length ≤ 1048576 ∧ ∀ y_ ∈ l, sm109 y_)) : Ev (fun k => laws_toNodeS.f k l) (l.map cv109) := by
  have hn : l.length ≤ 1048576 := h.1
  have key : Ev (fun k => laws_toNodeS.l0 k l (List.replicate l.length z113) 0) (l.map cv109) := by
    refine fill_loop l cv109 z109 z113 (fun k out i => laws_toNodeS.l0 k l out i) ?_ ?_
    · intro i out r hi ho hr
      obtain ⟨K, hr⟩ := hr
      obtain ⟨K2, e2⟩ := to109 (l.getD i z109) (h.2 _ (getD_mem l _ i hi))
      refine ⟨K + K2 + 1, fun k hk => ?_⟩
      obtain ⟨m, rfl⟩ : ∃ m, k = m + 1 := ⟨k - 1, by omega⟩
      have e1 := hr m (by omega)
      have e2 := e2 m (by omega)
      show laws_toNodeS.l0 (m + 1) l out (i : Int) = some r
      rw [laws_toNodeS.l0, if_pos (by omega), if_pos (by omega)]
      refine (congrArg (fun o => Option.bind o _) (show _ = some _ from e2)).trans ?_
      simp only [Option.bind_some]
      rw [if_pos (by omega), wrap_id _ (by omega) (by omega)]
      exact e1
    · intro out ho
      refine ⟨1, fun k hk => ?_⟩
      obtain ⟨m, rfl⟩ : ∃ m, k = m + 1 := ⟨k - 1, by omega⟩
      show laws_toNodeS.l0 (m + 1) l out (l.length : Int) = some out
      rw [laws_toNodeS.l0, if_neg (by omega)]
  obtain ⟨K, key⟩ := key
  refine ⟨K, fun k hk => ?_⟩
  show laws_toNodeS.f k l = _
  unfold laws_toNodeS.f
  rw [if_pos (by omega), if_pos (by omega)]
  exact key k hk
def sm24 (x : S24) : Prop := True ∧ True ∧ (x.f2.length ≤ 1048576 ∧ ∀ y_ ∈ x.f2, sm109 y_)
def cv24 (x : S24) : S35 := ⟨x.f0, x.f1, (x.f2.map cv109)⟩
def sm35 (x : S35) : Prop := True ∧ True ∧ (x.f2.length ≤ 1048576 ∧ ∀ y_ ∈ x.f2, sm113 y_)
theorem smcv24 (x : S24) (h : sm24 x) : sm35 (cv24 x) := by
  obtain ⟨h0, h1, h2⟩ := h
  exact ⟨h0, h1, ⟨Nat.le_trans (Nat.le_of_eq (show (x.f2.map cv109).length = _ from List.length_map _)) h2.1, fun y hy => by obtain ⟨z, hz, rfl⟩ := (List.mem_map (f := cv109) (l := x.f2)).1 hy; exact (smcv109 _ (h2.2 z hz))⟩⟩
theorem to24 (x : S24) (h : sm24 x) : Ev (fun k => laws_toDoc.f k x.f0 x.f1 x.f2) (x.f0, x.f1, (x.f2.map cv109)) := by
  obtain ⟨K2, e2⟩ := to22 x.f2 h.2.2
  refine ⟨0 + K2, fun k hk => ?_⟩
  have e2 := e2 k (by omega)
  show laws_toDoc.f k x.f0 x.f1 x.f2 = _
  unfold laws_toDoc.f
  simp only [e2, Option.bind_some]
  try rfl
def sm27 (x : S27) : Prop := True ∧ True ∧ True
def cv27 (x : S27) : S39 := ⟨x.f0, x.f1, x.f2⟩
def sm39 (x : S39) : Prop := True ∧ True ∧ True
theorem smcv27 (x : S27) (h : sm27 x) : sm39 (cv27 x) := by
  obtain ⟨h0, h1, h2⟩ := h
  exact ⟨h0, h1, h2⟩
theorem to27 (x : S27) (h : sm27 x) : Ev (fun k => laws_toHold.f x.f0 x.f1 x.f2) (x.f0, x.f1, x.f2) := by
  refine ⟨0, fun k hk => ?_⟩
  show laws_toHold.f x.f0 x.f1 x.f2 = _
  unfold laws_toHold.f
  rfl
theorem to25 (l : List (S27)) (h : (l.length ≤ 1048576 ∧ ∀ y_ ∈ l, sm27 y_)) : Ev (fun k => laws_toHoldS.f k l) (l.map cv27) := by
  have hn : l.length ≤ 1048576 := h.1
  have key : Ev (fun k => laws_toHoldS.l0 k l (List.replicate l.length z39) 0) (l.map cv27) := by
    refine fill_loop l cv27 z27 z39 (fun k out i => laws_toHoldS.l0 k l out i) ?_ ?_
    · intro i out r hi ho hr
      obtain ⟨K, hr⟩ := hr
      obtain ⟨K2, e2⟩ := to27 (l.getD i z27) (h.2 _ (getD_mem l _ i hi))
      refine ⟨K + K2 + 1, fun k hk => ?_⟩
      obtain ⟨m, rfl⟩ : ∃ m, k = m + 1 := ⟨k - 1, by omega⟩
      have e1 := hr m (by omega)
      have e2 := e2 m (by omega)
      show laws_toHoldS.l0 (m + 1) l out (i : Int) = some r
      rw [laws_toHoldS.l0, if_pos (by omega), if_pos (by omega)]
      refine (congrArg (fun o => Option.bind o _) (show _ = some _ from e2)).trans ?_
      simp only [Option.bind_some]
      rw [if_pos (by omega), wrap_id _ (by omega) (by omega)]
      exact e1
    · intro out ho
      refine ⟨1, fun k hk => ?_⟩
      obtain ⟨m, rfl⟩ : ∃ m, k = m + 1 := ⟨k - 1, by omega⟩
      show laws_toHoldS.l0 (m + 1) l out (l.length : Int) = some out
      rw [laws_toHoldS.l0, if_neg (by omega)]
  obtain ⟨K, key⟩ := key
  refine ⟨K, fun k hk => ?_⟩
  show laws_toHoldS.f k l = _
  unfold laws_toHoldS.f
  rw [if_pos (by omega), if_pos (by omega)]
  exact key k hk
def sm49 (x : S49) : Prop := (x.f0.length ≤ 1048576 ∧ ∀ y_ ∈ x.f0, sm27 y_) ∧ (x.f1.length ≤ 1048576 ∧ ∀ y_ ∈ x.f1, sm27 y_)
def cv49 (x : S49) : S53 := ⟨(x.f0.map cv27), (x.f1.map cv27)⟩
def sm53 (x : S53) : Prop := (x.f0.length ≤ 1048576 ∧ ∀ y_ ∈ x.f0, sm39 y_) ∧ (x.f1.length ≤ 1048576 ∧ ∀ y_ ∈ x.f1, sm39 y_)
theorem smcv49 (x : S49) (h : sm49 x) : sm53 (cv49 x) := by
  obtain ⟨h0, h1⟩ := h
  exact ⟨⟨Nat.le_trans (Nat.le_of_eq (show (x.f0.map cv27).length = _ from List.length_map _)) h0.1, fun y hy => by obtain ⟨z, hz, rfl⟩ := (List.mem_map (f := cv27) (l := x.f0)).1 hy; exact (smcv27 _ (h0.2 z hz))⟩, ⟨Nat.le_trans (Nat.le_of_eq (show (x.f1.map cv27).length = _ from List.length_map _)) h1.1, fun y hy => by obtain ⟨z, hz, rfl⟩ := (List.mem_map (f := cv27) (l := x.f1)).1 hy; exact (smcv27 _ (h1.2 z hz))⟩⟩
theorem to49 (x : S49) (h : sm49 x) : Ev (fun k => laws_toTable.f k x.f0 x.f1) ((x.f0.map cv27), (x.f1.map cv27)) := by
  obtain ⟨K0, e0⟩ := to25 x.f0 h.1
  obtain ⟨K1, e1⟩ := to25 x.f1 h.2
  refine ⟨0 + K0 + K1, fun k hk => ?_⟩
  have e0 := e0 k (by omega)
  have e1 := e1 k (by omega)
  show laws_toTable.f k x.f0 x.f1 = _
  unfold laws_toTable.f
  simp only [e0, e1, Option.bind_some]
  try rfl
theorem eq30 (l : List (Int)) (h : (l.length ≤ 1048576)) : Ev (fun k => laws_eqIntS.f k l l) true := by
  have hn : l.length ≤ 1048576 := h
  have key : Ev (fun k => laws_eqIntS.l0 k l l 0) true := by
    refine go_loop l.length (fun k i => laws_eqIntS.l0 k l l i) true ?_ ?_
    · intro i hi hr
      obtain ⟨K, hr⟩ := hr
      refine ⟨K + 1, fun k hk => ?_⟩
      obtain ⟨m, rfl⟩ : ∃ m, k = m + 1 := ⟨k - 1, by omega⟩
      have e1 := hr m (by omega)
      show laws_eqIntS.l0 (m + 1) l l (i : Int) = some true
      rw [laws_eqIntS.l0, if_pos (by omega), if_pos (by omega), if_pos (by omega)]
      first | rw [if_pos rfl, wrap_id _ (by omega) (by omega)] | rw [if_neg (by simp), wrap_id _ (by omega) (by omega)]
      exact e1
    · refine ⟨1, fun k hk => ?_⟩
      obtain ⟨m, rfl⟩ : ∃ m, k = m + 1 := ⟨k - 1, by omega⟩
      show laws_eqIntS.l0 (m + 1) l l (l.length : Int) = some true
      rw [laws_eqIntS.l0, if_neg (by omega)]
  obtain ⟨K, key⟩ := key
  refine ⟨K, fun k hk => ?_⟩
  show laws_eqIntS.f k l l = _
  unfold laws_eqIntS.f
  rw [if_pos rfl]
  exact key k hk
theorem eq113 (x : S113) (h : sm113 x) : Ev (fun k => laws_eqNode.f k x.f0 x.f1 x.f2 x.f3 x.f4 x.f0 x.f1 x.f2 x.f3 x.f4) true := by
  obtain ⟨K4, e4⟩ := eq30 x.f4 h.2.2.2.2
  refine ⟨0 + K4, fun k hk => ?_⟩
  have e4 := e4 k (by omega)
  show laws_eqNode.f k x.f0 x.f1 x.f2 x.f3 x.f4 x.f0 x.f1 x.f2 x.f3 x.f4 = _
  unfold laws_eqNode.f
  simp [e4]
theorem eq33 (l : List (S113)) (h : (l.length ≤ 1048576 ∧ ∀ y_ ∈ l, sm113 y_)) : Ev (fun k => laws_eqNodeS.f k l l) true := by
  have hn : l.length ≤ 1048576 := h.1
  have key : Ev (fun k => laws_eqNodeS.l0 k l l 0) true := by
    refine go_loop l.length (fun k i => laws_eqNodeS.l0 k l l i) true ?_ ?_
    · intro i hi hr
      obtain ⟨K, hr⟩ := hr
      obtain ⟨K2, e2⟩ := eq113 (l.getD i z113) (h.2 _ (getD_mem l _ i hi))
      refine ⟨K + K2 + 1, fun k hk => ?_⟩
      obtain ⟨m, rfl⟩ : ∃ m, k = m + 1 := ⟨k - 1, by omega⟩
      have e1 := hr m (by omega)
      have e2 := e2 m (by omega)
      show laws_eqNodeS.l0 (m + 1) l l (i : Int) = some true
      rw [laws_eqNodeS.l0, if_pos (by omega), if_pos (by omega), if_pos (by omega)]
      refine (congrArg (fun o => Option.bind o _) (show _ = some true from e2)).trans ?_
      simp only [Option.bind_some, if_true]
      rw [wrap_id _ (by omega) (by omega)]
      exact e1
    · refine ⟨1, fun k hk => ?_⟩
      obtain ⟨m, rfl⟩ : ∃ m, k = m + 1 := ⟨k - 1, by omega⟩
      show laws_eqNodeS.l0 (m + 1) l l (l.length : Int) = some true
      rw [laws_eqNodeS.l0, if_neg (by omega)]
  obtain ⟨K, key⟩ := key
  refine ⟨K, fun k hk => ?_⟩
  show laws_eqNodeS.f k l l = _
  unfold laws_eqNodeS.f
  rw [if_pos rfl]
  exact key k hk
theorem eq35 (x : S35) (h : sm35 x) : Ev (fun k => laws_eqDoc.f k x.f0 x.f1 x.f2 x.f0 x.f1 x.f2) true := by
  obtain ⟨K2, e2⟩ := eq33 x.f2 h.2.2
  refine ⟨0 + K2, fun k hk => ?_⟩
  have e2 := e2 k (by omega)
  show laws_eqDoc.f k x.f0 x.f1 x.f2 x.f0 x.f1 x.f2 = _
  unfold laws_eqDoc.f
  simp [e2]
theorem eq39 (x : S39) (h : sm39 x) : Ev (fun k => laws_eqHold.f x.f0 x.f1 x.f2 x.f0 x.f1 x.f2) true := by
  refine ⟨0, fun k hk => ?_⟩
  show laws_eqHold.f x.f0 x.f1 x.f2 x.f0 x.f1 x.f2 = _
  unfold laws_eqHold.f
  simp []
theorem eq37 (l : List (S39)) (h : (l.length ≤ 1048576 ∧ ∀ y_ ∈ l, sm39 y_)) : Ev (fun k => laws_eqHoldS.f k l l) true := by
  have hn : l.length ≤ 1048576 := h.1
  have key : Ev (fun k => laws_eqHoldS.l0 k l l 0) true := by
    refine go_loop l.length (fun k i => laws_eqHoldS.l0 k l l i) true ?_ ?_
    · intro i hi hr
      obtain ⟨K, hr⟩ := hr
      obtain ⟨K2, e2⟩ := eq39 (l.getD i z39) (h.2 _ (getD_mem l _ i hi))
      refine ⟨K + K2 + 1, fun k hk => ?_⟩
      obtain ⟨m, rfl⟩ : ∃ m, k = m + 1 := ⟨k - 1, by omega⟩
      have e1 := hr m (by omega)
      have e2 := e2 m (by omega)
      show laws_eqHoldS.l0 (m + 1) l l (i : Int) = some true
      rw [laws_eqHoldS.l0, if_pos (by omega), if_pos (by omega), if_pos (by omega)]
      refine (congrArg (fun o => Option.bind o _) (show _ = some true from e2)).trans ?_
      simp only [Option.bind_some, if_true]
      rw [wrap_id _ (by omega) (by omega)]
      exact e1
    · refine ⟨1, fun k hk => ?_⟩
      obtain ⟨m, rfl⟩ : ∃ m, k = m + 1 := ⟨k - 1, by omega⟩
      show laws_eqHoldS.l0 (m + 1) l l (l.length : Int) = some true
      rw [laws_eqHoldS.l0, if_neg (by omega)]
  obtain ⟨K, key⟩ := key
  refine ⟨K, fun k hk => ?_⟩
  show laws_eqHoldS.f k l l = _
  unfold laws_eqHoldS.f
  rw [if_pos rfl]
  exact key k hk
theorem eq53 (x : S53) (h : sm53 x) : Ev (fun k => laws_eqTable.f k x.f0 x.f1 x.f0 x.f1) true := by
  obtain ⟨K0, e0⟩ := eq37 x.f0 h.1
  obtain ⟨K1, e1⟩ := eq37 x.f1 h.2
  refine ⟨0 + K0 + K1, fun k hk => ?_⟩
  have e0 := e0 k (by omega)
  have e1 := e1 k (by omega)
  show laws_eqTable.f k x.f0 x.f1 x.f0 x.f1 = _
  unfold laws_eqTable.f
  simp [e0, e1]
theorem sz30 (l : List (Int)) (o : (l.length ≤ maxLen ∧ ∀ y_ ∈ l, (fun (n : Int) => (Lit.int .i64 n).wf = true) y_)) (left : Int) (h0 : 0 ≤ left) (h1 : left ≤ 1048576) : ∃ v : Int, Ev (fun k => laws_szIntS.f l left) v ∧ v ≤ left ∧ (v < 0 ∨ 0 ≤ v ∧ (l.length ≤ 1048576)) := by
  have hM : maxLen = 9223372036854775807 := rfl
  have o1 : l.length ≤ maxLen := o.1
  have w : wrap64 (left - (l.length : Int)) = left - (l.length : Int) := wrap_id _ (by omega) (by omega)
  by_cases c : left - (l.length : Int) < 0
  · refine ⟨-1, ⟨0, fun k hk => ?_⟩, by omega, .inl (by omega)⟩
    show laws_szIntS.f l left = _
    unfold laws_szIntS.f
    simp only [w, if_pos c]
  · refine ⟨left - (l.length : Int), ⟨0, fun k hk => ?_⟩, by omega, .inr ⟨by omega, by omega⟩⟩
    show laws_szIntS.f l left = _
    unfold laws_szIntS.f
    simp only [w, if_neg c]
theorem sz109 (x : S109) (o : ok109 x) (left : Int) (h0 : 0 ≤ left) (h1 : left ≤ 1048576) : ∃ v : Int, Ev (fun k => laws_szNode.f x.f0 x.f1 x.f2 x.f3 x.f4 left) v ∧ v ≤ left ∧ (v < 0 ∨ 0 ≤ v ∧ sm109 x) := by
  have hM : maxLen = 9223372036854775807 := rfl
  have o3 : x.f3.size ≤ maxLen := o.2.2.2.1
  obtain ⟨v3, hv3⟩ : ∃ v : Int, v = left - (x.f3.size : Int) := ⟨_, rfl⟩
  have w3 : wrap64 (left - (x.f3.size : Int)) = v3 := (wrap_id _ (by omega) (by omega)).trans hv3.symm
  have s3 : v3 < 0 ∨ 0 ≤ v3 ∧ x.f3.size ≤ 1048576 := by omega
  have l3 : v3 ≤ left := by omega
  by_cases c3 : v3 < 0
  · refine ⟨-1, ⟨0, fun k hk => ?_⟩, by omega, .inl (by omega)⟩
    show laws_szNode.f x.f0 x.f1 x.f2 x.f3 x.f4 left = _
    unfold laws_szNode.f
    simp only [w3, if_pos c3, Option.bind_some]
  obtain ⟨v4, ⟨K4, e4⟩, l4, s4⟩ := sz30 x.f4 o.2.2.2.2 v3 (by omega) (by omega)
  by_cases c4 : v4 < 0
  · refine ⟨-1, ⟨0 + K4, fun k hk => ?_⟩, by omega, .inl (by omega)⟩
    have e4 := e4 k (by omega)
    show laws_szNode.f x.f0 x.f1 x.f2 x.f3 x.f4 left = _
    unfold laws_szNode.f
    simp only [w3, if_neg c3, e4, if_pos c4, Option.bind_some]
  refine ⟨v4, ⟨0 + K4, fun k hk => ?_⟩, by omega, .inr ⟨by omega, ?_⟩⟩
  · have e4 := e4 k (by omega)
    show laws_szNode.f x.f0 x.f1 x.f2 x.f3 x.f4 left = _
    unfold laws_szNode.f
    simp only [w3, if_neg c3, e4, if_neg c4, Option.bind_some]
  · exact ⟨trivial, trivial, trivial, (by rcases s3 with h_ | h_ <;> first | exact h_.2 | exact absurd h_ c3), (by rcases s4 with h_ | h_ <;> first | exact h_.2 | exact absurd h_ c4)⟩
theorem sz22 (l : List (S109)) (o : (l.length ≤ maxLen ∧ ∀ y_ ∈ l, ok109 y_)) (left : Int) (h0 : 0 ≤ left) (h1 : left ≤ 1048576) : ∃ v : Int, Ev (fun k => laws_szNodeS.f k l left) v ∧ v ≤ left ∧ (v < 0 ∨ 0 ≤ v ∧ (l.length ≤ 1048576 ∧ ∀ y_ ∈ l, sm109 y_)) := by
  have hM : maxLen = 9223372036854775807 := rfl
  have o1 : l.length ≤ maxLen := o.1
  have w : wrap64 (left - (l.length : Int)) = left - (l.length : Int) := wrap_id _ (by omega) (by omega)
  by_cases c : left - (l.length : Int) < 0
  · refine ⟨-1, ⟨0, fun k hk => ?_⟩, by omega, .inl (by omega)⟩
    show laws_szNodeS.f k l left = _
    unfold laws_szNodeS.f
    simp only [w, if_pos c]
  · have key := sz_loop l z109 sm109 (fun k left i => laws_szNodeS.l0 k l left i) ?_ ?_ (left - (l.length : Int)) (by omega) (by omega)
    · obtain ⟨v, ⟨K, ev⟩, hle, hP⟩ := key
      refine ⟨v, ⟨K, fun k hk => ?_⟩, by omega, ?_⟩
      · show laws_szNodeS.f k l left = _
        unfold laws_szNodeS.f
        simp only [w, if_neg c]
        exact ev k hk
      · rcases hP with h | h
        · exact .inl h
        · exact .inr ⟨h.1, ⟨by omega, h.2⟩⟩
    · intro i left hi g0 g1
      obtain ⟨v, ⟨K2, e2⟩, hle, hP⟩ := sz109 (l.getD i z109) (o.2 _ (getD_mem l _ i hi)) left g0 g1
      refine ⟨v, hle, hP, ?_, ?_⟩
      · intro hv
        refine ⟨K2 + 1, fun k hk => ?_⟩
        obtain ⟨m, rfl⟩ : ∃ m, k = m + 1 := ⟨k - 1, by omega⟩
        have e2 := e2 m (by omega)
        show laws_szNodeS.l0 (m + 1) l left (i : Int) = _
        rw [laws_szNodeS.l0, if_pos (by omega), if_pos (by omega)]
        refine (congrArg (fun o => Option.bind o _) (show _ = some _ from e2)).trans ?_
        simp only [Option.bind_some]
        rw [if_pos hv]
      · intro hv r hr
        obtain ⟨K, hr⟩ := hr
        refine ⟨K + K2 + 1, fun k hk => ?_⟩
        obtain ⟨m, rfl⟩ : ∃ m, k = m + 1 := ⟨k - 1, by omega⟩
        have e1 := hr m (by omega)
        have e2 := e2 m (by omega)
        show laws_szNodeS.l0 (m + 1) l left (i : Int) = _
        rw [laws_szNodeS.l0, if_pos (by omega), if_pos (by omega)]
        refine (congrArg (fun o => Option.bind o _) (show _ = some _ from e2)).trans ?_
        simp only [Option.bind_some]
        rw [if_neg (by omega), wrap_id _ (by omega) (by omega)]
        exact e1
    · intro left
      refine ⟨1, fun k hk => ?_⟩
      obtain ⟨m, rfl⟩ : ∃ m, k = m + 1 := ⟨k - 1, by omega⟩
      show laws_szNodeS.l0 (m + 1) l left (l.length : Int) = some left
      rw [laws_szNodeS.l0, if_neg (by omega)]
theorem sz24 (x : S24) (o : ok24 x) (left : Int) (h0 : 0 ≤ left) (h1 : left ≤ 1048576) : ∃ v : Int, Ev (fun k => laws_szDoc.f k x.f0 x.f1 x.f2 left) v ∧ v ≤ left ∧ (v < 0 ∨ 0 ≤ v ∧ sm24 x) := by
  obtain ⟨v2, ⟨K2, e2⟩, l2, s2⟩ := sz22 x.f2 o.2.2 left (by omega) (by omega)
  by_cases c2 : v2 < 0
  · refine ⟨-1, ⟨0 + K2, fun k hk => ?_⟩, by omega, .inl (by omega)⟩
    have e2 := e2 k (by omega)
    show laws_szDoc.f k x.f0 x.f1 x.f2 left = _
    unfold laws_szDoc.f
    simp only [e2, if_pos c2, Option.bind_some]
  refine ⟨v2, ⟨0 + K2, fun k hk => ?_⟩, by omega, .inr ⟨by omega, ?_⟩⟩
  · have e2 := e2 k (by omega)
    show laws_szDoc.f k x.f0 x.f1 x.f2 left = _
    unfold laws_szDoc.f
    simp only [e2, if_neg c2, Option.bind_some]
  · exact ⟨trivial, trivial, (by rcases s2 with h_ | h_ <;> first | exact h_.2 | exact absurd h_ c2)⟩
theorem sz25 (l : List (S27)) (o : (l.length ≤ maxLen ∧ ∀ y_ ∈ l, ok27 y_)) (left : Int) (h0 : 0 ≤ left) (h1 : left ≤ 1048576) : ∃ v : Int, Ev (fun k => laws_szHoldS.f l left) v ∧ v ≤ left ∧ (v < 0 ∨ 0 ≤ v ∧ (l.length ≤ 1048576 ∧ ∀ y_ ∈ l, sm27 y_)) := by
  have hM : maxLen = 9223372036854775807 := rfl
  have o1 : l.length ≤ maxLen := o.1
  have w : wrap64 (left - (l.length : Int)) = left - (l.length : Int) := wrap_id _ (by omega) (by omega)
  by_cases c : left - (l.length : Int) < 0
  · refine ⟨-1, ⟨0, fun k hk => ?_⟩, by omega, .inl (by omega)⟩
    show laws_szHoldS.f l left = _
    unfold laws_szHoldS.f
    simp only [w, if_pos c]
  · refine ⟨left - (l.length : Int), ⟨0, fun k hk => ?_⟩, by omega, .inr ⟨by omega, ⟨by omega, fun y _ => by simp [sm27]⟩⟩⟩
    show laws_szHoldS.f l left = _
    unfold laws_szHoldS.f
    simp only [w, if_neg c]
theorem sz49 (x : S49) (o : ok49 x) (left : Int) (h0 : 0 ≤ left) (h1 : left ≤ 1048576) : ∃ v : Int, Ev (fun k => laws_szTable.f x.f0 x.f1 left) v ∧ v ≤ left ∧ (v < 0 ∨ 0 ≤ v ∧ sm49 x) := by
  obtain ⟨v0, ⟨K0, e0⟩, l0, s0⟩ := sz25 x.f0 o.1 left (by omega) (by omega)
  by_cases c0 : v0 < 0
  · refine ⟨-1, ⟨0 + K0, fun k hk => ?_⟩, by omega, .inl (by omega)⟩
    have e0 := e0 k (by omega)
    show laws_szTable.f x.f0 x.f1 left = _
    unfold laws_szTable.f
    simp only [e0, if_pos c0, Option.bind_some]
  obtain ⟨v1, ⟨K1, e1⟩, l1, s1⟩ := sz25 x.f1 o.2 v0 (by omega) (by omega)
  by_cases c1 : v1 < 0
  · refine ⟨-1, ⟨0 + K0 + K1, fun k hk => ?_⟩, by omega, .inl (by omega)⟩
    have e0 := e0 k (by omega)
    have e1 := e1 k (by omega)
    show laws_szTable.f x.f0 x.f1 left = _
    unfold laws_szTable.f
    simp only [e0, if_neg c0, e1, if_pos c1, Option.bind_some]
  refine ⟨v1, ⟨0 + K0 + K1, fun k hk => ?_⟩, by omega, .inr ⟨by omega, ?_⟩⟩
  · have e0 := e0 k (by omega)
    have e1 := e1 k (by omega)
    show laws_szTable.f x.f0 x.f1 left = _
    unfold laws_szTable.f
    simp only [e0, if_neg c0, e1, if_neg c1, Option.bind_some]
  · exact ⟨(by rcases s0 with h_ | h_ <;> first | exact h_.2 | exact absurd h_ c0), (by rcases s1 with h_ | h_ <;> first | exact h_.2 | exact absurd h_ c1)⟩
end Go.Proofs.YtahhgjkgfbppeaaGreat.XA
end
section
namespace Go.Proofs.YtahhgjkgfbppeaaGreat.XA
set_option linter.unusedVariables false
open Go.RowKit Go.Proofs.YtahhgjkgfbppeaaGreatW.PrintWords Go.Proofs.YtahhgjkgfbppeaaGreatW.PrintLast Go.Proofs.YtahhgjkgfbppeaaGreatW.PrintMore Go.Proofs.YtahhgjkgfbppeaaGreat.Pk
theorem mark_loop {σ ρ : Type} (n : Nat) (I : Nat → σ → Prop) (R : ρ → Prop) (F : Nat → Int → σ → Option ρ)
    (hs : ∀ (i : Nat) (s : σ), i < n → I i s → (∀ s', I (i + 1) s' → ∃ r, Ev (fun k => F k ((i : Int) + 1) s') r ∧ R r) → ∃ r, Ev (fun k => F k (i : Int) s) r ∧ R r)
    (he : ∀ s, I n s → ∃ r, Ev (fun k => F k (n : Int) s) r ∧ R r) : ∀ s, I 0 s → ∃ r, Ev (fun k => F k 0 s) r ∧ R r := by
  have key : ∀ (m i : Nat) (s : σ), i + m = n → I i s → ∃ r, Ev (fun k => F k (i : Int) s) r ∧ R r := by
    intro m
    induction m with
    | zero =>
      intro i s hi h
      have e : i = n := by omega
      subst e
      exact he s h
    | succ m ih =>
      intro i s hi h
      exact hs i s (by omega) h (fun s' h' => ih (i + 1) s' (by omega) h')
  intro s h
  exact key n 0 s (by omega) h
def markL (n : Int) (m : Nat) : List Int := (List.range m).map (fun (j : Nat) => n + (j : Int))
theorem markL_len (n : Int) (m : Nat) : (markL n m).length = m := by simp [markL]
theorem markL_at (n : Int) (m j : Nat) (h : j < m) : (markL n m)[j]? = some (n + (j : Int)) := by simp [markL, h]
theorem markIntS_ev (l : List Int) (n : Int) (h0 : 0 ≤ n) (h : n + l.length ≤ 4000000000000000000) : Ev (fun k => laws_markIntS.f k l n) (n + l.length, markL n l.length) := by
  obtain ⟨r, hr, rfl⟩ := mark_loop l.length (fun i (s : List Int × Int) => s.2 = n + i ∧ s.1.length = l.length ∧ ∀ j, j < i → s.1[j]? = some (n + (j : Int))) (fun r => r = (n + (l.length : Int), markL n l.length)) (fun k i s => laws_markIntS.l0 k s.1 s.2 i)
    (fun i s hi hI hr => by
      obtain ⟨e, hl, hj⟩ := hI
      have a1 : wrap64 (s.2 + 1) = s.2 + 1 := wrap_id _ (by omega) (by omega)
      have a2 : wrap64 ((i : Int) + 1) = (i : Int) + 1 := wrap_id _ (by omega) (by omega)
      obtain ⟨r, h1, h2⟩ := hr (s.1.set i s.2, s.2 + 1) ⟨by simp only [e]; omega, by simp only [List.length_set]; exact hl, fun j hj' => by
        simp only
        by_cases c : j = i
        · subst c; rw [List.getElem?_set_self (by omega), e]
        · rw [List.getElem?_set_ne (by omega)]; exact hj j (by omega)⟩
      refine ⟨r, Ev.step (fun k => ?_) h1, h2⟩
      show laws_markIntS.l0 (k + 1) s.1 s.2 i = _
      rw [laws_markIntS.l0, if_pos (by omega), if_pos (by omega), a1, a2]
      rfl)
    (fun s hI => by
      obtain ⟨e, hl, hj⟩ := hI
      refine ⟨_, Ev.step (fun k => ?_) (Ev.now (s.2, s.1)), ?_⟩
      · show laws_markIntS.l0 (k + 1) s.1 s.2 l.length = _
        rw [laws_markIntS.l0, if_neg (by omega)]
      · rw [e]
        refine congrArg (Prod.mk _) (List.ext_getElem? (fun j => ?_))
        by_cases c : j < l.length
        · rw [hj j c, markL_at _ _ _ c]
        · rw [List.getElem?_eq_none (by omega), List.getElem?_eq_none (by rw [markL_len]; omega)])
    (l, n) ⟨by simp, rfl, fun j hj => by omega⟩
  exact hr
theorem markText_ev (n : Int) (h : n ≤ 4000000000000000000) : ∃ t, Ev (fun k => laws_markText.f k n) t := by
  by_cases h0 : n ≤ 0
  · exact ⟨_, 0, fun k _ => by show laws_markText.f k n = some _; unfold laws_markText.f; rw [if_pos h0]⟩
  have key : ∀ (m : Nat) (n : Int) (x : ByteArray), n ≤ m → 0 ≤ n → n + x.size ≤ 4000000000000000000 → ∃ t, Ev (fun k => laws_markText.l0 k n x) t := by
    intro m
    induction m with
    | zero =>
      intro n x hm hn hx
      refine ⟨_, Ev.step (fun k => ?_) (Ev.now ((⟨#[109]⟩ : ByteArray) ++ x))⟩
      show laws_markText.l0 (k + 1) n x = _
      rw [laws_markText.l0, if_neg (by omega), if_pos (by omega)]
    | succ m ih =>
      intro n x hm hn hx
      by_cases hp : n > 0
      · obtain ⟨s, hs⟩ : ∃ s, s = strOfNums ([(wrap64 (48 + (Int.tmod n 10))) % 256] : List Int) := ⟨_, rfl⟩
        have hsz : s.size = 1 := by rw [hs]; rfl
        have hd : Int.tdiv n 10 = n / 10 := Int.tdiv_eq_ediv_of_nonneg hn
        have hw : wrap64 (Int.tdiv n 10) = n / 10 := by rw [hd]; exact wrap_id _ (by omega) (by omega)
        obtain ⟨t, ht⟩ := ih (n / 10) (s ++ x) (by omega) (by omega) (by rw [ByteArray.size_append, hsz]; omega)
        refine ⟨t, Ev.step (fun k => ?_) ht⟩
        show laws_markText.l0 (k + 1) n x = _
        rw [laws_markText.l0, if_pos hp]
        simp only [Option.bind_some]
        rw [← hs, hw, if_pos (by rw [hsz]; omega)]
      · refine ⟨_, Ev.step (fun k => ?_) (Ev.now ((⟨#[109]⟩ : ByteArray) ++ x))⟩
        show laws_markText.l0 (k + 1) n x = _
        rw [laws_markText.l0, if_neg hp, if_pos (by omega)]
  obtain ⟨t, K, ht⟩ := key n.toNat n (⟨#[]⟩ : ByteArray) (by omega) (by omega) (by show n + ((0 : Nat) : Int) ≤ _; omega)
  exact ⟨t, K, fun k hk => by show laws_markText.f k n = some t; unfold laws_markText.f; rw [if_neg h0]; exact ht k hk⟩
theorem markNodeS_ev (l : List S113) (n : Int) (h0 : 0 ≤ n) (h : n ≤ 1000000000000000000) (hl : l.length ≤ 1048576) (hk : ∀ x ∈ l, x.f4.length ≤ 1048576) :
    ∃ r, Ev (fun k => laws_markNodeS.f k l n) r ∧ n ≤ r.1 ∧ r.1 ≤ n + 1048580 * l.length := by
  refine mark_loop l.length (fun i (s : List S113 × Int) => n ≤ s.2 ∧ s.2 ≤ n + 1048580 * i ∧ s.1.length = l.length ∧ ∀ j, i ≤ j → s.1[j]? = l[j]?) (fun r => n ≤ r.1 ∧ r.1 ≤ n + 1048580 * l.length) (fun k i s => laws_markNodeS.l0 k s.1 s.2 i) ?_ ?_ (l, n) ⟨by simp, by simp, rfl, fun _ _ => rfl⟩
  · rintro i ⟨xs, c⟩ hi ⟨e1, e2, e3, e4⟩ hr
    simp only at e1 e2 e3 e4
    have a1 : wrap64 (c + 1) = c + 1 := wrap_id _ (by omega) (by omega)
    have a2 : wrap64 (c + 1 + 1) = c + 1 + 1 := wrap_id _ (by omega) (by omega)
    have a3 : wrap64 (c + 1 + 1 + 1) = c + 1 + 1 + 1 := wrap_id _ (by omega) (by omega)
    have a4 : wrap64 (c + 1 + 1 + 1 + 1) = c + 1 + 1 + 1 + 1 := wrap_id _ (by omega) (by omega)
    have a5 : wrap64 ((i : Int) + 1) = (i : Int) + 1 := wrap_id _ (by omega) (by omega)
    obtain ⟨t, ht⟩ := markText_ev (c + 1 + 1 + 1) (by omega)
    have hkl : (rd_T113 xs (i : Int)).f4.length ≤ 1048576 := by
      have : rd_T113 xs (i : Int) ∈ l := by
        have h1 := e4 i (Nat.le_refl _)
        rw [List.getElem?_eq_getElem hi] at h1
        show xs.getD i _ ∈ l
        rw [List.getD_eq_getElem?_getD, h1]
        exact List.getElem_mem hi
      exact hk _ this
    have hm := markIntS_ev (rd_T113 xs (i : Int)).f4 (c + 1 + 1 + 1 + 1) (by omega) (by omega)
    obtain ⟨r, h1, h2⟩ := hr (xs.set i ⟨c, c + 1, c + 1 + 1, t, markL (c + 1 + 1 + 1 + 1) (rd_T113 xs (i : Int)).f4.length⟩, c + 1 + 1 + 1 + 1 + (rd_T113 xs (i : Int)).f4.length)
      ⟨by simp only; omega, by simp only; omega, by simp only [List.length_set]; exact e3, fun j hj => by simp only; rw [List.getElem?_set_ne (by omega)]; exact e4 j (by omega)⟩
    obtain ⟨A, ht⟩ := ht
    obtain ⟨B, hm⟩ := hm
    obtain ⟨C, h1⟩ := h1
    refine ⟨r, ⟨A + B + C + 1, fun k hk' => ?_⟩, h2⟩
    obtain ⟨k, rfl⟩ : ∃ y, k = y + 1 := ⟨k - 1, by omega⟩
    have ht := ht k (by omega)
    have hm := hm k (by omega)
    have h1 := h1 k (by omega)
    simp only at ht hm h1
    show laws_markNodeS.l0 (k + 1) xs c i = some r
    rw [laws_markNodeS.l0, if_pos (by omega), if_pos (by omega), a1, a2, a3, a4, a5, ht]
    simp only [Option.bind_some, hm]
    exact h1
  · rintro ⟨xs, c⟩ ⟨e1, e2, e3, e4⟩
    refine ⟨(c, xs), Ev.step (fun k => ?_) (Ev.now (c, xs)), e1, e2⟩
    show laws_markNodeS.l0 (k + 1) xs c l.length = _
    rw [laws_markNodeS.l0, if_neg (by simp only at e3; omega)]
theorem markDoc_ev (a b : Int) (l : List S113) (n : Int) (h0 : 0 ≤ n) (h : n ≤ 1000000000000000000) (hl : l.length ≤ 1048576) (hk : ∀ x ∈ l, x.f4.length ≤ 1048576) :
    ∃ r, Ev (fun k => laws_markDoc.f k a b l n) r ∧ n ≤ r.1 ∧ r.1 ≤ n + 1048580 * l.length := markNodeS_ev l n h0 h hl hk
end Go.Proofs.YtahhgjkgfbppeaaGreat.XA
end
section
namespace Go.Proofs.YtahhgjkgfbppeaaGreat.XA
set_option linter.unusedVariables false
open Go.RowKit Go.Proofs.YtahhgjkgfbppeaaGreatW.PrintWords Go.Proofs.YtahhgjkgfbppeaaGreatW.PrintLast Go.Proofs.YtahhgjkgfbppeaaGreatW.PrintMore Go.Proofs.YtahhgjkgfbppeaaGreat.Pk
theorem heldIntS_ev (m : Nat) (n : Int) (h0 : 0 ≤ n) (h : n + m ≤ 4000000000000000000) : Ev (fun k => laws_heldIntS.f k (markL n m) n) (n + m) := by
  obtain ⟨r, hr, rfl⟩ := mark_loop m (fun i (s : Int) => s = n + i) (fun r => r = n + (m : Int)) (fun k i s => laws_heldIntS.l0 k (markL n m) s i)
    (fun i s hi e hr => by
      subst e
      have a1 : wrap64 (n + (i : Int) + 1) = n + (i : Int) + 1 := wrap_id _ (by omega) (by omega)
      have a2 : wrap64 ((i : Int) + 1) = (i : Int) + 1 := wrap_id _ (by omega) (by omega)
      have a3 : rd (markL n m) (i : Int) = n + (i : Int) := by
        show (markL n m).getD i 0 = _
        rw [List.getD_eq_getElem?_getD, markL_at _ _ _ hi]
        rfl
      obtain ⟨r, h1, h2⟩ := hr (n + (i : Int) + 1) (by omega)
      refine ⟨r, Ev.step (fun k => ?_) h1, h2⟩
      show laws_heldIntS.l0 (k + 1) (markL n m) (n + (i : Int)) i = _
      rw [laws_heldIntS.l0, if_pos (by rw [markL_len]; omega), if_pos (by omega), if_pos a3, a1, a2])
    (fun s e => by
      refine ⟨_, Ev.step (fun k => ?_) (Ev.now s), e⟩
      show laws_heldIntS.l0 (k + 1) (markL n m) s m = _
      rw [laws_heldIntS.l0, if_neg (by rw [markL_len]; omega)])
    n (by simp)
  exact hr
end Go.Proofs.YtahhgjkgfbppeaaGreat.XA
end
section
namespace Go.Proofs.YtahhgjkgfbppeaaGreat.XA
set_option linter.unusedVariables false
open Go.RowKit Go.Proofs.YtahhgjkgfbppeaaGreatW.PrintWords Go.Proofs.YtahhgjkgfbppeaaGreatW.PrintLast Go.Proofs.YtahhgjkgfbppeaaGreatW.PrintMore Go.Proofs.YtahhgjkgfbppeaaGreat.Pk
def markHL (n : Int) (m : Nat) : List S39 := (List.range m).map (fun (j : Nat) => ⟨n + 3 * (j : Int), n + 3 * (j : Int) + 1, n + 3 * (j : Int) + 1 + 1⟩)
theorem markHL_len (n : Int) (m : Nat) : (markHL n m).length = m := by simp [markHL]
theorem markHL_at (n : Int) (m j : Nat) (h : j < m) : (markHL n m)[j]? = some ⟨n + 3 * (j : Int), n + 3 * (j : Int) + 1, n + 3 * (j : Int) + 1 + 1⟩ := by simp [markHL, h]
theorem markHoldS_ev (l : List S39) (n : Int) (h0 : 0 ≤ n) (h : n + 3 * l.length ≤ 4000000000000000000) : Ev (fun k => laws_markHoldS.f k l n) (n + 3 * (l.length : Int), markHL n l.length) := by
  obtain ⟨r, hr, rfl⟩ := mark_loop l.length (fun i (s : List S39 × Int) => s.2 = n + 3 * (i : Int) ∧ s.1.length = l.length ∧ ∀ j, j < i → s.1[j]? = some ⟨n + 3 * (j : Int), n + 3 * (j : Int) + 1, n + 3 * (j : Int) + 1 + 1⟩) (fun r => r = (n + 3 * (l.length : Int), markHL n l.length)) (fun k i s => laws_markHoldS.l0 k s.1 s.2 i)
    (fun i s hi hI hr => by
      obtain ⟨xs, c⟩ := s
      obtain ⟨e, hl, hj⟩ := hI
      simp only at e hl hj
      have a1 : wrap64 (c + 1) = c + 1 := wrap_id _ (by omega) (by omega)
      have a3 : wrap64 (c + 1 + 1) = c + 1 + 1 := wrap_id _ (by omega) (by omega)
      have a4 : wrap64 (c + 1 + 1 + 1) = c + 1 + 1 + 1 := wrap_id _ (by omega) (by omega)
      have a2 : wrap64 ((i : Int) + 1) = (i : Int) + 1 := wrap_id _ (by omega) (by omega)
      have r1 : ∀ v, rd_T39 (xs.set i v) (i : Int) = v := fun v => by
        show (xs.set i v).getD i _ = v
        rw [List.getD_eq_getElem?_getD, List.getElem?_set_self (by omega)]
        rfl
      obtain ⟨r, h1, h2⟩ := hr (xs.set i ⟨c, c + 1, c + 1 + 1⟩, c + 1 + 1 + 1) ⟨by simp only; omega, by simp only [List.length_set]; exact hl, fun j hj' => by
        simp only
        by_cases q : j = i
        · subst q; rw [List.getElem?_set_self (by omega), e]
        · rw [List.getElem?_set_ne (by omega)]; exact hj j (by omega)⟩
      refine ⟨r, Ev.step (fun k => ?_) h1, h2⟩
      show laws_markHoldS.l0 (k + 1) xs c i = _
      rw [laws_markHoldS.l0, if_pos (by omega), if_pos (by omega), a1, a3, a4, a2]
      simp only [Option.bind_some, Int.toNat_natCast, r1, List.set_set])
    (fun s hI => by
      obtain ⟨e, hl, hj⟩ := hI
      refine ⟨_, Ev.step (fun k => ?_) (Ev.now (s.2, s.1)), ?_⟩
      · show laws_markHoldS.l0 (k + 1) s.1 s.2 l.length = _
        rw [laws_markHoldS.l0, if_neg (by omega)]
      · rw [e]
        refine congrArg (Prod.mk _) (List.ext_getElem? (fun j => ?_))
        by_cases c : j < l.length
        · rw [hj j c, markHL_at _ _ _ c]
        · rw [List.getElem?_eq_none (by omega), List.getElem?_eq_none (by rw [markHL_len]; omega)])
    (l, n) ⟨by simp, rfl, fun j hj => by omega⟩
  exact hr
end Go.Proofs.YtahhgjkgfbppeaaGreat.XA
end
section
namespace Go.Proofs.YtahhgjkgfbppeaaGreat.XA
set_option linter.unusedVariables false
open Go.RowKit Go.Proofs.YtahhgjkgfbppeaaGreatW.PrintWords Go.Proofs.YtahhgjkgfbppeaaGreatW.PrintLast Go.Proofs.YtahhgjkgfbppeaaGreatW.PrintMore Go.Proofs.YtahhgjkgfbppeaaGreat.Pk
theorem markTable_ex (a b : List S39) (n : Int) (h0 : 0 ≤ n) (h : n ≤ 1000000000000000000) (ha : a.length ≤ 1048576) (hb : b.length ≤ 1048576) : ∃ r, Ev (fun k => laws_markTable.f k a b n) r ∧ n ≤ r.1 ∧ r.1 ≤ n + 3 * a.length + 3 * b.length := by
  obtain ⟨K1, e1⟩ := markHoldS_ev a n h0 (by omega)
  obtain ⟨K2, e2⟩ := markHoldS_ev b (n + 3 * (a.length : Int)) (by omega) (by omega)
  refine ⟨(n + 3 * (a.length : Int) + 3 * (b.length : Int), markHL n a.length, markHL (n + 3 * (a.length : Int)) b.length), ⟨K1 + K2, fun k hk => ?_⟩, by simp only; omega, by simp only; omega⟩
  have h1 := e1 k (by omega)
  have h2 := e2 k (by omega)
  simp only at h1 h2
  show laws_markTable.f k a b n = _
  unfold laws_markTable.f
  rw [h1]
  simp only [Option.bind_some]
  rw [h2]
  rfl
end Go.Proofs.YtahhgjkgfbppeaaGreat.XA
end
section
namespace Go.Proofs.YtahhgjkgfbppeaaGreat.XA
open Go.RowKit Go.Proofs.YtahhgjkgfbppeaaGreatW.PrintWords Go.Proofs.YtahhgjkgfbppeaaGreatW.PrintLast Go.Proofs.YtahhgjkgfbppeaaGreatW.PrintMore Go.Proofs.YtahhgjkgfbppeaaGreat.Pk
set_option linter.unusedVariables false
set_option linter.unusedSimpArgs false
def laws_FnExactCircleOf.Pure : Prop := ∀ (x0 : S24) (x1 : S49) (x2 : Int), ok24 x0 → ok49 x1 → (Lit.int .i64 x2).wf = true → ∃ k, laws_FnExactCircleOf.f k x0.f0 x0.f1 x0.f2 x1.f0 x1.f1 x2 = some true
theorem core_FnExactCircleOf (H : ∀ (x0 : S24) (x1 : S49) (x2 : Int), ok24 x0 → ok49 x1 → (Lit.int .i64 x2).wf = true → sm24 x0 → sm49 x1 → ∃ (r0 : List (Int)) (r1 : Int), r0.length ≤ 1048576 ∧ Ev (fun k => spec_CircleOf.f k x0.f0 x0.f1 (x0.f2.map cv109) (x1.f0.map cv27) (x1.f1.map cv27) x2) (r0, r1) ∧ Ev (fun k => impl_CircleOf.f k x0.f0 x0.f1 (x0.f2.map cv109) (x1.f0.map cv27) (x1.f1.map cv27) x2) (r0, r1)) : laws_FnExactCircleOf.Pure := by
  intro x0 x1 x2 o0 o1 o2
  obtain ⟨v0, ⟨K0, e0⟩, l0, s0⟩ := sz24 x0 o0 1048576 (by omega) (by omega)
  by_cases c0 : v0 < 0
  · refine ⟨0 + K0 + 4, ?_⟩
    have z0_4 := e0 (0 + K0 + 4) (by omega)
    have z0_3 := e0 (0 + K0 + 3) (by omega)
    have z0_2 := e0 (0 + K0 + 2) (by omega)
    have z0_1 := e0 (0 + K0 + 1) (by omega)
    simp only [laws_FnExactCircleOf.f, laws_FnExactCircleOf.j0, laws_FnExactCircleOf.j1, laws_FnExactCircleOf.j2, z0_4, z0_3, z0_2, z0_1, if_pos c0, Option.bind_some, bne_self_eq_false, Bool.false_eq_true, if_false, if_true]
  have sm0_ : sm24 x0 := by rcases s0 with h_ | h_ <;> first | exact h_.2 | exact absurd h_ c0
  obtain ⟨v1, ⟨K1, e1⟩, l1, s1⟩ := sz49 x1 o1 v0 (by omega) (by omega)
  by_cases c1 : v1 < 0
  · refine ⟨0 + K0 + K1 + 4, ?_⟩
    have z0_4 := e0 (0 + K0 + K1 + 4) (by omega)
    have z0_3 := e0 (0 + K0 + K1 + 3) (by omega)
    have z0_2 := e0 (0 + K0 + K1 + 2) (by omega)
    have z0_1 := e0 (0 + K0 + K1 + 1) (by omega)
    have z1_4 := e1 (0 + K0 + K1 + 4) (by omega)
    have z1_3 := e1 (0 + K0 + K1 + 3) (by omega)
    have z1_2 := e1 (0 + K0 + K1 + 2) (by omega)
    have z1_1 := e1 (0 + K0 + K1 + 1) (by omega)
    simp only [laws_FnExactCircleOf.f, laws_FnExactCircleOf.j0, laws_FnExactCircleOf.j1, laws_FnExactCircleOf.j2, z0_4, z0_3, z0_2, z0_1, z1_4, z1_3, z1_2, z1_1, if_neg c0, if_pos c1, Option.bind_some, bne_self_eq_false, Bool.false_eq_true, if_false, if_true]
  have sm1_ : sm49 x1 := by rcases s1 with h_ | h_ <;> first | exact h_.2 | exact absurd h_ c1
  obtain ⟨T0, t0⟩ := to24 x0 sm0_
  obtain ⟨Q0, q0⟩ := eq35 (cv24 x0) (smcv24 _ sm0_)
  simp only [cv24] at q0
  obtain ⟨T1, t1⟩ := to49 x1 sm1_
  obtain ⟨Q1, q1⟩ := eq53 (cv49 x1) (smcv49 _ sm1_)
  simp only [cv49] at q1
  obtain ⟨r0, r1, bd0, ⟨A, a⟩, ⟨B, b⟩⟩ := H x0 x1 x2 o0 o1 o2 sm0_ sm1_
  obtain ⟨⟨m0_, ml0_⟩, ⟨M0, em0⟩, hm0⟩ := markDoc_ev x0.f0 x0.f1 (x0.f2.map cv109) 1 (by omega) (by omega) (Nat.le_trans (Nat.le_of_eq (List.length_map _)) sm0_.2.2.1) (fun y hy => by obtain ⟨z, hz, rfl⟩ := List.mem_map.1 hy; exact (sm0_.2.2.2 z hz).2.2.2.2)
  simp only [List.length_map] at hm0
  have hl0_ := sm0_.2.2.1
  obtain ⟨⟨m1_, ml1_⟩, ⟨M1, em1⟩, hm1⟩ := markTable_ex (x1.f0.map cv27) (x1.f1.map cv27) m0_ (by omega) (by omega) (Nat.le_trans (Nat.le_of_eq (List.length_map _)) sm1_.1.1) (Nat.le_trans (Nat.le_of_eq (List.length_map _)) sm1_.2.1)
  simp only [List.length_map] at hm1
  have hl1_ := sm1_.1.1
  have hl1w_ := sm1_.2.1
  obtain ⟨QR0, qr0⟩ := eq30 r0 (by omega)
  obtain ⟨MR0, mr0⟩ := markIntS_ev r0 1 (by omega) (by omega)
  obtain ⟨HR0, hr0⟩ := heldIntS_ev r0.length 1 (by omega) (by omega)
  refine ⟨0 + K0 + K1 + T0 + Q0 + T1 + Q1 + A + B + M0 + M1 + QR0 + MR0 + HR0 + 4, ?_⟩
  have z0_4 := e0 (0 + K0 + K1 + T0 + Q0 + T1 + Q1 + A + B + M0 + M1 + QR0 + MR0 + HR0 + 4) (by omega)
  have z0_3 := e0 (0 + K0 + K1 + T0 + Q0 + T1 + Q1 + A + B + M0 + M1 + QR0 + MR0 + HR0 + 3) (by omega)
  have z0_2 := e0 (0 + K0 + K1 + T0 + Q0 + T1 + Q1 + A + B + M0 + M1 + QR0 + MR0 + HR0 + 2) (by omega)
  have z0_1 := e0 (0 + K0 + K1 + T0 + Q0 + T1 + Q1 + A + B + M0 + M1 + QR0 + MR0 + HR0 + 1) (by omega)
  have z1_4 := e1 (0 + K0 + K1 + T0 + Q0 + T1 + Q1 + A + B + M0 + M1 + QR0 + MR0 + HR0 + 4) (by omega)
  have z1_3 := e1 (0 + K0 + K1 + T0 + Q0 + T1 + Q1 + A + B + M0 + M1 + QR0 + MR0 + HR0 + 3) (by omega)
  have z1_2 := e1 (0 + K0 + K1 + T0 + Q0 + T1 + Q1 + A + B + M0 + M1 + QR0 + MR0 + HR0 + 2) (by omega)
  have z1_1 := e1 (0 + K0 + K1 + T0 + Q0 + T1 + Q1 + A + B + M0 + M1 + QR0 + MR0 + HR0 + 1) (by omega)
  have z2_4 := t0 (0 + K0 + K1 + T0 + Q0 + T1 + Q1 + A + B + M0 + M1 + QR0 + MR0 + HR0 + 4) (by omega)
  have z2_3 := t0 (0 + K0 + K1 + T0 + Q0 + T1 + Q1 + A + B + M0 + M1 + QR0 + MR0 + HR0 + 3) (by omega)
  have z2_2 := t0 (0 + K0 + K1 + T0 + Q0 + T1 + Q1 + A + B + M0 + M1 + QR0 + MR0 + HR0 + 2) (by omega)
  have z2_1 := t0 (0 + K0 + K1 + T0 + Q0 + T1 + Q1 + A + B + M0 + M1 + QR0 + MR0 + HR0 + 1) (by omega)
  have z3_4 := q0 (0 + K0 + K1 + T0 + Q0 + T1 + Q1 + A + B + M0 + M1 + QR0 + MR0 + HR0 + 4) (by omega)
  have z3_3 := q0 (0 + K0 + K1 + T0 + Q0 + T1 + Q1 + A + B + M0 + M1 + QR0 + MR0 + HR0 + 3) (by omega)
  have z3_2 := q0 (0 + K0 + K1 + T0 + Q0 + T1 + Q1 + A + B + M0 + M1 + QR0 + MR0 + HR0 + 2) (by omega)
  have z3_1 := q0 (0 + K0 + K1 + T0 + Q0 + T1 + Q1 + A + B + M0 + M1 + QR0 + MR0 + HR0 + 1) (by omega)
  have z4_4 := t1 (0 + K0 + K1 + T0 + Q0 + T1 + Q1 + A + B + M0 + M1 + QR0 + MR0 + HR0 + 4) (by omega)
  have z4_3 := t1 (0 + K0 + K1 + T0 + Q0 + T1 + Q1 + A + B + M0 + M1 + QR0 + MR0 + HR0 + 3) (by omega)
  have z4_2 := t1 (0 + K0 + K1 + T0 + Q0 + T1 + Q1 + A + B + M0 + M1 + QR0 + MR0 + HR0 + 2) (by omega)
  have z4_1 := t1 (0 + K0 + K1 + T0 + Q0 + T1 + Q1 + A + B + M0 + M1 + QR0 + MR0 + HR0 + 1) (by omega)
  have z5_4 := q1 (0 + K0 + K1 + T0 + Q0 + T1 + Q1 + A + B + M0 + M1 + QR0 + MR0 + HR0 + 4) (by omega)
  have z5_3 := q1 (0 + K0 + K1 + T0 + Q0 + T1 + Q1 + A + B + M0 + M1 + QR0 + MR0 + HR0 + 3) (by omega)
  have z5_2 := q1 (0 + K0 + K1 + T0 + Q0 + T1 + Q1 + A + B + M0 + M1 + QR0 + MR0 + HR0 + 2) (by omega)
  have z5_1 := q1 (0 + K0 + K1 + T0 + Q0 + T1 + Q1 + A + B + M0 + M1 + QR0 + MR0 + HR0 + 1) (by omega)
  have z6_4 := a (0 + K0 + K1 + T0 + Q0 + T1 + Q1 + A + B + M0 + M1 + QR0 + MR0 + HR0 + 4) (by omega)
  have z6_3 := a (0 + K0 + K1 + T0 + Q0 + T1 + Q1 + A + B + M0 + M1 + QR0 + MR0 + HR0 + 3) (by omega)
  have z6_2 := a (0 + K0 + K1 + T0 + Q0 + T1 + Q1 + A + B + M0 + M1 + QR0 + MR0 + HR0 + 2) (by omega)
  have z6_1 := a (0 + K0 + K1 + T0 + Q0 + T1 + Q1 + A + B + M0 + M1 + QR0 + MR0 + HR0 + 1) (by omega)
  have z7_4 := b (0 + K0 + K1 + T0 + Q0 + T1 + Q1 + A + B + M0 + M1 + QR0 + MR0 + HR0 + 4) (by omega)
  have z7_3 := b (0 + K0 + K1 + T0 + Q0 + T1 + Q1 + A + B + M0 + M1 + QR0 + MR0 + HR0 + 3) (by omega)
  have z7_2 := b (0 + K0 + K1 + T0 + Q0 + T1 + Q1 + A + B + M0 + M1 + QR0 + MR0 + HR0 + 2) (by omega)
  have z7_1 := b (0 + K0 + K1 + T0 + Q0 + T1 + Q1 + A + B + M0 + M1 + QR0 + MR0 + HR0 + 1) (by omega)
  have z8_4 := em0 (0 + K0 + K1 + T0 + Q0 + T1 + Q1 + A + B + M0 + M1 + QR0 + MR0 + HR0 + 4) (by omega)
  have z8_3 := em0 (0 + K0 + K1 + T0 + Q0 + T1 + Q1 + A + B + M0 + M1 + QR0 + MR0 + HR0 + 3) (by omega)
  have z8_2 := em0 (0 + K0 + K1 + T0 + Q0 + T1 + Q1 + A + B + M0 + M1 + QR0 + MR0 + HR0 + 2) (by omega)
  have z8_1 := em0 (0 + K0 + K1 + T0 + Q0 + T1 + Q1 + A + B + M0 + M1 + QR0 + MR0 + HR0 + 1) (by omega)
  have z9_4 := em1 (0 + K0 + K1 + T0 + Q0 + T1 + Q1 + A + B + M0 + M1 + QR0 + MR0 + HR0 + 4) (by omega)
  have z9_3 := em1 (0 + K0 + K1 + T0 + Q0 + T1 + Q1 + A + B + M0 + M1 + QR0 + MR0 + HR0 + 3) (by omega)
  have z9_2 := em1 (0 + K0 + K1 + T0 + Q0 + T1 + Q1 + A + B + M0 + M1 + QR0 + MR0 + HR0 + 2) (by omega)
  have z9_1 := em1 (0 + K0 + K1 + T0 + Q0 + T1 + Q1 + A + B + M0 + M1 + QR0 + MR0 + HR0 + 1) (by omega)
  have z10_4 := qr0 (0 + K0 + K1 + T0 + Q0 + T1 + Q1 + A + B + M0 + M1 + QR0 + MR0 + HR0 + 4) (by omega)
  have z10_3 := qr0 (0 + K0 + K1 + T0 + Q0 + T1 + Q1 + A + B + M0 + M1 + QR0 + MR0 + HR0 + 3) (by omega)
  have z10_2 := qr0 (0 + K0 + K1 + T0 + Q0 + T1 + Q1 + A + B + M0 + M1 + QR0 + MR0 + HR0 + 2) (by omega)
  have z10_1 := qr0 (0 + K0 + K1 + T0 + Q0 + T1 + Q1 + A + B + M0 + M1 + QR0 + MR0 + HR0 + 1) (by omega)
  have z11_4 := mr0 (0 + K0 + K1 + T0 + Q0 + T1 + Q1 + A + B + M0 + M1 + QR0 + MR0 + HR0 + 4) (by omega)
  have z11_3 := mr0 (0 + K0 + K1 + T0 + Q0 + T1 + Q1 + A + B + M0 + M1 + QR0 + MR0 + HR0 + 3) (by omega)
  have z11_2 := mr0 (0 + K0 + K1 + T0 + Q0 + T1 + Q1 + A + B + M0 + M1 + QR0 + MR0 + HR0 + 2) (by omega)
  have z11_1 := mr0 (0 + K0 + K1 + T0 + Q0 + T1 + Q1 + A + B + M0 + M1 + QR0 + MR0 + HR0 + 1) (by omega)
  have z12_4 := hr0 (0 + K0 + K1 + T0 + Q0 + T1 + Q1 + A + B + M0 + M1 + QR0 + MR0 + HR0 + 4) (by omega)
  have z12_3 := hr0 (0 + K0 + K1 + T0 + Q0 + T1 + Q1 + A + B + M0 + M1 + QR0 + MR0 + HR0 + 3) (by omega)
  have z12_2 := hr0 (0 + K0 + K1 + T0 + Q0 + T1 + Q1 + A + B + M0 + M1 + QR0 + MR0 + HR0 + 2) (by omega)
  have z12_1 := hr0 (0 + K0 + K1 + T0 + Q0 + T1 + Q1 + A + B + M0 + M1 + QR0 + MR0 + HR0 + 1) (by omega)
  simp only [laws_FnExactCircleOf.f, laws_FnExactCircleOf.j0, laws_FnExactCircleOf.j1, laws_FnExactCircleOf.j2, z0_4, z0_3, z0_2, z0_1, z1_4, z1_3, z1_2, z1_1, z2_4, z2_3, z2_2, z2_1, z3_4, z3_3, z3_2, z3_1, z4_4, z4_3, z4_2, z4_1, z5_4, z5_3, z5_2, z5_1, z6_4, z6_3, z6_2, z6_1, z7_4, z7_3, z7_2, z7_1, z8_4, z8_3, z8_2, z8_1, z9_4, z9_3, z9_2, z9_1, z10_4, z10_3, z10_2, z10_1, z11_4, z11_3, z11_2, z11_1, z12_4, z12_3, z12_2, z12_1, if_neg c0, if_neg c1, if_neg (show ¬ (m1_ : Int) < 0 by omega), if_neg (show ¬ ((1 : Int) + (r0.length : Int)) < 0 by omega), Option.bind_some, bne_self_eq_false, Bool.false_eq_true, if_false, if_true]
  try rfl
  try simp
end Go.Proofs.YtahhgjkgfbppeaaGreat.XA
end
