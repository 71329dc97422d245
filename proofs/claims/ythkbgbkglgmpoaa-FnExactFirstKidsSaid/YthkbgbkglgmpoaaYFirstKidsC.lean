/- What the laws' own conversions, measures and comparisons come to, type by type. Conditions: each theorem's own premises. -/
import Derived.Test.YthkbgbkglgmpoaaYFirstKids1
import Derived.Test.YthkbgbkglgmpoaaYFirstKids2
import Derived.Test.YthkbgbkglgmpoaaYFirstKids3
import Derived.Test.YthkbgbkglgmpoaaYFirstKids4
import Derived.Test.YthkbgbkglgmpoaaYFirstKidsO
import Derived.Test.YthkbgbkglgmpoaaPk
namespace Go.Proofs.Ythkbgbkglgmpoaa.XA
open Go.RowKit Go.Proofs.YthkbgbkglgmpoaaW.PrintWords Go.Proofs.YthkbgbkglgmpoaaW.PrintLast Go.Proofs.YthkbgbkglgmpoaaW.PrintMore Go.Proofs.Ythkbgbkglgmpoaa.Pk
set_option linter.unusedVariables false
set_option linter.unusedSimpArgs false
theorem to39 (l : List (Int)) (h : (l.length ≤ 1048576)) : Ev (fun k => laws_toIntS.f k l) l := by
  have hn : l.length ≤ 1048576 := h
  have key : Ev (fun k => laws_toIntS.l0 k l (List.replicate l.length 0) 0) (l.map (fun y => y)) := by
    refine fill_loop l (fun y => y) 0 0 (fun k out i => laws_toIntS.l0 k l out i) ?_ ?_
    · intro i out r hi ho hr
      obtain ⟨K, hr⟩ := hr
      refine ⟨K + 1, fun k hk => ?_⟩
      obtain ⟨m, rfl⟩ : ∃ m, k = m + 1 := ⟨k - 1, by omega⟩
      have e1 := hr m (by omega)
      show laws_toIntS.l0 (m + 1) l out (i : Int) = some r
      rw [laws_toIntS.l0, if_pos (by omega), if_pos (by omega)]
      rw [if_pos (by omega), wrap_id _ (by omega) (by omega)]
      exact e1
    · intro out ho
      refine ⟨1, fun k hk => ?_⟩
      obtain ⟨m, rfl⟩ : ∃ m, k = m + 1 := ⟨k - 1, by omega⟩
      show laws_toIntS.l0 (m + 1) l out (l.length : Int) = some out
      rw [laws_toIntS.l0, if_neg (by omega)]
  rw [List.map_id'] at key
  obtain ⟨K, key⟩ := key
  refine ⟨K, fun k hk => ?_⟩
  show laws_toIntS.f k l = _
  unfold laws_toIntS.f
  rw [if_pos (by omega), if_pos (by omega)]
  exact key k hk
theorem to24 (l : List (List (Int))) (h : (l.length ≤ 1048576 ∧ ∀ y_ ∈ l, (fun (l : List (Int)) => l.length ≤ 1048576) y_)) : Ev (fun k => laws_toIntSS.f k l) l := by
  have hn : l.length ≤ 1048576 := h.1
  have key : Ev (fun k => laws_toIntSS.l0 k l (List.replicate l.length []) 0) (l.map (fun y => y)) := by
    refine fill_loop l (fun y => y) [] [] (fun k out i => laws_toIntSS.l0 k l out i) ?_ ?_
    · intro i out r hi ho hr
      obtain ⟨K, hr⟩ := hr
      obtain ⟨K2, e2⟩ := to39 (l.getD i []) (h.2 _ (getD_mem l _ i hi))
      refine ⟨K + K2 + 1, fun k hk => ?_⟩
      obtain ⟨m, rfl⟩ : ∃ m, k = m + 1 := ⟨k - 1, by omega⟩
      have e1 := hr m (by omega)
      have e2 := e2 m (by omega)
      show laws_toIntSS.l0 (m + 1) l out (i : Int) = some r
      rw [laws_toIntSS.l0, if_pos (by omega), if_pos (by omega)]
      refine (congrArg (fun o => Option.bind o _) (show _ = some _ from e2)).trans ?_
      simp only [Option.bind_some]
      rw [if_pos (by omega), wrap_id _ (by omega) (by omega)]
      exact e1
    · intro out ho
      refine ⟨1, fun k hk => ?_⟩
      obtain ⟨m, rfl⟩ : ∃ m, k = m + 1 := ⟨k - 1, by omega⟩
      show laws_toIntSS.l0 (m + 1) l out (l.length : Int) = some out
      rw [laws_toIntSS.l0, if_neg (by omega)]
  rw [List.map_id'] at key
  obtain ⟨K, key⟩ := key
  refine ⟨K, fun k hk => ?_⟩
  show laws_toIntSS.f k l = _
  unfold laws_toIntSS.f
  rw [if_pos (by omega), if_pos (by omega)]
  exact key k hk
theorem to25 (l : List (Bool)) (h : (l.length ≤ 1048576)) : Ev (fun k => laws_toBoolS.f k l) l := by
  have hn : l.length ≤ 1048576 := h
  have key : Ev (fun k => laws_toBoolS.l0 k l (List.replicate l.length false) 0) (l.map (fun y => y)) := by
    refine fill_loop l (fun y => y) false false (fun k out i => laws_toBoolS.l0 k l out i) ?_ ?_
    · intro i out r hi ho hr
      obtain ⟨K, hr⟩ := hr
      refine ⟨K + 1, fun k hk => ?_⟩
      obtain ⟨m, rfl⟩ : ∃ m, k = m + 1 := ⟨k - 1, by omega⟩
      have e1 := hr m (by omega)
      show laws_toBoolS.l0 (m + 1) l out (i : Int) = some r
      rw [laws_toBoolS.l0, if_pos (by omega), if_pos (by omega)]
      rw [if_pos (by omega), wrap_id _ (by omega) (by omega)]
      exact e1
    · intro out ho
      refine ⟨1, fun k hk => ?_⟩
      obtain ⟨m, rfl⟩ : ∃ m, k = m + 1 := ⟨k - 1, by omega⟩
      show laws_toBoolS.l0 (m + 1) l out (l.length : Int) = some out
      rw [laws_toBoolS.l0, if_neg (by omega)]
  rw [List.map_id'] at key
  obtain ⟨K, key⟩ := key
  refine ⟨K, fun k hk => ?_⟩
  show laws_toBoolS.f k l = _
  unfold laws_toBoolS.f
  rw [if_pos (by omega), if_pos (by omega)]
  exact key k hk
def sm37 (x : S37) : Prop := (x.f0.length ≤ 1048576 ∧ ∀ y_ ∈ x.f0, (fun (l : List (Int)) => l.length ≤ 1048576) y_) ∧ (x.f1.length ≤ 1048576)
def cv37 (x : S37) : S27 := ⟨x.f0, x.f1⟩
def sm27 (x : S27) : Prop := (x.f0.length ≤ 1048576 ∧ ∀ y_ ∈ x.f0, (fun (l : List (Int)) => l.length ≤ 1048576) y_) ∧ (x.f1.length ≤ 1048576)
theorem smcv37 (x : S37) (h : sm37 x) : sm27 (cv37 x) := by
  obtain ⟨h0, h1⟩ := h
  exact ⟨h0, h1⟩
theorem to37 (x : S37) (h : sm37 x) : Ev (fun k => laws_toMachine.f k x.f0 x.f1) (x.f0, x.f1) := by
  obtain ⟨K0, e0⟩ := to24 x.f0 h.1
  obtain ⟨K1, e1⟩ := to25 x.f1 h.2
  refine ⟨0 + K0 + K1, fun k hk => ?_⟩
  have e0 := e0 k (by omega)
  have e1 := e1 k (by omega)
  show laws_toMachine.f k x.f0 x.f1 = _
  unfold laws_toMachine.f
  simp only [e0, e1, Option.bind_some]
  try rfl
theorem eq39 (l : List (Int)) (h : (l.length ≤ 1048576)) : Ev (fun k => laws_eqIntS.f k l l) true := by
  have hn : l.length ≤ 1048576 := h
  have key : Ev (fun k => laws_eqIntS.l0 k l l 0) true := by
    refine go_loop l.length (fun k i => laws_eqIntS.l0 k l l i) true ?_ ?_
    · intro i hi hr
      obtain ⟨K, hr⟩ := hr
      refine ⟨K + 1, fun k hk => ?_⟩
      obtain ⟨m, rfl⟩ : ∃ m, k = m + 1 := ⟨k - 1, by omega⟩
      have e1 := hr m (by omega)
      show laws_eqIntS.l0 (m + 1) l l (i : Int) = some true
      rw [laws_eqIntS.l0, if_pos (by omega), if_pos (by omega), if_pos (by omega)]
      first | rw [if_pos rfl, wrap_id _ (by omega) (by omega)] | rw [if_neg (by simp), wrap_id _ (by omega) (by omega)]
      exact e1
    · refine ⟨1, fun k hk => ?_⟩
      obtain ⟨m, rfl⟩ : ∃ m, k = m + 1 := ⟨k - 1, by omega⟩
      show laws_eqIntS.l0 (m + 1) l l (l.length : Int) = some true
      rw [laws_eqIntS.l0, if_neg (by omega)]
  obtain ⟨K, key⟩ := key
  refine ⟨K, fun k hk => ?_⟩
  show laws_eqIntS.f k l l = _
  unfold laws_eqIntS.f
  rw [if_pos rfl]
  exact key k hk
theorem eq24 (l : List (List (Int))) (h : (l.length ≤ 1048576 ∧ ∀ y_ ∈ l, (fun (l : List (Int)) => l.length ≤ 1048576) y_)) : Ev (fun k => laws_eqIntSS.f k l l) true := by
  have hn : l.length ≤ 1048576 := h.1
  have key : Ev (fun k => laws_eqIntSS.l0 k l l 0) true := by
    refine go_loop l.length (fun k i => laws_eqIntSS.l0 k l l i) true ?_ ?_
    · intro i hi hr
      obtain ⟨K, hr⟩ := hr
      obtain ⟨K2, e2⟩ := eq39 (l.getD i []) (h.2 _ (getD_mem l _ i hi))
      refine ⟨K + K2 + 1, fun k hk => ?_⟩
      obtain ⟨m, rfl⟩ : ∃ m, k = m + 1 := ⟨k - 1, by omega⟩
      have e1 := hr m (by omega)
      have e2 := e2 m (by omega)
      show laws_eqIntSS.l0 (m + 1) l l (i : Int) = some true
      rw [laws_eqIntSS.l0, if_pos (by omega), if_pos (by omega), if_pos (by omega)]
      refine (congrArg (fun o => Option.bind o _) (show _ = some true from e2)).trans ?_
      simp only [Option.bind_some, if_true]
      rw [wrap_id _ (by omega) (by omega)]
      exact e1
    · refine ⟨1, fun k hk => ?_⟩
      obtain ⟨m, rfl⟩ : ∃ m, k = m + 1 := ⟨k - 1, by omega⟩
      show laws_eqIntSS.l0 (m + 1) l l (l.length : Int) = some true
      rw [laws_eqIntSS.l0, if_neg (by omega)]
  obtain ⟨K, key⟩ := key
  refine ⟨K, fun k hk => ?_⟩
  show laws_eqIntSS.f k l l = _
  unfold laws_eqIntSS.f
  rw [if_pos rfl]
  exact key k hk
theorem eq25 (l : List (Bool)) (h : (l.length ≤ 1048576)) : Ev (fun k => laws_eqBoolS.f k l l) true := by
  have hn : l.length ≤ 1048576 := h
  have key : Ev (fun k => laws_eqBoolS.l0 k l l 0) true := by
    refine go_loop l.length (fun k i => laws_eqBoolS.l0 k l l i) true ?_ ?_
    · intro i hi hr
      obtain ⟨K, hr⟩ := hr
      refine ⟨K + 1, fun k hk => ?_⟩
      obtain ⟨m, rfl⟩ : ∃ m, k = m + 1 := ⟨k - 1, by omega⟩
      have e1 := hr m (by omega)
      show laws_eqBoolS.l0 (m + 1) l l (i : Int) = some true
      rw [laws_eqBoolS.l0, if_pos (by omega), if_pos (by omega), if_pos (by omega)]
      first | rw [if_pos rfl, wrap_id _ (by omega) (by omega)] | rw [if_neg (by simp), wrap_id _ (by omega) (by omega)]
      exact e1
    · refine ⟨1, fun k hk => ?_⟩
      obtain ⟨m, rfl⟩ : ∃ m, k = m + 1 := ⟨k - 1, by omega⟩
      show laws_eqBoolS.l0 (m + 1) l l (l.length : Int) = some true
      rw [laws_eqBoolS.l0, if_neg (by omega)]
  obtain ⟨K, key⟩ := key
  refine ⟨K, fun k hk => ?_⟩
  show laws_eqBoolS.f k l l = _
  unfold laws_eqBoolS.f
  rw [if_pos rfl]
  exact key k hk
theorem eq27 (x : S27) (h : sm27 x) : Ev (fun k => laws_eqMachine.f k x.f0 x.f1 x.f0 x.f1) true := by
  obtain ⟨K0, e0⟩ := eq24 x.f0 h.1
  obtain ⟨K1, e1⟩ := eq25 x.f1 h.2
  refine ⟨0 + K0 + K1, fun k hk => ?_⟩
  have e0 := e0 k (by omega)
  have e1 := e1 k (by omega)
  show laws_eqMachine.f k x.f0 x.f1 x.f0 x.f1 = _
  unfold laws_eqMachine.f
  simp [e0, e1]
theorem sz39 (l : List (Int)) (o : (l.length ≤ maxLen ∧ ∀ y_ ∈ l, (fun (n : Int) => (Lit.int .i64 n).wf = true) y_)) (left : Int) (h0 : 0 ≤ left) (h1 : left ≤ 1048576) : ∃ v : Int, Ev (fun k => laws_szIntS.f l left) v ∧ v ≤ left ∧ (v < 0 ∨ 0 ≤ v ∧ (l.length ≤ 1048576)) := by
  have hM : maxLen = 9223372036854775807 := rfl
  have o1 : l.length ≤ maxLen := o.1
  have w : wrap64 (left - (l.length : Int)) = left - (l.length : Int) := wrap_id _ (by omega) (by omega)
  by_cases c : left - (l.length : Int) < 0
  · refine ⟨-1, ⟨0, fun k hk => ?_⟩, by omega, .inl (by omega)⟩
    show laws_szIntS.f l left = _
    unfold laws_szIntS.f
    simp only [w, if_pos c]
  · refine ⟨left - (l.length : Int), ⟨0, fun k hk => ?_⟩, by omega, .inr ⟨by omega, by omega⟩⟩
    show laws_szIntS.f l left = _
    unfold laws_szIntS.f
    simp only [w, if_neg c]
theorem sz24 (l : List (List (Int))) (o : (l.length ≤ maxLen ∧ ∀ y_ ∈ l, (fun (l : List (Int)) => l.length ≤ maxLen ∧ ∀ y_ ∈ l, (fun (n : Int) => (Lit.int .i64 n).wf = true) y_) y_)) (left : Int) (h0 : 0 ≤ left) (h1 : left ≤ 1048576) : ∃ v : Int, Ev (fun k => laws_szIntSS.f k l left) v ∧ v ≤ left ∧ (v < 0 ∨ 0 ≤ v ∧ (l.length ≤ 1048576 ∧ ∀ y_ ∈ l, (fun (l : List (Int)) => l.length ≤ 1048576) y_)) := by
  have hM : maxLen = 9223372036854775807 := rfl
  have o1 : l.length ≤ maxLen := o.1
  have w : wrap64 (left - (l.length : Int)) = left - (l.length : Int) := wrap_id _ (by omega) (by omega)
  by_cases c : left - (l.length : Int) < 0
  · refine ⟨-1, ⟨0, fun k hk => ?_⟩, by omega, .inl (by omega)⟩
    show laws_szIntSS.f k l left = _
    unfold laws_szIntSS.f
    simp only [w, if_pos c]
  · have key := sz_loop l [] (fun (l : List (Int)) => l.length ≤ 1048576) (fun k left i => laws_szIntSS.l0 k l left i) ?_ ?_ (left - (l.length : Int)) (by omega) (by omega)
    · obtain ⟨v, ⟨K, ev⟩, hle, hP⟩ := key
      refine ⟨v, ⟨K, fun k hk => ?_⟩, by omega, ?_⟩
      · show laws_szIntSS.f k l left = _
        unfold laws_szIntSS.f
        simp only [w, if_neg c]
        exact ev k hk
      · rcases hP with h | h
        · exact .inl h
        · exact .inr ⟨h.1, ⟨by omega, h.2⟩⟩
    · intro i left hi g0 g1
      obtain ⟨v, ⟨K2, e2⟩, hle, hP⟩ := sz39 (l.getD i []) (o.2 _ (getD_mem l _ i hi)) left g0 g1
      refine ⟨v, hle, hP, ?_, ?_⟩
      · intro hv
        refine ⟨K2 + 1, fun k hk => ?_⟩
        obtain ⟨m, rfl⟩ : ∃ m, k = m + 1 := ⟨k - 1, by omega⟩
        have e2 := e2 m (by omega)
        show laws_szIntSS.l0 (m + 1) l left (i : Int) = _
        rw [laws_szIntSS.l0, if_pos (by omega), if_pos (by omega)]
        refine (congrArg (fun o => Option.bind o _) (show _ = some _ from e2)).trans ?_
        simp only [Option.bind_some]
        rw [if_pos hv]
      · intro hv r hr
        obtain ⟨K, hr⟩ := hr
        refine ⟨K + K2 + 1, fun k hk => ?_⟩
        obtain ⟨m, rfl⟩ : ∃ m, k = m + 1 := ⟨k - 1, by omega⟩
        have e1 := hr m (by omega)
        have e2 := e2 m (by omega)
        show laws_szIntSS.l0 (m + 1) l left (i : Int) = _
        rw [laws_szIntSS.l0, if_pos (by omega), if_pos (by omega)]
        refine (congrArg (fun o => Option.bind o _) (show _ = some _ from e2)).trans ?_
        simp only [Option.bind_some]
        rw [if_neg (by omega), wrap_id _ (by omega) (by omega)]
        exact e1
    · intro left
      refine ⟨1, fun k hk => ?_⟩
      obtain ⟨m, rfl⟩ : ∃ m, k = m + 1 := ⟨k - 1, by omega⟩
      show laws_szIntSS.l0 (m + 1) l left (l.length : Int) = some left
      rw [laws_szIntSS.l0, if_neg (by omega)]
theorem sz25 (l : List (Bool)) (o : (l.length ≤ maxLen ∧ ∀ y_ ∈ l, (fun (_ : Bool) => True) y_)) (left : Int) (h0 : 0 ≤ left) (h1 : left ≤ 1048576) : ∃ v : Int, Ev (fun k => laws_szBoolS.f l left) v ∧ v ≤ left ∧ (v < 0 ∨ 0 ≤ v ∧ (l.length ≤ 1048576)) := by
  have hM : maxLen = 9223372036854775807 := rfl
  have o1 : l.length ≤ maxLen := o.1
  have w : wrap64 (left - (l.length : Int)) = left - (l.length : Int) := wrap_id _ (by omega) (by omega)
  by_cases c : left - (l.length : Int) < 0
  · refine ⟨-1, ⟨0, fun k hk => ?_⟩, by omega, .inl (by omega)⟩
    show laws_szBoolS.f l left = _
    unfold laws_szBoolS.f
    simp only [w, if_pos c]
  · refine ⟨left - (l.length : Int), ⟨0, fun k hk => ?_⟩, by omega, .inr ⟨by omega, by omega⟩⟩
    show laws_szBoolS.f l left = _
    unfold laws_szBoolS.f
    simp only [w, if_neg c]
theorem sz37 (x : S37) (o : ok37 x) (left : Int) (h0 : 0 ≤ left) (h1 : left ≤ 1048576) : ∃ v : Int, Ev (fun k => laws_szMachine.f k x.f0 x.f1 left) v ∧ v ≤ left ∧ (v < 0 ∨ 0 ≤ v ∧ sm37 x) := by
  obtain ⟨v0, ⟨K0, e0⟩, l0, s0⟩ := sz24 x.f0 o.1 left (by omega) (by omega)
  by_cases c0 : v0 < 0
  · refine ⟨-1, ⟨0 + K0, fun k hk => ?_⟩, by omega, .inl (by omega)⟩
    have e0 := e0 k (by omega)
    show laws_szMachine.f k x.f0 x.f1 left = _
    unfold laws_szMachine.f
    simp only [e0, if_pos c0, Option.bind_some]
  obtain ⟨v1, ⟨K1, e1⟩, l1, s1⟩ := sz25 x.f1 o.2 v0 (by omega) (by omega)
  by_cases c1 : v1 < 0
  · refine ⟨-1, ⟨0 + K0 + K1, fun k hk => ?_⟩, by omega, .inl (by omega)⟩
    have e0 := e0 k (by omega)
    have e1 := e1 k (by omega)
    show laws_szMachine.f k x.f0 x.f1 left = _
    unfold laws_szMachine.f
    simp only [e0, if_neg c0, e1, if_pos c1, Option.bind_some]
  refine ⟨v1, ⟨0 + K0 + K1, fun k hk => ?_⟩, by omega, .inr ⟨by omega, ?_⟩⟩
  · have e0 := e0 k (by omega)
    have e1 := e1 k (by omega)
    show laws_szMachine.f k x.f0 x.f1 left = _
    unfold laws_szMachine.f
    simp only [e0, if_neg c0, e1, if_neg c1, Option.bind_some]
  · exact ⟨(by rcases s0 with h_ | h_ <;> first | exact h_.2 | exact absurd h_ c0), (by rcases s1 with h_ | h_ <;> first | exact h_.2 | exact absurd h_ c1)⟩
end Go.Proofs.Ythkbgbkglgmpoaa.XA
