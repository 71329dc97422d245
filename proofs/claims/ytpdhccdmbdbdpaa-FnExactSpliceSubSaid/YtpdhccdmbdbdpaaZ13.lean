/- Words and contracts of this claim, put together out of several texts by a program of this session's. Conditions: each theorem's own premises. -/
import Derived.Test.YtpdhccdmbdbdpaaZ1
import Derived.Test.YtpdhccdmbdbdpaaZ11
import Derived.Test.YtpdhccdmbdbdpaaZ12
import Derived.Test.YtpdhccdmbdbdpaaZ9
import Derived.Test.YtpdhccdmbdbdpaaZ3
import Derived.Test.YtpdhccdmbdbdpaaZ7
section
namespace Go.Proofs.Ytpdhccdmbdbdpaa.XA
open Go.RowKit Go.Proofs.YtpdhccdmbdbdpaaW.PrintWords Go.Proofs.YtpdhccdmbdbdpaaW.PrintLast Go.Proofs.YtpdhccdmbdbdpaaW.PrintMore Go.Proofs.Ytpdhccdmbdbdpaa.Pk
set_option linter.unusedVariables false
set_option linter.unusedSimpArgs false
theorem to37 (l : List (Int)) (h : (l.length ≤ 1048576)) : Ev (fun k => laws_toIntS.f k l) l := by
  have hn : l.length ≤ 1048576 := h
  have key : Ev (fun k => laws_toIntS.l0 k l (List.replicate l.length 0) 0) (l.map (fun y => y)) := by
    refine fill_loop l (fun y => y) 0 0 (fun k out i => laws_toIntS.l0 k l out i) ?_ ?_
    · intro i out r hi ho hr
      obtain ⟨K, hr⟩ := hr
      refine ⟨K + 1, fun k hk => ?_⟩
      obtain ⟨m, rfl⟩ : ∃ m, k = m + 1 := ⟨k - 1, by omega⟩
      have e1 := hr m (by omega)
      show laws_toIntS.l0 (m + 1) l out (i : Int) = some r
      rw [laws_toIntS.l0, if_pos (by omega), if_pos (by omega)]
      rw [if_pos (by omega), wrap_id _ (by omega) (by omega)]
      exact e1
    · intro out ho
      refine ⟨1, fun k hk => ?_⟩
      obtain ⟨m, rfl⟩ : ∃ m, k = m + 1 := ⟨k - 1, by omega⟩
      show laws_toIntS.l0 (m + 1) l out (l.length : Int) = some out
      rw [laws_toIntS.l0, if_neg (by omega)]
  rw [List.map_id'] at key
  obtain ⟨K, key⟩ := key
  refine ⟨K, fun k hk => ?_⟩
  show laws_toIntS.f k l = _
  unfold laws_toIntS.f
  rw [if_pos (by omega), if_pos (by omega)]
  exact key k hk
def sm112 (x : S112) : Prop := True ∧ True ∧ True ∧ x.f3.size ≤ 1048576 ∧ (x.f4.length ≤ 1048576)
def cv112 (x : S112) : S43 := ⟨x.f0, x.f1, x.f2, x.f3, x.f4⟩
def sm43 (x : S43) : Prop := True ∧ True ∧ True ∧ x.f3.size ≤ 1048576 ∧ (x.f4.length ≤ 1048576)
theorem smcv112 (x : S112) (h : sm112 x) : sm43 (cv112 x) := by
  obtain ⟨h0, h1, h2, h3, h4⟩ := h
  exact ⟨h0, h1, h2, h3, h4⟩
theorem to112 (x : S112) (h : sm112 x) : Ev (fun k => laws_toNode.f k x.f0 x.f1 x.f2 x.f3 x.f4) (x.f0, x.f1, x.f2, x.f3, x.f4) := by
  obtain ⟨K4, e4⟩ := to37 x.f4 h.2.2.2.2
  refine ⟨0 + K4, fun k hk => ?_⟩
  have e4 := e4 k (by omega)
  show laws_toNode.f k x.f0 x.f1 x.f2 x.f3 x.f4 = _
  unfold laws_toNode.f
  simp only [e4, Option.bind_some]
  try rfl
theorem to22 (l : List (S112)) (h : (l.length ≤ 1048576 ∧ ∀ y_ ∈ l, sm112 y_)) : Ev (fun k => laws_toNodeS.f k l) (l.map cv112) := by
  have hn : l.length ≤ 1048576 := h.1
  have key : Ev (fun k => laws_toNodeS.l0 k l (List.replicate l.length z43) 0) (l.map cv112) := by
    refine fill_loop l cv112 z112 z43 (fun k out i => laws_toNodeS.l0 k l out i) ?_ ?_
    · intro i out r hi ho hr
      obtain ⟨K, hr⟩ := hr
      obtain ⟨K2, e2⟩ := to112 (l.getD i z112) (h.2 _ (getD_mem l _ i hi))
      refine ⟨K + K2 + 1, fun k hk => ?_⟩
      obtain ⟨m, rfl⟩ : ∃ m, k = m + 1 := ⟨k - 1, by omega⟩
      have e1 := hr m (by omega)
      have e2 := e2 m (by omega)
      show laws_toNodeS.l0 (m + 1) l out (i : Int) = some r
      rw [laws_toNodeS.l0, if_pos (by omega), if_pos (by omega)]
      refine (congrArg (fun o => Option.bind o _) (show _ = some _ from e2)).trans ?_
      simp only [Option.bind_some]
      rw [if_pos (by omega), wrap_id _ (by omega) (by omega)]
      exact e1
    · intro out ho
      refine ⟨1, fun k hk => ?_⟩
      obtain ⟨m, rfl⟩ : ∃ m, k = m + 1 := ⟨k - 1, by omega⟩
      show laws_toNodeS.l0 (m + 1) l out (l.length : Int) = some out
      rw [laws_toNodeS.l0, if_neg (by omega)]
  obtain ⟨K, key⟩ := key
  refine ⟨K, fun k hk => ?_⟩
  show laws_toNodeS.f k l = _
  unfold laws_toNodeS.f
  rw [if_pos (by omega), if_pos (by omega)]
  exact key k hk
def sm24 (x : S24) : Prop := True ∧ True ∧ (x.f2.length ≤ 1048576 ∧ ∀ y_ ∈ x.f2, sm112 y_)
def cv24 (x : S24) : S29 := ⟨x.f0, x.f1, (x.f2.map cv112)⟩
def sm29 (x : S29) : Prop := True ∧ True ∧ (x.f2.length ≤ 1048576 ∧ ∀ y_ ∈ x.f2, sm43 y_)
theorem smcv24 (x : S24) (h : sm24 x) : sm29 (cv24 x) := by
  obtain ⟨h0, h1, h2⟩ := h
  exact ⟨h0, h1, ⟨Nat.le_trans (Nat.le_of_eq (show (x.f2.map cv112).length = _ from List.length_map _)) h2.1, fun y hy => by obtain ⟨z, hz, rfl⟩ := (List.mem_map (f := cv112) (l := x.f2)).1 hy; exact (smcv112 _ (h2.2 z hz))⟩⟩
theorem to24 (x : S24) (h : sm24 x) : Ev (fun k => laws_toDoc.f k x.f0 x.f1 x.f2) (x.f0, x.f1, (x.f2.map cv112)) := by
  obtain ⟨K2, e2⟩ := to22 x.f2 h.2.2
  refine ⟨0 + K2, fun k hk => ?_⟩
  have e2 := e2 k (by omega)
  show laws_toDoc.f k x.f0 x.f1 x.f2 = _
  unfold laws_toDoc.f
  simp only [e2, Option.bind_some]
  try rfl
theorem eq37 (l : List (Int)) (h : (l.length ≤ 1048576)) : Ev (fun k => laws_eqIntS.f k l l) true := by
  have hn : l.length ≤ 1048576 := h
  have key : Ev (fun k => laws_eqIntS.l0 k l l 0) true := by
    refine go_loop l.length (fun k i => laws_eqIntS.l0 k l l i) true ?_ ?_
    · intro i hi hr
      obtain ⟨K, hr⟩ := hr
      refine ⟨K + 1, fun k hk => ?_⟩
      obtain ⟨m, rfl⟩ : ∃ m, k = m + 1 := ⟨k - 1, by omega⟩
      have e1 := hr m (by omega)
      show laws_eqIntS.l0 (m + 1) l l (i : Int) = some true
      rw [laws_eqIntS.l0, if_pos (by omega), if_pos (by omega), if_pos (by omega)]
      first | rw [if_pos rfl, wrap_id _ (by omega) (by omega)] | rw [if_neg (by simp), wrap_id _ (by omega) (by omega)]
      exact e1
    · refine ⟨1, fun k hk => ?_⟩
      obtain ⟨m, rfl⟩ : ∃ m, k = m + 1 := ⟨k - 1, by omega⟩
      show laws_eqIntS.l0 (m + 1) l l (l.length : Int) = some true
      rw [laws_eqIntS.l0, if_neg (by omega)]
  obtain ⟨K, key⟩ := key
  refine ⟨K, fun k hk => ?_⟩
  show laws_eqIntS.f k l l = _
  unfold laws_eqIntS.f
  rw [if_pos rfl]
  exact key k hk
theorem eq43 (x : S43) (h : sm43 x) : Ev (fun k => laws_eqNode.f k x.f0 x.f1 x.f2 x.f3 x.f4 x.f0 x.f1 x.f2 x.f3 x.f4) true := by
  obtain ⟨K4, e4⟩ := eq37 x.f4 h.2.2.2.2
  refine ⟨0 + K4, fun k hk => ?_⟩
  have e4 := e4 k (by omega)
  show laws_eqNode.f k x.f0 x.f1 x.f2 x.f3 x.f4 x.f0 x.f1 x.f2 x.f3 x.f4 = _
  unfold laws_eqNode.f
  simp [e4]
theorem eq27 (l : List (S43)) (h : (l.length ≤ 1048576 ∧ ∀ y_ ∈ l, sm43 y_)) : Ev (fun k => laws_eqNodeS.f k l l) true := by
  have hn : l.length ≤ 1048576 := h.1
  have key : Ev (fun k => laws_eqNodeS.l0 k l l 0) true := by
    refine go_loop l.length (fun k i => laws_eqNodeS.l0 k l l i) true ?_ ?_
    · intro i hi hr
      obtain ⟨K, hr⟩ := hr
      obtain ⟨K2, e2⟩ := eq43 (l.getD i z43) (h.2 _ (getD_mem l _ i hi))
      refine ⟨K + K2 + 1, fun k hk => ?_⟩
      obtain ⟨m, rfl⟩ : ∃ m, k = m + 1 := ⟨k - 1, by omega⟩
      have e1 := hr m (by omega)
      have e2 := e2 m (by omega)
      show laws_eqNodeS.l0 (m + 1) l l (i : Int) = some true
      rw [laws_eqNodeS.l0, if_pos (by omega), if_pos (by omega), if_pos (by omega)]
      refine (congrArg (fun o => Option.bind o _) (show _ = some true from e2)).trans ?_
      simp only [Option.bind_some, if_true]
      rw [wrap_id _ (by omega) (by omega)]
      exact e1
    · refine ⟨1, fun k hk => ?_⟩
      obtain ⟨m, rfl⟩ : ∃ m, k = m + 1 := ⟨k - 1, by omega⟩
      show laws_eqNodeS.l0 (m + 1) l l (l.length : Int) = some true
      rw [laws_eqNodeS.l0, if_neg (by omega)]
  obtain ⟨K, key⟩ := key
  refine ⟨K, fun k hk => ?_⟩
  show laws_eqNodeS.f k l l = _
  unfold laws_eqNodeS.f
  rw [if_pos rfl]
  exact key k hk
theorem eq29 (x : S29) (h : sm29 x) : Ev (fun k => laws_eqDoc.f k x.f0 x.f1 x.f2 x.f0 x.f1 x.f2) true := by
  obtain ⟨K2, e2⟩ := eq27 x.f2 h.2.2
  refine ⟨0 + K2, fun k hk => ?_⟩
  have e2 := e2 k (by omega)
  show laws_eqDoc.f k x.f0 x.f1 x.f2 x.f0 x.f1 x.f2 = _
  unfold laws_eqDoc.f
  simp [e2]
theorem sz37 (l : List (Int)) (o : (l.length ≤ maxLen ∧ ∀ y_ ∈ l, (fun (n : Int) => (Lit.int .i64 n).wf = true) y_)) (left : Int) (h0 : 0 ≤ left) (h1 : left ≤ 1048576) : ∃ v : Int, Ev (fun k => laws_szIntS.f l left) v ∧ v ≤ left ∧ (v < 0 ∨ 0 ≤ v ∧ (l.length ≤ 1048576)) := by
  have hM : maxLen = 9223372036854775807 := rfl
  have o1 : l.length ≤ maxLen := o.1
  have w : wrap64 (left - (l.length : Int)) = left - (l.length : Int) := wrap_id _ (by omega) (by omega)
  by_cases c : left - (l.length : Int) < 0
  · refine ⟨-1, ⟨0, fun k hk => ?_⟩, by omega, .inl (by omega)⟩
    show laws_szIntS.f l left = _
    unfold laws_szIntS.f
    simp only [w, if_pos c]
  · refine ⟨left - (l.length : Int), ⟨0, fun k hk => ?_⟩, by omega, .inr ⟨by omega, by omega⟩⟩
    show laws_szIntS.f l left = _
    unfold laws_szIntS.f
    simp only [w, if_neg c]
theorem sz112 (x : S112) (o : ok112 x) (left : Int) (h0 : 0 ≤ left) (h1 : left ≤ 1048576) : ∃ v : Int, Ev (fun k => laws_szNode.f x.f0 x.f1 x.f2 x.f3 x.f4 left) v ∧ v ≤ left ∧ (v < 0 ∨ 0 ≤ v ∧ sm112 x) := by
  have hM : maxLen = 9223372036854775807 := rfl
  have o3 : x.f3.size ≤ maxLen := o.2.2.2.1
  obtain ⟨v3, hv3⟩ : ∃ v : Int, v = left - (x.f3.size : Int) := ⟨_, rfl⟩
  have w3 : wrap64 (left - (x.f3.size : Int)) = v3 := (wrap_id _ (by omega) (by omega)).trans hv3.symm
  have s3 : v3 < 0 ∨ 0 ≤ v3 ∧ x.f3.size ≤ 1048576 := by omega
  have l3 : v3 ≤ left := by omega
  by_cases c3 : v3 < 0
  · refine ⟨-1, ⟨0, fun k hk => ?_⟩, by omega, .inl (by omega)⟩
    show laws_szNode.f x.f0 x.f1 x.f2 x.f3 x.f4 left = _
    unfold laws_szNode.f
    simp only [w3, if_pos c3, Option.bind_some]
  obtain ⟨v4, ⟨K4, e4⟩, l4, s4⟩ := sz37 x.f4 o.2.2.2.2 v3 (by omega) (by omega)
  by_cases c4 : v4 < 0
  · refine ⟨-1, ⟨0 + K4, fun k hk => ?_⟩, by omega, .inl (by omega)⟩
    have e4 := e4 k (by omega)
    show laws_szNode.f x.f0 x.f1 x.f2 x.f3 x.f4 left = _
    unfold laws_szNode.f
    simp only [w3, if_neg c3, e4, if_pos c4, Option.bind_some]
  refine ⟨v4, ⟨0 + K4, fun k hk => ?_⟩, by omega, .inr ⟨by omega, ?_⟩⟩
  · have e4 := e4 k (by omega)
    show laws_szNode.f x.f0 x.f1 x.f2 x.f3 x.f4 left = _
    unfold laws_szNode.f
    simp only [w3, if_neg c3, e4, if_neg c4, Option.bind_some]
  · exact ⟨trivial, trivial, trivial, (by rcases s3 with h_ | h_ <;> first | exact h_.2 | exact absurd h_ c3), (by rcases s4 with h_ | h_ <;> first | exact h_.2 | exact absurd h_ c4)⟩
theorem sz22 (l : List (S112)) (o : (l.length ≤ maxLen ∧ ∀ y_ ∈ l, ok112 y_)) (left : Int) (h0 : 0 ≤ left) (h1 : left ≤ 1048576) : ∃ v : Int, Ev (fun k => laws_szNodeS.f k l left) v ∧ v ≤ left ∧ (v < 0 ∨ 0 ≤ v ∧ (l.length ≤ 1048576 ∧ ∀ y_ ∈ l, sm112 y_)) := by
  have hM : maxLen = 9223372036854775807 := rfl
  have o1 : l.length ≤ maxLen := o.1
  have w : wrap64 (left - (l.length : Int)) = left - (l.length : Int) := wrap_id _ (by omega) (by omega)
  by_cases c : left - (l.length : Int) < 0
  · refine ⟨-1, ⟨0, fun k hk => ?_⟩, by omega, .inl (by omega)⟩
    show laws_szNodeS.f k l left = _
    unfold laws_szNodeS.f
    simp only [w, if_pos c]
  · have key := sz_loop l z112 sm112 (fun k left i => laws_szNodeS.l0 k l left i) ?_ ?_ (left - (l.length : Int)) (by omega) (by omega)
    · obtain ⟨v, ⟨K, ev⟩, hle, hP⟩ := key
      refine ⟨v, ⟨K, fun k hk => ?_⟩, by omega, ?_⟩
      · show laws_szNodeS.f k l left = _
        unfold laws_szNodeS.f
        simp only [w, if_neg c]
        exact ev k hk
      · rcases hP with h | h
        · exact .inl h
        · exact .inr ⟨h.1, ⟨by omega, h.2⟩⟩
    · intro i left hi g0 g1
      obtain ⟨v, ⟨K2, e2⟩, hle, hP⟩ := sz112 (l.getD i z112) (o.2 _ (getD_mem l _ i hi)) left g0 g1
      refine ⟨v, hle, hP, ?_, ?_⟩
      · intro hv
        refine ⟨K2 + 1, fun k hk => ?_⟩
        obtain ⟨m, rfl⟩ : ∃ m, k = m + 1 := ⟨k - 1, by omega⟩
        have e2 := e2 m (by omega)
        show laws_szNodeS.l0 (m + 1) l left (i : Int) = _
        rw [laws_szNodeS.l0, if_pos (by omega), if_pos (by omega)]
        refine (congrArg (fun o => Option.bind o _) (show _ = some _ from e2)).trans ?_
        simp only [Option.bind_some]
        rw [if_pos hv]
      · intro hv r hr
        obtain ⟨K, hr⟩ := hr
        refine ⟨K + K2 + 1, fun k hk => ?_⟩
        obtain ⟨m, rfl⟩ : ∃ m, k = m + 1 := ⟨k - 1, by omega⟩
        have e1 := hr m (by omega)
        have e2 := e2 m (by omega)
        show laws_szNodeS.l0 (m + 1) l left (i : Int) = _
        rw [laws_szNodeS.l0, if_pos (by omega), if_pos (by omega)]
        refine (congrArg (fun o => Option.bind o _) (show _ = some _ from e2)).trans ?_
        simp only [Option.bind_some]
        rw [if_neg (by omega), wrap_id _ (by omega) (by omega)]
        exact e1
    · intro left
      refine ⟨1, fun k hk => ?_⟩
      obtain ⟨m, rfl⟩ : ∃ m, k = m + 1 := ⟨k - 1, by omega⟩
      show laws_szNodeS.l0 (m + 1) l left (l.length : Int) = some left
      rw [laws_szNodeS.l0, if_neg (by omega)]
theorem sz24 (x : S24) (o : ok24 x) (left : Int) (h0 : 0 ≤ left) (h1 : left ≤ 1048576) : ∃ v : Int, Ev (fun k => laws_szDoc.f k x.f0 x.f1 x.f2 left) v ∧ v ≤ left ∧ (v < 0 ∨ 0 ≤ v ∧ sm24 x) := by
  obtain ⟨v2, ⟨K2, e2⟩, l2, s2⟩ := sz22 x.f2 o.2.2 left (by omega) (by omega)
  by_cases c2 : v2 < 0
  · refine ⟨-1, ⟨0 + K2, fun k hk => ?_⟩, by omega, .inl (by omega)⟩
    have e2 := e2 k (by omega)
    show laws_szDoc.f k x.f0 x.f1 x.f2 left = _
    unfold laws_szDoc.f
    simp only [e2, if_pos c2, Option.bind_some]
  refine ⟨v2, ⟨0 + K2, fun k hk => ?_⟩, by omega, .inr ⟨by omega, ?_⟩⟩
  · have e2 := e2 k (by omega)
    show laws_szDoc.f k x.f0 x.f1 x.f2 left = _
    unfold laws_szDoc.f
    simp only [e2, if_neg c2, Option.bind_some]
  · exact ⟨trivial, trivial, (by rcases s2 with h_ | h_ <;> first | exact h_.2 | exact absurd h_ c2)⟩
end Go.Proofs.Ytpdhccdmbdbdpaa.XA
end
section
namespace Go.Proofs.Ytpdhccdmbdbdpaa.XA
set_option linter.unusedVariables false
open Go.RowKit Go.Proofs.YtpdhccdmbdbdpaaW.PrintWords Go.Proofs.YtpdhccdmbdbdpaaW.PrintLast Go.Proofs.YtpdhccdmbdbdpaaW.PrintMore Go.Proofs.Ytpdhccdmbdbdpaa.Pk
theorem mark_loop {σ ρ : Type} (n : Nat) (I : Nat → σ → Prop) (R : ρ → Prop) (F : Nat → Int → σ → Option ρ)
    (hs : ∀ (i : Nat) (s : σ), i < n → I i s → (∀ s', I (i + 1) s' → ∃ r, Ev (fun k => F k ((i : Int) + 1) s') r ∧ R r) → ∃ r, Ev (fun k => F k (i : Int) s) r ∧ R r)
    (he : ∀ s, I n s → ∃ r, Ev (fun k => F k (n : Int) s) r ∧ R r) : ∀ s, I 0 s → ∃ r, Ev (fun k => F k 0 s) r ∧ R r := by
  have key : ∀ (m i : Nat) (s : σ), i + m = n → I i s → ∃ r, Ev (fun k => F k (i : Int) s) r ∧ R r := by
    intro m
    induction m with
    | zero =>
      intro i s hi h
      have e : i = n := by omega
      subst e
      exact he s h
    | succ m ih =>
      intro i s hi h
      exact hs i s (by omega) h (fun s' h' => ih (i + 1) s' (by omega) h')
  intro s h
  exact key n 0 s (by omega) h
def markL (n : Int) (m : Nat) : List Int := (List.range m).map (fun (j : Nat) => n + (j : Int))
theorem markL_len (n : Int) (m : Nat) : (markL n m).length = m := by simp [markL]
theorem markL_at (n : Int) (m j : Nat) (h : j < m) : (markL n m)[j]? = some (n + (j : Int)) := by simp [markL, h]
theorem markIntS_ev (l : List Int) (n : Int) (h0 : 0 ≤ n) (h : n + l.length ≤ 4000000000000000000) : Ev (fun k => laws_markIntS.f k l n) (n + l.length, markL n l.length) := by
  obtain ⟨r, hr, rfl⟩ := mark_loop l.length (fun i (s : List Int × Int) => s.2 = n + i ∧ s.1.length = l.length ∧ ∀ j, j < i → s.1[j]? = some (n + (j : Int))) (fun r => r = (n + (l.length : Int), markL n l.length)) (fun k i s => laws_markIntS.l0 k s.1 s.2 i)
    (fun i s hi hI hr => by
      obtain ⟨e, hl, hj⟩ := hI
      have a1 : wrap64 (s.2 + 1) = s.2 + 1 := wrap_id _ (by omega) (by omega)
      have a2 : wrap64 ((i : Int) + 1) = (i : Int) + 1 := wrap_id _ (by omega) (by omega)
      obtain ⟨r, h1, h2⟩ := hr (s.1.set i s.2, s.2 + 1) ⟨by simp only [e]; omega, by simp only [List.length_set]; exact hl, fun j hj' => by
        simp only
        by_cases c : j = i
        · subst c; rw [List.getElem?_set_self (by omega), e]
        · rw [List.getElem?_set_ne (by omega)]; exact hj j (by omega)⟩
      refine ⟨r, Ev.step (fun k => ?_) h1, h2⟩
      show laws_markIntS.l0 (k + 1) s.1 s.2 i = _
      rw [laws_markIntS.l0, if_pos (by omega), if_pos (by omega), a1, a2]
      rfl)
    (fun s hI => by
      obtain ⟨e, hl, hj⟩ := hI
      refine ⟨_, Ev.step (fun k => ?_) (Ev.now (s.2, s.1)), ?_⟩
      · show laws_markIntS.l0 (k + 1) s.1 s.2 l.length = _
        rw [laws_markIntS.l0, if_neg (by omega)]
      · rw [e]
        refine congrArg (Prod.mk _) (List.ext_getElem? (fun j => ?_))
        by_cases c : j < l.length
        · rw [hj j c, markL_at _ _ _ c]
        · rw [List.getElem?_eq_none (by omega), List.getElem?_eq_none (by rw [markL_len]; omega)])
    (l, n) ⟨by simp, rfl, fun j hj => by omega⟩
  exact hr
end Go.Proofs.Ytpdhccdmbdbdpaa.XA
end
section
namespace Go.Proofs.Ytpdhccdmbdbdpaa.XA
set_option linter.unusedVariables false
open Go.RowKit Go.Proofs.YtpdhccdmbdbdpaaW.PrintWords Go.Proofs.YtpdhccdmbdbdpaaW.PrintLast Go.Proofs.YtpdhccdmbdbdpaaW.PrintMore Go.Proofs.Ytpdhccdmbdbdpaa.Pk
theorem markText_ev (n : Int) (h : n ≤ 4000000000000000000) : ∃ t, Ev (fun k => laws_markText.f k n) t := by
  by_cases h0 : n ≤ 0
  · exact ⟨_, 0, fun k _ => by show laws_markText.f k n = some _; unfold laws_markText.f; rw [if_pos h0]⟩
  have key : ∀ (m : Nat) (n : Int) (x : ByteArray), n ≤ m → 0 ≤ n → n + x.size ≤ 4000000000000000000 → ∃ t, Ev (fun k => laws_markText.l0 k n x) t := by
    intro m
    induction m with
    | zero =>
      intro n x hm hn hx
      refine ⟨_, Ev.step (fun k => ?_) (Ev.now ((⟨#[109]⟩ : ByteArray) ++ x))⟩
      show laws_markText.l0 (k + 1) n x = _
      rw [laws_markText.l0, if_neg (by omega), if_pos (by omega)]
    | succ m ih =>
      intro n x hm hn hx
      by_cases hp : n > 0
      · obtain ⟨s, hs⟩ : ∃ s, s = strOfNums ([(wrap64 (48 + (Int.tmod n 10))) % 256] : List Int) := ⟨_, rfl⟩
        have hsz : s.size = 1 := by rw [hs]; rfl
        have hd : Int.tdiv n 10 = n / 10 := Int.tdiv_eq_ediv_of_nonneg hn
        have hw : wrap64 (Int.tdiv n 10) = n / 10 := by rw [hd]; exact wrap_id _ (by omega) (by omega)
        obtain ⟨t, ht⟩ := ih (n / 10) (s ++ x) (by omega) (by omega) (by rw [ByteArray.size_append, hsz]; omega)
        refine ⟨t, Ev.step (fun k => ?_) ht⟩
        show laws_markText.l0 (k + 1) n x = _
        rw [laws_markText.l0, if_pos hp]
        simp only [Option.bind_some]
        rw [← hs, hw, if_pos (by rw [hsz]; omega)]
      · refine ⟨_, Ev.step (fun k => ?_) (Ev.now ((⟨#[109]⟩ : ByteArray) ++ x))⟩
        show laws_markText.l0 (k + 1) n x = _
        rw [laws_markText.l0, if_neg hp, if_pos (by omega)]
  obtain ⟨t, K, ht⟩ := key n.toNat n (⟨#[]⟩ : ByteArray) (by omega) (by omega) (by show n + ((0 : Nat) : Int) ≤ _; omega)
  exact ⟨t, K, fun k hk => by show laws_markText.f k n = some t; unfold laws_markText.f; rw [if_neg h0]; exact ht k hk⟩
end Go.Proofs.Ytpdhccdmbdbdpaa.XA
end
section
namespace Go.Proofs.Ytpdhccdmbdbdpaa.XA
set_option linter.unusedVariables false
open Go.RowKit Go.Proofs.YtpdhccdmbdbdpaaW.PrintWords Go.Proofs.YtpdhccdmbdbdpaaW.PrintLast Go.Proofs.YtpdhccdmbdbdpaaW.PrintMore Go.Proofs.Ytpdhccdmbdbdpaa.Pk
theorem markNodeS_ev (l : List S43) (n : Int) (h0 : 0 ≤ n) (h : n ≤ 2000000000000000000) (hl : l.length ≤ 1048576) (hk : ∀ x ∈ l, x.f4.length ≤ 1048576) :
    ∃ r, Ev (fun k => laws_markNodeS.f k l n) r ∧ n ≤ r.1 ∧ r.1 ≤ n + 1048580 * l.length := by
  refine mark_loop l.length (fun i (s : List S43 × Int) => n ≤ s.2 ∧ s.2 ≤ n + 1048580 * i ∧ s.1.length = l.length ∧ ∀ j, i ≤ j → s.1[j]? = l[j]?) (fun r => n ≤ r.1 ∧ r.1 ≤ n + 1048580 * l.length) (fun k i s => laws_markNodeS.l0 k s.1 s.2 i) ?_ ?_ (l, n) ⟨by simp, by simp, rfl, fun _ _ => rfl⟩
  · rintro i ⟨xs, c⟩ hi ⟨e1, e2, e3, e4⟩ hr
    simp only at e1 e2 e3 e4
    have a1 : wrap64 (c + 1) = c + 1 := wrap_id _ (by omega) (by omega)
    have a2 : wrap64 (c + 1 + 1) = c + 1 + 1 := wrap_id _ (by omega) (by omega)
    have a3 : wrap64 (c + 1 + 1 + 1) = c + 1 + 1 + 1 := wrap_id _ (by omega) (by omega)
    have a4 : wrap64 (c + 1 + 1 + 1 + 1) = c + 1 + 1 + 1 + 1 := wrap_id _ (by omega) (by omega)
    have a5 : wrap64 ((i : Int) + 1) = (i : Int) + 1 := wrap_id _ (by omega) (by omega)
    obtain ⟨t, ht⟩ := markText_ev (c + 1 + 1 + 1) (by omega)
    have hkl : (rd_T43 xs (i : Int)).f4.length ≤ 1048576 := by
      have : rd_T43 xs (i : Int) ∈ l := by
        have h1 := e4 i (Nat.le_refl _)
        rw [List.getElem?_eq_getElem hi] at h1
        show xs.getD i _ ∈ l
        rw [List.getD_eq_getElem?_getD, h1]
        exact List.getElem_mem hi
      exact hk _ this
    have hm := markIntS_ev (rd_T43 xs (i : Int)).f4 (c + 1 + 1 + 1 + 1) (by omega) (by omega)
    obtain ⟨r, h1, h2⟩ := hr (xs.set i ⟨c, c + 1, c + 1 + 1, t, markL (c + 1 + 1 + 1 + 1) (rd_T43 xs (i : Int)).f4.length⟩, c + 1 + 1 + 1 + 1 + (rd_T43 xs (i : Int)).f4.length)
      ⟨by simp only; omega, by simp only; omega, by simp only [List.length_set]; exact e3, fun j hj => by simp only; rw [List.getElem?_set_ne (by omega)]; exact e4 j (by omega)⟩
    obtain ⟨A, ht⟩ := ht
    obtain ⟨B, hm⟩ := hm
    obtain ⟨C, h1⟩ := h1
    refine ⟨r, ⟨A + B + C + 1, fun k hk' => ?_⟩, h2⟩
    obtain ⟨k, rfl⟩ : ∃ y, k = y + 1 := ⟨k - 1, by omega⟩
    have ht := ht k (by omega)
    have hm := hm k (by omega)
    have h1 := h1 k (by omega)
    simp only at ht hm h1
    show laws_markNodeS.l0 (k + 1) xs c i = some r
    rw [laws_markNodeS.l0, if_pos (by omega), if_pos (by omega), a1, a2, a3, a4, a5, ht]
    simp only [Option.bind_some, hm]
    exact h1
  · rintro ⟨xs, c⟩ ⟨e1, e2, e3, e4⟩
    refine ⟨(c, xs), Ev.step (fun k => ?_) (Ev.now (c, xs)), e1, e2⟩
    show laws_markNodeS.l0 (k + 1) xs c l.length = _
    rw [laws_markNodeS.l0, if_neg (by simp only at e3; omega)]
theorem markDoc_ev (a b : Int) (l : List S43) (n : Int) (h0 : 0 ≤ n) (h : n ≤ 2000000000000000000) (hl : l.length ≤ 1048576) (hk : ∀ x ∈ l, x.f4.length ≤ 1048576) :
    ∃ r, Ev (fun k => laws_markDoc.f k a b l n) r ∧ n ≤ r.1 ∧ r.1 ≤ n + 1048580 * l.length := markNodeS_ev l n h0 h hl hk
end Go.Proofs.Ytpdhccdmbdbdpaa.XA
end
section
namespace Go.Proofs.Ytpdhccdmbdbdpaa.XA
set_option linter.unusedVariables false
open Go.RowKit Go.Proofs.YtpdhccdmbdbdpaaW.PrintWords Go.Proofs.YtpdhccdmbdbdpaaW.PrintLast Go.Proofs.YtpdhccdmbdbdpaaW.PrintMore Go.Proofs.Ytpdhccdmbdbdpaa.Pk
theorem heldIntS_ev (m : Nat) (n : Int) (h0 : 0 ≤ n) (h : n + m ≤ 4000000000000000000) : Ev (fun k => laws_heldIntS.f k (markL n m) n) (n + m) := by
  obtain ⟨r, hr, rfl⟩ := mark_loop m (fun i (s : Int) => s = n + i) (fun r => r = n + (m : Int)) (fun k i s => laws_heldIntS.l0 k (markL n m) s i)
    (fun i s hi e hr => by
      subst e
      have a1 : wrap64 (n + (i : Int) + 1) = n + (i : Int) + 1 := wrap_id _ (by omega) (by omega)
      have a2 : wrap64 ((i : Int) + 1) = (i : Int) + 1 := wrap_id _ (by omega) (by omega)
      have a3 : rd (markL n m) (i : Int) = n + (i : Int) := by
        show (markL n m).getD i 0 = _
        rw [List.getD_eq_getElem?_getD, markL_at _ _ _ hi]
        rfl
      obtain ⟨r, h1, h2⟩ := hr (n + (i : Int) + 1) (by omega)
      refine ⟨r, Ev.step (fun k => ?_) h1, h2⟩
      show laws_heldIntS.l0 (k + 1) (markL n m) (n + (i : Int)) i = _
      rw [laws_heldIntS.l0, if_pos (by rw [markL_len]; omega), if_pos (by omega), if_pos a3, a1, a2])
    (fun s e => by
      refine ⟨_, Ev.step (fun k => ?_) (Ev.now s), e⟩
      show laws_heldIntS.l0 (k + 1) (markL n m) s m = _
      rw [laws_heldIntS.l0, if_neg (by rw [markL_len]; omega)])
    n (by simp)
  exact hr
end Go.Proofs.Ytpdhccdmbdbdpaa.XA
end
section
namespace Go.Proofs.Ytpdhccdmbdbdpaa.XA
set_option linter.unusedVariables false
open Go.RowKit Go.Proofs.YtpdhccdmbdbdpaaW.PrintWords Go.Proofs.YtpdhccdmbdbdpaaW.PrintLast Go.Proofs.YtpdhccdmbdbdpaaW.PrintMore Go.Proofs.Ytpdhccdmbdbdpaa.Pk
open Classical in
noncomputable def markT (n : Int) : ByteArray := if h : n ≤ 4000000000000000000 then Classical.choose (markText_ev n h) else ⟨#[]⟩
theorem markT_ev (n : Int) (h : n ≤ 4000000000000000000) : Ev (fun k => laws_markText.f k n) (markT n) := by
  unfold markT
  rw [dif_pos h]
  exact Classical.choose_spec (markText_ev n h)
noncomputable def markN : List S43 → Int → List S43
  | [], _ => []
  | x :: xs, c => ⟨c, c + 1, c + 1 + 1, markT (c + 1 + 1 + 1), markL (c + 1 + 1 + 1 + 1) x.f4.length⟩ :: markN xs (c + 1 + 1 + 1 + 1 + x.f4.length)
def cntN : List S43 → Int → Int
  | [], c => c
  | x :: xs, c => cntN xs (c + 1 + 1 + 1 + 1 + x.f4.length)
theorem cntN_ge : ∀ (l : List S43) (c : Int), c ≤ cntN l c
  | [], c => Int.le_refl _
  | x :: xs, c => by
    have := cntN_ge xs (c + 1 + 1 + 1 + 1 + x.f4.length)
    rw [cntN]
    omega
theorem mid_rd (A B : List S43) (x : S43) : rd_T43 (A ++ x :: B) (A.length : Int) = x := by
  show (A ++ x :: B).getD A.length _ = x
  simp [List.getD_eq_getElem?_getD]
theorem mid_set (A B : List S43) (x y : S43) : (A ++ x :: B).set A.length y = (A ++ [y]) ++ B := by
  rw [List.set_append_right _ _ (Nat.le_refl _)]; simp
theorem markN_ev : ∀ (r d : List S43) (c : Int), d.length + r.length ≤ 1048576 → (∀ x ∈ r, x.f4.length ≤ 1048576) → 0 ≤ c → c + 1048580 * r.length ≤ 2000000000000000000 → Ev (fun k => laws_markNodeS.l0 k (d ++ r) c (d.length : Int)) (cntN r c, d ++ markN r c) ∧ cntN r c ≤ c + 1048580 * r.length
  | [], d, c, hl, hk, h0, hc => by
    refine ⟨Ev.step (fun k => ?_) (Ev.now (c, d ++ [])), by rw [cntN]; simp⟩
    show laws_markNodeS.l0 (k + 1) (d ++ []) c d.length = _
    rw [laws_markNodeS.l0, if_neg (by rw [List.append_nil]; omega)]
  | x :: xs, d, c, hl, hk, h0, hc => by
    have hx := hk x List.mem_cons_self
    simp only [List.length_cons] at hl hc
    have a1 : wrap64 (c + 1) = c + 1 := wrap_id _ (by omega) (by omega)
    have a2 : wrap64 (c + 1 + 1) = c + 1 + 1 := wrap_id _ (by omega) (by omega)
    have a3 : wrap64 (c + 1 + 1 + 1) = c + 1 + 1 + 1 := wrap_id _ (by omega) (by omega)
    have a4 : wrap64 (c + 1 + 1 + 1 + 1) = c + 1 + 1 + 1 + 1 := wrap_id _ (by omega) (by omega)
    have a5 : wrap64 ((d.length : Int) + 1) = (d.length : Int) + 1 := wrap_id _ (by omega) (by omega)
    obtain ⟨A, ht⟩ := markT_ev (c + 1 + 1 + 1) (by omega)
    obtain ⟨B, hm⟩ := markIntS_ev x.f4 (c + 1 + 1 + 1 + 1) (by omega) (by omega)
    obtain ⟨⟨C, h1⟩, h2⟩ := markN_ev xs (d ++ [⟨c, c + 1, c + 1 + 1, markT (c + 1 + 1 + 1), markL (c + 1 + 1 + 1 + 1) x.f4.length⟩]) (c + 1 + 1 + 1 + 1 + x.f4.length) (by simp only [List.length_append, List.length_cons, List.length_nil]; omega) (fun y hy => hk y (List.mem_cons_of_mem _ hy)) (by omega) (by omega)
    refine ⟨⟨A + B + C + 1, fun k hk' => ?_⟩, by rw [cntN]; simp only [List.length_cons]; omega⟩
    obtain ⟨k, rfl⟩ : ∃ y, k = y + 1 := ⟨k - 1, by omega⟩
    have ht := ht k (by omega)
    have hm := hm k (by omega)
    have h1 := h1 k (by omega)
    simp only at ht hm h1
    have e5 : ((d ++ [(⟨c, c + 1, c + 1 + 1, markT (c + 1 + 1 + 1), markL (c + 1 + 1 + 1 + 1) x.f4.length⟩ : S43)]).length : Int) = (d.length : Int) + 1 := by simp
    rw [e5, List.append_assoc] at h1
    show laws_markNodeS.l0 (k + 1) (d ++ x :: xs) c d.length = _
    rw [laws_markNodeS.l0, if_pos (by simp only [List.length_append, List.length_cons]; omega), if_pos (by omega), a1, a2, a3, a4, a5, ht]
    simp only [Option.bind_some, mid_rd, hm, Int.toNat_natCast, mid_set]
    rw [cntN, markN]
    rw [List.append_assoc]
    simpa using h1
theorem heldN_ev : ∀ (r d : List S43) (c : Int), d.length + r.length ≤ 1048576 → (∀ x ∈ r, x.f4.length ≤ 1048576) → 0 ≤ c → c + 1048580 * r.length ≤ 2000000000000000000 → Ev (fun k => laws_heldNodeS.l0 k (d ++ markN r c) c (d.length : Int)) (cntN r c)
  | [], d, c, hl, hk, h0, hc => by
    refine Ev.step (fun k => ?_) (Ev.now c)
    show laws_heldNodeS.l0 (k + 1) (d ++ []) c d.length = _
    rw [laws_heldNodeS.l0, if_neg (by rw [List.append_nil]; omega)]
  | x :: xs, d, c, hl, hk, h0, hc => by
    have hx := hk x List.mem_cons_self
    simp only [List.length_cons] at hl hc
    have a1 : wrap64 (c + 1) = c + 1 := wrap_id _ (by omega) (by omega)
    have a2 : wrap64 (c + 1 + 1) = c + 1 + 1 := wrap_id _ (by omega) (by omega)
    have a3 : wrap64 (c + 1 + 1 + 1) = c + 1 + 1 + 1 := wrap_id _ (by omega) (by omega)
    have a4 : wrap64 (c + 1 + 1 + 1 + 1) = c + 1 + 1 + 1 + 1 := wrap_id _ (by omega) (by omega)
    have a5 : wrap64 ((d.length : Int) + 1) = (d.length : Int) + 1 := wrap_id _ (by omega) (by omega)
    obtain ⟨A, ht⟩ := markT_ev (c + 1 + 1 + 1) (by omega)
    obtain ⟨B, hm⟩ := heldIntS_ev x.f4.length (c + 1 + 1 + 1 + 1) (by omega) (by omega)
    obtain ⟨C, h1⟩ := heldN_ev xs (d ++ [⟨c, c + 1, c + 1 + 1, markT (c + 1 + 1 + 1), markL (c + 1 + 1 + 1 + 1) x.f4.length⟩]) (c + 1 + 1 + 1 + 1 + x.f4.length) (by simp only [List.length_append, List.length_cons, List.length_nil]; omega) (fun y hy => hk y (List.mem_cons_of_mem _ hy)) (by omega) (by omega)
    refine ⟨A + B + C + 1, fun k hk' => ?_⟩
    obtain ⟨k, rfl⟩ : ∃ y, k = y + 1 := ⟨k - 1, by omega⟩
    have ht := ht k (by omega)
    have hm := hm k (by omega)
    have h1 := h1 k (by omega)
    simp only at ht hm h1
    have e5 : ((d ++ [(⟨c, c + 1, c + 1 + 1, markT (c + 1 + 1 + 1), markL (c + 1 + 1 + 1 + 1) x.f4.length⟩ : S43)]).length : Int) = (d.length : Int) + 1 := by simp
    rw [e5, List.append_assoc] at h1
    have hneg : ¬ (c + 1 + 1 + 1 + 1 + (x.f4.length : Int)) < 0 := by omega
    show laws_heldNodeS.l0 (k + 1) (d ++ markN (x :: xs) c) c d.length = _
    rw [markN, laws_heldNodeS.l0, if_pos (by simp only [List.length_append, List.length_cons]; omega), if_pos (by omega), a1, a2, a3, a4, a5, ht]
    simp only [Option.bind_some, mid_rd, hm, if_true, if_neg hneg]
    rw [cntN]
    simpa using h1
theorem markDeep_ev (a b : Int) (l : List S43) (hl : l.length ≤ 1048576) (hk : ∀ x ∈ l, x.f4.length ≤ 1048576) :
    ∃ (n : Int) (r : List S43), 0 ≤ n ∧ Ev (fun k => laws_markDoc.f k a b l 1) (n, r) ∧ Ev (fun k => laws_heldDoc.f k a b r 1) n := by
  obtain ⟨h1, h2⟩ := markN_ev l [] 1 (by simpa using hl) hk (by omega) (by omega)
  have h3 := heldN_ev l [] 1 (by simpa using hl) hk (by omega) (by omega)
  have h4 := cntN_ge l 1
  refine ⟨cntN l 1, markN l 1, by omega, ?_, ?_⟩
  · exact h1
  · obtain ⟨K, h3⟩ := h3
    refine ⟨K, fun k hk' => ?_⟩
    have e : laws_heldNodeS.f k (markN l 1) 1 = some (cntN l 1) := h3 k hk'
    show laws_heldDoc.f k a b (markN l 1) 1 = _
    unfold laws_heldDoc.f
    rw [e, Option.bind_some, if_neg (by omega)]
end Go.Proofs.Ytpdhccdmbdbdpaa.XA
end
section
namespace Go.Proofs.Ytpdhccdmbdbdpaa.XA
open Go.RowKit Go.Proofs.YtpdhccdmbdbdpaaW.PrintWords Go.Proofs.YtpdhccdmbdbdpaaW.PrintLast Go.Proofs.YtpdhccdmbdbdpaaW.PrintMore Go.Proofs.Ytpdhccdmbdbdpaa.Pk
set_option linter.unusedVariables false
set_option linter.unusedSimpArgs false
def laws_FnExactSpliceSub.Pure : Prop := ∀ (x0 : S24) (x1 : S24), ok24 x0 → ok24 x1 → ∃ k, laws_FnExactSpliceSub.f k x0.f0 x0.f1 x0.f2 x1.f0 x1.f1 x1.f2 = some true
theorem core_FnExactSpliceSub (H : ∀ (x0 : S24) (x1 : S24), ok24 x0 → ok24 x1 → sm24 x0 → sm24 x1 → ∃ (r0 : Int) (r1 : Int) (r2 : List (S43)) (r3 : Int), sm29 (⟨r0, r1, r2⟩ : S29) ∧ Ev (fun k => spec_SpliceSub.f k x0.f0 x0.f1 (x0.f2.map cv112) x1.f0 x1.f1 (x1.f2.map cv112)) (r0, r1, r2, r3) ∧ Ev (fun k => impl_SpliceSub.f k x0.f0 x0.f1 (x0.f2.map cv112) x1.f0 x1.f1 (x1.f2.map cv112)) (r0, r1, r2, r3)) : laws_FnExactSpliceSub.Pure := by
  intro x0 x1 o0 o1
  obtain ⟨v0, ⟨K0, e0⟩, l0, s0⟩ := sz24 x0 o0 1048576 (by omega) (by omega)
  by_cases c0 : v0 < 0
  · refine ⟨0 + K0 + 4, ?_⟩
    have z0_4 := e0 (0 + K0 + 4) (by omega)
    have z0_3 := e0 (0 + K0 + 3) (by omega)
    have z0_2 := e0 (0 + K0 + 2) (by omega)
    have z0_1 := e0 (0 + K0 + 1) (by omega)
    simp only [laws_FnExactSpliceSub.f, laws_FnExactSpliceSub.j0, laws_FnExactSpliceSub.j1, laws_FnExactSpliceSub.j2, z0_4, z0_3, z0_2, z0_1, if_pos c0, Option.bind_some, bne_self_eq_false, Bool.false_eq_true, if_false, if_true]
  have sm0_ : sm24 x0 := by rcases s0 with h_ | h_ <;> first | exact h_.2 | exact absurd h_ c0
  obtain ⟨v1, ⟨K1, e1⟩, l1, s1⟩ := sz24 x1 o1 v0 (by omega) (by omega)
  by_cases c1 : v1 < 0
  · refine ⟨0 + K0 + K1 + 4, ?_⟩
    have z0_4 := e0 (0 + K0 + K1 + 4) (by omega)
    have z0_3 := e0 (0 + K0 + K1 + 3) (by omega)
    have z0_2 := e0 (0 + K0 + K1 + 2) (by omega)
    have z0_1 := e0 (0 + K0 + K1 + 1) (by omega)
    have z1_4 := e1 (0 + K0 + K1 + 4) (by omega)
    have z1_3 := e1 (0 + K0 + K1 + 3) (by omega)
    have z1_2 := e1 (0 + K0 + K1 + 2) (by omega)
    have z1_1 := e1 (0 + K0 + K1 + 1) (by omega)
    simp only [laws_FnExactSpliceSub.f, laws_FnExactSpliceSub.j0, laws_FnExactSpliceSub.j1, laws_FnExactSpliceSub.j2, z0_4, z0_3, z0_2, z0_1, z1_4, z1_3, z1_2, z1_1, if_neg c0, if_pos c1, Option.bind_some, bne_self_eq_false, Bool.false_eq_true, if_false, if_true]
  have sm1_ : sm24 x1 := by rcases s1 with h_ | h_ <;> first | exact h_.2 | exact absurd h_ c1
  obtain ⟨T0, t0⟩ := to24 x0 sm0_
  obtain ⟨Q0, q0⟩ := eq29 (cv24 x0) (smcv24 _ sm0_)
  simp only [cv24] at q0
  obtain ⟨T1, t1⟩ := to24 x1 sm1_
  obtain ⟨Q1, q1⟩ := eq29 (cv24 x1) (smcv24 _ sm1_)
  simp only [cv24] at q1
  obtain ⟨r0, r1, r2, r3, bd0, ⟨A, a⟩, ⟨B, b⟩⟩ := H x0 x1 o0 o1 sm0_ sm1_
  obtain ⟨⟨m0_, ml0_⟩, ⟨M0, em0⟩, hm0⟩ := markDoc_ev x0.f0 x0.f1 (x0.f2.map cv112) 1 (by omega) (by omega) (Nat.le_trans (Nat.le_of_eq (List.length_map _)) sm0_.2.2.1) (fun y hy => by obtain ⟨z, hz, rfl⟩ := List.mem_map.1 hy; exact (sm0_.2.2.2 z hz).2.2.2.2)
  simp only [List.length_map] at hm0
  have hl0_ := sm0_.2.2.1
  obtain ⟨⟨m1_, ml1_⟩, ⟨M1, em1⟩, hm1⟩ := markDoc_ev x1.f0 x1.f1 (x1.f2.map cv112) m0_ (by omega) (by omega) (Nat.le_trans (Nat.le_of_eq (List.length_map _)) sm1_.2.2.1) (fun y hy => by obtain ⟨z, hz, rfl⟩ := List.mem_map.1 hy; exact (sm1_.2.2.2 z hz).2.2.2.2)
  simp only [List.length_map] at hm1
  have hl1_ := sm1_.2.2.1
  obtain ⟨QR0, qr0⟩ := eq29 (⟨r0, r1, r2⟩ : S29) bd0
  dsimp only at qr0
  obtain ⟨mn0_, mr0_, hm0_, ⟨MR0, mr0⟩, ⟨HR0, hr0⟩⟩ := markDeep_ev r0 r1 r2 bd0.2.2.1 (fun y hy => (bd0.2.2.2 y hy).2.2.2.2)
  refine ⟨0 + K0 + K1 + T0 + Q0 + T1 + Q1 + A + B + M0 + M1 + QR0 + MR0 + HR0 + 4, ?_⟩
  have z0_4 := e0 (0 + K0 + K1 + T0 + Q0 + T1 + Q1 + A + B + M0 + M1 + QR0 + MR0 + HR0 + 4) (by omega)
  have z0_3 := e0 (0 + K0 + K1 + T0 + Q0 + T1 + Q1 + A + B + M0 + M1 + QR0 + MR0 + HR0 + 3) (by omega)
  have z0_2 := e0 (0 + K0 + K1 + T0 + Q0 + T1 + Q1 + A + B + M0 + M1 + QR0 + MR0 + HR0 + 2) (by omega)
  have z0_1 := e0 (0 + K0 + K1 + T0 + Q0 + T1 + Q1 + A + B + M0 + M1 + QR0 + MR0 + HR0 + 1) (by omega)
  have z1_4 := e1 (0 + K0 + K1 + T0 + Q0 + T1 + Q1 + A + B + M0 + M1 + QR0 + MR0 + HR0 + 4) (by omega)
  have z1_3 := e1 (0 + K0 + K1 + T0 + Q0 + T1 + Q1 + A + B + M0 + M1 + QR0 + MR0 + HR0 + 3) (by omega)
  have z1_2 := e1 (0 + K0 + K1 + T0 + Q0 + T1 + Q1 + A + B + M0 + M1 + QR0 + MR0 + HR0 + 2) (by omega)
  have z1_1 := e1 (0 + K0 + K1 + T0 + Q0 + T1 + Q1 + A + B + M0 + M1 + QR0 + MR0 + HR0 + 1) (by omega)
  have z2_4 := t0 (0 + K0 + K1 + T0 + Q0 + T1 + Q1 + A + B + M0 + M1 + QR0 + MR0 + HR0 + 4) (by omega)
  have z2_3 := t0 (0 + K0 + K1 + T0 + Q0 + T1 + Q1 + A + B + M0 + M1 + QR0 + MR0 + HR0 + 3) (by omega)
  have z2_2 := t0 (0 + K0 + K1 + T0 + Q0 + T1 + Q1 + A + B + M0 + M1 + QR0 + MR0 + HR0 + 2) (by omega)
  have z2_1 := t0 (0 + K0 + K1 + T0 + Q0 + T1 + Q1 + A + B + M0 + M1 + QR0 + MR0 + HR0 + 1) (by omega)
  have z3_4 := q0 (0 + K0 + K1 + T0 + Q0 + T1 + Q1 + A + B + M0 + M1 + QR0 + MR0 + HR0 + 4) (by omega)
  have z3_3 := q0 (0 + K0 + K1 + T0 + Q0 + T1 + Q1 + A + B + M0 + M1 + QR0 + MR0 + HR0 + 3) (by omega)
  have z3_2 := q0 (0 + K0 + K1 + T0 + Q0 + T1 + Q1 + A + B + M0 + M1 + QR0 + MR0 + HR0 + 2) (by omega)
  have z3_1 := q0 (0 + K0 + K1 + T0 + Q0 + T1 + Q1 + A + B + M0 + M1 + QR0 + MR0 + HR0 + 1) (by omega)
  have z4_4 := t1 (0 + K0 + K1 + T0 + Q0 + T1 + Q1 + A + B + M0 + M1 + QR0 + MR0 + HR0 + 4) (by omega)
  have z4_3 := t1 (0 + K0 + K1 + T0 + Q0 + T1 + Q1 + A + B + M0 + M1 + QR0 + MR0 + HR0 + 3) (by omega)
  have z4_2 := t1 (0 + K0 + K1 + T0 + Q0 + T1 + Q1 + A + B + M0 + M1 + QR0 + MR0 + HR0 + 2) (by omega)
  have z4_1 := t1 (0 + K0 + K1 + T0 + Q0 + T1 + Q1 + A + B + M0 + M1 + QR0 + MR0 + HR0 + 1) (by omega)
  have z5_4 := q1 (0 + K0 + K1 + T0 + Q0 + T1 + Q1 + A + B + M0 + M1 + QR0 + MR0 + HR0 + 4) (by omega)
  have z5_3 := q1 (0 + K0 + K1 + T0 + Q0 + T1 + Q1 + A + B + M0 + M1 + QR0 + MR0 + HR0 + 3) (by omega)
  have z5_2 := q1 (0 + K0 + K1 + T0 + Q0 + T1 + Q1 + A + B + M0 + M1 + QR0 + MR0 + HR0 + 2) (by omega)
  have z5_1 := q1 (0 + K0 + K1 + T0 + Q0 + T1 + Q1 + A + B + M0 + M1 + QR0 + MR0 + HR0 + 1) (by omega)
  have z6_4 := a (0 + K0 + K1 + T0 + Q0 + T1 + Q1 + A + B + M0 + M1 + QR0 + MR0 + HR0 + 4) (by omega)
  have z6_3 := a (0 + K0 + K1 + T0 + Q0 + T1 + Q1 + A + B + M0 + M1 + QR0 + MR0 + HR0 + 3) (by omega)
  have z6_2 := a (0 + K0 + K1 + T0 + Q0 + T1 + Q1 + A + B + M0 + M1 + QR0 + MR0 + HR0 + 2) (by omega)
  have z6_1 := a (0 + K0 + K1 + T0 + Q0 + T1 + Q1 + A + B + M0 + M1 + QR0 + MR0 + HR0 + 1) (by omega)
  have z7_4 := b (0 + K0 + K1 + T0 + Q0 + T1 + Q1 + A + B + M0 + M1 + QR0 + MR0 + HR0 + 4) (by omega)
  have z7_3 := b (0 + K0 + K1 + T0 + Q0 + T1 + Q1 + A + B + M0 + M1 + QR0 + MR0 + HR0 + 3) (by omega)
  have z7_2 := b (0 + K0 + K1 + T0 + Q0 + T1 + Q1 + A + B + M0 + M1 + QR0 + MR0 + HR0 + 2) (by omega)
  have z7_1 := b (0 + K0 + K1 + T0 + Q0 + T1 + Q1 + A + B + M0 + M1 + QR0 + MR0 + HR0 + 1) (by omega)
  have z8_4 := em0 (0 + K0 + K1 + T0 + Q0 + T1 + Q1 + A + B + M0 + M1 + QR0 + MR0 + HR0 + 4) (by omega)
  have z8_3 := em0 (0 + K0 + K1 + T0 + Q0 + T1 + Q1 + A + B + M0 + M1 + QR0 + MR0 + HR0 + 3) (by omega)
  have z8_2 := em0 (0 + K0 + K1 + T0 + Q0 + T1 + Q1 + A + B + M0 + M1 + QR0 + MR0 + HR0 + 2) (by omega)
  have z8_1 := em0 (0 + K0 + K1 + T0 + Q0 + T1 + Q1 + A + B + M0 + M1 + QR0 + MR0 + HR0 + 1) (by omega)
  have z9_4 := em1 (0 + K0 + K1 + T0 + Q0 + T1 + Q1 + A + B + M0 + M1 + QR0 + MR0 + HR0 + 4) (by omega)
  have z9_3 := em1 (0 + K0 + K1 + T0 + Q0 + T1 + Q1 + A + B + M0 + M1 + QR0 + MR0 + HR0 + 3) (by omega)
  have z9_2 := em1 (0 + K0 + K1 + T0 + Q0 + T1 + Q1 + A + B + M0 + M1 + QR0 + MR0 + HR0 + 2) (by omega)
  have z9_1 := em1 (0 + K0 + K1 + T0 + Q0 + T1 + Q1 + A + B + M0 + M1 + QR0 + MR0 + HR0 + 1) (by omega)
  have z10_4 := qr0 (0 + K0 + K1 + T0 + Q0 + T1 + Q1 + A + B + M0 + M1 + QR0 + MR0 + HR0 + 4) (by omega)
  have z10_3 := qr0 (0 + K0 + K1 + T0 + Q0 + T1 + Q1 + A + B + M0 + M1 + QR0 + MR0 + HR0 + 3) (by omega)
  have z10_2 := qr0 (0 + K0 + K1 + T0 + Q0 + T1 + Q1 + A + B + M0 + M1 + QR0 + MR0 + HR0 + 2) (by omega)
  have z10_1 := qr0 (0 + K0 + K1 + T0 + Q0 + T1 + Q1 + A + B + M0 + M1 + QR0 + MR0 + HR0 + 1) (by omega)
  have z11_4 := mr0 (0 + K0 + K1 + T0 + Q0 + T1 + Q1 + A + B + M0 + M1 + QR0 + MR0 + HR0 + 4) (by omega)
  have z11_3 := mr0 (0 + K0 + K1 + T0 + Q0 + T1 + Q1 + A + B + M0 + M1 + QR0 + MR0 + HR0 + 3) (by omega)
  have z11_2 := mr0 (0 + K0 + K1 + T0 + Q0 + T1 + Q1 + A + B + M0 + M1 + QR0 + MR0 + HR0 + 2) (by omega)
  have z11_1 := mr0 (0 + K0 + K1 + T0 + Q0 + T1 + Q1 + A + B + M0 + M1 + QR0 + MR0 + HR0 + 1) (by omega)
  have z12_4 := hr0 (0 + K0 + K1 + T0 + Q0 + T1 + Q1 + A + B + M0 + M1 + QR0 + MR0 + HR0 + 4) (by omega)
  have z12_3 := hr0 (0 + K0 + K1 + T0 + Q0 + T1 + Q1 + A + B + M0 + M1 + QR0 + MR0 + HR0 + 3) (by omega)
  have z12_2 := hr0 (0 + K0 + K1 + T0 + Q0 + T1 + Q1 + A + B + M0 + M1 + QR0 + MR0 + HR0 + 2) (by omega)
  have z12_1 := hr0 (0 + K0 + K1 + T0 + Q0 + T1 + Q1 + A + B + M0 + M1 + QR0 + MR0 + HR0 + 1) (by omega)
  simp only [laws_FnExactSpliceSub.f, laws_FnExactSpliceSub.j0, laws_FnExactSpliceSub.j1, laws_FnExactSpliceSub.j2, z0_4, z0_3, z0_2, z0_1, z1_4, z1_3, z1_2, z1_1, z2_4, z2_3, z2_2, z2_1, z3_4, z3_3, z3_2, z3_1, z4_4, z4_3, z4_2, z4_1, z5_4, z5_3, z5_2, z5_1, z6_4, z6_3, z6_2, z6_1, z7_4, z7_3, z7_2, z7_1, z8_4, z8_3, z8_2, z8_1, z9_4, z9_3, z9_2, z9_1, z10_4, z10_3, z10_2, z10_1, z11_4, z11_3, z11_2, z11_1, z12_4, z12_3, z12_2, z12_1, if_neg c0, if_neg c1, if_neg (show ¬ (m1_ : Int) < 0 by omega), if_neg (show ¬ mn0_ < 0 by omega), Option.bind_some, bne_self_eq_false, Bool.false_eq_true, if_false, if_true]
  try rfl
  try simp
end Go.Proofs.Ytpdhccdmbdbdpaa.XA
end
