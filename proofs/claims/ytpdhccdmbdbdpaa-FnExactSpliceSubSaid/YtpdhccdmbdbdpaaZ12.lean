/- Words and contracts of this claim, put together out of several texts by a program of this session's. Conditions: each theorem's own premises. -/
import Derived.Test.YtpdhccdmbdbdpaaZ0
section
namespace Go.Proofs.Ytpdhccdmbdbdpaa.Pk
open Go.RowKit Go.Proofs.YtpdhccdmbdbdpaaW.PrintWords
set_option linter.unusedVariables false
theorem wrap_id (n : Int) (h0 : -9223372036854775808 ≤ n) (h1 : n ≤ 9223372036854775807) : wrap64 n = n := by unfold wrap64; omega
theorem Ev.pos {α : Type} {c : Prop} [Decidable c] {f g : Nat → Option α} {r : α} (h : c) (e : Ev f r) : Ev (fun k => if c then f k else g k) r := by
  obtain ⟨K, e⟩ := e
  exact ⟨K, fun k hk => by show (if c then f k else g k) = some r; rw [if_pos h]; exact e k hk⟩
theorem Ev.neg {α : Type} {c : Prop} [Decidable c] {f g : Nat → Option α} {r : α} (h : ¬ c) (e : Ev g r) : Ev (fun k => if c then f k else g k) r := by
  obtain ⟨K, e⟩ := e
  exact ⟨K, fun k hk => by show (if c then f k else g k) = some r; rw [if_neg h]; exact e k hk⟩
theorem Ev.const {α : Type} {a : Option α} {r : α} (h : a = some r) : Ev (fun _ => a) r := ⟨0, fun _ _ => h⟩
theorem fill_loop {α β : Type} (l : List α) (cv : α → β) (d : α) (z : β) (F : Nat → List β → Int → Option (List β))
    (hs : ∀ (i : Nat) (out : List β) (r : List β), i < l.length → out.length = l.length → Ev (fun k => F k (out.set i (cv (l.getD i d))) ((i : Int) + 1)) r → Ev (fun k => F k out (i : Int)) r)
    (he : ∀ out : List β, out.length = l.length → Ev (fun k => F k out (l.length : Int)) out) :
    Ev (fun k => F k (List.replicate l.length z) 0) (l.map cv) := by
  have key : ∀ (m i : Nat) (out : List β), i + m = l.length → out.length = l.length → (∀ j, j < i → out[j]? = (l.map cv)[j]?) → Ev (fun k => F k out (i : Int)) (l.map cv) := by
    intro m
    induction m with
    | zero =>
      intro i out hi ho hp
      have : out = l.map cv := by
        apply List.ext_getElem?
        intro j
        by_cases hj : j < i
        · exact hp j hj
        · rw [List.getElem?_eq_none (by omega), List.getElem?_eq_none (by rw [List.length_map]; omega)]
      subst this
      have e : i = l.length := by omega
      subst e
      exact he _ ho
    | succ m ih =>
      intro i out hi ho hp
      refine hs i out _ (by omega) ho ?_
      have := ih (i + 1) (out.set i (cv (l.getD i d))) (by omega) (by rw [List.length_set]; exact ho) (fun j hj => by
        by_cases hji : j = i
        · subst hji
          rw [List.getElem?_set_self (by omega), List.getElem?_map, List.getElem?_eq_getElem (by omega), List.getD_eq_getElem?_getD, List.getElem?_eq_getElem (by omega)]
          rfl
        · rw [List.getElem?_set_ne (by omega)]
          exact hp j (by omega))
      exact this
  exact key l.length 0 _ (by omega) (by simp) (fun j hj => absurd hj (by omega))
theorem sz_loop {α : Type} (l : List α) (d : α) (P : α → Prop) (F : Nat → Int → Int → Option Int)
    (hs : ∀ (i : Nat) (left : Int), i < l.length → 0 ≤ left → left ≤ 1048576 → ∃ v : Int, v ≤ left ∧ (v < 0 ∨ 0 ≤ v ∧ P (l.getD i d)) ∧ (v < 0 → Ev (fun k => F k left (i : Int)) (-1)) ∧ (0 ≤ v → ∀ r, Ev (fun k => F k v ((i : Int) + 1)) r → Ev (fun k => F k left (i : Int)) r))
    (he : ∀ left : Int, Ev (fun k => F k left (l.length : Int)) left) (left : Int) (h0 : 0 ≤ left) (h1 : left ≤ 1048576) :
    ∃ v : Int, Ev (fun k => F k left 0) v ∧ v ≤ left ∧ (v < 0 ∨ 0 ≤ v ∧ ∀ y ∈ l, P y) := by
  have key : ∀ (m i : Nat) (left : Int), i + m = l.length → 0 ≤ left → left ≤ 1048576 → ∃ v : Int, Ev (fun k => F k left (i : Int)) v ∧ v ≤ left ∧ (v < 0 ∨ 0 ≤ v ∧ ∀ j, i ≤ j → j < l.length → P (l.getD j d)) := by
    intro m
    induction m with
    | zero =>
      intro i left hi h0 h1
      have e : i = l.length := by omega
      subst e
      exact ⟨left, he left, Int.le_refl _, .inr ⟨h0, fun j hj hj' => by omega⟩⟩
    | succ m ih =>
      intro i left hi h0 h1
      obtain ⟨v, hv, hP, hneg, hpos⟩ := hs i left (by omega) h0 h1
      by_cases hv0 : v < 0
      · exact ⟨-1, hneg hv0, by omega, .inl (by omega)⟩
      · obtain ⟨v', hev, hle, hP'⟩ := ih (i + 1) v (by omega) (by omega) (by omega)
        have hPi : P (l.getD i d) := by rcases hP with h | h <;> first | omega | exact h.2
        refine ⟨v', hpos (by omega) v' hev, by omega, ?_⟩
        rcases hP' with h | ⟨h, g⟩
        · exact .inl h
        · refine .inr ⟨h, fun j hj hj' => ?_⟩
          by_cases hji : j = i
          · subst hji; exact hPi
          · exact g j (by omega) hj'
  obtain ⟨v, a, b, c⟩ := key l.length 0 left (by omega) h0 h1
  refine ⟨v, a, b, c.imp (fun h => h) (fun h => ⟨h.1, fun y hy => ?_⟩)⟩
  obtain ⟨j, hj, rfl⟩ := List.getElem_of_mem hy
  have := h.2 j (by omega) hj
  rw [List.getD_eq_getElem?_getD, List.getElem?_eq_getElem hj] at this
  exact this
theorem go_loop {ρ : Type} (n : Nat) (F : Nat → Int → Option ρ) (r : ρ)
    (hs : ∀ i : Nat, i < n → Ev (fun k => F k ((i : Int) + 1)) r → Ev (fun k => F k (i : Int)) r) (he : Ev (fun k => F k (n : Int)) r) : Ev (fun k => F k 0) r := by
  have key : ∀ (m i : Nat), i + m = n → Ev (fun k => F k (i : Int)) r := by
    intro m
    induction m with
    | zero => intro i hi; have e : i = n := by omega
              subst e; exact he
    | succ m ih => intro i hi; exact hs i (by omega) (ih (i + 1) (by omega))
  exact key n 0 (by omega)
theorem getD_mem {α : Type} (l : List α) (d : α) (i : Nat) (h : i < l.length) : l.getD i d ∈ l := by
  rw [List.getD_eq_getElem?_getD, List.getElem?_eq_getElem h]
  exact List.getElem_mem h
def findN : Nat → (Nat → Bool) → Int
  | 0, _ => -1
  | n + 1, p => if p 0 = true then 0 else if findN n (fun i => p (i + 1)) < 0 then -1 else findN n (fun i => p (i + 1)) + 1
theorem findN_ge (n : Nat) (p : Nat → Bool) : -1 ≤ findN n p := by
  induction n generalizing p with
  | zero => simp [findN]
  | succ n ih =>
    rw [findN]
    have := ih (fun i => p (i + 1))
    split
    · decide
    · split <;> omega
theorem find_loop (n : Nat) (p : Nat → Bool) (F : Nat → Int → Option Int)
    (hs : ∀ (i : Nat) (r : Int), i < n → p i = false → Ev (fun k => F k ((i : Int) + 1)) r → Ev (fun k => F k (i : Int)) r)
    (hf : ∀ i : Nat, i < n → p i = true → Ev (fun k => F k (i : Int)) (i : Int))
    (he : Ev (fun k => F k (n : Int)) (-1)) : Ev (fun k => F k 0) (findN n p) := by
  have key : ∀ (m i : Nat), i + m = n → Ev (fun k => F k (i : Int)) (if findN m (fun j => p (i + j)) < 0 then -1 else findN m (fun j => p (i + j)) + (i : Int)) := by
    intro m
    induction m with
    | zero =>
      intro i hi
      have e : i = n := by omega
      subst e
      rw [findN, if_pos (by decide)]
      exact he
    | succ m ih =>
      intro i hi
      have h := ih (i + 1) (by omega)
      have e : findN m (fun j => p (i + (j + 1))) = findN m (fun j => p (i + 1 + j)) := congrArg (findN m) (funext fun j => by rw [Nat.add_assoc, Nat.add_comm 1 j])
      have e0 : findN (m + 1) (fun j => p (i + j)) = if p (i + 0) = true then 0 else if findN m (fun j => p (i + 1 + j)) < 0 then -1 else findN m (fun j => p (i + 1 + j)) + 1 := by rw [← e]; rfl
      rw [e0]
      have hg := findN_ge m (fun j => p (i + 1 + j))
      generalize findN m (fun j => p (i + 1 + j)) = g at h hg
      cases hp : p (i + 0) with
      | true =>
        simp only [if_true]
        rw [if_neg (by decide), show (0 : Int) + (i : Int) = (i : Int) by omega]
        exact hf i (by omega) hp
      | false =>
        simp only [Bool.false_eq_true, if_false]
        refine hs i _ (by omega) hp ?_
        by_cases hlt : g < 0
        · rw [if_pos hlt] at h
          rw [if_pos hlt, if_pos (by decide)]
          exact h
        · rw [if_neg hlt] at h
          rw [if_neg hlt, if_neg (by omega), show g + 1 + (i : Int) = g + ((i + 1 : Nat) : Int) by omega]
          exact h
  have h := key n 0 (by omega)
  rw [show findN n (fun j => p (0 + j)) = findN n p from congrArg (findN n) (funext fun j => by rw [Nat.zero_add])] at h
  have hge := findN_ge n p
  by_cases hlt : findN n p < 0
  · rw [if_pos hlt] at h
    rw [show findN n p = -1 by omega]
    exact h
  · rw [if_neg hlt] at h
    rw [show findN n p + ((0 : Nat) : Int) = findN n p by omega] at h
    exact h
end Go.Proofs.Ytpdhccdmbdbdpaa.Pk
end
