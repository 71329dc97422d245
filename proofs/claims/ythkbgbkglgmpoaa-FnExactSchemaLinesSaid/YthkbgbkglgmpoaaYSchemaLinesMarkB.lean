/- What the marks of a row of whole numbers come to. Conditions: each theorem's own premises. -/
import Derived.Test.YthkbgbkglgmpoaaYSchemaLines9
import Derived.Test.YthkbgbkglgmpoaaPk
namespace Go.Proofs.Ythkbgbkglgmpoaa.XA
set_option linter.unusedVariables false
open Go.RowKit Go.Proofs.YthkbgbkglgmpoaaW.PrintWords Go.Proofs.YthkbgbkglgmpoaaW.PrintLast Go.Proofs.YthkbgbkglgmpoaaW.PrintMore Go.Proofs.Ythkbgbkglgmpoaa.Pk
theorem mark_loop {σ ρ : Type} (n : Nat) (I : Nat → σ → Prop) (R : ρ → Prop) (F : Nat → Int → σ → Option ρ)
    (hs : ∀ (i : Nat) (s : σ), i < n → I i s → (∀ s', I (i + 1) s' → ∃ r, Ev (fun k => F k ((i : Int) + 1) s') r ∧ R r) → ∃ r, Ev (fun k => F k (i : Int) s) r ∧ R r)
    (he : ∀ s, I n s → ∃ r, Ev (fun k => F k (n : Int) s) r ∧ R r) : ∀ s, I 0 s → ∃ r, Ev (fun k => F k 0 s) r ∧ R r := by
  have key : ∀ (m i : Nat) (s : σ), i + m = n → I i s → ∃ r, Ev (fun k => F k (i : Int) s) r ∧ R r := by
    intro m
    induction m with
    | zero =>
      intro i s hi h
      have e : i = n := by omega
      subst e
      exact he s h
    | succ m ih =>
      intro i s hi h
      exact hs i s (by omega) h (fun s' h' => ih (i + 1) s' (by omega) h')
  intro s h
  exact key n 0 s (by omega) h
def markL (n : Int) (m : Nat) : List Int := (List.range m).map (fun (j : Nat) => n + (j : Int))
theorem markL_len (n : Int) (m : Nat) : (markL n m).length = m := by simp [markL]
theorem markL_at (n : Int) (m j : Nat) (h : j < m) : (markL n m)[j]? = some (n + (j : Int)) := by simp [markL, h]
theorem markIntS_ev (l : List Int) (n : Int) (h0 : 0 ≤ n) (h : n + l.length ≤ 4000000000000000000) : Ev (fun k => laws_markIntS.f k l n) (n + l.length, markL n l.length) := by
  obtain ⟨r, hr, rfl⟩ := mark_loop l.length (fun i (s : List Int × Int) => s.2 = n + i ∧ s.1.length = l.length ∧ ∀ j, j < i → s.1[j]? = some (n + (j : Int))) (fun r => r = (n + (l.length : Int), markL n l.length)) (fun k i s => laws_markIntS.l0 k s.1 s.2 i)
    (fun i s hi hI hr => by
      obtain ⟨e, hl, hj⟩ := hI
      have a1 : wrap64 (s.2 + 1) = s.2 + 1 := wrap_id _ (by omega) (by omega)
      have a2 : wrap64 ((i : Int) + 1) = (i : Int) + 1 := wrap_id _ (by omega) (by omega)
      obtain ⟨r, h1, h2⟩ := hr (s.1.set i s.2, s.2 + 1) ⟨by simp only [e]; omega, by simp only [List.length_set]; exact hl, fun j hj' => by
        simp only
        by_cases c : j = i
        · subst c; rw [List.getElem?_set_self (by omega), e]
        · rw [List.getElem?_set_ne (by omega)]; exact hj j (by omega)⟩
      refine ⟨r, Ev.step (fun k => ?_) h1, h2⟩
      show laws_markIntS.l0 (k + 1) s.1 s.2 i = _
      rw [laws_markIntS.l0, if_pos (by omega), if_pos (by omega), a1, a2]
      rfl)
    (fun s hI => by
      obtain ⟨e, hl, hj⟩ := hI
      refine ⟨_, Ev.step (fun k => ?_) (Ev.now (s.2, s.1)), ?_⟩
      · show laws_markIntS.l0 (k + 1) s.1 s.2 l.length = _
        rw [laws_markIntS.l0, if_neg (by omega)]
      · rw [e]
        refine congrArg (Prod.mk _) (List.ext_getElem? (fun j => ?_))
        by_cases c : j < l.length
        · rw [hj j c, markL_at _ _ _ c]
        · rw [List.getElem?_eq_none (by omega), List.getElem?_eq_none (by rw [markL_len]; omega)])
    (l, n) ⟨by simp, rfl, fun j hj => by omega⟩
  exact hr
end Go.Proofs.Ythkbgbkglgmpoaa.XA
