/- What the marks of a row of locks come to, in numbers. Conditions: each theorem's own premises. -/
import Derived.Test.YtocelbmpnjnnbaaYPutHold18
import Derived.Test.YtocelbmpnjnnbaaYPutHoldMarkP
namespace Go.Proofs.Ytocelbmpnjnnbaa.XA
set_option linter.unusedVariables false
open Go.RowKit Go.Proofs.YtocelbmpnjnnbaaW.PrintWords Go.Proofs.YtocelbmpnjnnbaaW.PrintLast Go.Proofs.YtocelbmpnjnnbaaW.PrintMore Go.Proofs.Ytocelbmpnjnnbaa.Pk
def markHL (n : Int) (m : Nat) : List S38 := (List.range m).map (fun (j : Nat) => ⟨n + 3 * (j : Int), n + 3 * (j : Int) + 1, n + 3 * (j : Int) + 1 + 1⟩)
theorem markHL_len (n : Int) (m : Nat) : (markHL n m).length = m := by simp [markHL]
theorem markHL_at (n : Int) (m j : Nat) (h : j < m) : (markHL n m)[j]? = some ⟨n + 3 * (j : Int), n + 3 * (j : Int) + 1, n + 3 * (j : Int) + 1 + 1⟩ := by simp [markHL, h]
theorem markHoldS_ev (l : List S38) (n : Int) (h0 : 0 ≤ n) (h : n + 3 * l.length ≤ 4000000000000000000) : Ev (fun k => laws_markHoldS.f k l n) (n + 3 * (l.length : Int), markHL n l.length) := by
  obtain ⟨r, hr, rfl⟩ := mark_loop l.length (fun i (s : List S38 × Int) => s.2 = n + 3 * (i : Int) ∧ s.1.length = l.length ∧ ∀ j, j < i → s.1[j]? = some ⟨n + 3 * (j : Int), n + 3 * (j : Int) + 1, n + 3 * (j : Int) + 1 + 1⟩) (fun r => r = (n + 3 * (l.length : Int), markHL n l.length)) (fun k i s => laws_markHoldS.l0 k s.1 s.2 i)
    (fun i s hi hI hr => by
      obtain ⟨xs, c⟩ := s
      obtain ⟨e, hl, hj⟩ := hI
      simp only at e hl hj
      have a1 : wrap64 (c + 1) = c + 1 := wrap_id _ (by omega) (by omega)
      have a3 : wrap64 (c + 1 + 1) = c + 1 + 1 := wrap_id _ (by omega) (by omega)
      have a4 : wrap64 (c + 1 + 1 + 1) = c + 1 + 1 + 1 := wrap_id _ (by omega) (by omega)
      have a2 : wrap64 ((i : Int) + 1) = (i : Int) + 1 := wrap_id _ (by omega) (by omega)
      have r1 : ∀ v, rd_T38 (xs.set i v) (i : Int) = v := fun v => by
        show (xs.set i v).getD i _ = v
        rw [List.getD_eq_getElem?_getD, List.getElem?_set_self (by omega)]
        rfl
      obtain ⟨r, h1, h2⟩ := hr (xs.set i ⟨c, c + 1, c + 1 + 1⟩, c + 1 + 1 + 1) ⟨by simp only; omega, by simp only [List.length_set]; exact hl, fun j hj' => by
        simp only
        by_cases q : j = i
        · subst q; rw [List.getElem?_set_self (by omega), e]
        · rw [List.getElem?_set_ne (by omega)]; exact hj j (by omega)⟩
      refine ⟨r, Ev.step (fun k => ?_) h1, h2⟩
      show laws_markHoldS.l0 (k + 1) xs c i = _
      rw [laws_markHoldS.l0, if_pos (by omega), if_pos (by omega), a1, a3, a4, a2]
      simp only [Option.bind_some, Int.toNat_natCast, r1, List.set_set])
    (fun s hI => by
      obtain ⟨e, hl, hj⟩ := hI
      refine ⟨_, Ev.step (fun k => ?_) (Ev.now (s.2, s.1)), ?_⟩
      · show laws_markHoldS.l0 (k + 1) s.1 s.2 l.length = _
        rw [laws_markHoldS.l0, if_neg (by omega)]
      · rw [e]
        refine congrArg (Prod.mk _) (List.ext_getElem? (fun j => ?_))
        by_cases c : j < l.length
        · rw [hj j c, markHL_at _ _ _ c]
        · rw [List.getElem?_eq_none (by omega), List.getElem?_eq_none (by rw [markHL_len]; omega)])
    (l, n) ⟨by simp, rfl, fun j hj => by omega⟩
  exact hr
theorem markHoldS_ex (l : List S38) (n : Int) (h0 : 0 ≤ n) (h : n ≤ 1000000000000000000) (hl : l.length ≤ 1048576) : ∃ r, Ev (fun k => laws_markHoldS.f k l n) r ∧ n ≤ r.1 ∧ r.1 ≤ n + 3 * l.length :=
  ⟨_, markHoldS_ev l n h0 (by omega), by simp only; omega, by simp only; omega⟩
end Go.Proofs.Ytocelbmpnjnnbaa.XA
