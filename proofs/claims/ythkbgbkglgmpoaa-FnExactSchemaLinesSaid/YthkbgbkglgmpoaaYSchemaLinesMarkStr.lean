/- What the marks of a row of texts come to, and that they are found again. Conditions: each theorem's own premises. -/
import Derived.Test.YthkbgbkglgmpoaaYSchemaLines9
import Derived.Test.YthkbgbkglgmpoaaYSchemaLines9
import Derived.Test.YthkbgbkglgmpoaaYSchemaLinesMarkT
namespace Go.Proofs.Ythkbgbkglgmpoaa.XA
set_option linter.unusedVariables false
open Go.RowKit Go.Proofs.YthkbgbkglgmpoaaW.PrintWords Go.Proofs.YthkbgbkglgmpoaaW.PrintLast Go.Proofs.YthkbgbkglgmpoaaW.PrintMore Go.Proofs.Ythkbgbkglgmpoaa.Pk
noncomputable def markTx (n : Int) : ByteArray := if h : n ≤ 4000000000000000000 then Classical.choose (markText_ev n h) else ⟨#[]⟩
theorem markTx_ev (n : Int) (h : n ≤ 4000000000000000000) : Ev (fun k => laws_markText.f k n) (markTx n) := by
  unfold markTx
  rw [dif_pos h]
  exact Classical.choose_spec (markText_ev n h)
noncomputable def markSL : Int → List ByteArray → List ByteArray
  | _, [] => []
  | n, _ :: r => markTx n :: markSL (n + 1) r
theorem markSL_len : ∀ (n : Int) (l : List ByteArray), (markSL n l).length = l.length
  | _, [] => rfl
  | n, x :: r => by
    show (markSL (n + 1) r).length + 1 = r.length + 1
    rw [markSL_len]
theorem markStringS_loop : ∀ (r pre : List ByteArray) (n : Int), 0 ≤ n → n + r.length ≤ 4000000000000000000 → pre.length + r.length ≤ 1048576 → Ev (fun k => laws_markStringS.l0 k (pre ++ r) n (pre.length : Int)) (n + r.length, pre ++ markSL n r)
  | [], pre, n, h0, h, hl => by
    refine Ev.step (fun k => by rw [laws_markStringS.l0]) ?_
    rw [show n + (([] : List ByteArray).length : Int) = n from Int.add_zero n, show pre ++ markSL n [] = pre ++ [] from rfl]
    exact Ev.neg (by simp) (Ev.now _)
  | x :: r, pre, n, h0, h, hl => by
    simp only [List.length_cons] at hl h
    have ih := markStringS_loop r (pre ++ [markTx n]) (n + 1) (by omega) (by omega) (by simp; omega)
    refine Ev.step (fun k => by rw [laws_markStringS.l0]) ?_
    refine Ev.pos (by simp; omega) (Ev.bind (markTx_ev n (by omega)) (Ev.pos (by omega) ?_))
    rw [show (pre ++ x :: r).set ((pre.length : Int)).toNat (markTx n) = (pre ++ [markTx n]) ++ r by simp, show wrap64 ((pre.length : Int) + 1) = (((pre ++ [markTx n]).length : Nat) : Int) by rw [wrap_id _ (by omega) (by omega)]; simp, wrap_id (n + 1) (by omega) (by omega)]
    rw [show n + ((x :: r).length : Int) = n + 1 + r.length by simp; omega, show pre ++ markSL n (x :: r) = pre ++ [markTx n] ++ markSL (n + 1) r by simp [markSL]]
    exact ih
theorem markStringS_ev (l : List ByteArray) (n : Int) (h0 : 0 ≤ n) (h : n + l.length ≤ 4000000000000000000) (hl : l.length ≤ 1048576) : Ev (fun k => laws_markStringS.f k l n) (n + l.length, markSL n l) := markStringS_loop l [] n h0 h (by simpa using hl)
theorem heldStringS_loop : ∀ (r pre : List ByteArray) (n : Int), 0 ≤ n → n + r.length ≤ 4000000000000000000 → pre.length + r.length ≤ 1048576 → Ev (fun k => laws_heldStringS.l0 k (pre ++ markSL n r) n (pre.length : Int)) (n + r.length)
  | [], pre, n, h0, h, hl => by
    refine Ev.step (fun k => by rw [laws_heldStringS.l0]) ?_
    rw [show n + (([] : List ByteArray).length : Int) = n from Int.add_zero n]
    exact Ev.neg (by simp [markSL]) (Ev.now _)
  | x :: r, pre, n, h0, h, hl => by
    simp only [List.length_cons] at hl h
    have ih := heldStringS_loop r (pre ++ [markTx n]) (n + 1) (by omega) (by omega) (by simp; omega)
    have g : rdOf ByteArray.empty (pre ++ markSL n (x :: r)) (pre.length : Int) = markTx n := by
      show (pre ++ markSL n (x :: r)).getD ((pre.length : Nat) : Int).toNat ByteArray.empty = _
      simp [markSL]
    refine Ev.step (fun k => by rw [laws_heldStringS.l0]) ?_
    rw [g]
    refine Ev.pos (by simp [markSL]; omega) (Ev.pos (by omega) (Ev.bind (markTx_ev n (by omega)) (Ev.pos rfl ?_)))
    rw [show wrap64 ((pre.length : Int) + 1) = (((pre ++ [markTx n]).length : Nat) : Int) by rw [wrap_id _ (by omega) (by omega)]; simp, wrap_id (n + 1) (by omega) (by omega)]
    rw [show n + ((x :: r).length : Int) = n + 1 + r.length by simp; omega, show pre ++ markSL n (x :: r) = pre ++ [markTx n] ++ markSL (n + 1) r by simp [markSL]]
    exact ih
theorem heldStringS_ev (l : List ByteArray) (n : Int) (h0 : 0 ≤ n) (h : n + l.length ≤ 4000000000000000000) (hl : l.length ≤ 1048576) : Ev (fun k => laws_heldStringS.f k (markSL n l) n) (n + l.length) := heldStringS_loop l [] n h0 h (by simpa using hl)
end Go.Proofs.Ythkbgbkglgmpoaa.XA
