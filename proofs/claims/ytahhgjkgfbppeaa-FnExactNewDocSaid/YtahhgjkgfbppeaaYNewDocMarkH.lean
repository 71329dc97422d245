/- What the marks of a document's nodes come to, told whole, and that they are found again. Conditions: each theorem's own premises. -/
import Derived.Test.YtahhgjkgfbppeaaYNewDoc3
import Derived.Test.YtahhgjkgfbppeaaYNewDoc3
import Derived.Test.YtahhgjkgfbppeaaYNewDocMarkP
namespace Go.Proofs.Ytahhgjkgfbppeaa.XA
set_option linter.unusedVariables false
open Go.RowKit Go.Proofs.YtahhgjkgfbppeaaW.PrintWords Go.Proofs.YtahhgjkgfbppeaaW.PrintLast Go.Proofs.YtahhgjkgfbppeaaW.PrintMore Go.Proofs.Ytahhgjkgfbppeaa.Pk
open Classical in
noncomputable def markT (n : Int) : ByteArray := if h : n ≤ 4000000000000000000 then Classical.choose (markText_ev n h) else ⟨#[]⟩
theorem markT_ev (n : Int) (h : n ≤ 4000000000000000000) : Ev (fun k => laws_markText.f k n) (markT n) := by
  unfold markT
  rw [dif_pos h]
  exact Classical.choose_spec (markText_ev n h)
noncomputable def markN : List S73 → Int → List S73
  | [], _ => []
  | x :: xs, c => ⟨c, c + 1, c + 1 + 1, markT (c + 1 + 1 + 1), markL (c + 1 + 1 + 1 + 1) x.f4.length⟩ :: markN xs (c + 1 + 1 + 1 + 1 + x.f4.length)
def cntN : List S73 → Int → Int
  | [], c => c
  | x :: xs, c => cntN xs (c + 1 + 1 + 1 + 1 + x.f4.length)
theorem cntN_ge : ∀ (l : List S73) (c : Int), c ≤ cntN l c
  | [], c => Int.le_refl _
  | x :: xs, c => by
    have := cntN_ge xs (c + 1 + 1 + 1 + 1 + x.f4.length)
    rw [cntN]
    omega
theorem mid_rd (A B : List S73) (x : S73) : rd_T73 (A ++ x :: B) (A.length : Int) = x := by
  show (A ++ x :: B).getD A.length _ = x
  simp [List.getD_eq_getElem?_getD]
theorem mid_set (A B : List S73) (x y : S73) : (A ++ x :: B).set A.length y = (A ++ [y]) ++ B := by
  rw [List.set_append_right _ _ (Nat.le_refl _)]; simp
theorem markN_ev : ∀ (r d : List S73) (c : Int), d.length + r.length ≤ 1048576 → (∀ x ∈ r, x.f4.length ≤ 1048576) → 0 ≤ c → c + 1048580 * r.length ≤ 2000000000000000000 → Ev (fun k => laws_markNodeS.l0 k (d ++ r) c (d.length : Int)) (cntN r c, d ++ markN r c) ∧ cntN r c ≤ c + 1048580 * r.length
  | [], d, c, hl, hk, h0, hc => by
    refine ⟨Ev.step (fun k => ?_) (Ev.now (c, d ++ [])), by rw [cntN]; simp⟩
    show laws_markNodeS.l0 (k + 1) (d ++ []) c d.length = _
    rw [laws_markNodeS.l0, if_neg (by rw [List.append_nil]; omega)]
  | x :: xs, d, c, hl, hk, h0, hc => by
    have hx := hk x List.mem_cons_self
    simp only [List.length_cons] at hl hc
    have a1 : wrap64 (c + 1) = c + 1 := wrap_id _ (by omega) (by omega)
    have a2 : wrap64 (c + 1 + 1) = c + 1 + 1 := wrap_id _ (by omega) (by omega)
    have a3 : wrap64 (c + 1 + 1 + 1) = c + 1 + 1 + 1 := wrap_id _ (by omega) (by omega)
    have a4 : wrap64 (c + 1 + 1 + 1 + 1) = c + 1 + 1 + 1 + 1 := wrap_id _ (by omega) (by omega)
    have a5 : wrap64 ((d.length : Int) + 1) = (d.length : Int) + 1 := wrap_id _ (by omega) (by omega)
    obtain ⟨A, ht⟩ := markT_ev (c + 1 + 1 + 1) (by omega)
    obtain ⟨B, hm⟩ := markIntS_ev x.f4 (c + 1 + 1 + 1 + 1) (by omega) (by omega)
    obtain ⟨⟨C, h1⟩, h2⟩ := markN_ev xs (d ++ [⟨c, c + 1, c + 1 + 1, markT (c + 1 + 1 + 1), markL (c + 1 + 1 + 1 + 1) x.f4.length⟩]) (c + 1 + 1 + 1 + 1 + x.f4.length) (by simp only [List.length_append, List.length_cons, List.length_nil]; omega) (fun y hy => hk y (List.mem_cons_of_mem _ hy)) (by omega) (by omega)
    refine ⟨⟨A + B + C + 1, fun k hk' => ?_⟩, by rw [cntN]; simp only [List.length_cons]; omega⟩
    obtain ⟨k, rfl⟩ : ∃ y, k = y + 1 := ⟨k - 1, by omega⟩
    have ht := ht k (by omega)
    have hm := hm k (by omega)
    have h1 := h1 k (by omega)
    simp only at ht hm h1
    have e5 : ((d ++ [(⟨c, c + 1, c + 1 + 1, markT (c + 1 + 1 + 1), markL (c + 1 + 1 + 1 + 1) x.f4.length⟩ : S73)]).length : Int) = (d.length : Int) + 1 := by simp
    rw [e5, List.append_assoc] at h1
    show laws_markNodeS.l0 (k + 1) (d ++ x :: xs) c d.length = _
    rw [laws_markNodeS.l0, if_pos (by simp only [List.length_append, List.length_cons]; omega), if_pos (by omega), a1, a2, a3, a4, a5, ht]
    simp only [Option.bind_some, mid_rd, hm, Int.toNat_natCast, mid_set]
    rw [cntN, markN]
    rw [List.append_assoc]
    simpa using h1
theorem heldN_ev : ∀ (r d : List S73) (c : Int), d.length + r.length ≤ 1048576 → (∀ x ∈ r, x.f4.length ≤ 1048576) → 0 ≤ c → c + 1048580 * r.length ≤ 2000000000000000000 → Ev (fun k => laws_heldNodeS.l0 k (d ++ markN r c) c (d.length : Int)) (cntN r c)
  | [], d, c, hl, hk, h0, hc => by
    refine Ev.step (fun k => ?_) (Ev.now c)
    show laws_heldNodeS.l0 (k + 1) (d ++ []) c d.length = _
    rw [laws_heldNodeS.l0, if_neg (by rw [List.append_nil]; omega)]
  | x :: xs, d, c, hl, hk, h0, hc => by
    have hx := hk x List.mem_cons_self
    simp only [List.length_cons] at hl hc
    have a1 : wrap64 (c + 1) = c + 1 := wrap_id _ (by omega) (by omega)
    have a2 : wrap64 (c + 1 + 1) = c + 1 + 1 := wrap_id _ (by omega) (by omega)
    have a3 : wrap64 (c + 1 + 1 + 1) = c + 1 + 1 + 1 := wrap_id _ (by omega) (by omega)
    have a4 : wrap64 (c + 1 + 1 + 1 + 1) = c + 1 + 1 + 1 + 1 := wrap_id _ (by omega) (by omega)
    have a5 : wrap64 ((d.length : Int) + 1) = (d.length : Int) + 1 := wrap_id _ (by omega) (by omega)
    obtain ⟨A, ht⟩ := markT_ev (c + 1 + 1 + 1) (by omega)
    obtain ⟨B, hm⟩ := heldIntS_ev x.f4.length (c + 1 + 1 + 1 + 1) (by omega) (by omega)
    obtain ⟨C, h1⟩ := heldN_ev xs (d ++ [⟨c, c + 1, c + 1 + 1, markT (c + 1 + 1 + 1), markL (c + 1 + 1 + 1 + 1) x.f4.length⟩]) (c + 1 + 1 + 1 + 1 + x.f4.length) (by simp only [List.length_append, List.length_cons, List.length_nil]; omega) (fun y hy => hk y (List.mem_cons_of_mem _ hy)) (by omega) (by omega)
    refine ⟨A + B + C + 1, fun k hk' => ?_⟩
    obtain ⟨k, rfl⟩ : ∃ y, k = y + 1 := ⟨k - 1, by omega⟩
    have ht := ht k (by omega)
    have hm := hm k (by omega)
    have h1 := h1 k (by omega)
    simp only at ht hm h1
    have e5 : ((d ++ [(⟨c, c + 1, c + 1 + 1, markT (c + 1 + 1 + 1), markL (c + 1 + 1 + 1 + 1) x.f4.length⟩ : S73)]).length : Int) = (d.length : Int) + 1 := by simp
    rw [e5, List.append_assoc] at h1
    have hneg : ¬ (c + 1 + 1 + 1 + 1 + (x.f4.length : Int)) < 0 := by omega
    show laws_heldNodeS.l0 (k + 1) (d ++ markN (x :: xs) c) c d.length = _
    rw [markN, laws_heldNodeS.l0, if_pos (by simp only [List.length_append, List.length_cons]; omega), if_pos (by omega), a1, a2, a3, a4, a5, ht]
    simp only [Option.bind_some, mid_rd, hm, if_true, if_neg hneg]
    rw [cntN]
    simpa using h1
theorem markDeep_ev (a b : Int) (l : List S73) (hl : l.length ≤ 1048576) (hk : ∀ x ∈ l, x.f4.length ≤ 1048576) :
    ∃ (n : Int) (r : List S73), 0 ≤ n ∧ Ev (fun k => laws_markDoc.f k a b l 1) (n, r) ∧ Ev (fun k => laws_heldDoc.f k a b r 1) n := by
  obtain ⟨h1, h2⟩ := markN_ev l [] 1 (by simpa using hl) hk (by omega) (by omega)
  have h3 := heldN_ev l [] 1 (by simpa using hl) hk (by omega) (by omega)
  have h4 := cntN_ge l 1
  refine ⟨cntN l 1, markN l 1, by omega, ?_, ?_⟩
  · exact h1
  · obtain ⟨K, h3⟩ := h3
    refine ⟨K, fun k hk' => ?_⟩
    have e : laws_heldNodeS.f k (markN l 1) 1 = some (cntN l 1) := h3 k hk'
    show laws_heldDoc.f k a b (markN l 1) 1 = _
    unfold laws_heldDoc.f
    rw [e, Option.bind_some, if_neg (by omega)]
end Go.Proofs.Ytahhgjkgfbppeaa.XA
