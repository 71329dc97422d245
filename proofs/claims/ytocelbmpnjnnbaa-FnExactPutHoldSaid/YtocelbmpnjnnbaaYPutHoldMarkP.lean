/- What the marks come to, in numbers. Conditions: each theorem's own premises. -/
import Derived.Test.YtocelbmpnjnnbaaYPutHold18
import Derived.Test.YtocelbmpnjnnbaaYPutHold18
import Derived.Test.YtocelbmpnjnnbaaYPutHoldMarkDoc
import Derived.Test.YtocelbmpnjnnbaaYPutHoldMarkB
import Derived.Test.YtocelbmpnjnnbaaPk
namespace Go.Proofs.Ytocelbmpnjnnbaa.XA
set_option linter.unusedVariables false
open Go.RowKit Go.Proofs.YtocelbmpnjnnbaaW.PrintWords Go.Proofs.YtocelbmpnjnnbaaW.PrintLast Go.Proofs.YtocelbmpnjnnbaaW.PrintMore Go.Proofs.Ytocelbmpnjnnbaa.Pk
theorem markText_ev (n : Int) (h : n ≤ 4000000000000000000) : ∃ t, Ev (fun k => laws_markText.f k n) t := by
  by_cases h0 : n ≤ 0
  · exact ⟨_, 0, fun k _ => by show laws_markText.f k n = some _; unfold laws_markText.f; rw [if_pos h0]⟩
  have key : ∀ (m : Nat) (n : Int) (x : ByteArray), n ≤ m → 0 ≤ n → n + x.size ≤ 4000000000000000000 → ∃ t, Ev (fun k => laws_markText.l0 k n x) t := by
    intro m
    induction m with
    | zero =>
      intro n x hm hn hx
      refine ⟨_, Ev.step (fun k => ?_) (Ev.now ((⟨#[109]⟩ : ByteArray) ++ x))⟩
      show laws_markText.l0 (k + 1) n x = _
      rw [laws_markText.l0, if_neg (by omega), if_pos (by omega)]
    | succ m ih =>
      intro n x hm hn hx
      by_cases hp : n > 0
      · obtain ⟨s, hs⟩ : ∃ s, s = strOfNums ([(wrap64 (48 + (Int.tmod n 10))) % 256] : List Int) := ⟨_, rfl⟩
        have hsz : s.size = 1 := by rw [hs]; rfl
        have hd : Int.tdiv n 10 = n / 10 := Int.tdiv_eq_ediv_of_nonneg hn
        have hw : wrap64 (Int.tdiv n 10) = n / 10 := by rw [hd]; exact wrap_id _ (by omega) (by omega)
        obtain ⟨t, ht⟩ := ih (n / 10) (s ++ x) (by omega) (by omega) (by rw [ByteArray.size_append, hsz]; omega)
        refine ⟨t, Ev.step (fun k => ?_) ht⟩
        show laws_markText.l0 (k + 1) n x = _
        rw [laws_markText.l0, if_pos hp]
        simp only [Option.bind_some]
        rw [← hs, hw, if_pos (by rw [hsz]; omega)]
      · refine ⟨_, Ev.step (fun k => ?_) (Ev.now ((⟨#[109]⟩ : ByteArray) ++ x))⟩
        show laws_markText.l0 (k + 1) n x = _
        rw [laws_markText.l0, if_neg hp, if_pos (by omega)]
  obtain ⟨t, K, ht⟩ := key n.toNat n (⟨#[]⟩ : ByteArray) (by omega) (by omega) (by show n + ((0 : Nat) : Int) ≤ _; omega)
  exact ⟨t, K, fun k hk => by show laws_markText.f k n = some t; unfold laws_markText.f; rw [if_neg h0]; exact ht k hk⟩
theorem markNodeS_ev (l : List S64) (n : Int) (h0 : 0 ≤ n) (h : n ≤ 1000000000000000000) (hl : l.length ≤ 1048576) (hk : ∀ x ∈ l, x.f4.length ≤ 1048576) :
    ∃ r, Ev (fun k => laws_markNodeS.f k l n) r ∧ n ≤ r.1 ∧ r.1 ≤ n + 1048580 * l.length := by
  refine mark_loop l.length (fun i (s : List S64 × Int) => n ≤ s.2 ∧ s.2 ≤ n + 1048580 * i ∧ s.1.length = l.length ∧ ∀ j, i ≤ j → s.1[j]? = l[j]?) (fun r => n ≤ r.1 ∧ r.1 ≤ n + 1048580 * l.length) (fun k i s => laws_markNodeS.l0 k s.1 s.2 i) ?_ ?_ (l, n) ⟨by simp, by simp, rfl, fun _ _ => rfl⟩
  · rintro i ⟨xs, c⟩ hi ⟨e1, e2, e3, e4⟩ hr
    simp only at e1 e2 e3 e4
    have a1 : wrap64 (c + 1) = c + 1 := wrap_id _ (by omega) (by omega)
    have a2 : wrap64 (c + 1 + 1) = c + 1 + 1 := wrap_id _ (by omega) (by omega)
    have a3 : wrap64 (c + 1 + 1 + 1) = c + 1 + 1 + 1 := wrap_id _ (by omega) (by omega)
    have a4 : wrap64 (c + 1 + 1 + 1 + 1) = c + 1 + 1 + 1 + 1 := wrap_id _ (by omega) (by omega)
    have a5 : wrap64 ((i : Int) + 1) = (i : Int) + 1 := wrap_id _ (by omega) (by omega)
    obtain ⟨t, ht⟩ := markText_ev (c + 1 + 1 + 1) (by omega)
    have hkl : (rd_T64 xs (i : Int)).f4.length ≤ 1048576 := by
      have : rd_T64 xs (i : Int) ∈ l := by
        have h1 := e4 i (Nat.le_refl _)
        rw [List.getElem?_eq_getElem hi] at h1
        show xs.getD i _ ∈ l
        rw [List.getD_eq_getElem?_getD, h1]
        exact List.getElem_mem hi
      exact hk _ this
    have hm := markIntS_ev (rd_T64 xs (i : Int)).f4 (c + 1 + 1 + 1 + 1) (by omega) (by omega)
    obtain ⟨r, h1, h2⟩ := hr (xs.set i ⟨c, c + 1, c + 1 + 1, t, markL (c + 1 + 1 + 1 + 1) (rd_T64 xs (i : Int)).f4.length⟩, c + 1 + 1 + 1 + 1 + (rd_T64 xs (i : Int)).f4.length)
      ⟨by simp only; omega, by simp only; omega, by simp only [List.length_set]; exact e3, fun j hj => by simp only; rw [List.getElem?_set_ne (by omega)]; exact e4 j (by omega)⟩
    obtain ⟨A, ht⟩ := ht
    obtain ⟨B, hm⟩ := hm
    obtain ⟨C, h1⟩ := h1
    refine ⟨r, ⟨A + B + C + 1, fun k hk' => ?_⟩, h2⟩
    obtain ⟨k, rfl⟩ : ∃ y, k = y + 1 := ⟨k - 1, by omega⟩
    have ht := ht k (by omega)
    have hm := hm k (by omega)
    have h1 := h1 k (by omega)
    simp only at ht hm h1
    show laws_markNodeS.l0 (k + 1) xs c i = some r
    rw [laws_markNodeS.l0, if_pos (by omega), if_pos (by omega), a1, a2, a3, a4, a5, ht]
    simp only [Option.bind_some, hm]
    exact h1
  · rintro ⟨xs, c⟩ ⟨e1, e2, e3, e4⟩
    refine ⟨(c, xs), Ev.step (fun k => ?_) (Ev.now (c, xs)), e1, e2⟩
    show laws_markNodeS.l0 (k + 1) xs c l.length = _
    rw [laws_markNodeS.l0, if_neg (by simp only at e3; omega)]
theorem markDoc_ev (a b : Int) (l : List S64) (n : Int) (h0 : 0 ≤ n) (h : n ≤ 1000000000000000000) (hl : l.length ≤ 1048576) (hk : ∀ x ∈ l, x.f4.length ≤ 1048576) :
    ∃ r, Ev (fun k => laws_markDoc.f k a b l n) r ∧ n ≤ r.1 ∧ r.1 ≤ n + 1048580 * l.length := markNodeS_ev l n h0 h hl hk
end Go.Proofs.Ytocelbmpnjnnbaa.XA
