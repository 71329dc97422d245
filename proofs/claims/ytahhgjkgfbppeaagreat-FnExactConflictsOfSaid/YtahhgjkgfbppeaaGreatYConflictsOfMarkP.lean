/- What the marks come to, in numbers. Conditions: each theorem's own premises. -/
import Derived.Test.YtahhgjkgfbppeaaGreatYConflictsOf20
import Derived.Test.YtahhgjkgfbppeaaGreatYConflictsOf20
import Derived.Test.YtahhgjkgfbppeaaGreatYConflictsOfMarkDoc
import Derived.Test.YtahhgjkgfbppeaaGreatPk
namespace Go.Proofs.YtahhgjkgfbppeaaGreat.XA
set_option linter.unusedVariables false
open Go.RowKit Go.Proofs.YtahhgjkgfbppeaaGreatW.PrintWords Go.Proofs.YtahhgjkgfbppeaaGreatW.PrintLast Go.Proofs.YtahhgjkgfbppeaaGreatW.PrintMore Go.Proofs.YtahhgjkgfbppeaaGreat.Pk
theorem mark_loop {σ ρ : Type} (n : Nat) (I : Nat → σ → Prop) (R : ρ → Prop) (F : Nat → Int → σ → Option ρ)
    (hs : ∀ (i : Nat) (s : σ), i < n → I i s → (∀ s', I (i + 1) s' → ∃ r, Ev (fun k => F k ((i : Int) + 1) s') r ∧ R r) → ∃ r, Ev (fun k => F k (i : Int) s) r ∧ R r)
    (he : ∀ s, I n s → ∃ r, Ev (fun k => F k (n : Int) s) r ∧ R r) : ∀ s, I 0 s → ∃ r, Ev (fun k => F k 0 s) r ∧ R r := by
  have key : ∀ (m i : Nat) (s : σ), i + m = n → I i s → ∃ r, Ev (fun k => F k (i : Int) s) r ∧ R r := by
    intro m
    induction m with
    | zero =>
      intro i s hi h
      have e : i = n := by omega
      subst e
      exact he s h
    | succ m ih =>
      intro i s hi h
      exact hs i s (by omega) h (fun s' h' => ih (i + 1) s' (by omega) h')
  intro s h
  exact key n 0 s (by omega) h
def markL (n : Int) (m : Nat) : List Int := (List.range m).map (fun (j : Nat) => n + (j : Int))
theorem markL_len (n : Int) (m : Nat) : (markL n m).length = m := by simp [markL]
theorem markL_at (n : Int) (m j : Nat) (h : j < m) : (markL n m)[j]? = some (n + (j : Int)) := by simp [markL, h]
theorem markIntS_ev (l : List Int) (n : Int) (h0 : 0 ≤ n) (h : n + l.length ≤ 4000000000000000000) : Ev (fun k => laws_markIntS.f k l n) (n + l.length, markL n l.length) := by
  obtain ⟨r, hr, rfl⟩ := mark_loop l.length (fun i (s : List Int × Int) => s.2 = n + i ∧ s.1.length = l.length ∧ ∀ j, j < i → s.1[j]? = some (n + (j : Int))) (fun r => r = (n + (l.length : Int), markL n l.length)) (fun k i s => laws_markIntS.l0 k s.1 s.2 i)
    (fun i s hi hI hr => by
      obtain ⟨e, hl, hj⟩ := hI
      have a1 : wrap64 (s.2 + 1) = s.2 + 1 := wrap_id _ (by omega) (by omega)
      have a2 : wrap64 ((i : Int) + 1) = (i : Int) + 1 := wrap_id _ (by omega) (by omega)
      obtain ⟨r, h1, h2⟩ := hr (s.1.set i s.2, s.2 + 1) ⟨by simp only [e]; omega, by simp only [List.length_set]; exact hl, fun j hj' => by
        simp only
        by_cases c : j = i
        · subst c; rw [List.getElem?_set_self (by omega), e]
        · rw [List.getElem?_set_ne (by omega)]; exact hj j (by omega)⟩
      refine ⟨r, Ev.step (fun k => ?_) h1, h2⟩
      show laws_markIntS.l0 (k + 1) s.1 s.2 i = _
      rw [laws_markIntS.l0, if_pos (by omega), if_pos (by omega), a1, a2]
      rfl)
    (fun s hI => by
      obtain ⟨e, hl, hj⟩ := hI
      refine ⟨_, Ev.step (fun k => ?_) (Ev.now (s.2, s.1)), ?_⟩
      · show laws_markIntS.l0 (k + 1) s.1 s.2 l.length = _
        rw [laws_markIntS.l0, if_neg (by omega)]
      · rw [e]
        refine congrArg (Prod.mk _) (List.ext_getElem? (fun j => ?_))
        by_cases c : j < l.length
        · rw [hj j c, markL_at _ _ _ c]
        · rw [List.getElem?_eq_none (by omega), List.getElem?_eq_none (by rw [markL_len]; omega)])
    (l, n) ⟨by simp, rfl, fun j hj => by omega⟩
  exact hr
theorem markText_ev (n : Int) (h : n ≤ 4000000000000000000) : ∃ t, Ev (fun k => laws_markText.f k n) t := by
  by_cases h0 : n ≤ 0
  · exact ⟨_, 0, fun k _ => by show laws_markText.f k n = some _; unfold laws_markText.f; rw [if_pos h0]⟩
  have key : ∀ (m : Nat) (n : Int) (x : ByteArray), n ≤ m → 0 ≤ n → n + x.size ≤ 4000000000000000000 → ∃ t, Ev (fun k => laws_markText.l0 k n x) t := by
    intro m
    induction m with
    | zero =>
      intro n x hm hn hx
      refine ⟨_, Ev.step (fun k => ?_) (Ev.now ((⟨#[109]⟩ : ByteArray) ++ x))⟩
      show laws_markText.l0 (k + 1) n x = _
      rw [laws_markText.l0, if_neg (by omega), if_pos (by omega)]
    | succ m ih =>
      intro n x hm hn hx
      by_cases hp : n > 0
      · obtain ⟨s, hs⟩ : ∃ s, s = strOfNums ([(wrap64 (48 + (Int.tmod n 10))) % 256] : List Int) := ⟨_, rfl⟩
        have hsz : s.size = 1 := by rw [hs]; rfl
        have hd : Int.tdiv n 10 = n / 10 := Int.tdiv_eq_ediv_of_nonneg hn
        have hw : wrap64 (Int.tdiv n 10) = n / 10 := by rw [hd]; exact wrap_id _ (by omega) (by omega)
        obtain ⟨t, ht⟩ := ih (n / 10) (s ++ x) (by omega) (by omega) (by rw [ByteArray.size_append, hsz]; omega)
        refine ⟨t, Ev.step (fun k => ?_) ht⟩
        show laws_markText.l0 (k + 1) n x = _
        rw [laws_markText.l0, if_pos hp]
        simp only [Option.bind_some]
        rw [← hs, hw, if_pos (by rw [hsz]; omega)]
      · refine ⟨_, Ev.step (fun k => ?_) (Ev.now ((⟨#[109]⟩ : ByteArray) ++ x))⟩
        show laws_markText.l0 (k + 1) n x = _
        rw [laws_markText.l0, if_neg hp, if_pos (by omega)]
  obtain ⟨t, K, ht⟩ := key n.toNat n (⟨#[]⟩ : ByteArray) (by omega) (by omega) (by show n + ((0 : Nat) : Int) ≤ _; omega)
  exact ⟨t, K, fun k hk => by show laws_markText.f k n = some t; unfold laws_markText.f; rw [if_neg h0]; exact ht k hk⟩
theorem markNodeS_ev (l : List S113) (n : Int) (h0 : 0 ≤ n) (h : n ≤ 1000000000000000000) (hl : l.length ≤ 1048576) (hk : ∀ x ∈ l, x.f4.length ≤ 1048576) :
    ∃ r, Ev (fun k => laws_markNodeS.f k l n) r ∧ n ≤ r.1 ∧ r.1 ≤ n + 1048580 * l.length := by
  refine mark_loop l.length (fun i (s : List S113 × Int) => n ≤ s.2 ∧ s.2 ≤ n + 1048580 * i ∧ s.1.length = l.length ∧ ∀ j, i ≤ j → s.1[j]? = l[j]?) (fun r => n ≤ r.1 ∧ r.1 ≤ n + 1048580 * l.length) (fun k i s => laws_markNodeS.l0 k s.1 s.2 i) ?_ ?_ (l, n) ⟨by simp, by simp, rfl, fun _ _ => rfl⟩
  · rintro i ⟨xs, c⟩ hi ⟨e1, e2, e3, e4⟩ hr
    simp only at e1 e2 e3 e4
    have a1 : wrap64 (c + 1) = c + 1 := wrap_id _ (by omega) (by omega)
    have a2 : wrap64 (c + 1 + 1) = c + 1 + 1 := wrap_id _ (by omega) (by omega)
    have a3 : wrap64 (c + 1 + 1 + 1) = c + 1 + 1 + 1 := wrap_id _ (by omega) (by omega)
    have a4 : wrap64 (c + 1 + 1 + 1 + 1) = c + 1 + 1 + 1 + 1 := wrap_id _ (by omega) (by omega)
    have a5 : wrap64 ((i : Int) + 1) = (i : Int) + 1 := wrap_id _ (by omega) (by omega)
    obtain ⟨t, ht⟩ := markText_ev (c + 1 + 1 + 1) (by omega)
    have hkl : (rd_T113 xs (i : Int)).f4.length ≤ 1048576 := by
      have : rd_T113 xs (i : Int) ∈ l := by
        have h1 := e4 i (Nat.le_refl _)
        rw [List.getElem?_eq_getElem hi] at h1
        show xs.getD i _ ∈ l
        rw [List.getD_eq_getElem?_getD, h1]
        exact List.getElem_mem hi
      exact hk _ this
    have hm := markIntS_ev (rd_T113 xs (i : Int)).f4 (c + 1 + 1 + 1 + 1) (by omega) (by omega)
    obtain ⟨r, h1, h2⟩ := hr (xs.set i ⟨c, c + 1, c + 1 + 1, t, markL (c + 1 + 1 + 1 + 1) (rd_T113 xs (i : Int)).f4.length⟩, c + 1 + 1 + 1 + 1 + (rd_T113 xs (i : Int)).f4.length)
      ⟨by simp only; omega, by simp only; omega, by simp only [List.length_set]; exact e3, fun j hj => by simp only; rw [List.getElem?_set_ne (by omega)]; exact e4 j (by omega)⟩
    obtain ⟨A, ht⟩ := ht
    obtain ⟨B, hm⟩ := hm
    obtain ⟨C, h1⟩ := h1
    refine ⟨r, ⟨A + B + C + 1, fun k hk' => ?_⟩, h2⟩
    obtain ⟨k, rfl⟩ : ∃ y, k = y + 1 := ⟨k - 1, by omega⟩
    have ht := ht k (by omega)
    have hm := hm k (by omega)
    have h1 := h1 k (by omega)
    simp only at ht hm h1
    show laws_markNodeS.l0 (k + 1) xs c i = some r
    rw [laws_markNodeS.l0, if_pos (by omega), if_pos (by omega), a1, a2, a3, a4, a5, ht]
    simp only [Option.bind_some, hm]
    exact h1
  · rintro ⟨xs, c⟩ ⟨e1, e2, e3, e4⟩
    refine ⟨(c, xs), Ev.step (fun k => ?_) (Ev.now (c, xs)), e1, e2⟩
    show laws_markNodeS.l0 (k + 1) xs c l.length = _
    rw [laws_markNodeS.l0, if_neg (by simp only at e3; omega)]
theorem markDoc_ev (a b : Int) (l : List S113) (n : Int) (h0 : 0 ≤ n) (h : n ≤ 1000000000000000000) (hl : l.length ≤ 1048576) (hk : ∀ x ∈ l, x.f4.length ≤ 1048576) :
    ∃ r, Ev (fun k => laws_markDoc.f k a b l n) r ∧ n ≤ r.1 ∧ r.1 ≤ n + 1048580 * l.length := markNodeS_ev l n h0 h hl hk
end Go.Proofs.YtahhgjkgfbppeaaGreat.XA
