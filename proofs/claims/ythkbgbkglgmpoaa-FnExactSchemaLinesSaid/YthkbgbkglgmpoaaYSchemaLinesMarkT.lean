/- What the mark of a text comes to: some text. Conditions: each theorem's own premises. -/
import Derived.Test.YthkbgbkglgmpoaaYSchemaLines9
import Derived.Test.YthkbgbkglgmpoaaPk
namespace Go.Proofs.Ythkbgbkglgmpoaa.XA
set_option linter.unusedVariables false
open Go.RowKit Go.Proofs.YthkbgbkglgmpoaaW.PrintWords Go.Proofs.YthkbgbkglgmpoaaW.PrintLast Go.Proofs.YthkbgbkglgmpoaaW.PrintMore Go.Proofs.Ythkbgbkglgmpoaa.Pk
theorem markText_ev (n : Int) (h : n ≤ 4000000000000000000) : ∃ t, Ev (fun k => laws_markText.f k n) t := by
  by_cases h0 : n ≤ 0
  · exact ⟨_, 0, fun k _ => by show laws_markText.f k n = some _; unfold laws_markText.f; rw [if_pos h0]⟩
  have key : ∀ (m : Nat) (n : Int) (x : ByteArray), n ≤ m → 0 ≤ n → n + x.size ≤ 4000000000000000000 → ∃ t, Ev (fun k => laws_markText.l0 k n x) t := by
    intro m
    induction m with
    | zero =>
      intro n x hm hn hx
      refine ⟨_, Ev.step (fun k => ?_) (Ev.now ((⟨#[109]⟩ : ByteArray) ++ x))⟩
      show laws_markText.l0 (k + 1) n x = _
      rw [laws_markText.l0, if_neg (by omega), if_pos (by omega)]
    | succ m ih =>
      intro n x hm hn hx
      by_cases hp : n > 0
      · obtain ⟨s, hs⟩ : ∃ s, s = strOfNums ([(wrap64 (48 + (Int.tmod n 10))) % 256] : List Int) := ⟨_, rfl⟩
        have hsz : s.size = 1 := by rw [hs]; rfl
        have hd : Int.tdiv n 10 = n / 10 := Int.tdiv_eq_ediv_of_nonneg hn
        have hw : wrap64 (Int.tdiv n 10) = n / 10 := by rw [hd]; exact wrap_id _ (by omega) (by omega)
        obtain ⟨t, ht⟩ := ih (n / 10) (s ++ x) (by omega) (by omega) (by rw [ByteArray.size_append, hsz]; omega)
        refine ⟨t, Ev.step (fun k => ?_) ht⟩
        show laws_markText.l0 (k + 1) n x = _
        rw [laws_markText.l0, if_pos hp]
        simp only [Option.bind_some]
        rw [← hs, hw, if_pos (by rw [hsz]; omega)]
      · refine ⟨_, Ev.step (fun k => ?_) (Ev.now ((⟨#[109]⟩ : ByteArray) ++ x))⟩
        show laws_markText.l0 (k + 1) n x = _
        rw [laws_markText.l0, if_neg hp, if_pos (by omega)]
  obtain ⟨t, K, ht⟩ := key n.toNat n (⟨#[]⟩ : ByteArray) (by omega) (by omega) (by show n + ((0 : Nat) : Int) ≤ _; omega)
  exact ⟨t, K, fun k hk => by show laws_markText.f k n = some t; unfold laws_markText.f; rw [if_neg h0]; exact ht k hk⟩
end Go.Proofs.Ythkbgbkglgmpoaa.XA
