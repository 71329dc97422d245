/- The program's NameOK answers what the reference's answers, for each text: the pure statement of FnExactNameOK. Conditions: none. -/
import Derived.Test.YtilflaoobjdagaaPFnExactNameOKx1
namespace Go.Proofs.Ytilflaoobjdagaa.Pure
open Go.RowKit Go.Proofs.Ytilflaoobjdagaa.PFnExactNameOK Go.Proofs.YtilflaoobjdagaaW.PrintWords Go.Proofs.YtilflaoobjdagaaW.PrintLast

theorem letter_some (c : Int) : ∃ b, spec_l00Letter.f c = some b := by
  unfold spec_l00Letter.f
  repeat' split
  all_goals exact ⟨_, rfl⟩
theorem letter_same (c : Int) : impl_isLetter.f c = spec_l00Letter.f c := rfl

/-- Both loops answer alike, from each place on. -/
theorem names (s : ByteArray) (hs : s.size ≤ 12) (d : Nat) : ∀ (k : Nat) (i : Int), 0 ≤ i → i ≤ s.size → (s.size : Int) - i = d → d < k →
    ∃ r, spec_l00Word.l0 k s i = some r ∧ impl_NameOK.l0 k s (s.size : Int) i = some r := by
  induction d with
  | zero =>
    intro k i h0 h1 hd hk
    obtain ⟨k, rfl⟩ : ∃ m, k = m + 1 := ⟨k - 1, by omega⟩
    refine ⟨true, ?_, ?_⟩
    · simp only [spec_l00Word.l0]; rw [if_neg (by omega)]
    · simp only [impl_NameOK.l0]; rw [if_neg (by omega)]
  | succ d ih =>
    intro k i h0 h1 hd hk
    obtain ⟨k, rfl⟩ : ∃ m, k = m + 1 := ⟨k - 1, by omega⟩
    have hlt : i < (s.size : Int) := by omega
    have hw : wrap64 (i + 1) = i + 1 := by unfold wrap64; omega
    obtain ⟨r, g1, g2⟩ := ih k (i + 1) (by omega) (by omega) (by omega) (by omega)
    simp only [spec_l00Word.l0, impl_NameOK.l0]
    rw [if_pos hlt, if_pos h0, if_pos hlt, if_pos h0, if_pos hlt, letter_same, hw]
    obtain ⟨b, hb⟩ := letter_some (bt s i)
    rw [hb]
    simp only [Option.bind_some]
    cases b with
    | true => exact ⟨r, by rw [if_pos rfl]; exact g1, by rw [if_pos rfl]; exact g2⟩
    | false =>
      rw [if_neg (by decide), if_neg (by decide)]
      unfold spec_l00Digit.f
      by_cases a : bt s i < 48
      · exact ⟨false, by rw [if_neg (by omega)]; rfl, by rw [if_pos a]⟩
      · rw [if_pos (by omega), if_neg a]
        by_cases c : bt s i > 57
        · have e : decide (bt s i ≤ 57) = false := by simp; omega
          exact ⟨false, by simp [e], by rw [if_pos c]⟩
        · have e : decide (bt s i ≤ 57) = true := by simp; omega
          exact ⟨r, by simp only [e, Option.bind_some]; rw [if_pos trivial]; exact g1, by rw [if_neg c]; exact g2⟩

theorem FnExactNameOK : laws_FnExactNameOK.Pure := by
  intro s _
  refine ⟨s.size + 2, ?_⟩
  unfold laws_FnExactNameOK.f spec_NameOK.f spec_l00Word.f impl_NameOK.f
  by_cases h : (s.size : Int) > 1048576
  · rw [if_pos h]
  · rw [if_neg h]
    by_cases h1 : (s.size : Int) < 1
    · rw [if_pos h1, if_pos h1]; simp [spec_l00Word.j0, impl_NameOK.j0]
    · rw [if_neg h1, if_neg h1]
      by_cases h2 : (s.size : Int) > 12
      · rw [if_pos h2, if_pos h2]; simp [spec_l00Word.j0, impl_NameOK.j0]
      · rw [if_neg h2, if_neg h2, if_pos (by omega), if_pos (by omega), letter_same]
        obtain ⟨b, hb⟩ := letter_some (bt s 0)
        rw [hb]
        simp only [Option.bind_some, spec_l00Word.j0, impl_NameOK.j0]
        cases b with
        | false => simp
        | true =>
          obtain ⟨r, g1, g2⟩ := names s (by omega) (s.size - 1) s.size 1 (by omega) (by omega) (by omega) (by omega)
          have g3 : spec_l00Word.l0 (s.size + 1) s 1 = some r := spec_l00Word.mono_l s.size |>.2 _ _ _ g1
          have g4 : impl_NameOK.l0 (s.size + 1) s (s.size : Int) 0 = some r := by
            simp only [impl_NameOK.l0]
            rw [if_pos (by omega), if_pos (by omega), if_pos (by omega), letter_same, hb]
            simp only [Option.bind_some]
            rw [if_pos trivial, show wrap64 (0 + 1) = 1 from by unfold wrap64; omega]
            exact g2
          simp only [Bool.not_true]
          rw [if_neg (by decide), if_neg (by decide), g3, g4]
          simp

end Go.Proofs.Ytilflaoobjdagaa.Pure
