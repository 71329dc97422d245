/- The program's CodeOf answers what the reference's answers, for each word: the pure statement of FnExactCodeOf. Conditions: none. -/
import Derived.Test.YtilflaoobjdagaaPFnExactCodeOfx1
namespace Go.Proofs.Ytilflaoobjdagaa.Pure
open Go.RowKit Go.Proofs.Ytilflaoobjdagaa.PFnExactCodeOf Go.Proofs.YtilflaoobjdagaaW.PrintWords Go.Proofs.YtilflaoobjdagaaW.PrintLast

theorem words_known : ∃ l : List ByteArray, impl_codeWords.f = some l ∧ l.length = 22 ∧ ∀ i : Int, 0 ≤ i → i ≤ 21 → spec_CodeWord.f i = some (rdOf ByteArray.empty l i) := by
  refine ⟨_, rfl, rfl, fun i h0 h1 => ?_⟩
  unfold spec_CodeWord.f
  simp only [Option.bind_some, List.length_cons, List.length_nil]
  rw [if_neg (by omega), if_neg (by omega), if_pos h0, if_pos (by omega)]

theorem finds (s : ByteArray) (l : List ByteArray) (hl : l.length = 22) (hw : ∀ i : Int, 0 ≤ i → i ≤ 21 → spec_CodeWord.f i = some (rdOf ByteArray.empty l i)) (d : Nat) :
    ∀ (k : Nat) (i : Int), 0 ≤ i → i ≤ 22 → (22 : Int) - i = d → d < k → ∃ r, spec_CodeOf.l0 k s i = some r ∧ slices_Index_string_string.l0 k l s (l.length : Int) i = some r := by
  induction d with
  | zero =>
    intro k i h0 h1 hd hk
    obtain ⟨k, rfl⟩ : ∃ m, k = m + 1 := ⟨k - 1, by omega⟩
    refine ⟨-1, ?_, ?_⟩
    · simp only [spec_CodeOf.l0]; rw [if_neg (by omega)]
    · simp only [slices_Index_string_string.l0]; rw [if_neg (by omega)]
  | succ d ih =>
    intro k i h0 h1 hd hk
    obtain ⟨k, rfl⟩ : ∃ m, k = m + 1 := ⟨k - 1, by omega⟩
    have hwr : wrap64 (i + 1) = i + 1 := by unfold wrap64; omega
    obtain ⟨r, g1, g2⟩ := ih k (i + 1) (by omega) (by omega) (by omega) (by omega)
    simp only [spec_CodeOf.l0, slices_Index_string_string.l0]
    rw [if_pos (by omega), if_pos (by omega), if_pos h0, if_pos (by omega), hw i h0 (by omega), hwr]
    simp only [Option.bind_some]
    by_cases e : (rdOf ByteArray.empty l i).toList = s.toList
    · exact ⟨i, by rw [if_pos e], by rw [if_pos e.symm]⟩
    · exact ⟨r, by rw [if_neg e]; exact g1, by rw [if_neg (fun h => e h.symm)]; exact g2⟩

theorem FnExactCodeOf : laws_FnExactCodeOf.Pure := by
  intro s _
  refine ⟨23, ?_⟩
  obtain ⟨l, e, hl, hw⟩ := words_known
  obtain ⟨r, g1, g2⟩ := finds s l hl hw 22 23 0 (by omega) (by omega) (by omega) (by omega)
  unfold laws_FnExactCodeOf.f spec_CodeOf.f impl_CodeOf.f slices_Index_string_string.f
  by_cases h : (s.size : Int) > 1048576
  · rw [if_pos h]
  · rw [if_neg h, e, g1]
    simp only [Option.bind_some]
    rw [g2]
    simp

end Go.Proofs.Ytilflaoobjdagaa.Pure
