/- The program's SumOf answers what the reference's answers, for each text: the pure statement of FnExactSumOf. Conditions: none. -/
import Derived.Test.YtilflaoobjdagaaPFnExactSumOfx1
namespace Go.Proofs.Ytilflaoobjdagaa.Pure
open Go.RowKit Go.Proofs.Ytilflaoobjdagaa.PFnExactSumOf Go.Proofs.YtilflaoobjdagaaW.PrintWords Go.Proofs.YtilflaoobjdagaaW.PrintLast

/-- Both loops come to one number, from each place on and each sum. -/
theorem sums (s : ByteArray) (hs : s.size ≤ 65536) (d : Nat) : ∀ (k : Nat) (x i : Int), 0 ≤ i → i ≤ s.size → (s.size : Int) - i = d → d < k →
    ∃ r, spec_l01Sum.l0 k s x i = some r ∧ impl_sumOf.l0 k s x (s.size : Int) i = some r := by
  induction d with
  | zero =>
    intro k x i h0 h1 hd hk
    obtain ⟨k, rfl⟩ : ∃ m, k = m + 1 := ⟨k - 1, by omega⟩
    refine ⟨x, ?_, ?_⟩
    · simp only [spec_l01Sum.l0]; rw [if_neg (by omega)]
    · simp only [impl_sumOf.l0]; rw [if_neg (by omega)]
  | succ d ih =>
    intro k x i h0 h1 hd hk
    obtain ⟨k, rfl⟩ : ∃ m, k = m + 1 := ⟨k - 1, by omega⟩
    have hlt : i < (s.size : Int) := by omega
    have hw : wrap64 (i + 1) = i + 1 := by unfold wrap64; omega
    obtain ⟨r, h1, h2⟩ := ih k (Int.tmod (wrap64 ((wrap64 (31 * x)) + (wrap64 (bt s i)))) 65521) (i + 1) (by omega) (by omega) (by omega) (by omega)
    refine ⟨r, ?_, ?_⟩
    · simp only [spec_l01Sum.l0]; rw [if_pos hlt, if_pos h0, hw]; exact h1
    · simp only [impl_sumOf.l0]; rw [if_pos hlt, if_pos h0, if_pos hlt, hw]; exact h2

theorem FnExactSumOf : laws_FnExactSumOf.Pure := by
  intro s _
  refine ⟨s.size + 1, ?_⟩
  unfold laws_FnExactSumOf.f spec_SumOf.f impl_SumOf.f impl_isLong.f spec_l01Sum.f impl_sumOf.f
  by_cases h : (s.size : Int) > 1048576
  · rw [if_pos h]
  · rw [if_neg h]
    by_cases h2 : (s.size : Int) > 65536
    · simp [h2]
    · obtain ⟨r, e1, e2⟩ := sums s (by omega) s.size (s.size + 1) 1 0 (by omega) (by omega) (by omega) (by omega)
      have e3 : decide ((s.size : Int) > 65536) = false := by simp; omega
      rw [if_neg h2, e1]
      simp only [Option.bind_some, e3]
      rw [if_neg (by decide), e2]
      simp

end Go.Proofs.Ytilflaoobjdagaa.Pure
