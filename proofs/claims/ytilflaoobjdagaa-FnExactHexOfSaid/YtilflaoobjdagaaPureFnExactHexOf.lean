/- The program's HexOf answers what the reference's answers, for each text: the pure statement of FnExactHexOf. Conditions: none. -/
import Derived.Test.YtilflaoobjdagaaXA4
import Derived.Test.YtilflaoobjdagaaXAO
namespace Go.Proofs.Ytilflaoobjdagaa.Pure
set_option linter.unusedVariables false
open Go.RowKit Go.Proofs.Ytilflaoobjdagaa.XA Go.Proofs.YtilflaoobjdagaaW.PrintWords Go.Proofs.YtilflaoobjdagaaW.PrintLast Go.Proofs.YtilflaoobjdagaaW.PrintMore

theorem wrap_id (n : Int) (h0 : -9223372036854775808 ≤ n) (h1 : n ≤ 9223372036854775807) : wrap64 n = n := by unfold wrap64; omega

/-- The two loops go alike. -/
theorem hexes (x : ByteArray) (hx : x.size ≤ 32768) : ∀ (m i : Nat) (out : List Int), i + m = x.size → out.length = 2 * i →
    ∃ r, ∀ k, m + 1 ≤ k → spec_l01Hex.l0 k x out (i : Int) = some r ∧ impl_hexOf.l0 k x out (x.size : Int) (i : Int) = some r := by
  intro m
  induction m with
  | zero =>
    intro i out hi ho
    refine ⟨strOfNums out, fun k hk => ?_⟩
    obtain ⟨k, rfl⟩ : ∃ j, k = j + 1 := ⟨k - 1, by omega⟩
    rw [spec_l01Hex.l0, impl_hexOf.l0, if_neg (by omega), if_neg (by omega)]
    exact ⟨rfl, rfl⟩
  | succ m ih =>
    intro i out hi ho
    obtain ⟨b0, b1⟩ := bt_range x (i : Int)
    have d0 : Int.tdiv (bt x (i : Int)) 16 = bt x (i : Int) / 16 := Int.tdiv_eq_ediv_of_nonneg b0
    have d1 : Int.tmod (bt x (i : Int)) 16 = bt x (i : Int) % 16 := Int.tmod_eq_emod_of_nonneg b0
    obtain ⟨r, hr⟩ := ih (i + 1) (out ++ [bt (⟨#[48, 49, 50, 51, 52, 53, 54, 55, 56, 57, 97, 98, 99, 100, 101, 102]⟩ : ByteArray) ((Int.tdiv (bt x (i : Int)) 16) % 256), bt (⟨#[48, 49, 50, 51, 52, 53, 54, 55, 56, 57, 97, 98, 99, 100, 101, 102]⟩ : ByteArray) (Int.tmod (bt x (i : Int)) 16)]) (by omega) (by simp; omega)
    refine ⟨r, fun k hk => ?_⟩
    obtain ⟨k, rfl⟩ : ∃ j, k = j + 1 := ⟨k - 1, by omega⟩
    obtain ⟨h1, h2⟩ := hr k (by omega)
    rw [spec_l01Hex.l0, impl_hexOf.l0, if_pos (by omega), if_pos (by omega), if_pos (by rw [d0]; omega), if_pos (by rw [d0]; omega), if_pos (by rw [d1]; omega), if_pos (by rw [d1]; omega)]
    rw [if_pos (by omega), if_pos (by omega), if_pos (by omega), if_pos (by rw [d0]; omega), if_pos (by rw [d0]; omega), if_pos (by rw [d1]; omega), if_pos (by rw [d1]; omega)]
    simp only [Option.bind_some]
    rw [if_pos (by simp; omega), if_pos (by simp; omega), wrap_id _ (by omega) (by omega)]
    exact ⟨h1, h2⟩

theorem FnExactHexOf : ∀ (x0 : ByteArray), x0.size ≤ maxLen → ∃ k, laws_FnExactHexOf.f k x0 = some true := by
  intro x _
  by_cases h1 : (x.size : Int) > 1048576
  · exact ⟨0, by unfold laws_FnExactHexOf.f; rw [if_pos h1]⟩
  by_cases h2 : (x.size : Int) > 32768
  · refine ⟨0, ?_⟩
    unfold laws_FnExactHexOf.f spec_HexOf.f impl_HexOf.f
    rw [if_neg h1, if_pos h2, if_pos h2]
    simp
  obtain ⟨r, hr⟩ := hexes x (by omega) x.size 0 [] (by omega) rfl
  obtain ⟨a, b⟩ := hr (x.size + 1) (Nat.le_refl _)
  refine ⟨x.size + 1, ?_⟩
  have w : wrap64 (2 * (x.size : Int)) = 2 * (x.size : Int) := wrap_id _ (by omega) (by omega)
  unfold laws_FnExactHexOf.f spec_HexOf.f impl_HexOf.f spec_l01Hex.f impl_hexOf.f
  rw [if_neg h1, if_neg h2, if_neg h2, w, if_pos (by omega), if_pos (by omega)]
  simp only [Int.natCast_zero, List.replicate_zero] at a b ⊢
  rw [a, b]
  simp

end Go.Proofs.Ytilflaoobjdagaa.Pure
