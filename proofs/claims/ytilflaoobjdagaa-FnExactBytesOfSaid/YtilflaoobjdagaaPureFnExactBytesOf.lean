/- The program's BytesOf answers what the reference's answers, for each text: the pure statement of FnExactBytesOf. Conditions: none. -/
import Derived.Test.YtilflaoobjdagaaXA6
import Derived.Test.YtilflaoobjdagaaXAO
namespace Go.Proofs.Ytilflaoobjdagaa.Pure
set_option linter.unusedVariables false
open Go.RowKit Go.Proofs.Ytilflaoobjdagaa.XA Go.Proofs.YtilflaoobjdagaaW.PrintWords Go.Proofs.YtilflaoobjdagaaW.PrintLast Go.Proofs.YtilflaoobjdagaaW.PrintMore

theorem wrap_id (n : Int) (h0 : -9223372036854775808 ≤ n) (h1 : n ≤ 9223372036854775807) : wrap64 n = n := by unfold wrap64; omega

theorem digit_fin : ∀ n : Fin 256, spec_l01Digit.f (n.val : Int) = strings_IndexByte.f (⟨#[48, 49, 50, 51, 52, 53, 54, 55, 56, 57, 97, 98, 99, 100, 101, 102]⟩ : ByteArray) (n.val : Int) := by decide +kernel
theorem digit_is (c : Int) (h0 : 0 ≤ c) (h1 : c ≤ 255) : strings_IndexByte.f (⟨#[48, 49, 50, 51, 52, 53, 54, 55, 56, 57, 97, 98, 99, 100, 101, 102]⟩ : ByteArray) c = spec_l01Digit.f c := by
  have h := digit_fin ⟨c.toNat, by omega⟩
  rw [show ((⟨c.toNat, by omega⟩ : Fin 256).val : Int) = c by simp; omega] at h
  exact h.symm
theorem digit_some (c : Int) : ∃ d, spec_l01Digit.f c = some d := by
  unfold spec_l01Digit.f spec_l00Digit.f
  by_cases h : c ≥ 48 <;> simp [h]
  · by_cases g : c ≤ 57 <;> simp [g]
    split
    · split <;> exact ⟨_, rfl⟩
    · exact ⟨_, rfl⟩
  · split
    · split <;> exact ⟨_, rfl⟩
    · exact ⟨_, rfl⟩

theorem bytess (x : ByteArray) (hx : x.size ≤ 65536) (he : x.size % 2 = 0) : ∀ (m i : Nat) (out : List Int), i + 2 * m = x.size → out.length ≤ i →
    ∃ r, ∀ k, m + 1 ≤ k → spec_l01Bytes.l0 k x out (i : Int) = some r ∧ impl_bytesOf.l0 k x out (i : Int) = some r := by
  intro m
  induction m with
  | zero =>
    intro i out hi ho
    refine ⟨(strOfNums out, true), fun k hk => ?_⟩
    obtain ⟨k, rfl⟩ : ∃ j, k = j + 1 := ⟨k - 1, by omega⟩
    rw [spec_l01Bytes.l0, impl_bytesOf.l0, if_neg (by omega), if_neg (by omega)]
    exact ⟨rfl, rfl⟩
  | succ m ih =>
    intro i out hi ho
    obtain ⟨b0, b1⟩ := bt_range x (i : Int)
    have w1 : wrap64 ((i : Int) + 1) = (i : Int) + 1 := wrap_id _ (by omega) (by omega)
    have w2 : wrap64 ((i : Int) + 2) = ((i + 2 : Nat) : Int) := wrap_id _ (by omega) (by omega)
    obtain ⟨c0, c1⟩ := bt_range x ((i : Int) + 1)
    obtain ⟨d, hd⟩ := digit_some (bt x (i : Int))
    obtain ⟨e, he'⟩ := digit_some (bt x ((i : Int) + 1))
    by_cases hn : d < 0 ∨ e < 0
    · refine ⟨((⟨#[]⟩ : ByteArray), false), fun k hk => ?_⟩
      obtain ⟨k, rfl⟩ : ∃ j, k = j + 1 := ⟨k - 1, by omega⟩
      have q1 : (i : Int) < (x.size : Int) := by omega
      have q2 : 0 ≤ (i : Int) := by omega
      have q3 : 0 ≤ (i : Int) + 1 := by omega
      have q4 : (i : Int) + 1 < (x.size : Int) := by omega
      rw [spec_l01Bytes.l0, impl_bytesOf.l0, w1, digit_is _ b0 b1, digit_is _ c0 c1, hd, he']
      simp only [Option.bind_some, if_pos q1, if_pos q2, if_pos q3, if_pos q4]
      by_cases g : d < 0
      · simp only [if_pos g]; exact ⟨trivial, trivial⟩
      · have g' : e < 0 := by omega
        simp only [if_neg g, if_pos g']; exact ⟨trivial, trivial⟩
    · obtain ⟨r, hr⟩ := ih (i + 2) (out ++ [(wrap64 ((wrap64 (16 * d)) + e)) % 256]) (by omega) (by simp; omega)
      refine ⟨r, fun k hk => ?_⟩
      obtain ⟨k, rfl⟩ : ∃ j, k = j + 1 := ⟨k - 1, by omega⟩
      obtain ⟨h1, h2⟩ := hr k (by omega)
      have q1 : (i : Int) < (x.size : Int) := by omega
      have q2 : 0 ≤ (i : Int) := by omega
      have q3 : 0 ≤ (i : Int) + 1 := by omega
      have q4 : (i : Int) + 1 < (x.size : Int) := by omega
      have q5 : ¬ d < 0 := by omega
      have q6 : ¬ e < 0 := by omega
      have q7 : out.length < 140737488355328 := by omega
      rw [spec_l01Bytes.l0, impl_bytesOf.l0, w1, w2, digit_is _ b0 b1, digit_is _ c0 c1, hd, he']
      simp only [Option.bind_some, if_pos q1, if_pos q2, if_pos q3, if_pos q4, if_neg q5, if_neg q6, if_pos q7]
      exact ⟨h1, h2⟩

theorem FnExactBytesOf : ∀ (x0 : ByteArray), x0.size ≤ maxLen → ∃ k, laws_FnExactBytesOf.f k x0 = some true := by
  intro x _
  by_cases h1 : (x.size : Int) > 1048576
  · exact ⟨0, by unfold laws_FnExactBytesOf.f; rw [if_pos h1]⟩
  by_cases h2 : (x.size : Int) > 65536
  · refine ⟨0, ?_⟩
    unfold laws_FnExactBytesOf.f spec_BytesOf.f impl_BytesOf.f impl_isLong.f
    rw [if_neg h1, if_pos h2]
    simp only [Option.bind_some, decide_eq_true h2, if_true]
  by_cases h3 : (x.size : Int) % 2 = 0
  · obtain ⟨r, hr⟩ := bytess x (by omega) (by omega) (x.size / 2) 0 [] (by omega) (by simp)
    obtain ⟨a, b⟩ := hr (x.size / 2 + 1) (Nat.le_refl _)
    refine ⟨x.size / 2 + 1, ?_⟩
    have w : wrap64 ((x.size : Int) / 2) = (x.size : Int) / 2 := wrap_id _ (by omega) (by omega)
    unfold laws_FnExactBytesOf.f spec_BytesOf.f impl_BytesOf.f spec_l01Bytes.f impl_bytesOf.f impl_isLong.f
    rw [if_neg h1, if_neg h2, w]
    simp only [Option.bind_some, decide_eq_false h2, Bool.false_eq_true, if_false, if_pos h3]
    rw [if_pos (by omega), if_pos (by omega)]
    simp only [Int.natCast_zero, List.replicate_zero] at a b ⊢
    rw [a, b]
    obtain ⟨s, v⟩ := r
    cases v <;> simp
  · refine ⟨0, ?_⟩
    unfold laws_FnExactBytesOf.f spec_BytesOf.f impl_BytesOf.f spec_l01Bytes.f impl_bytesOf.f impl_isLong.f
    rw [if_neg h1, if_neg h2]
    simp only [Option.bind_some, decide_eq_false h2, Bool.false_eq_true, if_false, if_neg h3, if_true]

end Go.Proofs.Ytilflaoobjdagaa.Pure
