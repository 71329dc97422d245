/- The program's EditOK answers what the reference's answers, for each edit: the pure statement of FnExactEditOK. Conditions: none. -/
import Derived.Test.YtilflaoobjdagaaXA4
import Derived.Test.YtilflaoobjdagaaXAO
namespace Go.Proofs.Ytilflaoobjdagaa.Pure
set_option linter.unusedSimpArgs false
set_option linter.unusedVariables false
open Go.RowKit Go.Proofs.Ytilflaoobjdagaa.XA Go.Proofs.YtilflaoobjdagaaW.PrintWords Go.Proofs.YtilflaoobjdagaaW.PrintLast Go.Proofs.YtilflaoobjdagaaW.PrintMore

theorem size_nil (t : ByteArray) : (t.toList = []) ↔ t.size = 0 := by
  rw [ByteArray.toList_eq]
  constructor
  · intro h; have := congrArg List.length h; simpa using this
  · intro h; exact List.length_eq_zero_iff.1 (by simpa using h)

theorem in_eq (x lo hi : Int) : spec_l01In.f x lo hi = some (decide (lo ≤ x ∧ x ≤ hi)) := by
  unfold spec_l01In.f
  by_cases h : x ≥ lo
  · rw [if_pos h]; exact congrArg some (decide_eq_decide.2 ⟨fun g => ⟨h, g⟩, fun g => g.2⟩)
  · rw [if_neg h]; exact congrArg some (decide_eq_false fun g => h g.1).symm

theorem within_eq (x lo hi : Int) : impl_within.f x lo hi = some (decide (lo ≤ x ∧ x ≤ hi)) := in_eq x lo hi

theorem ite_and (p q : Prop) [Decidable p] [Decidable q] : (if p then some (decide q) else some false) = some (decide (p ∧ q)) := by
  by_cases h : p <;> simp [h]
theorem ite_not (p q : Prop) [Decidable p] [Decidable q] : (if p then some false else some (decide q)) = some (decide (¬ p ∧ q)) := by
  by_cases h : p <;> simp [h]
theorem ite_or (p q r : Prop) [Decidable p] [Decidable q] [Decidable r] : (if p then some (decide q) else some (decide r)) = some (decide ((p ∧ q) ∨ (¬ p ∧ r))) := by
  by_cases h : p <;> simp [h]
theorem some_false : some false = some (decide False) := rfl
theorem beq_dec (x y : Int) : (x == y) = decide (x = y) := by
  by_cases h : x = y <;> simp [h]

set_option maxHeartbeats 4000000 in
theorem edits (a b c d : Int) (t : ByteArray) : ∃ v, spec_EditOK.f 3 a b c d t = some v ∧ impl_EditOK.f 3 a b c d t = some v := by
  have n : (t.toList = []) ↔ (t.size : Int) = 0 := by rw [size_nil]; omega
  have m : 0 ≤ (t.size : Int) := by omega
  simp only [spec_EditOK.f, spec_EditOK.j0, spec_EditOK.j1, spec_l02Kind.f, impl_EditOK.f, impl_EditOK.j0, in_eq, within_eq, Option.bind_some, n, decide_eq_true_eq, beq_dec, if_true]
  generalize (t.size : Int) = z at m
  clear n
  simp only [ite_or, some_false]
  exact ⟨_, rfl, congrArg some (decide_eq_decide.2 (by
    by_cases h1 : a = 1
    · subst h1; simp only [Int.reduceEq, not_true, not_false_eq_true, false_and, true_and, and_false, and_true, or_false, false_or, true_or, or_true] <;> omega
    by_cases h2 : a = 2
    · subst h2; simp only [Int.reduceEq, not_true, not_false_eq_true, false_and, true_and, and_false, and_true, or_false, false_or, true_or, or_true] <;> omega
    by_cases h3 : a = 3
    · subst h3; simp only [Int.reduceEq, not_true, not_false_eq_true, false_and, true_and, and_false, and_true, or_false, false_or, true_or, or_true] <;> omega
    by_cases h4 : a = 4
    · subst h4; simp only [Int.reduceEq, not_true, not_false_eq_true, false_and, true_and, and_false, and_true, or_false, false_or, true_or, or_true] <;> omega
    by_cases h5 : a = 5
    · subst h5; simp only [Int.reduceEq, not_true, not_false_eq_true, false_and, true_and, and_false, and_true, or_false, false_or, true_or, or_true] <;> omega
    by_cases h6 : a = 6
    · subst h6; simp only [Int.reduceEq, not_true, not_false_eq_true, false_and, true_and, and_false, and_true, or_false, false_or, true_or, or_true] <;> omega
    by_cases h7 : a = 7
    · subst h7; simp only [Int.reduceEq, not_true, not_false_eq_true, false_and, true_and, and_false, and_true, or_false, false_or, true_or, or_true] <;> omega
    by_cases h8 : a = 8
    · subst h8; simp only [Int.reduceEq, not_true, not_false_eq_true, false_and, true_and, and_false, and_true, or_false, false_or, true_or, or_true] <;> omega
    by_cases h9 : a = 9
    · subst h9; simp only [Int.reduceEq, not_true, not_false_eq_true, false_and, true_and, and_false, and_true, or_false, false_or, true_or, or_true] <;> omega
    simp only [h1, h2, h3, h4, h5, h6, h7, h8, h9, not_true, not_false_eq_true, false_and, true_and, and_false, and_true, or_false, false_or, true_or, or_true]))⟩

theorem FnExactEditOK : ∀ (x0 : S35), ok35 x0 → ∃ k, laws_FnExactEditOK.f k x0.f0 x0.f1 x0.f2 x0.f3 x0.f4 = some true := by
  intro x _
  refine ⟨3, ?_⟩
  obtain ⟨v, h1, h2⟩ := edits x.f0 x.f1 x.f2 x.f3 x.f4
  unfold laws_FnExactEditOK.f laws_toEdit.f
  simp only [Option.bind_some, h1, h2]
  unfold laws_szEdit.f
  simp
  split <;> simp

end Go.Proofs.Ytilflaoobjdagaa.Pure
