/- The program's RequestOK answers what the reference's answers, for each request: the pure statement of FnExactRequestOK. Conditions: none. -/
import Derived.Test.YtpilinnhikpcfaaYRequestOKK
namespace Go.Proofs.Ytpilinnhikpcfaa.Pure
set_option linter.unusedVariables false
set_option linter.unusedSimpArgs false
open Go.RowKit Go.Proofs.Ytpilinnhikpcfaa.XA Go.Proofs.Ytpilinnhikpcfaa.Pk Go.Proofs.YtpilinnhikpcfaaW.PrintWords Go.Proofs.YtpilinnhikpcfaaW.PrintLast Go.Proofs.YtpilinnhikpcfaaW.PrintMore

theorem size_nil (t : ByteArray) : (t.toList = []) ↔ t.size = 0 := by
  rw [ByteArray.toList_eq]
  constructor
  · intro h; have := congrArg List.length h; simpa using this
  · intro h; exact List.length_eq_zero_iff.1 (by simpa using h)

theorem in_eq (x lo hi : Int) : spec_l01In.f x lo hi = some (decide (lo ≤ x ∧ x ≤ hi)) := by
  unfold spec_l01In.f
  by_cases h : x ≥ lo
  · rw [if_pos h]; exact congrArg some (decide_eq_decide.2 ⟨fun g => ⟨h, g⟩, fun g => g.2⟩)
  · rw [if_neg h]; exact congrArg some (decide_eq_false fun g => h g.1).symm

theorem within_eq (x lo hi : Int) : impl_within.f x lo hi = some (decide (lo ≤ x ∧ x ≤ hi)) := in_eq x lo hi

theorem ite_and (p q : Prop) [Decidable p] [Decidable q] : (if p then some (decide q) else some false) = some (decide (p ∧ q)) := by
  by_cases h : p <;> simp [h]
theorem ite_not (p q : Prop) [Decidable p] [Decidable q] : (if p then some false else some (decide q)) = some (decide (¬ p ∧ q)) := by
  by_cases h : p <;> simp [h]
theorem ite_or (p q r : Prop) [Decidable p] [Decidable q] [Decidable r] : (if p then some (decide q) else some (decide r)) = some (decide ((p ∧ q) ∨ (¬ p ∧ r))) := by
  by_cases h : p <;> simp [h]
theorem some_false : some false = some (decide False) := rfl
theorem beq_dec (x y : Int) : (x == y) = decide (x = y) := by
  by_cases h : x = y <;> simp [h]

set_option maxHeartbeats 4000000 in
theorem edits (a b c d : Int) (t : ByteArray) : ∃ v, spec_EditOK.f 3 a b c d t = some v ∧ impl_EditOK.f 3 a b c d t = some v := by
  have n : (t.toList = []) ↔ (t.size : Int) = 0 := by rw [size_nil]; omega
  have m : 0 ≤ (t.size : Int) := by omega
  simp only [spec_EditOK.f, spec_EditOK.j0, spec_EditOK.j1, spec_l02Kind.f, impl_EditOK.f, impl_EditOK.j0, in_eq, within_eq, Option.bind_some, n, decide_eq_true_eq, beq_dec, if_true]
  generalize (t.size : Int) = z at m
  clear n
  simp only [ite_or, some_false]
  exact ⟨_, rfl, congrArg some (decide_eq_decide.2 (by
    by_cases h1 : a = 1
    · subst h1; simp only [Int.reduceEq, not_true, not_false_eq_true, false_and, true_and, and_false, and_true, or_false, false_or, true_or, or_true] <;> omega
    by_cases h2 : a = 2
    · subst h2; simp only [Int.reduceEq, not_true, not_false_eq_true, false_and, true_and, and_false, and_true, or_false, false_or, true_or, or_true] <;> omega
    by_cases h3 : a = 3
    · subst h3; simp only [Int.reduceEq, not_true, not_false_eq_true, false_and, true_and, and_false, and_true, or_false, false_or, true_or, or_true] <;> omega
    by_cases h4 : a = 4
    · subst h4; simp only [Int.reduceEq, not_true, not_false_eq_true, false_and, true_and, and_false, and_true, or_false, false_or, true_or, or_true] <;> omega
    by_cases h5 : a = 5
    · subst h5; simp only [Int.reduceEq, not_true, not_false_eq_true, false_and, true_and, and_false, and_true, or_false, false_or, true_or, or_true] <;> omega
    by_cases h6 : a = 6
    · subst h6; simp only [Int.reduceEq, not_true, not_false_eq_true, false_and, true_and, and_false, and_true, or_false, false_or, true_or, or_true] <;> omega
    by_cases h7 : a = 7
    · subst h7; simp only [Int.reduceEq, not_true, not_false_eq_true, false_and, true_and, and_false, and_true, or_false, false_or, true_or, or_true] <;> omega
    by_cases h8 : a = 8
    · subst h8; simp only [Int.reduceEq, not_true, not_false_eq_true, false_and, true_and, and_false, and_true, or_false, false_or, true_or, or_true] <;> omega
    by_cases h9 : a = 9
    · subst h9; simp only [Int.reduceEq, not_true, not_false_eq_true, false_and, true_and, and_false, and_true, or_false, false_or, true_or, or_true] <;> omega
    simp only [h1, h2, h3, h4, h5, h6, h7, h8, h9, not_true, not_false_eq_true, false_and, true_and, and_false, and_true, or_false, false_or, true_or, or_true]))⟩

end Go.Proofs.Ytpilinnhikpcfaa.Pure
namespace Go.Proofs.Ytpilinnhikpcfaa.Pure
set_option linter.unusedVariables false
set_option linter.unusedSimpArgs false
open Go.RowKit Go.Proofs.Ytpilinnhikpcfaa.XA Go.Proofs.Ytpilinnhikpcfaa.Pk Go.Proofs.YtpilinnhikpcfaaW.PrintWords Go.Proofs.YtpilinnhikpcfaaW.PrintLast Go.Proofs.YtpilinnhikpcfaaW.PrintMore

def bare (a b c d : Int) (t : ByteArray) : Bool := (!(a == 0) || (!(b == 0) || (!(c == 0) || (!(d == 0) || (!(t.toList == ([] : List UInt8)))))))

theorem edit_both (a b c d : Int) (t : ByteArray) : ∃ v, (∀ k, 3 ≤ k → spec_EditOK.f k a b c d t = some v) ∧ (∀ k, 3 ≤ k → impl_EditOK.f k a b c d t = some v) ∧ (bare a b c d t = false → v = false) := by
  obtain ⟨v, h1, h2⟩ := edits a b c d t
  refine ⟨v, fun k hk => at_rounds (spec_EditOK.mono a b c d t) hk h1, fun k hk => at_rounds (impl_EditOK.mono a b c d t) hk h2, fun hb => ?_⟩
  have hb0 : b = 0 := by
    unfold bare at hb
    simp at hb
    exact hb.2.1
  subst hb0
  have : spec_EditOK.f 3 a 0 c d t = some false := by
    simp [spec_EditOK.f, spec_EditOK.j0, in_eq]
  rw [this] at h1
  exact (Option.some.inj h1).symm

set_option maxHeartbeats 8000000 in
theorem requests (q s n m a b c d : Int) (t : ByteArray) : ∃ r, Ev (fun k => spec_RequestOK.f k q s n m a b c d t) r ∧ Ev (fun k => impl_RequestOK.f k q s n m a b c d t) r := by
  obtain ⟨v, h1, h2, hv⟩ := edit_both a b c d t
  have key : ∀ k, spec_RequestOK.f (k + 8) q s n m a b c d t = impl_RequestOK.f (k + 8) q s n m a b c d t := by
    intro k
    have s3 := h1 (k + 3) (by omega)
    have s4 := h1 (k + 4) (by omega)
    have s5 := h1 (k + 5) (by omega)
    have s6 := h1 (k + 6) (by omega)
    have s7 := h1 (k + 7) (by omega)
    have i3 := h2 (k + 3) (by omega)
    have i4 := h2 (k + 4) (by omega)
    have i5 := h2 (k + 5) (by omega)
    have i6 := h2 (k + 6) (by omega)
    have i7 := h2 (k + 7) (by omega)
    clear h1 h2
    simp only [spec_RequestOK.f, spec_RequestOK.j0, spec_RequestOK.j1, spec_RequestOK.j2, spec_l07Mode.f, impl_RequestOK.f, impl_RequestOK.j0, impl_RequestOK.j1, impl_RequestOK.j2, in_eq, within_eq, Option.bind_some, s3, s4, s5, s6, s7, i3, i4, i5, i6, i7]
    rw [show (!(a == 0) || (!(b == 0) || (!(c == 0) || (!(d == 0) || (!(t.toList == ([] : List UInt8))))))) = bare a b c d t from rfl]
    generalize bare a b c d t = e at hv
    have mn0 : mn 0 1 = 0 := by decide
    have mn1 : mn 999999 1 = 1 := by decide
    rw [mn0, mn1]
    by_cases q7 : q = 7
    · subst q7
      cases v
      · simp
      · simp [decide_eq_true_eq]
        try (repeat' split) <;> simp_all <;> omega
    · have q7' : (q == 7) = false := by simp [q7]
      simp only [q7', if_neg q7]
      cases e
      · have hv := hv rfl
        subst hv
        simp only [bne_self_eq_false, Bool.false_eq_true, if_false, beq_dec, decide_eq_true_eq, ite_or, some_false]
        refine congrArg some (decide_eq_decide.2 ?_)
        by_cases q1 : q = 1
        · subst q1; simp <;> omega
        by_cases q2 : q = 2
        · subst q2; simp <;> omega
        by_cases q3 : q = 3
        · subst q3; simp <;> omega
        by_cases q4 : q = 4
        · subst q4; simp <;> omega
        by_cases q5 : q = 5
        · subst q5; simp <;> omega
        by_cases q6 : q = 6
        · subst q6; simp <;> omega
        by_cases q8 : q = 8
        · subst q8; simp <;> omega
        by_cases q9 : q = 9
        · subst q9; simp <;> omega
        by_cases q10 : q = 10
        · subst q10; simp <;> omega
        by_cases q11 : q = 11
        · subst q11; simp <;> omega
        simp [q1, q2, q3, q4, q5, q6, q7, q8, q9, q10, q11]
      · cases v <;> simp
  have tot : ∃ r, impl_RequestOK.f (0 + 8) q s n m a b c d t = some r := by
    have i7 := h2 7 (by omega)
    have i6 := h2 6 (by omega)
    have i5 := h2 5 (by omega)
    simp only [impl_RequestOK.f, impl_RequestOK.j0, impl_RequestOK.j1, impl_RequestOK.j2, within_eq, Option.bind_some, i5, i6, i7, if_true, Bool.false_eq_true, if_false, decide_eq_true_eq, ite_or, some_false]
    first
      | exact ⟨_, rfl⟩
      | ((repeat' split) <;> exact ⟨_, rfl⟩)
  obtain ⟨r, hr⟩ := tot
  exact ⟨r, Ev.of (spec_RequestOK.mono q s n m a b c d t) ((key 0).trans hr), Ev.of (impl_RequestOK.mono q s n m a b c d t) hr⟩

theorem FnExactRequestOK : laws_FnExactRequestOK.Pure := core_FnExactRequestOK (fun x0 _ _ => requests _ _ _ _ _ _ _ _ _)

end Go.Proofs.Ytpilinnhikpcfaa.Pure
