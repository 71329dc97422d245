/- The program's TakeNumber answers what the reference's answers, for each text and each place: the pure statement of FnExactTakeNumber. Conditions: none. -/
import Derived.Test.YtilflaoobjdagaaPFnExactTakeNumberx1
namespace Go.Proofs.Ytilflaoobjdagaa.Pure
open Go.RowKit Go.Proofs.Ytilflaoobjdagaa.PFnExactTakeNumber Go.Proofs.YtilflaoobjdagaaW.PrintWords Go.Proofs.YtilflaoobjdagaaW.PrintLast Go.Proofs.YtilflaoobjdagaaW.PrintMore

/-- One round: from the round i on (of at most two behind it), if the next rounds agree. p is 128 to the i. -/
theorem round (s : ByteArray) (at_ n p : Int) (i : Int) (hs : s.size ≤ 65536) (ha : 0 ≤ at_) (hb : at_ ≤ s.size) (hi0 : 0 ≤ i) (hi2 : i ≤ 2)
    (hp : ∀ x : Int, 0 ≤ x → x < 128 → shl .i64 x (wrap64 (7 * i)) = x * p) (hp1 : 1 ≤ p) (hp2 : p ≤ 16384) (hn0 : 0 ≤ n) (hn : n < p) (k : Nat)
    (next : i < 2 → ∀ m : Int, 0 ≤ m → m < p * 128 → ∃ r1 r2 r3, spec_l01Take.l0 (k + 2) s at_ m (p * 128) (at_ + (i + 1)) = some (r1, r2, r3) ∧ impl_takeNumber.l0 (k + 1) s at_ m (i + 1) = some (r1, r3)) :
    ∃ r1 r2 r3, spec_l01Take.l0 (k + 3) s at_ n p (at_ + i) = some (r1, r2, r3) ∧ impl_takeNumber.l0 (k + 4) s at_ n i = some (r1, r3) := by
  have hai : wrap64 (at_ + i) = at_ + i := by unfold wrap64; omega
  rw [spec_l01Take.l0, impl_takeNumber.l0, hai]
  by_cases hlt : at_ + i < (s.size : Int)
  · obtain ⟨c0, c1⟩ := bt_range s (at_ + i)
    have h7 : wrap64 (7 * i) = 7 * i := by unfold wrap64; omega
    have hc : wrap64 (bt s (at_ + i)) = bt s (at_ + i) := by unfold wrap64; omega
    rw [if_pos hlt, if_pos (show 0 ≤ at_ + i by omega), if_neg (show ¬ at_ + i ≥ (s.size : Int) by omega), if_pos (show 0 ≤ at_ + i by omega), if_pos hlt, if_pos (show 0 ≤ wrap64 (7 * i) by rw [h7]; omega), hc]
    generalize bt s (at_ + i) = c at c0 c1
    have hm : Int.tmod c 128 = c % 128 := Int.tmod_eq_emod_of_nonneg c0
    rw [hm, hp (c % 128) (by omega) (by omega)]
    have q0 : 0 ≤ c % 128 := by omega
    have q1 : c % 128 ≤ 127 := by omega
    have q2 : 0 ≤ c % 128 * p := Int.mul_nonneg q0 (by omega)
    have q3 : c % 128 * p ≤ 127 * p := Int.mul_le_mul_of_nonneg_right q1 (by omega)
    have e1 : wrap64 (c % 128 * p) = c % 128 * p := by unfold wrap64; omega
    have e2 : wrap64 (n + c % 128 * p) = n + c % 128 * p := by unfold wrap64; omega
    have e3 : wrap64 (p * 128) = p * 128 := by unfold wrap64; omega
    have e4 : wrap64 (at_ + i + 1) = at_ + (i + 1) := by unfold wrap64; omega
    have e5 : wrap64 (i + 1) = i + 1 := by unfold wrap64; omega
    have e6 : wrap64 (at_ + 2) = at_ + 2 := by unfold wrap64; omega
    rw [e1, e2, e3, e4, e6]
    by_cases h128 : c < 128
    · have hge : ¬ c ≥ 128 := by omega
      simp only [spec_l01Take.j1, impl_takeNumber.j1, impl_takeNumber.j2, if_pos h128, if_neg hge, Bool.false_eq_true, if_false]
      by_cases hz : c = 0
      · have hd : decide (at_ + i > at_) = decide (i > 0) := by
          by_cases g : i > 0
          · rw [decide_eq_true g, decide_eq_true (by omega)]
          · rw [decide_eq_false g, decide_eq_false (by omega)]
        simp only [if_pos hz, hd]
        by_cases g : i > 0
        · simp only [decide_eq_true g, if_true]; exact ⟨_, _, _, rfl, rfl⟩
        · simp only [decide_eq_false g, Bool.false_eq_true, if_false]
          by_cases big : n + c % 128 * p > 999999
          · simp only [if_pos big]; exact ⟨_, _, _, rfl, rfl⟩
          · simp only [if_neg big]; exact ⟨_, _, _, rfl, rfl⟩
      · simp only [if_neg hz]
        by_cases big : n + c % 128 * p > 999999
        · simp only [if_pos big]; exact ⟨_, _, _, rfl, rfl⟩
        · simp only [if_neg big]; exact ⟨_, _, _, rfl, rfl⟩
    · rw [if_neg h128, if_pos (by omega : c ≥ 128)]
      rw [impl_takeNumber.j1]
      by_cases g : i = 2
      · subst g
        rw [if_pos rfl, if_pos (by decide)]
        exact ⟨_, _, _, rfl, rfl⟩
      · have g' : (i == 2) = false := by simp [g]
        simp only [if_neg (show ¬ at_ + i = at_ + 2 by omega), g', Bool.false_eq_true, if_false, if_pos (show c ≥ 128 by omega), e5]
        obtain ⟨r1, r2, r3, n1, n2⟩ := next (by omega) (n + c % 128 * p) (by omega) (by omega)
        exact ⟨r1, r2, r3, n1, at_rounds (fun k => (impl_takeNumber.mono_l k).1 _ _ _ _) (Nat.le_succ _) n2⟩
  · rw [if_neg hlt, if_pos (by omega)]
    exact ⟨_, _, _, rfl, rfl⟩

theorem takes (s : ByteArray) (at_ : Int) (hs : s.size ≤ 65536) (ha : 0 ≤ at_) (hb : at_ ≤ s.size) :
    ∃ r1 r2 r3, spec_l01Take.l0 20 s at_ 0 1 at_ = some (r1, r2, r3) ∧ impl_takeNumber.l0 20 s at_ 0 0 = some (r1, r3) := by
  have r2 : ∀ m : Int, 0 ≤ m → m < 16384 → ∃ r1 r2 r3, spec_l01Take.l0 3 s at_ m 16384 (at_ + 2) = some (r1, r2, r3) ∧ impl_takeNumber.l0 4 s at_ m 2 = some (r1, r3) := by
    intro m h0 h1
    refine round s at_ m 16384 2 hs ha hb (by omega) (by omega) ?_ (by omega) (by omega) h0 h1 0 (fun h => by omega)
    intro x h0 h1
    have : wrap64 (7 * 2) = 14 := by unfold wrap64; omega
    rw [this]; unfold shl; simp [IntKind.wrap, IntKind.bits]; omega
  have r1 : ∀ m : Int, 0 ≤ m → m < 128 → ∃ r1 r2 r3, spec_l01Take.l0 6 s at_ m 128 (at_ + 1) = some (r1, r2, r3) ∧ impl_takeNumber.l0 7 s at_ m 1 = some (r1, r3) := by
    intro m h0 h1
    refine round s at_ m 128 1 hs ha hb (by omega) (by omega) ?_ (by omega) (by omega) h0 h1 3 (fun _ m g0 g1 => ?_)
    · intro x h0 h1
      have : wrap64 (7 * 1) = 7 := by unfold wrap64; omega
      rw [this]; unfold shl; simp [IntKind.wrap, IntKind.bits]; omega
    · obtain ⟨a, b, c, g, h⟩ := r2 m g0 g1
      exact ⟨a, b, c, at_rounds (k := 3) (fun k => (spec_l01Take.mono_l k).1 _ _ _ _ _) (by omega) g, h⟩
  have r0 := round s at_ 0 1 0 hs ha hb (by omega) (by omega) (by
      intro x h0 h1
      have : wrap64 (7 * 0) = 0 := by unfold wrap64; omega
      rw [this]; unfold shl; simp [IntKind.wrap, IntKind.bits]; omega) (by omega) (by omega) (by omega) (by omega) 6 (fun _ m g0 g1 => by
      obtain ⟨a, b, c, g, h⟩ := r1 m g0 g1
      exact ⟨a, b, c, at_rounds (k := 6) (fun k => (spec_l01Take.mono_l k).1 _ _ _ _ _) (by omega) g, h⟩)
  obtain ⟨a, b, c, g, h⟩ := r0
  rw [Int.add_zero] at g
  exact ⟨a, b, c, at_rounds (k := 9) (fun k => (spec_l01Take.mono_l k).1 _ _ _ _ _) (by omega) g, at_rounds (k := 10) (fun k => (impl_takeNumber.mono_l k).1 _ _ _ _) (by omega) h⟩

theorem FnExactTakeNumber : laws_FnExactTakeNumber.Pure := by
  intro s a _ _
  refine ⟨20, ?_⟩
  unfold laws_FnExactTakeNumber.f spec_TakeNumber.f impl_TakeNumber.f impl_isLong.f impl_takeNumber.f impl_within.f spec_l01Take.f
  by_cases h : (s.size : Int) > 1048576
  · rw [if_pos h]
  · rw [if_neg h]
    by_cases h2 : (s.size : Int) > 65536
    · simp [h2]
    · have e3 : decide ((s.size : Int) > 65536) = false := by simp; omega
      rw [if_neg h2]
      simp only [Option.bind_some, e3, Bool.false_eq_true, if_false]
      by_cases a0 : a < 0
      · rw [if_pos a0, if_neg (show ¬ a ≥ 0 by omega)]; simp
      · rw [if_neg a0, if_pos (show a ≥ 0 by omega)]
        by_cases a1 : a > (s.size : Int)
        · have : decide (a ≤ (s.size : Int)) = false := by simp; omega
          rw [if_pos a1, this]; simp
        · have : decide (a ≤ (s.size : Int)) = true := by simp; omega
          obtain ⟨r1, r2, r3, g, h⟩ := takes s a (by omega) (by omega) (by omega)
          rw [if_neg a1, this, g]
          simp only [Option.bind_some]
          rw [if_pos trivial, h]
          simp

end Go.Proofs.Ytilflaoobjdagaa.Pure
