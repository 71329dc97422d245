/- The program's SameTable answers what the reference's answers, for each two tables: the pure statement of FnExactSameTable. Conditions: none. -/
import Derived.Test.YtpilinnhikpcfaaYSameTableK
namespace Go.Proofs.Ytpilinnhikpcfaa.Pure
set_option linter.unusedVariables false
open Go.RowKit Go.Proofs.Ytpilinnhikpcfaa.XA Go.Proofs.Ytpilinnhikpcfaa.Pk Go.Proofs.YtpilinnhikpcfaaW.PrintWords Go.Proofs.YtpilinnhikpcfaaW.PrintLast Go.Proofs.YtpilinnhikpcfaaW.PrintMore

theorem holds_eq (a c : List S148) (ha : a.length ≤ 1048576) : ∃ r, Ev (fun k => spec_l08SameHolds.f k a c) r ∧ Ev (fun k => slices_Equal_impl_Hold_impl_Hold.f k a c) r := by
  by_cases hl : (a.length : Int) = (c.length : Int)
  · refine ⟨allN a.length (fun i => !(!(((rd_T148 a i).f0) == ((rd_T148 c i).f0)) || (!(((rd_T148 a i).f1) == ((rd_T148 c i).f1)) || (!(((rd_T148 a i).f2) == ((rd_T148 c i).f2)))))), ?_, ?_⟩
    · refine Ev.congr (f := fun k => spec_l08SameHolds.l0 k a c 0) (fun k => by unfold spec_l08SameHolds.f; rw [if_pos hl]) ?_
      refine all_loop a.length _ (fun k i => spec_l08SameHolds.l0 k a c i) ?_ ?_ ?_
      · intro i r hi hp hr
        exact Ev.step (fun k => by
          show spec_l08SameHolds.l0 (k + 1) a c i = spec_l08SameHolds.l0 k a c ((i : Int) + 1)
          rw [spec_l08SameHolds.l0, if_pos (by omega), if_pos (by omega), if_pos (by omega), if_neg (by rw [Bool.not_eq_true'] at hp; rw [hp]; decide), wrap_id _ (by omega) (by omega)]) hr
      · intro i hi hp
        exact Ev.step (fun k => by
          show spec_l08SameHolds.l0 (k + 1) a c i = some false
          rw [spec_l08SameHolds.l0, if_pos (by omega), if_pos (by omega), if_pos (by omega), if_pos (by rw [Bool.not_eq_false'] at hp; exact hp)]) (Ev.now false)
      · exact Ev.step (fun k => by
          show spec_l08SameHolds.l0 (k + 1) a c a.length = some true
          rw [spec_l08SameHolds.l0, if_neg (by omega)]) (Ev.now true)
    · refine Ev.congr (f := fun k => slices_Equal_impl_Hold_impl_Hold.l0 k a c (a.length : Int) 0) (fun k => by unfold slices_Equal_impl_Hold_impl_Hold.f; rw [if_pos hl]) ?_
      refine all_loop a.length _ (fun k i => slices_Equal_impl_Hold_impl_Hold.l0 k a c (a.length : Int) i) ?_ ?_ ?_
      · intro i r hi hp hr
        exact Ev.step (fun k => by
          show slices_Equal_impl_Hold_impl_Hold.l0 (k + 1) a c (a.length : Int) i = slices_Equal_impl_Hold_impl_Hold.l0 k a c (a.length : Int) ((i : Int) + 1)
          rw [slices_Equal_impl_Hold_impl_Hold.l0, if_pos (by omega), if_pos (by omega), if_pos (by omega), if_pos (by omega), if_neg (by rw [Bool.not_eq_true'] at hp; rw [hp]; decide), wrap_id _ (by omega) (by omega)]) hr
      · intro i hi hp
        exact Ev.step (fun k => by
          show slices_Equal_impl_Hold_impl_Hold.l0 (k + 1) a c (a.length : Int) i = some false
          rw [slices_Equal_impl_Hold_impl_Hold.l0, if_pos (by omega), if_pos (by omega), if_pos (by omega), if_pos (by omega), if_pos (by rw [Bool.not_eq_false'] at hp; exact hp)]) (Ev.now false)
      · exact Ev.step (fun k => by
          show slices_Equal_impl_Hold_impl_Hold.l0 (k + 1) a c (a.length : Int) a.length = some true
          rw [slices_Equal_impl_Hold_impl_Hold.l0, if_neg (by omega)]) (Ev.now true)
  · exact ⟨false, ⟨0, fun k _ => by show spec_l08SameHolds.f k a c = _; unfold spec_l08SameHolds.f; rw [if_neg hl]⟩, ⟨0, fun k _ => by show slices_Equal_impl_Hold_impl_Hold.f k a c = _; unfold slices_Equal_impl_Hold_impl_Hold.f; rw [if_neg hl]⟩⟩

theorem tables (a b c d : List S148) (ha : a.length ≤ 1048576) (hb : b.length ≤ 1048576) : ∃ r, Ev (fun k => spec_SameTable.f k a b c d) r ∧ Ev (fun k => impl_SameTable.f k a b c d) r := by
  by_cases h1 : (a.length : Int) ≤ 30
  · by_cases h2 : (b.length : Int) ≤ 6
    · obtain ⟨r1, ⟨A, e1⟩, ⟨B, e2⟩⟩ := holds_eq a c ha
      obtain ⟨r2, ⟨C, e3⟩, ⟨D, e4⟩⟩ := holds_eq b d hb
      refine ⟨r1 && r2, ⟨A + C, fun k hk => ?_⟩, ⟨B + D, fun k hk => ?_⟩⟩
      · have e1 := e1 k (by omega)
        have e3 := e3 k (by omega)
        simp only at e1 e3
        simp only [spec_SameTable.f, if_pos h1, if_pos h2, e1, e3, Option.bind_some]
        cases r1 <;> simp
      · have e2 := e2 k (by omega)
        have e4 := e4 k (by omega)
        simp only at e2 e4
        simp only [impl_SameTable.f, impl_Table_isSame.f, if_pos h1, if_pos h2, e2, e4, Option.bind_some]
        cases r1 <;> simp
    · exact ⟨false, ⟨0, fun k _ => by simp only [spec_SameTable.f, if_pos h1, if_neg h2]⟩, ⟨0, fun k _ => by simp only [impl_SameTable.f, if_pos h1, if_neg h2]⟩⟩
  · exact ⟨false, ⟨0, fun k _ => by simp only [spec_SameTable.f, if_neg h1]⟩, ⟨0, fun k _ => by simp only [impl_SameTable.f, if_neg h1]⟩⟩

theorem FnExactSameTable : laws_FnExactSameTable.Pure := core_FnExactSameTable (fun x0 x1 _ _ s0 s1 => tables _ _ _ _ (by rw [List.length_map]; exact s0.1.1) (by rw [List.length_map]; exact s0.2.1))

end Go.Proofs.Ytpilinnhikpcfaa.Pure
