/- The program's CompileTerms answers what the reference's answers, for all terms: the pure statement of FnExactCompileTerms. Conditions: none. -/
import Derived.Test.YthkbgbkglgmpoaaYCompileTermsK
set_option linter.unusedVariables false
set_option linter.unusedSimpArgs false
namespace Go.Proofs.Ythkbgbkglgmpoaa.Pure
set_option linter.unusedVariables false
open Go.RowKit Go.Proofs.Ythkbgbkglgmpoaa.XA Go.Proofs.Ythkbgbkglgmpoaa.Pk Go.Proofs.YthkbgbkglgmpoaaW.PrintWords Go.Proofs.YthkbgbkglgmpoaaW.PrintLast Go.Proofs.YthkbgbkglgmpoaaW.PrintMore
theorem rin_eq (x lo hi : Int) : spec_l01In.f x lo hi = some (decide (lo ≤ x ∧ x ≤ hi)) := by
 unfold spec_l01In.f
 by_cases h : x ≥ lo
 ·rw [if_pos h]; exact congrArg some (decide_eq_decide.2 ⟨fun g => ⟨h, g⟩, fun g => g.2⟩)
 ·rw [if_neg h]; exact congrArg some (decide_eq_false fun g => h g.1).symm
theorem rwithin_eq (x lo hi : Int) : impl_within.f x lo hi = some (decide (lo ≤ x ∧ x ≤ hi)) := rin_eq x lo hi
def kindAt (n : Int) (l : List Int) (i : Nat) : Bool := decide (1 ≤ rd l i ∧ rd l i ≤ n) && (decide (i = 0) || decide (rd l ((i : Int) - 1) < rd l i))
def tOk (n : Int) (l : List Int) (m : Int) : Bool := decide (0 < l.length) && (decide (0 ≤ m ∧ m ≤ 3) && allN l.length (kindAt n l))
theorem rising (n : Int) (l : List Int) (h : allN l.length (kindAt n l) = true) : ∀ i : Nat, i < l.length → (i : Int) + 1 ≤ rd l i := by
 rw [allN_iff] at h
 intro i
 induction i with
 | zero =>
  intro hi
  have := h 0 hi
  unfold kindAt at this
  rw [Bool.and_eq_true, decide_eq_true_eq] at this
  have := this.1.1
  omega
 | succ i ih =>
  intro hi
  have h1 := ih (by omega)
  have := h (i + 1) hi
  unfold kindAt at this
  rw [Bool.and_eq_true, Bool.or_eq_true, decide_eq_true_eq, decide_eq_true_eq] at this
  rcases this.2 with h2 | h2
  ·omega
  ·have h2 := of_decide_eq_true h2
   rw [show ((i + 1 : Nat) : Int) - 1 = (i : Int) by omega] at h2
   omega
theorem rising_len (n : Int) (l : List Int) (h : allN l.length (kindAt n l) = true) (h0 : 0 < l.length) : (l.length : Int) ≤ n := by
 have h1 := rising n l h (l.length - 1) (by omega)
 rw [allN_iff] at h
 have := h (l.length - 1) (by omega)
 unfold kindAt at this
 rw [Bool.and_eq_true, decide_eq_true_eq] at this
 have := this.1.2
 omega
theorem term_spec (n : Int) (l : List Int) (m : Int) (hl : l.length ≤ 1048576) : Ev (fun k => spec_l03Term.f k l m n) (tOk n l m) := by
 have key : Ev (fun k => spec_l03Term.l0 k n 0 l m) (allN l.length (kindAt n l)) := by
  refine all_loop l.length _ (fun k i => spec_l03Term.l0 k n i l m) ?_ ?_ ?_
  ·intro i r hi hp hr
   unfold kindAt at hp
   rw [Bool.and_eq_true, Bool.or_eq_true, decide_eq_true_eq, decide_eq_true_eq] at hp
   obtain ⟨hin, hup⟩ := hp
   exact Ev.step (fun k => by
    show spec_l03Term.l0 (k + 1) n i l m = spec_l03Term.l0 k n ((i : Int) + 1) l m
    rw [spec_l03Term.l0, if_pos (by omega), if_pos (by omega), rin_eq, wrap_id ((i : Int) + 1) (by omega) (by omega)]
    simp only [Option.bind_some]
    rw [if_pos (decide_eq_true hin)]
    by_cases h0 : (i : Int) > 0
    ·rw [if_pos h0, wrap_id ((i : Int) - 1) (by omega) (by omega), if_pos (by omega), if_pos (by omega), if_neg (by
      rcases hup with h | h
      ·omega
      ·have := of_decide_eq_true h; omega)]
    ·rw [if_neg h0]) hr
  ·intro i hi hp
   exact Ev.step (fun k => by
    show spec_l03Term.l0 (k + 1) n i l m = some false
    rw [spec_l03Term.l0, if_pos (by omega), if_pos (by omega), rin_eq]
    simp only [Option.bind_some]
    unfold kindAt at hp
    by_cases hin : 1 ≤ rd l i ∧ rd l i ≤ n
    ·rw [decide_eq_true hin, Bool.true_and, Bool.or_eq_false_iff] at hp
     have h0 := of_decide_eq_false hp.1
     have h1 := of_decide_eq_false hp.2
     rw [if_pos (decide_eq_true hin), if_pos (by omega), wrap_id ((i : Int) - 1) (by omega) (by omega), if_pos (by omega), if_pos (by omega), if_pos (by omega)]
    ·rw [if_neg (by rw [decide_eq_false hin]; decide)]) (Ev.now false)
  ·exact Ev.step (fun k => by
    show spec_l03Term.l0 (k + 1) n l.length l m = some true
    rw [spec_l03Term.l0, if_neg (by omega)]) (Ev.now true)
 obtain ⟨K, key⟩ := key
 refine ⟨K + 1, fun k hk => ?_⟩
 obtain ⟨k, rfl⟩ : ∃ j, k = j + 1 := ⟨k - 1, by omega⟩
 have e := key k (by omega)
 simp only at e
 unfold tOk
 by_cases h0 : 0 < l.length
 ·by_cases h1 : (l.length : Int) > n
  ·have hf : allN l.length (kindAt n l) = false := by
    cases hc : allN l.length (kindAt n l)
    ·rfl
    ·have := rising_len n l hc h0; omega
   simp only [spec_l03Term.f, spec_l03Term.j0, if_neg (show ¬ (l.length : Int) = 0 by omega), if_pos h1, if_true, hf, Bool.and_false]
  ·simp only [spec_l03Term.f, spec_l03Term.j0, spec_l03Many.f, rin_eq, Option.bind_some, if_neg (show ¬ (l.length : Int) = 0 by omega), if_neg h1, decide_eq_true h0, Bool.true_and, e]
   by_cases h2 : 0 ≤ m ∧ m ≤ 3
   ·simp only [decide_eq_true h2, Bool.not_true, Bool.false_eq_true, if_false, Bool.true_and]
   ·simp only [decide_eq_false h2, Bool.not_false, if_true, Bool.false_and]
 ·simp only [spec_l03Term.f, spec_l03Term.j0, if_pos (show (l.length : Int) = 0 by omega), if_true, decide_eq_false h0, Bool.false_and]
theorem term_impl (n : Int) (l : List Int) (m : Int) (hl : l.length ≤ 1048576) : Ev (fun k => impl_isTerm.f k l m n) (tOk n l m) := by
 have key : Ev (fun k => impl_isTerm.l0 k n l l.length 0 l m) (if allN l.length (kindAt n l) = true then (decide (0 < l.length) && decide (0 ≤ m ∧ m ≤ 3)) else false) := by
  refine all_cps l.length _ (fun k i => impl_isTerm.l0 k n l l.length i l m) _ _ ?_ ?_ ?_
  ·intro i r hi hp hr
   unfold kindAt at hp
   rw [Bool.and_eq_true, Bool.or_eq_true, decide_eq_true_eq, decide_eq_true_eq] at hp
   obtain ⟨hin, hup⟩ := hp
   exact Ev.step (fun k => by
    show impl_isTerm.l0 (k + 1) n l l.length i l m = impl_isTerm.l0 k n l l.length ((i : Int) + 1) l m
    rw [impl_isTerm.l0, if_pos (by omega), if_pos (by omega), if_pos (by omega), rwithin_eq, wrap_id ((i : Int) + 1) (by omega) (by omega)]
    simp only [Option.bind_some]
    rw [if_pos (decide_eq_true hin)]
    by_cases h0 : (i : Int) > 0
    ·rw [if_pos h0, wrap_id ((i : Int) - 1) (by omega) (by omega), if_pos (by omega), if_pos (by omega), if_neg (by
      rcases hup with h | h
      ·omega
      ·have := of_decide_eq_true h; omega)]
    ·rw [if_neg h0]) hr
  ·intro i hi hp
   exact Ev.step (fun k => by
    show impl_isTerm.l0 (k + 1) n l l.length i l m = some false
    rw [impl_isTerm.l0, if_pos (by omega), if_pos (by omega), if_pos (by omega), rwithin_eq]
    simp only [Option.bind_some]
    unfold kindAt at hp
    by_cases hin : 1 ≤ rd l i ∧ rd l i ≤ n
    ·rw [decide_eq_true hin, Bool.true_and, Bool.or_eq_false_iff] at hp
     have h0 := of_decide_eq_false hp.1
     have h1 := of_decide_eq_false hp.2
     rw [if_pos (decide_eq_true hin), if_pos (by omega), wrap_id ((i : Int) - 1) (by omega) (by omega), if_pos (by omega), if_pos (by omega), if_pos (by omega)]
    ·rw [if_neg (by rw [decide_eq_false hin]; decide)]) (Ev.now false)
  ·exact Ev.step (f := fun _ => some (decide (0 < l.length) && decide (0 ≤ m ∧ m ≤ 3))) (fun k => by
    show impl_isTerm.l0 (k + 1) n l l.length l.length l m = _
    rw [impl_isTerm.l0, if_neg (by omega), rwithin_eq]
    by_cases h0 : 0 < l.length
    ·rw [if_pos (by omega), decide_eq_true h0, Bool.true_and]
     rfl
    ·rw [if_neg (by omega), decide_eq_false h0, Bool.false_and]) (Ev.now _)
 obtain ⟨K, key⟩ := key
 refine ⟨K, fun k hk => ?_⟩
 have e := key k hk
 simp only at e
 show impl_isTerm.f k l m n = _
 unfold impl_isTerm.f
 rw [e]
 unfold tOk
 cases allN l.length (kindAt n l) <;> simp
def smTerms (terms : List S78) : Prop := terms.length ≤ 1048576 ∧ ∀ x ∈ terms, x.f0.length ≤ 1048576
theorem terms_impl (n : Int) (t : List S78) (h : smTerms t) : Ev (fun k => impl_areTerms.f k t n) (decide (t.length ≤ 4) && allN t.length (fun i => tOk n (rd_T78 t i).f0 (rd_T78 t i).f1)) := by
 have hl := h.1
 have key : Ev (fun k => slices_IndexFunc_impl_Term_impl_Term_at_impl_areTerms_1.l0 k t t.length 0 n) (findN t.length (fun i => !tOk n (rd_T78 t i).f0 (rd_T78 t i).f1)) := by
  refine find_loop t.length _ (fun k i => slices_IndexFunc_impl_Term_impl_Term_at_impl_areTerms_1.l0 k t t.length i n) ?_ ?_ ?_
  ·intro i r hi hp hr'
   rw [Bool.not_eq_false'] at hp
   obtain ⟨K, e⟩ := term_impl n (rd_T78 t i).f0 (rd_T78 t i).f1 (h.2 _ (getD_mem t _ i hi))
   obtain ⟨K', hr'⟩ := hr'
   refine ⟨K + K' + 1, fun k hk => ?_⟩
   obtain ⟨m, rfl⟩ : ∃ m, k = m + 1 := ⟨k - 1, by omega⟩
   have e := e m (by omega)
   have e2 := hr' m (by omega)
   simp only at e e2
   show slices_IndexFunc_impl_Term_impl_Term_at_impl_areTerms_1.l0 (m + 1) t t.length i n = some r
   rw [slices_IndexFunc_impl_Term_impl_Term_at_impl_areTerms_1.l0, if_pos (by omega), if_pos (by omega), if_pos (by omega), impl_areTerms_1.f, e, hp]
   simp only [Option.bind_some, Bool.not_true, Bool.false_eq_true, if_false]
   rw [wrap_id _ (by omega) (by omega)]
   exact e2
  ·intro i hi hp
   rw [Bool.not_eq_true'] at hp
   obtain ⟨K, e⟩ := term_impl n (rd_T78 t i).f0 (rd_T78 t i).f1 (h.2 _ (getD_mem t _ i hi))
   refine ⟨K + 1, fun k hk => ?_⟩
   obtain ⟨m, rfl⟩ : ∃ m, k = m + 1 := ⟨k - 1, by omega⟩
   have e := e m (by omega)
   simp only at e
   show slices_IndexFunc_impl_Term_impl_Term_at_impl_areTerms_1.l0 (m + 1) t t.length i n = some (i : Int)
   rw [slices_IndexFunc_impl_Term_impl_Term_at_impl_areTerms_1.l0, if_pos (by omega), if_pos (by omega), if_pos (by omega), impl_areTerms_1.f, e, hp]
   simp only [Option.bind_some, Bool.not_false, if_true]
  ·exact Ev.step (fun k => by
    show slices_IndexFunc_impl_Term_impl_Term_at_impl_areTerms_1.l0 (k + 1) t t.length t.length n = some (-1)
    rw [slices_IndexFunc_impl_Term_impl_Term_at_impl_areTerms_1.l0, if_neg (by omega)]) (Ev.now _)
 obtain ⟨K, key⟩ := key
 refine ⟨K, fun k hk => ?_⟩
 have e := key k hk
 simp only at e
 show impl_areTerms.f k t n = _
 rw [all_of_any t.length]
 by_cases h4 : t.length ≤ 4
 ·simp only [impl_areTerms.f, if_pos (show (t.length : Int) ≤ 4 by omega), slices_ContainsFunc_impl_Term_impl_Term_at_impl_areTerms_1.f, slices_IndexFunc_impl_Term_impl_Term_at_impl_areTerms_1.f, e, Option.bind_some, findN_any, decide_eq_true h4, Bool.true_and]
 ·simp only [impl_areTerms.f, if_neg (show ¬ (t.length : Int) ≤ 4 by omega), decide_eq_false h4, Bool.false_and]
theorem many_of (n : Int) (t : List S78) (h : allN t.length (fun i => tOk n (rd_T78 t i).f0 (rd_T78 t i).f1) = true) : ∀ x ∈ t, 0 ≤ x.f1 ∧ x.f1 ≤ 3 := by
 rw [allN_iff] at h
 intro x hx
 obtain ⟨i, hi, rfl⟩ := List.getElem_of_mem hx
 have := h i hi
 unfold tOk at this
 rw [Bool.and_eq_true, Bool.and_eq_true, decide_eq_true_eq, decide_eq_true_eq] at this
 have h2 := this.2.1
 have e : rd_T78 t (i : Int) = t[i] := by
  show t.getD i _ = _
  rw [List.getD_eq_getElem?_getD, List.getElem?_eq_getElem hi]
  rfl
 rwa [e] at h2
end Go.Proofs.Ythkbgbkglgmpoaa.Pure
namespace Go.Proofs.Ythkbgbkglgmpoaa.Pure
set_option linter.unusedVariables false
open Go.RowKit Go.Proofs.Ythkbgbkglgmpoaa.XA Go.Proofs.Ythkbgbkglgmpoaa.Pk Go.Proofs.YthkbgbkglgmpoaaW.PrintWords Go.Proofs.YthkbgbkglgmpoaaW.PrintLast Go.Proofs.YthkbgbkglgmpoaaW.PrintMore
theorem terms_ref (t : List S78) (h : smTerms t) : Ev (fun k => spec_l03Terms.f k t) (decide (t.length ≤ 4) && allN t.length (fun i => tOk 8 (rd_T78 t i).f0 (rd_T78 t i).f1)) := by
 have hl := h.1
 by_cases h4 : t.length ≤ 4
 ·rw [decide_eq_true h4, Bool.true_and]
  refine Ev.congr (f := fun k => spec_l03Terms.l0 k t 0) (fun k => by unfold spec_l03Terms.f; rw [if_neg (by omega)]) ?_
  refine all_loop t.length _ (fun k i => spec_l03Terms.l0 k t i) ?_ ?_ ?_
  ·intro i r hi hp hr'
   obtain ⟨K, e⟩ := term_spec 8 (rd_T78 t i).f0 (rd_T78 t i).f1 (h.2 _ (getD_mem t _ i hi))
   obtain ⟨K', hr'⟩ := hr'
   refine ⟨K + K' + 1, fun k hk => ?_⟩
   obtain ⟨m, rfl⟩ : ∃ m, k = m + 1 := ⟨k - 1, by omega⟩
   have e := e m (by omega)
   have e2 := hr' m (by omega)
   simp only at e e2
   show spec_l03Terms.l0 (m + 1) t i = some r
   rw [spec_l03Terms.l0, if_pos (by omega), if_pos (by omega), e, hp]
   simp only [Option.bind_some, if_true]
   rw [wrap_id _ (by omega) (by omega)]
   exact e2
  ·intro i hi hp
   obtain ⟨K, e⟩ := term_spec 8 (rd_T78 t i).f0 (rd_T78 t i).f1 (h.2 _ (getD_mem t _ i hi))
   refine ⟨K + 1, fun k hk => ?_⟩
   obtain ⟨m, rfl⟩ : ∃ m, k = m + 1 := ⟨k - 1, by omega⟩
   have e := e m (by omega)
   simp only at e
   show spec_l03Terms.l0 (m + 1) t i = some false
   rw [spec_l03Terms.l0, if_pos (by omega), if_pos (by omega), e, hp]
   simp only [Option.bind_some, Bool.false_eq_true, if_false]
  ·exact Ev.step (fun k => by
    show spec_l03Terms.l0 (k + 1) t t.length = some true
    rw [spec_l03Terms.l0, if_neg (by omega)]) (Ev.now true)
 ·rw [decide_eq_false h4, Bool.false_and]
  exact ⟨0, fun k _ => by show spec_l03Terms.f k t = _; unfold spec_l03Terms.f; rw [if_pos (by omega)]⟩
end Go.Proofs.Ythkbgbkglgmpoaa.Pure
namespace Go.Proofs.Ythkbgbkglgmpoaa.Pure
set_option linter.unusedVariables false
open Go.RowKit Go.Proofs.Ythkbgbkglgmpoaa.XA Go.Proofs.Ythkbgbkglgmpoaa.Pk Go.Proofs.YthkbgbkglgmpoaaW.PrintWords Go.Proofs.YthkbgbkglgmpoaaW.PrintLast Go.Proofs.YthkbgbkglgmpoaaW.PrintMore
theorem has_both (l : List Int) (a : Int) (hl : l.length ≤ 1048576) : ∃ b, Ev (fun k => spec_l02Has.f k l a) b ∧ Ev (fun k => slices_Contains_int_int.f k l a) b := by
 refine ⟨anyN l.length (fun i => decide (rd l i = a)), ?_, ?_⟩
 ·have key := all_cps l.length (fun i => !decide (rd l i = a)) (fun k i => spec_l02Has.l0 k l a i) false true
   (fun i r hi hp hr => Ev.step (fun k => by
    show spec_l02Has.l0 (k + 1) l a i = spec_l02Has.l0 k l a ((i : Int) + 1)
    rw [Bool.not_eq_true'] at hp
    rw [spec_l02Has.l0, if_pos (by omega), if_pos (by omega), if_neg (of_decide_eq_false hp), wrap_id _ (by omega) (by omega)]) hr)
   (fun i hi hp => Ev.step (fun k => by
    show spec_l02Has.l0 (k + 1) l a i = some true
    rw [Bool.not_eq_false'] at hp
    rw [spec_l02Has.l0, if_pos (by omega), if_pos (by omega), if_pos (of_decide_eq_true hp)]) (Ev.now true))
   (Ev.step (fun k => by
    show spec_l02Has.l0 (k + 1) l a l.length = some false
    rw [spec_l02Has.l0, if_neg (by omega)]) (Ev.now false))
  unfold anyN
  cases hc : allN l.length (fun i => !decide (rd l i = a)) <;> rw [hc] at key <;> exact key
 ·have key := find_loop l.length (fun i => decide (rd l i = a)) (fun k i => slices_Index_int_int.l0 k l a l.length i)
   (fun i r hi hp hr => Ev.step (fun k => by
    show slices_Index_int_int.l0 (k + 1) l a l.length i = slices_Index_int_int.l0 k l a l.length ((i : Int) + 1)
    have hp := of_decide_eq_false hp
    rw [slices_Index_int_int.l0, if_pos (by omega), if_pos (by omega), if_pos (by omega), if_neg (fun h => hp h.symm), wrap_id _ (by omega) (by omega)]) hr)
   (fun i hi hp => Ev.step (fun k => by
    show slices_Index_int_int.l0 (k + 1) l a l.length i = some (i : Int)
    have hp := of_decide_eq_true hp
    rw [slices_Index_int_int.l0, if_pos (by omega), if_pos (by omega), if_pos (by omega), if_pos hp.symm]) (Ev.now _))
   (Ev.step (fun k => by
    show slices_Index_int_int.l0 (k + 1) l a l.length l.length = some (-1)
    rw [slices_Index_int_int.l0, if_neg (by omega)]) (Ev.now _))
  obtain ⟨K, key⟩ := key
  refine ⟨K, fun k hk => ?_⟩
  have e := key k hk
  simp only at e
  show slices_Contains_int_int.f k l a = _
  simp only [slices_Contains_int_int.f, slices_Index_int_int.f, e, Option.bind_some, findN_any]
end Go.Proofs.Ythkbgbkglgmpoaa.Pure
namespace Go.Proofs.Ythkbgbkglgmpoaa.Pure
set_option linter.unusedVariables false
open Go.RowKit Go.Proofs.Ythkbgbkglgmpoaa.XA Go.Proofs.Ythkbgbkglgmpoaa.Pk Go.Proofs.YthkbgbkglgmpoaaW.PrintWords Go.Proofs.YthkbgbkglgmpoaaW.PrintLast Go.Proofs.YthkbgbkglgmpoaaW.PrintMore
set_option maxRecDepth 100000 in
theorem has_fin : ∀ (s : Fin 512) (j : Fin 9), impl_has.f (s.val : Int) (j.val : Int) = some (s.val.testBit j.val) := by decide +kernel
set_option maxRecDepth 100000 in
theorem or_fin : ∀ (s : Fin 512) (j : Fin 9), Go.bits .or .i64 (s.val : Int) (shl .i64 1 (j.val : Int)) = ((s.val ||| 2 ^ j.val : Nat) : Int) := by decide +kernel
theorem has_is (s j : Nat) (hs : s < 512) (hj : j < 9) : impl_has.f (s : Int) (j : Int) = some (s.testBit j) := has_fin ⟨s, hs⟩ ⟨j, hj⟩
theorem or_is (s j : Nat) (hs : s < 512) (hj : j < 9) : Go.bits .or .i64 (s : Int) (shl .i64 1 (j : Int)) = ((s ||| 2 ^ j : Nat) : Int) := or_fin ⟨s, hs⟩ ⟨j, hj⟩
def bl (n s : Nat) : List Bool := (List.range (2 * n + 1)).map (fun j => s.testBit j)
theorem bl_len (n s : Nat) : (bl n s).length = 2 * n + 1 := by simp [bl]
theorem bl_get (n s j : Nat) (hj : j < 2 * n + 1) : rdOf false (bl n s) (j : Int) = s.testBit j := by
 show (bl n s).getD ((j : Int)).toNat false = _
 simp [bl, hj]
theorem bl_set (n s j : Nat) : (bl n s).set j true = bl n (s ||| 2 ^ j) := by
 apply List.ext_getElem?
 intro i
 rw [List.getElem?_set]
 by_cases h : j = i
 ·subst h
  by_cases hj : j < 2 * n + 1
  ·simp [bl, hj, Nat.testBit_or, Nat.testBit_two_pow]
  ·simp [bl, hj]
 ·simp only [h, if_false, bl, List.getElem?_map, Nat.testBit_or]
  cases hi : (List.range (2 * n + 1))[i]? with
  | none => rfl
  | some x =>
   obtain ⟨hl, e⟩ := List.getElem?_eq_some_iff.1 hi
   have : x = i := by rw [← e]; simp
   subst this
   simp [Nat.testBit_two_pow, h]
theorem bl_inj (n s s' : Nat) (h1 : s < 2 ^ (2 * n + 1)) (h2 : s' < 2 ^ (2 * n + 1)) (h : bl n s = bl n s') : s = s' := by
 apply Nat.eq_of_testBit_eq
 intro i
 by_cases hi : i < 2 * n + 1
 ·have := congrArg (fun l => rdOf false l (i : Int)) h
  simp only [bl_get n _ i hi] at this
  exact this
 ·have e : 2 ^ (2 * n + 1) ≤ 2 ^ i := Nat.pow_le_pow_right (by decide) (by omega)
  rw [Nat.testBit_lt_two_pow (by omega), Nat.testBit_lt_two_pow (by omega)]
theorem lt512 (n s : Nat) (hn : n ≤ 4) (h : s < 2 ^ (2 * n + 1)) : s < 512 := by
 have e : 2 ^ (2 * n + 1) ≤ 2 ^ 9 := Nat.pow_le_pow_right (by decide) (by omega)
 omega
theorem or_lt (n s j : Nat) (h : s < 2 ^ (2 * n + 1)) (hj : j < 2 * n + 1) : s ||| 2 ^ j < 2 ^ (2 * n + 1) := Nat.or_lt_two_pow h (Nat.pow_lt_pow_right (by decide) hj)
theorem least_is (m : Int) : spec_l03Least.f m = some (if m = 0 ∨ m = 3 then 1 else 0) := by
 unfold spec_l03Least.f
 by_cases h1 : m = 0
 ·rw [if_pos h1, if_pos (.inl h1)]
 ·rw [if_neg h1]
  by_cases h2 : m = 3
  ·rw [if_pos h2, if_pos (.inr h2)]
  ·rw [if_neg h2, if_neg (by omega)]
section
variable {t : List S78} (hn : t.length ≤ 4) (hmany : ∀ x ∈ t, 0 ≤ x.f1 ∧ x.f1 ≤ 3)
theorem term_mem (i : Nat) (h : i < t.length) : rd_T78 t (i : Int) ∈ t := getD_mem t z78 i h
theorem t2 (i : Nat) (h : i < 4) : wrap64 (2 * (i : Int)) = ((2 * i : Nat) : Int) := by rw [wrap_id _ (by omega) (by omega)]; omega
theorem t21 (i : Nat) (h : i < 4) : wrap64 (((2 * i : Nat) : Int) + 1) = ((2 * i + 1 : Nat) : Int) := by rw [wrap_id _ (by omega) (by omega)]; omega
theorem t22 (i : Nat) (h : i < 4) : wrap64 (((2 * i : Nat) : Int) + 2) = ((2 * i + 2 : Nat) : Int) := by rw [wrap_id _ (by omega) (by omega)]; omega
theorem ti1 (i : Nat) (h : i < 4) : wrap64 ((i : Int) + 1) = ((i + 1 : Nat) : Int) := by rw [wrap_id _ (by omega) (by omega)]; omega
include hn hmany in
theorem close_both : ∀ (m i s : Nat), i + m = t.length → s < 2 ^ (2 * t.length + 1) → ∃ s', s' < 2 ^ (2 * t.length + 1) ∧ s ||| s' = s' ∧ Ev (fun k => spec_l04Close.l0 k t (bl t.length s) (i : Int)) (bl t.length s') ∧ Ev (fun k => impl_closed.l0 k (s : Int) t (t.length : Int) (i : Int)) (s' : Int)
 | 0, i, s, hi, hs => by
  refine ⟨s, hs, Nat.or_self s, Ev.step (fun k => by rw [spec_l04Close.l0]) (Ev.neg (by omega) (Ev.now _)), Ev.step (fun k => by rw [impl_closed.l0]) (Ev.neg (by omega) (Ev.now _))⟩
 | m + 1, i, s, hi, hs => by
  have h5 := lt512 _ s hn hs
  have a1 := t2 i (by omega)
  have a2 := t21 i (by omega)
  have a3 := t22 i (by omega)
  have a4 := ti1 i (by omega)
  have hm := hmany _ (term_mem (t := t) i (by omega))
  have l1 := bl_len t.length s
  have key : ∀ s1, s1 < 2 ^ (2 * t.length + 1) → s ||| s1 = s1 →
    (∀ r, Ev (fun k => spec_l04Close.l0 k t (bl t.length s1) ((i + 1 : Nat) : Int)) r → Ev (fun k => spec_l04Close.l0 k t (bl t.length s) (i : Int)) r) →
    (∀ r, Ev (fun k => impl_closed.l0 k (s1 : Int) t (t.length : Int) ((i + 1 : Nat) : Int)) r → Ev (fun k => impl_closed.l0 k (s : Int) t (t.length : Int) (i : Int)) r) →
    ∃ s', s' < 2 ^ (2 * t.length + 1) ∧ s ||| s' = s' ∧ Ev (fun k => spec_l04Close.l0 k t (bl t.length s) (i : Int)) (bl t.length s') ∧ Ev (fun k => impl_closed.l0 k (s : Int) t (t.length : Int) (i : Int)) (s' : Int) := by
   intro s1 hs1 ho f1 f2
   obtain ⟨s', b1, b2, b3, b4⟩ := close_both m (i + 1) s1 (by omega) hs1
   exact ⟨s', b1, by rw [← b2, ← Nat.or_assoc, ho], f1 _ b3, f2 _ b4⟩
  have hset : (bl t.length s).set (((2 * i + 2 : Nat) : Int)).toNat true = bl t.length (s ||| 2 ^ (2 * i + 2)) := by rw [Int.toNat_natCast]; exact bl_set _ _ _
  have hor := or_is s (2 * i + 2) h5 (by omega)
  have hh1 := has_is s (2 * i + 1) h5 (by omega)
  have hh0 := has_is s (2 * i) h5 (by omega)
  have hg0 := bl_get t.length s (2 * i) (by omega)
  have hg1 := bl_get t.length s (2 * i + 1) (by omega)
  have hadd := or_lt t.length s (2 * i + 2) hs (by omega)
  have hoo : s ||| (s ||| 2 ^ (2 * i + 2)) = s ||| 2 ^ (2 * i + 2) := by rw [← Nat.or_assoc, Nat.or_self]
  cases c1 : s.testBit (2 * i + 1)
  ·cases c0 : s.testBit (2 * i)
   ·refine key s hs (Nat.or_self s) (fun r h => ?_) (fun r h => ?_)
    ·refine Ev.step (fun k => by rw [spec_l04Close.l0]) (Ev.pos (by omega) ?_)
     simp only [a1, a2, a4, hg0, hg1, c0, c1]
     exact Ev.pos (by omega) (Ev.pos (by omega) (Ev.neg (by decide) (Ev.pos (by omega) (Ev.pos (by omega) (Ev.neg (by decide) h)))))
    ·refine Ev.step (fun k => by rw [impl_closed.l0]) (Ev.pos (by omega) (Ev.pos (by omega) (Ev.pos (by omega) ?_)))
     simp only [a1, a2, a4, hh0, hh1, c0, c1, Option.bind_some]
     exact Ev.neg (by decide) (Ev.neg (by decide) h)
   ·by_cases cm : (rd_T78 t (i : Int)).f1 = 0 ∨ (rd_T78 t (i : Int)).f1 = 3
    ·refine key s hs (Nat.or_self s) (fun r h => ?_) (fun r h => ?_)
     ·refine Ev.step (fun k => by rw [spec_l04Close.l0]) (Ev.pos (by omega) ?_)
      simp only [a1, a2, a4, hg0, hg1, c0, c1, least_is, if_pos cm, Option.bind_some]
      exact Ev.pos (by omega) (Ev.pos (by omega) (Ev.pos (by simp) (Ev.pos (by omega) (Ev.neg (by decide) (Ev.pos (by omega) (Ev.pos (by omega) (Ev.neg (by decide) h)))))))
     ·refine Ev.step (fun k => by rw [impl_closed.l0]) (Ev.pos (by omega) (Ev.pos (by omega) (Ev.pos (by omega) ?_)))
      simp only [a1, a2, a4, hh0, hh1, c0, c1, Option.bind_some]
      exact Ev.neg (by decide) (Ev.pos (by simp) (Ev.neg (by omega) (Ev.neg (by omega) h)))
    ·refine key _ hadd hoo (fun r h => ?_) (fun r h => ?_)
     ·refine Ev.step (fun k => by rw [spec_l04Close.l0]) (Ev.pos (by omega) ?_)
      simp only [a1, a2, a3, a4, hg0, hg1, c0, c1, least_is, if_neg cm, Option.bind_some, hset]
      exact Ev.pos (by omega) (Ev.pos (by omega) (Ev.pos (by simp) (Ev.pos (by omega) (Ev.pos (by simp) (Ev.pos (by omega) (Ev.pos (by omega) h))))))
     ·refine Ev.step (fun k => by rw [impl_closed.l0]) (Ev.pos (by omega) (Ev.pos (by omega) (Ev.pos (by omega) ?_)))
      simp only [a1, a2, a3, a4, hh0, hh1, c0, c1, Option.bind_some, hor]
      refine Ev.neg (by decide) (Ev.pos (by simp) ?_)
      by_cases c2 : (rd_T78 t (i : Int)).f1 = 1
      ·exact Ev.pos c2 (Ev.pos (by omega) h)
      ·exact Ev.neg c2 (Ev.pos (by omega) (Ev.pos (by omega) h))
  ·refine key _ hadd hoo (fun r h => ?_) (fun r h => ?_)
   ·refine Ev.step (fun k => by rw [spec_l04Close.l0]) (Ev.pos (by omega) ?_)
    simp only [a1, a2, a3, a4, hg0, hg1, c1, least_is, Option.bind_some, hset]
    refine Ev.pos (by omega) (Ev.pos (by omega) ?_)
    cases c0 : s.testBit (2 * i)
    ·exact Ev.neg (by decide) (Ev.pos (by omega) (Ev.pos (by omega) (Ev.pos (by simp) (Ev.pos (by omega) (Ev.pos (by omega) h)))))
    ·refine Ev.pos (by simp) (Ev.pos (by omega) ?_)
     by_cases cm : (rd_T78 t (i : Int)).f1 = 0 ∨ (rd_T78 t (i : Int)).f1 = 3
     ·rw [if_pos cm]
      exact Ev.neg (by decide) (Ev.pos (by omega) (Ev.pos (by omega) (Ev.pos (by simp) (Ev.pos (by omega) (Ev.pos (by omega) h)))))
     ·rw [if_neg cm]
      exact Ev.pos (by simp) (Ev.pos (by omega) (Ev.pos (by omega) h))
   ·refine Ev.step (fun k => by rw [impl_closed.l0]) (Ev.pos (by omega) (Ev.pos (by omega) (Ev.pos (by omega) ?_)))
    simp only [a1, a2, a3, a4, hh1, c1, Option.bind_some, hor]
    exact Ev.pos (by simp) (Ev.pos (by omega) h)
variable (hkd : ∀ x ∈ t, x.f0.length ≤ 1048576)
include hn hmany in
theorem closeF_both (s : Nat) (hs : s < 2 ^ (2 * t.length + 1)) : ∃ s', s' < 2 ^ (2 * t.length + 1) ∧ s ||| s' = s' ∧ Ev (fun k => spec_l04Close.f k t (bl t.length s)) (bl t.length s') ∧ Ev (fun k => impl_closed.f k t (s : Int)) (s' : Int) := by
 obtain ⟨s', h1, h2, h3, h4⟩ := close_both hn hmany t.length 0 s (by omega) hs
 refine ⟨s', h1, h2, ?_, h4⟩
 refine Ev.congr (f := fun k => if ([] : List Bool).length + (bl t.length s).length < 140737488355328 then spec_l04Close.l0 k t ([] ++ bl t.length s) 0 else none) (fun k => rfl) (Ev.pos (by rw [bl_len]; simp; omega) ?_)
 rw [List.nil_append]
 exact h3
include hn hmany hkd in
theorem lead_both (s : Nat) (hs : s < 2 ^ (2 * t.length + 1)) (kind : Int) : ∀ (m i o : Nat), i + m = t.length → o < 2 ^ (2 * t.length + 1) → ∃ o', o' < 2 ^ (2 * t.length + 1) ∧ Ev (fun k => spec_l04Step.l0 k t (bl t.length s) kind (bl t.length o) (i : Int)) (bl t.length o') ∧ Ev (fun k => impl_lead.l0 k t (s : Int) kind (o : Int) t (t.length : Int) (i : Int)) (o' : Int)
 | 0, i, o, hi, ho => by
  obtain ⟨o', b1, b2, b3, b4⟩ := closeF_both hn hmany o ho
  exact ⟨o', b1, Ev.step (fun k => by rw [spec_l04Step.l0]) (Ev.neg (by omega) (Ev.bind b3 (Ev.now _))), Ev.step (fun k => by rw [impl_lead.l0]) (Ev.neg (by omega) (Ev.bind b4 (Ev.now _)))⟩
 | m + 1, i, o, hi, ho => by
  have h5 := lt512 _ s hn hs
  have h6 := lt512 _ o hn ho
  have a1 := t2 i (by omega)
  have a2 := t21 i (by omega)
  have a4 := ti1 i (by omega)
  have hm := hmany _ (term_mem (t := t) i (by omega))
  have hk := hkd _ (term_mem (t := t) i (by omega))
  have l1 := bl_len t.length s
  have l2 := bl_len t.length o
  have hset : (bl t.length o).set (((2 * i + 1 : Nat) : Int)).toNat true = bl t.length (o ||| 2 ^ (2 * i + 1)) := by rw [Int.toNat_natCast]; exact bl_set _ _ _
  have hor := or_is o (2 * i + 1) h6 (by omega)
  have hh1 := has_is s (2 * i + 1) h5 (by omega)
  have hh0 := has_is s (2 * i) h5 (by omega)
  have hg0 := bl_get t.length s (2 * i) (by omega)
  have hg1 := bl_get t.length s (2 * i + 1) (by omega)
  have hadd := or_lt t.length o (2 * i + 1) ho (by omega)
  obtain ⟨b, e1, e2⟩ := has_both (rd_T78 t (i : Int)).f0 kind hk
  have way : ∀ (again : Bool) (r : Int), (s.testBit (2 * i + 1) = true → again = (decide ((rd_T78 t (i : Int)).f1 = 2) || decide ((rd_T78 t (i : Int)).f1 = 3))) → (s.testBit (2 * i + 1) = false → again = false) →
    Ev (fun k => impl_lead.j1 k t (s : Int) kind (o : Int) (i : Int) again t (t.length : Int) (i : Int) (rd_T78 t (i : Int)).f0 (rd_T78 t (i : Int)).f1) r → Ev (fun k => impl_lead.l0 k t (s : Int) kind (o : Int) t (t.length : Int) (i : Int)) r := by
   intro again r g1 g2 h
   refine Ev.step (fun k => by rw [impl_lead.l0]) (Ev.pos (by omega) (Ev.pos (by omega) (Ev.pos (by omega) ?_)))
   simp only [a1, a2, hh1, Option.bind_some]
   cases c1 : s.testBit (2 * i + 1)
   ·rw [g2 c1] at h
    exact Ev.neg (by simp) h
   ·rw [g1 c1] at h
    by_cases c2 : (rd_T78 t (i : Int)).f1 = 2
    ·rw [decide_eq_true c2, Bool.true_or] at h
     exact Ev.pos (by simp) (Ev.pos c2 h)
    ·rw [decide_eq_false c2, Bool.false_or] at h
     refine Ev.pos (by simp) (Ev.neg c2 ?_)
     rw [show ((rd_T78 t (i : Int)).f1 == 3) = decide ((rd_T78 t (i : Int)).f1 = 3) from rfl]
     exact h
  have key : ∀ o1, o1 < 2 ^ (2 * t.length + 1) →
    (∀ r, Ev (fun k => spec_l04Step.l0 k t (bl t.length s) kind (bl t.length o1) ((i + 1 : Nat) : Int)) r → Ev (fun k => spec_l04Step.l0 k t (bl t.length s) kind (bl t.length o) (i : Int)) r) →
    (∀ r, Ev (fun k => impl_lead.l0 k t (s : Int) kind (o1 : Int) t (t.length : Int) ((i + 1 : Nat) : Int)) r → Ev (fun k => impl_lead.l0 k t (s : Int) kind (o : Int) t (t.length : Int) (i : Int)) r) →
    ∃ o', o' < 2 ^ (2 * t.length + 1) ∧ Ev (fun k => spec_l04Step.l0 k t (bl t.length s) kind (bl t.length o) (i : Int)) (bl t.length o') ∧ Ev (fun k => impl_lead.l0 k t (s : Int) kind (o : Int) t (t.length : Int) (i : Int)) (o' : Int) := by
   intro o1 ho1 f1 f2
   obtain ⟨o', b1, b2, b3⟩ := lead_both s hs kind m (i + 1) o1 (by omega) ho1
   exact ⟨o', b1, f1 _ b2, f2 _ b3⟩
  cases b with
  | false =>
   refine key o ho (fun r h => ?_) (fun r h => way (s.testBit (2 * i + 1) && (decide ((rd_T78 t (i : Int)).f1 = 2) || decide ((rd_T78 t (i : Int)).f1 = 3))) r (fun c => by rw [c, Bool.true_and]) (fun c => by rw [c, Bool.false_and]) ?_)
   ·refine Ev.step (fun k => by rw [spec_l04Step.l0]) (Ev.pos (by omega) (Ev.pos (by omega) (Ev.bind e1 ?_)))
    refine Ev.neg (by simp) ?_
    simp only [a4]
    exact h
   ·refine Ev.step (fun k => by rw [impl_lead.j1]) (Ev.bind e2 ?_)
    refine Ev.neg (by simp) ?_
    simp only [a4]
    exact h
  | true =>
   by_cases cc : s.testBit (2 * i) = true ∨ s.testBit (2 * i + 1) = true ∧ (rd_T78 t (i : Int)).f1 ≥ 2
   ·refine key _ hadd (fun r h => ?_) (fun r h => way (s.testBit (2 * i + 1) && (decide ((rd_T78 t (i : Int)).f1 = 2) || decide ((rd_T78 t (i : Int)).f1 = 3))) r (fun c => by rw [c, Bool.true_and]) (fun c => by rw [c, Bool.false_and]) ?_)
    ·refine Ev.step (fun k => by rw [spec_l04Step.l0]) (Ev.pos (by omega) (Ev.pos (by omega) (Ev.bind e1 ?_)))
     refine Ev.pos (by simp) ?_
     simp only [a1, a2, a4, hg0, hg1, hset]
     refine Ev.pos (by omega) (Ev.pos (by omega) ?_)
     by_cases c0 : s.testBit (2 * i) = true
     ·exact Ev.pos c0 (Ev.pos (by omega) (Ev.pos (by omega) h))
     ·obtain ⟨c1, c2⟩ := cc.resolve_left c0
      exact Ev.neg c0 (Ev.pos (by omega) (Ev.pos (by omega) (Ev.pos c1 (Ev.pos c2 (Ev.pos (by omega) h)))))
    ·refine Ev.step (fun k => by rw [impl_lead.j1]) (Ev.bind e2 ?_)
     refine Ev.pos (by simp) ?_
     simp only [a1, a2, a4, hh0, Option.bind_some, hor]
     by_cases c0 : s.testBit (2 * i) = true
     ·exact Ev.pos c0 (Ev.pos (by omega) h)
     ·obtain ⟨c1, c2⟩ := cc.resolve_left c0
      refine Ev.neg c0 (Ev.pos ?_ (Ev.pos (by omega) h))
      rw [c1, Bool.true_and, Bool.or_eq_true, decide_eq_true_eq, decide_eq_true_eq]
      omega
   ·refine key o ho (fun r h => ?_) (fun r h => way (s.testBit (2 * i + 1) && (decide ((rd_T78 t (i : Int)).f1 = 2) || decide ((rd_T78 t (i : Int)).f1 = 3))) r (fun c => by rw [c, Bool.true_and]) (fun c => by rw [c, Bool.false_and]) ?_)
    ·refine Ev.step (fun k => by rw [spec_l04Step.l0]) (Ev.pos (by omega) (Ev.pos (by omega) (Ev.bind e1 ?_)))
     refine Ev.pos (by simp) ?_
     simp only [a1, a2, a4, hg0, hg1]
     refine Ev.pos (by omega) (Ev.pos (by omega) (Ev.neg (fun c => cc (.inl c)) (Ev.pos (by omega) (Ev.pos (by omega) ?_))))
     by_cases c1 : s.testBit (2 * i + 1) = true
     ·exact Ev.pos c1 (Ev.neg (fun c => cc (.inr ⟨c1, c⟩)) h)
     ·exact Ev.neg c1 h
    ·refine Ev.step (fun k => by rw [impl_lead.j1]) (Ev.bind e2 ?_)
     refine Ev.pos (by simp) ?_
     simp only [a1, a2, a4, hh0, Option.bind_some]
     refine Ev.neg (fun c => cc (.inl c)) (Ev.neg (fun c => ?_) h)
     rw [Bool.and_eq_true, Bool.or_eq_true, decide_eq_true_eq, decide_eq_true_eq] at c
     exact cc (.inr ⟨c.1, by omega⟩)
include hn hmany hkd in
theorem leadF_both (s : Nat) (hs : s < 2 ^ (2 * t.length + 1)) (kind : Int) : ∃ o', o' < 2 ^ (2 * t.length + 1) ∧ Ev (fun k => spec_l04Step.f k t (bl t.length s) kind) (bl t.length o') ∧ Ev (fun k => impl_lead.f k t (s : Int) kind) (o' : Int) := by
 obtain ⟨o', h1, h2, h3⟩ := lead_both hn hmany hkd s hs kind t.length 0 0 (by omega) (Nat.two_pow_pos _)
 refine ⟨o', h1, ?_, h3⟩
 have hb := bl_len t.length s
 have e : List.replicate (((bl t.length s).length : Int)).toNat false = bl t.length 0 := by
  rw [Int.toNat_natCast, hb]
  apply List.ext_getElem
  ·simp [bl]
  ·intro i h1 h2
   simp [bl]
 refine Ev.congr (f := fun k => if 0 ≤ ((bl t.length s).length : Int) then (if (((bl t.length s).length : Int)).toNat ≤ 281474976710656 then (spec_l04Step.l0 k t (bl t.length s) kind (List.replicate (((bl t.length s).length : Int)).toNat false) 0) else none) else none) (fun k => rfl) (Ev.pos (by omega) (Ev.pos (by omega) ?_))
 rw [e]
 exact h2
theorem any_is (n s : Nat) (hn : n ≤ 4) (hs : s < 2 ^ (2 * n + 1)) : Ev (fun k => spec_l04Any.f k (bl n s)) (decide (s ≠ 0)) := by
 have key := all_cps (bl n s).length (fun i => !(rdOf false (bl n s) (i : Int))) (fun k i => spec_l04Any.l0 k (bl n s) i) false true
  (fun i r hi hp hr => by
   rw [bl_len] at hi
   refine Ev.step (fun k => by rw [spec_l04Any.l0]) (Ev.pos (by rw [bl_len]; omega) (Ev.pos (by omega) (Ev.neg (by rw [Bool.not_eq_true'] at hp; rw [hp]; decide) ?_)))
   rw [wrap_id _ (by omega) (by omega)]
   exact hr)
  (fun i hi hp => by
   rw [bl_len] at hi
   exact Ev.step (fun k => by rw [spec_l04Any.l0]) (Ev.pos (by rw [bl_len]; omega) (Ev.pos (by omega) (Ev.pos (by rw [Bool.not_eq_false'] at hp; exact hp) (Ev.now _)))))
  (Ev.step (fun k => by rw [spec_l04Any.l0]) (Ev.neg (by omega) (Ev.now _)))
 by_cases h : s = 0
 ·subst h
  rw [show allN (bl n 0).length (fun i => !(rdOf false (bl n 0) (i : Int))) = true from (allN_iff _ _).2 (fun i hi => by rw [bl_len] at hi; rw [bl_get n 0 i hi]; simp)] at key
  rw [decide_eq_false (by omega)]
  exact key
 ·rw [show allN (bl n s).length (fun i => !(rdOf false (bl n s) (i : Int))) = false from by
   rw [← Bool.not_eq_true]
   intro hc
   rw [allN_iff] at hc
   apply h
   apply Nat.eq_of_testBit_eq
   intro i
   rw [Nat.zero_testBit]
   by_cases hi : i < 2 * n + 1
   ·have := hc i (by rw [bl_len]; exact hi)
    rw [bl_get n s i hi] at this
    simpa using this
   ·have e : 2 ^ (2 * n + 1) ≤ 2 ^ i := Nat.pow_le_pow_right (by decide) (by omega)
    exact Nat.testBit_lt_two_pow (by omega)] at key
  rw [decide_eq_true h]
  exact key
def st (n : Nat) (S : List Nat) : List (List Bool) := S.map (bl n)
def si (S : List Nat) : List Int := S.map (fun (x : Nat) => (x : Int))
def fi (S : List Nat) (s : Nat) : Int := findN S.length (fun i => decide (S.getD i 0 = s))
theorem si_get (S : List Nat) (i : Nat) (h : i < S.length) : rd (si S) (i : Int) = ((S.getD i 0 : Nat) : Int) := by
 show (si S).getD ((i : Int)).toNat 0 = _
 simp [si, List.getD_eq_getElem?_getD, h]
theorem st_get (n : Nat) (S : List Nat) (i : Nat) (h : i < S.length) : rd_L5 (st n S) (i : Int) = bl n (S.getD i 0) := by
 show (st n S).getD ((i : Int)).toNat _ = _
 simp [st, List.getD_eq_getElem?_getD, h]
theorem index_is (S : List Nat) (s : Nat) (h : S.length ≤ 1048576) : Ev (fun k => slices_Index_int_int.f k (si S) (s : Int)) (fi S s) := by
 have hl : (si S).length = S.length := by simp [si]
 refine Ev.congr (f := fun k => slices_Index_int_int.l0 k (si S) (s : Int) (S.length : Int) 0) (fun k => by unfold slices_Index_int_int.f; rw [hl]) ?_
 refine find_loop S.length _ (fun k i => slices_Index_int_int.l0 k (si S) (s : Int) (S.length : Int) i) ?_ ?_ ?_
 ·intro i q hi hp hq
  have hp := of_decide_eq_false hp
  refine Ev.step (fun k => by rw [slices_Index_int_int.l0]) (Ev.pos (by omega) (Ev.pos (by omega) (Ev.pos (by omega) (Ev.neg (by rw [si_get S i hi]; omega) ?_))))
  rw [wrap_id _ (by omega) (by omega)]
  exact hq
 ·intro i hi hp
  have hp := of_decide_eq_true hp
  exact Ev.step (fun k => by rw [slices_Index_int_int.l0]) (Ev.pos (by omega) (Ev.pos (by omega) (Ev.pos (by omega) (Ev.pos (by rw [si_get S i hi, hp]) (Ev.now _)))))
 ·exact Ev.step (fun k => by rw [slices_Index_int_int.l0]) (Ev.neg (by omega) (Ev.now _))
theorem same_is (n a b : Nat) (hn : n ≤ 4) (ha : a < 2 ^ (2 * n + 1)) (hb : b < 2 ^ (2 * n + 1)) : Ev (fun k => spec_l04Same.f k (bl n a) (bl n b)) (decide (a = b)) := by
 have la := bl_len n a
 have lb := bl_len n b
 refine Ev.congr (f := fun k => if ((bl n a).length : Int) = ((bl n b).length : Int) then spec_l04Same.l0 k (bl n a) (bl n b) 0 else some false) (fun k => rfl) (Ev.pos (by omega) ?_)
 have key := all_cps (2 * n + 1) (fun i => a.testBit i == b.testBit i) (fun k i => spec_l04Same.l0 k (bl n a) (bl n b) i) true false
  (fun i r hi hp hr => by
   refine Ev.step (fun k => by rw [spec_l04Same.l0]) (Ev.pos (by omega) (Ev.pos (by omega) (Ev.pos (by omega) (Ev.neg (by rw [bl_get n a i hi, bl_get n b i hi]; simpa using hp) ?_))))
   rw [wrap_id _ (by omega) (by omega)]
   exact hr)
  (fun i hi hp => by
   exact Ev.step (fun k => by rw [spec_l04Same.l0]) (Ev.pos (by omega) (Ev.pos (by omega) (Ev.pos (by omega) (Ev.pos (by rw [bl_get n a i hi, bl_get n b i hi]; simpa using hp) (Ev.now _))))))
  (Ev.step (fun k => by rw [spec_l04Same.l0]) (Ev.neg (by omega) (Ev.now _)))
 by_cases h : a = b
 ·rw [show allN (2 * n + 1) (fun i => a.testBit i == b.testBit i) = true from (allN_iff _ _).2 (fun i _ => by rw [h]; simp)] at key
  rw [decide_eq_true h]
  exact key
 ·rw [show allN (2 * n + 1) (fun i => a.testBit i == b.testBit i) = false from by
   rw [← Bool.not_eq_true]
   intro hc
   rw [allN_iff] at hc
   apply h
   apply bl_inj n a b ha hb
   apply List.ext_getElem?
   intro i
   by_cases hi : i < 2 * n + 1
   ·have := hc i hi
    simp only [bl, List.getElem?_map, List.getElem?_range hi, Option.map_some]
    rw [eq_of_beq this]
   ·rw [List.getElem?_eq_none (by omega), List.getElem?_eq_none (by omega)]] at key
  rw [decide_eq_false h]
  exact key
theorem find_is (n : Nat) (hn : n ≤ 4) (S : List Nat) (s : Nat) (hS : ∀ x ∈ S, x < 2 ^ (2 * n + 1)) (hs : s < 2 ^ (2 * n + 1)) (h : S.length ≤ 1048576) : Ev (fun k => spec_l04Find.f k (st n S) (bl n s)) (fi S s) := by
 have hl : (st n S).length = S.length := by simp [st]
 refine find_loop S.length _ (fun k i => spec_l04Find.l0 k (st n S) (bl n s) i) ?_ ?_ ?_
 ·intro i q hi hp hq
  refine Ev.step (fun k => by rw [spec_l04Find.l0]) (Ev.pos (by omega) (Ev.pos (by omega) ?_))
  rw [st_get n S i hi]
  have e := same_is n (S.getD i 0) s hn (hS _ (getD_mem S 0 i hi)) hs
  rw [hp] at e
  refine Ev.bind e (Ev.neg (by decide) ?_)
  rw [wrap_id _ (by omega) (by omega)]
  exact hq
 ·intro i hi hp
  refine Ev.step (fun k => by rw [spec_l04Find.l0]) (Ev.pos (by omega) (Ev.pos (by omega) ?_))
  rw [st_get n S i hi]
  have e := same_is n (S.getD i 0) s hn (hS _ (getD_mem S 0 i hi)) hs
  rw [hp] at e
  exact Ev.bind e (Ev.pos rfl (Ev.now _))
 ·exact Ev.step (fun k => by rw [spec_l04Find.l0]) (Ev.neg (by omega) (Ev.now _))
end
end Go.Proofs.Ythkbgbkglgmpoaa.Pure
namespace Go.Proofs.Ythkbgbkglgmpoaa.Pure
set_option linter.unusedVariables false
open Go.RowKit Go.Proofs.Ythkbgbkglgmpoaa.XA Go.Proofs.Ythkbgbkglgmpoaa.Pk Go.Proofs.YthkbgbkglgmpoaaW.PrintWords Go.Proofs.YthkbgbkglgmpoaaW.PrintLast Go.Proofs.YthkbgbkglgmpoaaW.PrintMore
theorem nodup_lenA {α : Type} [DecidableEq α] : ∀ (U a : List α), a.Nodup → (∀ x, x ∈ a → x ∈ U) → a.length ≤ U.length
 | [], a, _, h => by
  cases a with
  | nil => exact Nat.le_refl _
  | cons x a => exact absurd (h x List.mem_cons_self) List.not_mem_nil
 | u :: U, a, hn, h => by
  by_cases c : u ∈ a
  ·have := nodup_lenA U (a.erase u) (hn.erase u) (fun x hx => by
    obtain ⟨h1, h2⟩ := (List.Nodup.mem_erase_iff hn).1 hx
    rcases List.mem_cons.1 (h x h2) with e | h3
    ·exact absurd e h1
    ·exact h3)
   have e := List.length_erase_of_mem c
   have hp : 0 < a.length := List.length_pos_of_mem c
   rw [List.length_cons]
   omega
  ·have := nodup_lenA U a hn (fun x hx => by
    rcases List.mem_cons.1 (h x hx) with e | h3
    ·exact absurd (e ▸ hx) c
    ·exact h3)
   rw [List.length_cons]
   omega
def InvS (n : Nat) (S : List Nat) : Prop := (∀ x ∈ S, x < 2 ^ (2 * n + 1)) ∧ S.Nodup
theorem InvS.len {n : Nat} {S : List Nat} (hn : n ≤ 4) (h : InvS n S) : S.length ≤ 512 := by
 have := nodup_lenA (List.range 512) S h.2 (fun x hx => List.mem_range.2 (lt512 n x hn (h.1 x hx)))
 simpa using this
theorem fi_neg {S : List Nat} {s : Nat} (h : fi S s < 0) : s ∉ S := by
 intro hm
 have h1 : ¬ fi S s ≥ 0 := by omega
 have h2 := findN_any S.length (fun i => decide (S.getD i 0 = s))
 rw [show decide (findN S.length (fun i => decide (S.getD i 0 = s)) ≥ 0) = false from decide_eq_false h1] at h2
 obtain ⟨i, hi, e⟩ := List.getElem_of_mem hm
 have h3 := (anyN_iff S.length (fun i => decide (S.getD i 0 = s))).2 ⟨i, hi, by rw [List.getD_eq_getElem?_getD, List.getElem?_eq_getElem hi]; simpa using e⟩
 rw [h3] at h2
 cases h2
theorem InvS.add {n : Nat} {S : List Nat} {s : Nat} (h : InvS n S) (hs : s < 2 ^ (2 * n + 1)) (hf : fi S s < 0) : InvS n (S ++ [s]) := by
 refine ⟨fun x hx => ?_, ?_⟩
 ·rcases List.mem_append.1 hx with hx | hx
  ·exact h.1 x hx
  ·rw [List.mem_singleton.1 hx]; exact hs
 ·refine List.nodup_append.2 ⟨h.2, List.nodup_cons.2 ⟨List.not_mem_nil, List.nodup_nil⟩, fun a ha b hb => ?_⟩
  rintro rfl
  rw [List.mem_singleton] at hb
  exact fi_neg hf (hb ▸ ha)
def Rm (r : List (List Int) × List Bool) : Prop := r.1.length ≤ 512 ∧ (∀ y ∈ r.1, y.length = 8) ∧ r.2.length = r.1.length
section
variable {t : List S78} (hn : t.length ≤ 4) (hmany : ∀ x ∈ t, 0 ≤ x.f1 ∧ x.f1 ≤ 3) (hkd : ∀ x ∈ t, x.f0.length ≤ 1048576)
include hn hmany hkd in
theorem row_both (i : Nat) (next : List (List Int)) (fin : List Bool) (R : List (List Int) × List Bool → Prop) : ∀ (m j : Nat) (S : List Nat) (row : List Int), j + m = 8 → row.length = j → InvS t.length S → i < S.length →
  (∀ (S' : List Nat) (row' : List Int) (a9 a8 : Int), a9 = 9 → a8 = 8 → row'.length = 8 → InvS t.length S' → i < S'.length → ∃ r, Ev (fun k => spec_l04Compile.l1 k t (st t.length S') (i : Int) row' a9 next fin) r ∧ Ev (fun k => impl_compile.l1 k t (si S') (i : Int) row' 8 a8 next fin) r ∧ R r) →
  ∃ r, Ev (fun k => spec_l04Compile.l1 k t (st t.length S) (i : Int) row (((j : Nat) : Int) + 1) next fin) r ∧ Ev (fun k => impl_compile.l1 k t (si S) (i : Int) (row ++ List.replicate m 0) 8 ((j : Nat) : Int) next fin) r ∧ R r
 | 0, j, S, row, hj, hr, hI, hi, cont => by
  obtain rfl : j = 8 := by omega
  rw [List.replicate_zero, List.append_nil]
  exact cont S row _ _ (by decide) (by decide) hr hI hi
 | m + 1, j, S, row, hj, hr, hI, hi, cont => by
  have hlS := hI.len hn
  have ls : (st t.length S).length = S.length := by simp [st]
  have lI : (si S).length = S.length := by simp [si]
  obtain ⟨o, ho', e1, e2⟩ := leadF_both hn hmany hkd (S.getD i 0) (hI.1 _ (getD_mem S 0 i hi)) ((j : Int) + 1)
  have ho := Aside0.mk ho'
  clear ho'
  have e3 := any_is t.length o hn ho.out
  have e4 := find_is t.length hn S o hI.1 ho.out (by omega)
  have e5 := index_is S o (by omega)
  have w1 : wrap64 ((j : Int) + 1) = (j : Int) + 1 := wrap_id _ (by omega) (by omega)
  have w2 : wrap64 ((j : Int) + 1 + 1) = ((j + 1 : Nat) : Int) + 1 := by rw [wrap_id _ (by omega) (by omega)]; omega
  have w3 : ((j + 1 : Nat) : Int) = (j : Int) + 1 := by omega
  have hset : ∀ v : Int, (row ++ List.replicate (m + 1) 0).set ((j : Int)).toNat v = (row ++ [v]) ++ List.replicate m 0 := by
   intro v
   rw [Int.toNat_natCast, List.replicate_succ, List.set_append_right _ _ (by omega), hr, Nat.sub_self, List.set_cons_zero, List.append_assoc]
   rfl
  have hset2 : ∀ v u : Int, ((row ++ [u]) ++ List.replicate m 0).set ((j : Int)).toNat v = (row ++ [v]) ++ List.replicate m 0 := by
   intro v u
   rw [Int.toNat_natCast, List.append_assoc, List.set_append_right _ _ (by omega), hr, Nat.sub_self, List.append_assoc]
   rfl
  have hrd : ∀ u : Int, rd ((row ++ [u]) ++ List.replicate m 0) (j : Int) = u := by
   intro u
   show ((row ++ [u]) ++ List.replicate m 0).getD ((j : Int)).toNat 0 = u
   rw [Int.toNat_natCast, List.append_assoc, List.getD_eq_getElem?_getD, List.getElem?_append_right (by omega), hr, Nat.sub_self]
   rfl
  have key : ∀ (S1 : List Nat) (v : Int), InvS t.length S1 → i < S1.length →
    (∀ r, Ev (fun k => spec_l04Compile.l1 k t (st t.length S1) (i : Int) (row ++ [v]) (((j + 1 : Nat) : Int) + 1) next fin) r → Ev (fun k => spec_l04Compile.l1 k t (st t.length S) (i : Int) row (((j : Nat) : Int) + 1) next fin) r) →
    (∀ r, Ev (fun k => impl_compile.l1 k t (si S1) (i : Int) ((row ++ [v]) ++ List.replicate m 0) 8 ((j + 1 : Nat) : Int) next fin) r → Ev (fun k => impl_compile.l1 k t (si S) (i : Int) (row ++ List.replicate (m + 1) 0) 8 ((j : Nat) : Int) next fin) r) →
    ∃ r, Ev (fun k => spec_l04Compile.l1 k t (st t.length S) (i : Int) row (((j : Nat) : Int) + 1) next fin) r ∧ Ev (fun k => impl_compile.l1 k t (si S) (i : Int) (row ++ List.replicate (m + 1) 0) 8 ((j : Nat) : Int) next fin) r ∧ R r := by
   intro S1 v h1 h2 f1 f2
   obtain ⟨r, b1, b2, b3⟩ := row_both i next fin R m (j + 1) S1 (row ++ [v]) (by omega) (by simp; omega) h1 h2 cont
   exact ⟨r, f1 r b1, f2 r b2, b3⟩
  have sp : ∀ r, Ev (fun k => if (decide (o ≠ 0)) = true then ((spec_l04Find.f k (st t.length S) (bl t.length o)).bind fun t181 => (if t181 < 0 then (if (st t.length S).length < 5864062014805 then (if row.length < 17592186044416 then (spec_l04Compile.l1 k t (st t.length S ++ [bl t.length o]) (i : Int) (row ++ [((st t.length S).length : Int)]) (((j + 1 : Nat) : Int) + 1) next fin) else (none)) else (none)) else (if row.length < 17592186044416 then (spec_l04Compile.l1 k t (st t.length S) (i : Int) (row ++ [t181]) (((j + 1 : Nat) : Int) + 1) next fin) else (none)))) else (if row.length < 17592186044416 then (spec_l04Compile.l1 k t (st t.length S) (i : Int) (row ++ [(-1)]) (((j + 1 : Nat) : Int) + 1) next fin) else (none))) r → Ev (fun k => spec_l04Compile.l1 k t (st t.length S) (i : Int) row (((j : Nat) : Int) + 1) next fin) r := by
   intro r h
   refine Ev.step (fun k => by rw [spec_l04Compile.l1]) (Ev.pos (by omega) (Ev.pos (by omega) (Ev.pos (by omega) ?_)))
   simp only [w2]
   rw [st_get _ S i hi]
   exact Ev.bind e1 (Ev.bind e3 h)
  have im : ∀ r, Ev (fun k => if (o : Int) = 0 then (impl_compile.l1 k t (si S) (i : Int) ((row ++ [(-1 : Int)]) ++ List.replicate m 0) 8 ((j + 1 : Nat) : Int) next fin) else (if fi S o < 0 then (if (si S).length < 17592186044416 then (impl_compile.l1 k t (si S ++ [(o : Int)]) (i : Int) ((row ++ [((si S).length : Int)]) ++ List.replicate m 0) 8 ((j + 1 : Nat) : Int) next fin) else (none)) else (impl_compile.l1 k t (si S) (i : Int) ((row ++ [fi S o]) ++ List.replicate m 0) 8 ((j + 1 : Nat) : Int) next fin))) r → Ev (fun k => impl_compile.l1 k t (si S) (i : Int) (row ++ List.replicate (m + 1) 0) 8 ((j : Nat) : Int) next fin) r := by
   intro r h
   refine Ev.step (fun k => by rw [impl_compile.l1]) (Ev.pos (by omega) (Ev.pos (by omega) (Ev.pos (by omega) ?_)))
   simp only [w1, w3, hset, Option.bind_some, hset2, hrd]
   rw [si_get S i hi]
   refine Ev.bind e2 (Ev.bind e5 (Ev.pos (by omega) (Ev.pos (by rw [List.length_append, List.length_replicate]; omega) ?_)))
   simp only [w3] at h
   exact h
  by_cases h0 : o = 0
  ·refine key S (-1) hI hi (fun r h => sp r ?_) (fun r h => im r ?_)
   ·exact Ev.neg (by simp [h0]) (Ev.pos (by omega) h)
   ·exact Ev.pos (by omega) h
  ·by_cases hf : fi S o < 0
   ·refine key (S ++ [o]) (S.length : Int) (hI.add ho.out hf) (by rw [List.length_append]; omega) (fun r h => sp r ?_) (fun r h => im r ?_)
    ·refine Ev.pos (by simp [h0]) (Ev.bind e4 (Ev.pos hf (Ev.pos (by omega) (Ev.pos (by omega) ?_))))
     rw [ls, show st t.length S ++ [bl t.length o] = st t.length (S ++ [o]) by simp [st]]
     exact h
    ·refine Ev.neg (by omega) (Ev.pos hf (Ev.pos (by omega) ?_))
     rw [lI, show si S ++ [(o : Int)] = si (S ++ [o]) by simp [si]]
     exact h
   ·refine key S (fi S o) hI hi (fun r h => sp r ?_) (fun r h => im r ?_)
    ·exact Ev.pos (by simp [h0]) (Ev.bind e4 (Ev.neg hf (Ev.pos (by omega) h)))
    ·exact Ev.neg (by omega) (Ev.neg hf h)
include hn hmany hkd in
theorem comp_both : ∀ (m i : Nat) (S : List Nat) (next : List (List Int)) (fin : List Bool), i + m = 513 → InvS t.length S → i ≤ S.length → next.length = i → fin.length = i → (∀ y ∈ next, y.length = 8) →
  ∃ r, Ev (fun k => spec_l04Compile.l0 k t (st t.length S) (i : Int) next fin) r ∧ Ev (fun k => impl_compile.l0 k t (si S) (i : Int) next fin) r ∧ Rm r
 | m, i, S, next, fin, hm, hI, hi, hx, hf, hy => by
  have hlS := hI.len hn
  have ls : (st t.length S).length = S.length := by simp [st]
  have lI : (si S).length = S.length := by simp [si]
  by_cases h : i < S.length
  ·obtain ⟨m', rfl⟩ : ∃ m', m = m' + 1 := ⟨m - 1, by omega⟩
   obtain ⟨r, b1, b2, b3⟩ := row_both hn hmany hkd i next fin Rm 8 0 S [] (by omega) rfl hI h (fun S' row' a9 a8 h9 h8 hr' hI' hi' => by
    have hlS' := hI'.len hn
    have ls' : (st t.length S').length = S'.length := by simp [st]
    have lI' : (si S').length = S'.length := by simp [si]
    obtain ⟨r, c1, c2, c3⟩ := comp_both m' (i + 1) S' (next ++ [row']) (fin ++ [(S'.getD i 0).testBit (2 * t.length)]) (by omega) hI' (by omega) (by simp; omega) (by simp; omega) (fun y hy' => by
     rcases List.mem_append.1 hy' with hy' | hy'
     ·exact hy y hy'
     ·rw [List.mem_singleton.1 hy']; exact hr')
    have wi := Aside0.mk (show wrap64 ((i : Int) + 1) = ((i + 1 : Nat) : Int) by rw [wrap_id _ (by omega) (by omega)]; omega)
    have w2 := Aside0.mk (show wrap64 (2 * (t.length : Int)) = ((2 * t.length : Nat) : Int) by rw [wrap_id _ (by omega) (by omega)]; omega)
    refine ⟨r, ?_, ?_, c3⟩
    ·refine Ev.step (fun k => by rw [spec_l04Compile.l1]) (Ev.neg (by omega) (Ev.pos (by omega) (Ev.pos (by omega) (Ev.pos (by omega) ?_))))
     rw [st_get _ S' i hi', w2.out, wi.out, bl_get _ _ _ (by omega)]
     exact Ev.pos (by omega) (Ev.pos (by rw [bl_len]; omega) (Ev.pos (by omega) c1))
    ·refine Ev.step (fun k => by rw [impl_compile.l1]) (Ev.neg (by omega) (Ev.pos (by omega) (Ev.pos (by omega) (Ev.pos (by omega) ?_))))
     rw [si_get S' i hi', w2.out, wi.out, has_is _ _ (lt512 _ _ hn (hI'.1 _ (getD_mem S' 0 i hi'))) (by omega)]
     exact Ev.pos (by omega) c2)
   refine ⟨r, ?_, ?_, b3⟩
   ·refine Ev.step (fun k => by rw [spec_l04Compile.l0]) (Ev.pos (by omega) (Ev.congr (fun k => ?_) b1))
    rw [show (((0 : Nat) : Int) + 1) = 1 by decide]
   ·refine Ev.step (fun k => by rw [impl_compile.l0]) (Ev.pos (by omega) (Ev.pos (by omega) (Ev.congr (fun k => ?_) b2)))
    rw [Option.bind_some, List.length_replicate, List.nil_append, show ((8 : Nat) : Int) = 8 by decide, show ((0 : Nat) : Int) = 0 by decide]
  ·refine ⟨(next, fin), Ev.step (fun k => by rw [spec_l04Compile.l0]) (Ev.neg (by omega) (Ev.now _)), Ev.step (fun k => by rw [impl_compile.l0]) (Ev.neg (by omega) (Ev.now _)), by show next.length ≤ 512; omega, hy, by show fin.length = next.length; omega⟩
include hn hmany hkd in
theorem compile_both : ∃ r, Ev (fun k => spec_l04Compile.f k t) r ∧ Ev (fun k => impl_compile.f k t) r ∧ Rm r := by
 obtain ⟨s, hs, hor, e1, e2⟩ := closeF_both hn hmany 1 (by have : 2 ^ 1 ≤ 2 ^ (2 * t.length + 1) := Nat.pow_le_pow_right (by decide) (by omega); omega)
 obtain ⟨r, b1, b2, b3⟩ := comp_both hn hmany hkd 513 0 [s] [] [] (by omega) ⟨fun x hx => by rw [List.mem_singleton.1 hx]; exact hs, List.nodup_cons.2 ⟨List.not_mem_nil, List.nodup_nil⟩⟩ (Nat.zero_le _) rfl rfl (fun y hy => by cases hy)
 refine ⟨r, ?_, ?_, b3⟩
 ·have w2 := Aside0.mk (show wrap64 (2 * (t.length : Int)) = ((2 * t.length : Nat) : Int) by rw [wrap_id _ (by omega) (by omega)]; omega)
  have w3 := Aside0.mk (show wrap64 (((2 * t.length : Nat) : Int) + 1) = ((2 * t.length + 1 : Nat) : Int) by rw [wrap_id _ (by omega) (by omega)]; omega)
  have e : (List.replicate (((2 * t.length + 1 : Nat) : Int)).toNat false).set ((0 : Int)).toNat true = bl t.length 1 := by
   have h0 : List.replicate (((2 * t.length + 1 : Nat) : Int)).toNat false = bl t.length 0 := by
    rw [Int.toNat_natCast]
    apply List.ext_getElem
    ·simp [bl]
    ·intro i h1 h2
     simp [bl]
   rw [h0]
   exact bl_set t.length 0 0
  refine Ev.congr (f := fun k => if 0 ≤ ((2 * t.length + 1 : Nat) : Int) then (if (((2 * t.length + 1 : Nat) : Int)).toNat ≤ 281474976710656 then (if 0 < ((List.replicate (((2 * t.length + 1 : Nat) : Int)).toNat false).length : Int) then ((spec_l04Close.f k t ((List.replicate (((2 * t.length + 1 : Nat) : Int)).toNat false).set ((0 : Int)).toNat true)).bind fun t152 => (spec_l04Compile.l0 k t (([t152] : List (List Bool))) 0 (([] : List (List Int))) (([] : List Bool)))) else (none)) else (none)) else (none)) (fun k => by
   show spec_l04Compile.f k t = _
   unfold spec_l04Compile.f
   rw [w2.out, w3.out]
   rfl) (Ev.pos (by omega) (Ev.pos (by omega) (Ev.pos (by simp; omega) ?_)))
  rw [e]
  exact Ev.bind e1 b1
 ·exact Ev.bind e2 b2
end
end Go.Proofs.Ythkbgbkglgmpoaa.Pure
namespace Go.Proofs.Ythkbgbkglgmpoaa.Pure
set_option linter.unusedVariables false
open Go.RowKit Go.Proofs.Ythkbgbkglgmpoaa.XA Go.Proofs.Ythkbgbkglgmpoaa.Pk Go.Proofs.YthkbgbkglgmpoaaW.PrintWords Go.Proofs.YthkbgbkglgmpoaaW.PrintLast Go.Proofs.YthkbgbkglgmpoaaW.PrintMore
theorem sumT_le : ∀ (l : List S78), (∀ x ∈ l, x.f0.length ≤ 1048576) → sumT l ≤ (l.length : Int) * 1048577
 | [], _ => by show (0 : Int) ≤ _; simp
 | x :: r, h => by
  have h1 := h x List.mem_cons_self
  have h2 := sumT_le r (fun y hy => h y (List.mem_cons_of_mem _ hy))
  show (x.f0.length : Int) + 1 + sumT r ≤ ((x :: r).length : Int) * 1048577
  rw [List.length_cons]
  omega
theorem sumL_le : ∀ (l : List (List Int)), (∀ x ∈ l, x.length ≤ 1048576) → sumL l ≤ (l.length : Int) * 1048577
 | [], _ => by show (0 : Int) ≤ _; simp
 | x :: r, h => by
  have h1 := h x List.mem_cons_self
  have h2 := sumL_le r (fun y hy => h y (List.mem_cons_of_mem _ hy))
  show (x.length : Int) + sumL r ≤ ((x :: r).length : Int) * 1048577
  rw [List.length_cons]
  omega
theorem terms_both (t : List S78) (h : smTerms t) : ∃ (r0 : List (List Int)) (r1 : List Bool) (r2 : Int), sm27 (⟨r0, r1⟩ : S27) ∧ Ev (fun k => spec_CompileTerms.f k t) (r0, r1, r2) ∧ Ev (fun k => impl_CompileTerms.f k t) (r0, r1, r2) := by
 by_cases h1 : (t.length : Int) > 4096
 ·exact ⟨[], [], 2, ⟨⟨Nat.zero_le _, fun y hy => by cases hy⟩, Nat.zero_le _⟩, Ev.pos h1 (Ev.now _), Ev.bind (Ev.const (by unfold impl_isLongList_impl_Term.f; rw [decide_eq_true h1])) (Ev.pos rfl (Ev.now _))⟩
 have e0 : Ev (fun k => impl_isLongList_impl_Term.f t) false := Ev.const (by unfold impl_isLongList_impl_Term.f; rw [decide_eq_false h1])
 have e1 := terms_ref t h
 have e2 := terms_impl 8 t h
 cases hok : (decide (t.length ≤ 4) && allN t.length (fun i => tOk 8 (rd_T78 t i).f0 (rd_T78 t i).f1)) with
 | false =>
  rw [hok] at e1 e2
  exact ⟨[], [], 1, ⟨⟨Nat.zero_le _, fun y hy => by cases hy⟩, Nat.zero_le _⟩, Ev.neg h1 (Ev.bind e1 (Ev.neg (by decide) (Ev.now _))), Ev.bind e0 (Ev.neg (by decide) (Ev.bind e2 (Ev.neg (by decide) (Ev.now _))))⟩
 | true =>
  rw [hok] at e1 e2
  rw [Bool.and_eq_true, decide_eq_true_eq] at hok
  obtain ⟨⟨r0, r1⟩, b1, b2, b3, b4, b5⟩ := compile_both hok.1 (many_of 8 t hok.2) h.2
  have b3 : r0.length ≤ 512 := b3
  have b4 : ∀ y ∈ r0, y.length = 8 := b4
  have b5 : r1.length = r0.length := b5
  exact ⟨r0, r1, 0, ⟨⟨by show r0.length ≤ 1048576; omega, fun y hy => by have := b4 y hy; show y.length ≤ 1048576; omega⟩, by show r1.length ≤ 1048576; omega⟩, Ev.neg h1 (Ev.bind e1 (Ev.pos rfl (Ev.bind b1 (Ev.now _)))), Ev.bind e0 (Ev.neg (by decide) (Ev.bind e2 (Ev.pos rfl (Ev.bind b2 (Ev.now _)))))⟩
theorem FnExactCompileTerms (x0 : List S75) (o0 : x0.length ≤ maxLen ∧ ∀ y_ ∈ x0, ok75 y_) : ∃ k, laws_FnExactCompileTerms.P k x0 := by
 obtain ⟨v, ⟨K0, e0⟩, l0, s0⟩ := sz22 x0 o0 1048576 (by omega) (by omega)
 rcases s0 with s0 | ⟨s0, sm0⟩
 ·exact ⟨K0, v, e0 K0 (Nat.le_refl _), .inl s0⟩
 have hx : smTerms (x0.map cv75) := ⟨by rw [List.length_map]; exact sm0.1, fun y hy => by
  obtain ⟨z, hz, rfl⟩ := List.mem_map.1 hy
  exact (sm0.2 z hz).1⟩
 obtain ⟨x, hxe⟩ : ∃ x, x = x0.map cv75 := ⟨_, rfl⟩
 obtain ⟨K1, e1⟩ := to22 x0 sm0
 rw [← hxe] at hx e1
 obtain ⟨K5, e5⟩ := eq30 x ⟨hx.1, fun y hy => ⟨hx.2 y hy, trivial⟩⟩
 obtain ⟨r0, r1, r2, hm, ⟨K2, e2⟩, ⟨K3, e3⟩⟩ := terms_both x hx
 obtain ⟨K4, e4⟩ := eq27 (⟨r0, r1⟩ : S27) hm
 have hT := sumT_le x hx.2
 have hTl := hx.1
 obtain ⟨q, K6, e6⟩ := markTermS_ex x 1 (by omega) (by omega) hx.1
 have hL := sumL_le r0 hm.1.2
 have hLl : r0.length ≤ 1048576 := hm.1.1
 have hLb : r1.length ≤ 1048576 := hm.2
 obtain ⟨K7, e7⟩ := markMachine_ev r0 r1 1 (by omega) (by omega) hLl hLb
 obtain ⟨K8, e8⟩ := heldMachine_ev r0 r1 1 (by omega) (by omega) hLl hLb
 have hT0 := sumT_ge x
 have hL0 := sumL_ge r0
 refine ⟨K0 + K1 + K2 + K3 + K4 + K5 + K6 + K7 + K8, v, e0 _ (by omega), .inr ⟨s0, x, r0, r1, r2, _, q, _, _, _, e1 _ (by omega), e2 _ (by omega), e3 _ (by omega), e4 _ (by omega), e5 _ (by omega), e6 _ (by omega), e7 _ (by omega), e8 _ (by omega), by omega, by omega⟩⟩
end Go.Proofs.Ythkbgbkglgmpoaa.Pure
