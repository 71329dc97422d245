/- The program's MatchKids answers what the reference's answers, for each terms and kids: the pure statement of FnExactMatchKids. Conditions: none. -/
import Derived.Test.YtfemohapampkiaaYMatchKidsK
namespace Go.Proofs.Ytfemohapampkiaa.Pure
set_option linter.unusedVariables false
open Go.RowKit Go.Proofs.Ytfemohapampkiaa.XA Go.Proofs.Ytfemohapampkiaa.Pk Go.Proofs.YtfemohapampkiaaW.PrintWords Go.Proofs.YtfemohapampkiaaW.PrintLast Go.Proofs.YtfemohapampkiaaW.PrintMore

theorem rin_eq (x lo hi : Int) : spec_l01In.f x lo hi = some (decide (lo ≤ x ∧ x ≤ hi)) := by
  unfold spec_l01In.f
  by_cases h : x ≥ lo
  · rw [if_pos h]; exact congrArg some (decide_eq_decide.2 ⟨fun g => ⟨h, g⟩, fun g => g.2⟩)
  · rw [if_neg h]; exact congrArg some (decide_eq_false fun g => h g.1).symm
theorem rwithin_eq (x lo hi : Int) : impl_within.f x lo hi = some (decide (lo ≤ x ∧ x ≤ hi)) := rin_eq x lo hi

def kindAt (n : Int) (l : List Int) (i : Nat) : Bool := decide (1 ≤ rd l i ∧ rd l i ≤ n) && (decide (i = 0) || decide (rd l ((i : Int) - 1) < rd l i))
def tOk (n : Int) (l : List Int) (m : Int) : Bool := decide (0 < l.length) && (decide (0 ≤ m ∧ m ≤ 3) && allN l.length (kindAt n l))

theorem rising (n : Int) (l : List Int) (h : allN l.length (kindAt n l) = true) : ∀ i : Nat, i < l.length → (i : Int) + 1 ≤ rd l i := by
  rw [allN_iff] at h
  intro i
  induction i with
  | zero =>
    intro hi
    have := h 0 hi
    unfold kindAt at this
    rw [Bool.and_eq_true, decide_eq_true_eq] at this
    have := this.1.1
    omega
  | succ i ih =>
    intro hi
    have h1 := ih (by omega)
    have := h (i + 1) hi
    unfold kindAt at this
    rw [Bool.and_eq_true, Bool.or_eq_true, decide_eq_true_eq, decide_eq_true_eq] at this
    rcases this.2 with h2 | h2
    · omega
    · have h2 := of_decide_eq_true h2
      rw [show ((i + 1 : Nat) : Int) - 1 = (i : Int) by omega] at h2
      omega
theorem rising_len (n : Int) (l : List Int) (h : allN l.length (kindAt n l) = true) (h0 : 0 < l.length) : (l.length : Int) ≤ n := by
  have h1 := rising n l h (l.length - 1) (by omega)
  rw [allN_iff] at h
  have := h (l.length - 1) (by omega)
  unfold kindAt at this
  rw [Bool.and_eq_true, decide_eq_true_eq] at this
  have := this.1.2
  omega

theorem term_spec (n : Int) (l : List Int) (m : Int) (hl : l.length ≤ 1048576) : Ev (fun k => spec_l03Term.f k l m n) (tOk n l m) := by
  have key : Ev (fun k => spec_l03Term.l0 k n 0 l m) (allN l.length (kindAt n l)) := by
    refine all_loop l.length _ (fun k i => spec_l03Term.l0 k n i l m) ?_ ?_ ?_
    · intro i r hi hp hr
      unfold kindAt at hp
      rw [Bool.and_eq_true, Bool.or_eq_true, decide_eq_true_eq, decide_eq_true_eq] at hp
      obtain ⟨hin, hup⟩ := hp
      exact Ev.step (fun k => by
        show spec_l03Term.l0 (k + 1) n i l m = spec_l03Term.l0 k n ((i : Int) + 1) l m
        rw [spec_l03Term.l0, if_pos (by omega), if_pos (by omega), rin_eq, wrap_id ((i : Int) + 1) (by omega) (by omega)]
        simp only [Option.bind_some]
        rw [if_pos (decide_eq_true hin)]
        by_cases h0 : (i : Int) > 0
        · rw [if_pos h0, wrap_id ((i : Int) - 1) (by omega) (by omega), if_pos (by omega), if_pos (by omega), if_neg (by
            rcases hup with h | h
            · omega
            · have := of_decide_eq_true h; omega)]
        · rw [if_neg h0]) hr
    · intro i hi hp
      exact Ev.step (fun k => by
        show spec_l03Term.l0 (k + 1) n i l m = some false
        rw [spec_l03Term.l0, if_pos (by omega), if_pos (by omega), rin_eq]
        simp only [Option.bind_some]
        unfold kindAt at hp
        by_cases hin : 1 ≤ rd l i ∧ rd l i ≤ n
        · rw [decide_eq_true hin, Bool.true_and, Bool.or_eq_false_iff] at hp
          have h0 := of_decide_eq_false hp.1
          have h1 := of_decide_eq_false hp.2
          rw [if_pos (decide_eq_true hin), if_pos (by omega), wrap_id ((i : Int) - 1) (by omega) (by omega), if_pos (by omega), if_pos (by omega), if_pos (by omega)]
        · rw [if_neg (by rw [decide_eq_false hin]; decide)]) (Ev.now false)
    · exact Ev.step (fun k => by
        show spec_l03Term.l0 (k + 1) n l.length l m = some true
        rw [spec_l03Term.l0, if_neg (by omega)]) (Ev.now true)
  obtain ⟨K, key⟩ := key
  refine ⟨K + 1, fun k hk => ?_⟩
  obtain ⟨k, rfl⟩ : ∃ j, k = j + 1 := ⟨k - 1, by omega⟩
  have e := key k (by omega)
  simp only at e
  unfold tOk
  by_cases h0 : 0 < l.length
  · by_cases h1 : (l.length : Int) > n
    · have hf : allN l.length (kindAt n l) = false := by
        cases hc : allN l.length (kindAt n l)
        · rfl
        · have := rising_len n l hc h0; omega
      simp only [spec_l03Term.f, spec_l03Term.j0, if_neg (show ¬ (l.length : Int) = 0 by omega), if_pos h1, if_true, hf, Bool.and_false]
    · simp only [spec_l03Term.f, spec_l03Term.j0, spec_l03Many.f, rin_eq, Option.bind_some, if_neg (show ¬ (l.length : Int) = 0 by omega), if_neg h1, decide_eq_true h0, Bool.true_and, e]
      by_cases h2 : 0 ≤ m ∧ m ≤ 3
      · simp only [decide_eq_true h2, Bool.not_true, Bool.false_eq_true, if_false, Bool.true_and]
      · simp only [decide_eq_false h2, Bool.not_false, if_true, Bool.false_and]
  · simp only [spec_l03Term.f, spec_l03Term.j0, if_pos (show (l.length : Int) = 0 by omega), if_true, decide_eq_false h0, Bool.false_and]

theorem term_impl (n : Int) (l : List Int) (m : Int) (hl : l.length ≤ 1048576) : Ev (fun k => impl_isTerm.f k l m n) (tOk n l m) := by
  have key : Ev (fun k => impl_isTerm.l0 k n l l.length 0 l m) (if allN l.length (kindAt n l) = true then (decide (0 < l.length) && decide (0 ≤ m ∧ m ≤ 3)) else false) := by
    refine all_cps l.length _ (fun k i => impl_isTerm.l0 k n l l.length i l m) _ _ ?_ ?_ ?_
    · intro i r hi hp hr
      unfold kindAt at hp
      rw [Bool.and_eq_true, Bool.or_eq_true, decide_eq_true_eq, decide_eq_true_eq] at hp
      obtain ⟨hin, hup⟩ := hp
      exact Ev.step (fun k => by
        show impl_isTerm.l0 (k + 1) n l l.length i l m = impl_isTerm.l0 k n l l.length ((i : Int) + 1) l m
        rw [impl_isTerm.l0, if_pos (by omega), if_pos (by omega), if_pos (by omega), rwithin_eq, wrap_id ((i : Int) + 1) (by omega) (by omega)]
        simp only [Option.bind_some]
        rw [if_pos (decide_eq_true hin)]
        by_cases h0 : (i : Int) > 0
        · rw [if_pos h0, wrap_id ((i : Int) - 1) (by omega) (by omega), if_pos (by omega), if_pos (by omega), if_neg (by
            rcases hup with h | h
            · omega
            · have := of_decide_eq_true h; omega)]
        · rw [if_neg h0]) hr
    · intro i hi hp
      exact Ev.step (fun k => by
        show impl_isTerm.l0 (k + 1) n l l.length i l m = some false
        rw [impl_isTerm.l0, if_pos (by omega), if_pos (by omega), if_pos (by omega), rwithin_eq]
        simp only [Option.bind_some]
        unfold kindAt at hp
        by_cases hin : 1 ≤ rd l i ∧ rd l i ≤ n
        · rw [decide_eq_true hin, Bool.true_and, Bool.or_eq_false_iff] at hp
          have h0 := of_decide_eq_false hp.1
          have h1 := of_decide_eq_false hp.2
          rw [if_pos (decide_eq_true hin), if_pos (by omega), wrap_id ((i : Int) - 1) (by omega) (by omega), if_pos (by omega), if_pos (by omega), if_pos (by omega)]
        · rw [if_neg (by rw [decide_eq_false hin]; decide)]) (Ev.now false)
    · exact Ev.step (f := fun _ => some (decide (0 < l.length) && decide (0 ≤ m ∧ m ≤ 3))) (fun k => by
        show impl_isTerm.l0 (k + 1) n l l.length l.length l m = _
        rw [impl_isTerm.l0, if_neg (by omega), rwithin_eq]
        by_cases h0 : 0 < l.length
        · rw [if_pos (by omega), decide_eq_true h0, Bool.true_and]
          rfl
        · rw [if_neg (by omega), decide_eq_false h0, Bool.false_and]) (Ev.now _)
  obtain ⟨K, key⟩ := key
  refine ⟨K, fun k hk => ?_⟩
  have e := key k hk
  simp only at e
  show impl_isTerm.f k l m n = _
  unfold impl_isTerm.f
  rw [e]
  unfold tOk
  cases allN l.length (kindAt n l) <;> simp

def smTerms (terms : List S111) : Prop := terms.length ≤ 1048576 ∧ ∀ x ∈ terms, x.f0.length ≤ 1048576

theorem terms_impl (n : Int) (t : List S111) (h : smTerms t) : Ev (fun k => impl_areTerms.f k t n) (decide (t.length ≤ 4) && allN t.length (fun i => tOk n (rd_T111 t i).f0 (rd_T111 t i).f1)) := by
  have hl := h.1
  have key : Ev (fun k => slices_IndexFunc_impl_Term_impl_Term_at_impl_areTerms_1.l0 k t t.length 0 n) (findN t.length (fun i => !tOk n (rd_T111 t i).f0 (rd_T111 t i).f1)) := by
    refine find_loop t.length _ (fun k i => slices_IndexFunc_impl_Term_impl_Term_at_impl_areTerms_1.l0 k t t.length i n) ?_ ?_ ?_
    · intro i r hi hp hr'
      rw [Bool.not_eq_false'] at hp
      obtain ⟨K, e⟩ := term_impl n (rd_T111 t i).f0 (rd_T111 t i).f1 (h.2 _ (getD_mem t _ i hi))
      obtain ⟨K', hr'⟩ := hr'
      refine ⟨K + K' + 1, fun k hk => ?_⟩
      obtain ⟨m, rfl⟩ : ∃ m, k = m + 1 := ⟨k - 1, by omega⟩
      have e := e m (by omega)
      have e2 := hr' m (by omega)
      simp only at e e2
      show slices_IndexFunc_impl_Term_impl_Term_at_impl_areTerms_1.l0 (m + 1) t t.length i n = some r
      rw [slices_IndexFunc_impl_Term_impl_Term_at_impl_areTerms_1.l0, if_pos (by omega), if_pos (by omega), if_pos (by omega), impl_areTerms_1.f, e, hp]
      simp only [Option.bind_some, Bool.not_true, Bool.false_eq_true, if_false]
      rw [wrap_id _ (by omega) (by omega)]
      exact e2
    · intro i hi hp
      rw [Bool.not_eq_true'] at hp
      obtain ⟨K, e⟩ := term_impl n (rd_T111 t i).f0 (rd_T111 t i).f1 (h.2 _ (getD_mem t _ i hi))
      refine ⟨K + 1, fun k hk => ?_⟩
      obtain ⟨m, rfl⟩ : ∃ m, k = m + 1 := ⟨k - 1, by omega⟩
      have e := e m (by omega)
      simp only at e
      show slices_IndexFunc_impl_Term_impl_Term_at_impl_areTerms_1.l0 (m + 1) t t.length i n = some (i : Int)
      rw [slices_IndexFunc_impl_Term_impl_Term_at_impl_areTerms_1.l0, if_pos (by omega), if_pos (by omega), if_pos (by omega), impl_areTerms_1.f, e, hp]
      simp only [Option.bind_some, Bool.not_false, if_true]
    · exact Ev.step (fun k => by
        show slices_IndexFunc_impl_Term_impl_Term_at_impl_areTerms_1.l0 (k + 1) t t.length t.length n = some (-1)
        rw [slices_IndexFunc_impl_Term_impl_Term_at_impl_areTerms_1.l0, if_neg (by omega)]) (Ev.now _)
  obtain ⟨K, key⟩ := key
  refine ⟨K, fun k hk => ?_⟩
  have e := key k hk
  simp only at e
  show impl_areTerms.f k t n = _
  rw [all_of_any t.length]
  by_cases h4 : t.length ≤ 4
  · simp only [impl_areTerms.f, if_pos (show (t.length : Int) ≤ 4 by omega), slices_ContainsFunc_impl_Term_impl_Term_at_impl_areTerms_1.f, slices_IndexFunc_impl_Term_impl_Term_at_impl_areTerms_1.f, e, Option.bind_some, findN_any, decide_eq_true h4, Bool.true_and]
  · simp only [impl_areTerms.f, if_neg (show ¬ (t.length : Int) ≤ 4 by omega), decide_eq_false h4, Bool.false_and]


end Go.Proofs.Ytfemohapampkiaa.Pure
namespace Go.Proofs.Ytfemohapampkiaa.Pure
set_option linter.unusedVariables false
open Go.RowKit Go.Proofs.Ytfemohapampkiaa.XA Go.Proofs.Ytfemohapampkiaa.Pk Go.Proofs.YtfemohapampkiaaW.PrintWords Go.Proofs.YtfemohapampkiaaW.PrintLast Go.Proofs.YtfemohapampkiaaW.PrintMore

theorem has_both (l : List Int) (a : Int) (hl : l.length ≤ 1048576) : ∃ b, Ev (fun k => spec_l02Has.f k l a) b ∧ Ev (fun k => slices_Contains_int_int.f k l a) b := by
  refine ⟨anyN l.length (fun i => decide (rd l i = a)), ?_, ?_⟩
  · have key := all_cps l.length (fun i => !decide (rd l i = a)) (fun k i => spec_l02Has.l0 k l a i) false true
      (fun i r hi hp hr => Ev.step (fun k => by
        show spec_l02Has.l0 (k + 1) l a i = spec_l02Has.l0 k l a ((i : Int) + 1)
        rw [Bool.not_eq_true'] at hp
        rw [spec_l02Has.l0, if_pos (by omega), if_pos (by omega), if_neg (of_decide_eq_false hp), wrap_id _ (by omega) (by omega)]) hr)
      (fun i hi hp => Ev.step (fun k => by
        show spec_l02Has.l0 (k + 1) l a i = some true
        rw [Bool.not_eq_false'] at hp
        rw [spec_l02Has.l0, if_pos (by omega), if_pos (by omega), if_pos (of_decide_eq_true hp)]) (Ev.now true))
      (Ev.step (fun k => by
        show spec_l02Has.l0 (k + 1) l a l.length = some false
        rw [spec_l02Has.l0, if_neg (by omega)]) (Ev.now false))
    unfold anyN
    cases hc : allN l.length (fun i => !decide (rd l i = a)) <;> rw [hc] at key <;> exact key
  · have key := find_loop l.length (fun i => decide (rd l i = a)) (fun k i => slices_Index_int_int.l0 k l a l.length i)
      (fun i r hi hp hr => Ev.step (fun k => by
        show slices_Index_int_int.l0 (k + 1) l a l.length i = slices_Index_int_int.l0 k l a l.length ((i : Int) + 1)
        have hp := of_decide_eq_false hp
        rw [slices_Index_int_int.l0, if_pos (by omega), if_pos (by omega), if_pos (by omega), if_neg (fun h => hp h.symm), wrap_id _ (by omega) (by omega)]) hr)
      (fun i hi hp => Ev.step (fun k => by
        show slices_Index_int_int.l0 (k + 1) l a l.length i = some (i : Int)
        have hp := of_decide_eq_true hp
        rw [slices_Index_int_int.l0, if_pos (by omega), if_pos (by omega), if_pos (by omega), if_pos hp.symm]) (Ev.now _))
      (Ev.step (fun k => by
        show slices_Index_int_int.l0 (k + 1) l a l.length l.length = some (-1)
        rw [slices_Index_int_int.l0, if_neg (by omega)]) (Ev.now _))
    obtain ⟨K, key⟩ := key
    refine ⟨K, fun k hk => ?_⟩
    have e := key k hk
    simp only at e
    show slices_Contains_int_int.f k l a = _
    simp only [slices_Contains_int_int.f, slices_Index_int_int.f, e, Option.bind_some, findN_any]

/-- One term's ways, from n kids taken on; r(n): what the other terms say of the kids behind. -/
theorem ways (x0 : List S111) (ks : List Int) (least most : Int) (kinds : List Int) (many : Int) (h1 : 1 ≤ x0.length) (hk : ks.length ≤ 12) (hl : 0 ≤ least) (hm : most ≤ ks.length) (hkd : kinds.length ≤ 1048576)
    (rest : ∀ n : Nat, n ≤ ks.length → ∃ r, Ev (fun k => spec_l03Match.f k (x0.drop 1) (ks.drop n)) r ∧ Ev (fun k => impl_matches.f k (x0.drop 1) (ks.drop n)) r) :
    ∀ (d n : Nat), (most : Int) + 1 ≤ n + d → n ≤ ks.length + 1 → (n = 0 ∨ ∃ j : Nat, n = j + 1 ∧ (most < n ∨ Ev (fun k => slices_Contains_int_int.f k kinds (rd ks j)) true)) →
    ∃ r, Ev (fun k => spec_l03Match.l0 k x0 ks least most n kinds many) r ∧ Ev (fun k => impl_matches.l0 k x0 ks least most n kinds many) r := by
  intro d
  induction d with
  | zero =>
    intro n hd hn _
    refine ⟨false, Ev.step (fun k => ?_) (Ev.now _), Ev.step (fun k => ?_) (Ev.now _)⟩
    · show spec_l03Match.l0 (k + 1) x0 ks least most n kinds many = some false
      rw [spec_l03Match.l0, if_neg (by omega)]
    · show impl_matches.l0 (k + 1) x0 ks least most n kinds many = some false
      rw [impl_matches.l0, if_neg (by omega)]
  | succ d ih =>
    intro n hd hn hprev
    by_cases hmost : (n : Int) ≤ most
    · obtain ⟨q, ⟨A, ea⟩, ⟨B, eb⟩⟩ := rest n (by omega)
      have nn : ((n : Int)).toNat = n := by omega
      have wn : wrap64 ((n : Int) + 1) = ((n + 1 : Nat) : Int) := wrap_id _ (by omega) (by omega)
      -- what both say of n kids
      have imp : ∀ r, (∀ k, 2 ≤ k → True) → (if (n : Int) ≥ least then (if q = true then r = true else Ev (fun k => impl_matches.l0 k x0 ks least most ((n + 1 : Nat) : Int) kinds many) r) else Ev (fun k => impl_matches.l0 k x0 ks least most ((n + 1 : Nat) : Int) kinds many) r) → Ev (fun k => impl_matches.l0 k x0 ks least most n kinds many) r := by
        intro r _ hr
        have five : Ev (fun k => impl_matches.j5 k x0 ks least most n false kinds many) r := by
          by_cases hge : (n : Int) ≥ least
          · rw [if_pos hge] at hr
            cases q with
            | true =>
              rw [if_pos rfl] at hr
              subst hr
              refine ⟨B + 1, fun k hk => ?_⟩
              obtain ⟨m, rfl⟩ : ∃ m, k = m + 1 := ⟨k - 1, by omega⟩
              have eb := eb m (by omega)
              simp only at eb
              show impl_matches.j5 (m + 1) x0 ks least most n false kinds many = some true
              simp only [impl_matches.j5, Bool.false_eq_true, if_false, if_pos hge, if_pos (show (1 : Int) ≤ (x0.length : Int) by omega), if_pos (show 0 ≤ (n : Int) by omega), if_pos (show (n : Int) ≤ (ks.length : Int) by omega), nn, eb, Option.bind_some, if_true]
            | false =>
              rw [if_neg (by decide)] at hr
              obtain ⟨C, hr⟩ := hr
              refine ⟨B + C + 1, fun k hk => ?_⟩
              obtain ⟨m, rfl⟩ : ∃ m, k = m + 1 := ⟨k - 1, by omega⟩
              have eb := eb m (by omega)
              have ec := hr m (by omega)
              simp only at eb ec
              show impl_matches.j5 (m + 1) x0 ks least most n false kinds many = some r
              simp only [impl_matches.j5, Bool.false_eq_true, if_false, if_pos hge, if_pos (show (1 : Int) ≤ (x0.length : Int) by omega), if_pos (show 0 ≤ (n : Int) by omega), if_pos (show (n : Int) ≤ (ks.length : Int) by omega), nn, eb, Option.bind_some, wn, ec]
          · rw [if_neg hge] at hr
            obtain ⟨C, hr⟩ := hr
            refine ⟨C + 1, fun k hk => ?_⟩
            obtain ⟨m, rfl⟩ : ∃ m, k = m + 1 := ⟨k - 1, by omega⟩
            have ec := hr m (by omega)
            simp only at ec
            show impl_matches.j5 (m + 1) x0 ks least most n false kinds many = some r
            simp only [impl_matches.j5, Bool.false_eq_true, if_false, if_neg hge, wn, ec]
        obtain ⟨D, five⟩ := five
        rcases hprev with rfl | ⟨j, rfl, hj⟩
        · refine ⟨D + 1, fun k hk => ?_⟩
          obtain ⟨m, rfl⟩ : ∃ m, k = m + 1 := ⟨k - 1, by omega⟩
          have e5 := five m (by omega)
          simp only at e5
          show impl_matches.l0 (m + 1) x0 ks least most ((0 : Nat) : Int) kinds many = some r
          simp only [impl_matches.l0, if_pos hmost, if_neg (show ¬ ((0 : Nat) : Int) > 0 by omega), e5]
        · rcases hj with hj | ⟨E, hj⟩
          · omega
          refine ⟨D + E + 1, fun k hk => ?_⟩
          obtain ⟨m, rfl⟩ : ∃ m, k = m + 1 := ⟨k - 1, by omega⟩
          have e5 := five m (by omega)
          have ej := hj m (by omega)
          simp only at e5 ej
          have wj : wrap64 (((j + 1 : Nat) : Int) - 1) = (j : Int) := by rw [wrap_id _ (by omega) (by omega)]; omega
          show impl_matches.l0 (m + 1) x0 ks least most ((j + 1 : Nat) : Int) kinds many = some r
          simp only [impl_matches.l0, if_pos hmost, if_pos (show ((j + 1 : Nat) : Int) > 0 by omega), wj, if_pos (show 0 ≤ (j : Int) by omega), if_pos (show (j : Int) < (ks.length : Int) by omega), ej, Option.bind_some, Bool.not_true, e5]
      have spc : ∀ r, (if (n : Int) ≥ least ∧ q = true then r = true else Ev (fun k => spec_l03Match.j2 k x0 ks least most n false kinds many) r) → Ev (fun k => spec_l03Match.l0 k x0 ks least most n kinds many) r := by
        intro r hr
        by_cases hge : (n : Int) ≥ least
        · cases q with
          | true =>
            rw [if_pos ⟨hge, rfl⟩] at hr
            subst hr
            refine ⟨A + 2, fun k hk => ?_⟩
            obtain ⟨m, rfl⟩ : ∃ m, k = m + 2 := ⟨k - 2, by omega⟩
            have ea := ea (m + 1) (by omega)
            simp only at ea
            show spec_l03Match.l0 (m + 2) x0 ks least most n kinds many = some true
            simp only [spec_l03Match.l0, if_pos hmost, if_pos hge, if_pos (show (1 : Int) ≤ (x0.length : Int) by omega), if_pos (show 0 ≤ (n : Int) by omega), if_pos (show (n : Int) ≤ (ks.length : Int) by omega), nn, ea, Option.bind_some, spec_l03Match.j2, if_true]
          | false =>
            rw [if_neg (by simp)] at hr
            obtain ⟨C, hr⟩ := hr
            refine ⟨A + C + 1, fun k hk => ?_⟩
            obtain ⟨m, rfl⟩ : ∃ m, k = m + 1 := ⟨k - 1, by omega⟩
            have ea := ea m (by omega)
            have ec := hr m (by omega)
            simp only at ea ec
            show spec_l03Match.l0 (m + 1) x0 ks least most n kinds many = some r
            simp only [spec_l03Match.l0, if_pos hmost, if_pos hge, if_pos (show (1 : Int) ≤ (x0.length : Int) by omega), if_pos (show 0 ≤ (n : Int) by omega), if_pos (show (n : Int) ≤ (ks.length : Int) by omega), nn, ea, Option.bind_some, ec]
        · rw [if_neg (fun h => hge h.1)] at hr
          obtain ⟨C, hr⟩ := hr
          refine ⟨C + 1, fun k hk => ?_⟩
          obtain ⟨m, rfl⟩ : ∃ m, k = m + 1 := ⟨k - 1, by omega⟩
          have ec := hr m (by omega)
          simp only at ec
          show spec_l03Match.l0 (m + 1) x0 ks least most n kinds many = some r
          simp only [spec_l03Match.l0, if_pos hmost, if_neg hge, ec]
      by_cases hyes : (n : Int) ≥ least ∧ q = true
      · refine ⟨true, spc true (by rw [if_pos hyes]), imp true (fun _ _ => trivial) ?_⟩
        rw [if_pos hyes.1, if_pos hyes.2]
      · -- it goes on
        suffices h : ∃ r, Ev (fun k => spec_l03Match.j2 k x0 ks least most n false kinds many) r ∧ Ev (fun k => impl_matches.l0 k x0 ks least most ((n + 1 : Nat) : Int) kinds many) r by
          obtain ⟨r, g1, g2⟩ := h
          refine ⟨r, spc r (by rw [if_neg hyes]; exact g1), imp r (fun _ _ => trivial) ?_⟩
          by_cases hge : (n : Int) ≥ least
          · rw [if_pos hge, if_neg (fun h => hyes ⟨hge, h⟩)]; exact g2
          · rw [if_neg hge]; exact g2
        by_cases hlt : (n : Int) < most
        · obtain ⟨b, ⟨E, e1⟩, e2⟩ := has_both kinds (rd ks n) hkd
          cases b with
          | true =>
            obtain ⟨r, ⟨F, f1⟩, f2⟩ := ih (n + 1) (by omega) (by omega) (.inr ⟨n, rfl, .inr e2⟩)
            refine ⟨r, ⟨E + F + 1, fun k hk => ?_⟩, f2⟩
            obtain ⟨m, rfl⟩ : ∃ m, k = m + 1 := ⟨k - 1, by omega⟩
            have e1 := e1 m (by omega)
            have f1 := f1 m (by omega)
            simp only at e1 f1
            show spec_l03Match.j2 (m + 1) x0 ks least most n false kinds many = some r
            simp only [spec_l03Match.j2, Bool.false_eq_true, if_false, if_pos hlt, if_pos (show 0 ≤ (n : Int) by omega), if_pos (show (n : Int) < (ks.length : Int) by omega), e1, Option.bind_some, if_true, wn, f1]
          | false =>
            refine ⟨false, ⟨E + 1, fun k hk => ?_⟩, ?_⟩
            · obtain ⟨m, rfl⟩ : ∃ m, k = m + 1 := ⟨k - 1, by omega⟩
              have e1 := e1 m (by omega)
              simp only at e1
              show spec_l03Match.j2 (m + 1) x0 ks least most n false kinds many = some false
              simp only [spec_l03Match.j2, Bool.false_eq_true, if_false, if_pos hlt, if_pos (show 0 ≤ (n : Int) by omega), if_pos (show (n : Int) < (ks.length : Int) by omega), e1, Option.bind_some]
            · obtain ⟨E', e2⟩ := e2
              refine ⟨E' + 2, fun k hk => ?_⟩
              obtain ⟨m, rfl⟩ : ∃ m, k = m + 2 := ⟨k - 2, by omega⟩
              have e2 := e2 (m + 1) (by omega)
              simp only at e2
              have wj : wrap64 (((n + 1 : Nat) : Int) - 1) = (n : Int) := by rw [wrap_id _ (by omega) (by omega)]; omega
              show impl_matches.l0 (m + 2) x0 ks least most ((n + 1 : Nat) : Int) kinds many = some false
              simp only [impl_matches.l0, if_pos (show ((n + 1 : Nat) : Int) ≤ most by omega), if_pos (show ((n + 1 : Nat) : Int) > 0 by omega), wj, if_pos (show 0 ≤ (n : Int) by omega), if_pos (show (n : Int) < (ks.length : Int) by omega), e2, Option.bind_some, Bool.not_false, impl_matches.j5, if_true]
        · obtain ⟨r, ⟨F, f1⟩, f2⟩ := ih (n + 1) (by omega) (by omega) (.inr ⟨n, rfl, .inl (by omega)⟩)
          refine ⟨r, ⟨F + 1, fun k hk => ?_⟩, f2⟩
          obtain ⟨m, rfl⟩ : ∃ m, k = m + 1 := ⟨k - 1, by omega⟩
          have f1 := f1 m (by omega)
          simp only at f1
          show spec_l03Match.j2 (m + 1) x0 ks least most n false kinds many = some r
          simp only [spec_l03Match.j2, Bool.false_eq_true, if_false, if_neg hlt, wn, f1]
    · refine ⟨false, Ev.step (fun k => ?_) (Ev.now _), Ev.step (fun k => ?_) (Ev.now _)⟩
      · show spec_l03Match.l0 (k + 1) x0 ks least most n kinds many = some false
        rw [spec_l03Match.l0, if_neg hmost]
      · show impl_matches.l0 (k + 1) x0 ks least most n kinds many = some false
        rw [impl_matches.l0, if_neg hmost]

theorem match_both : ∀ (t : List S111) (ks : List Int), smTerms t → (∀ x ∈ t, 0 ≤ x.f1 ∧ x.f1 ≤ 3) → ks.length ≤ 12 → ∃ r, Ev (fun k => spec_l03Match.f k t ks) r ∧ Ev (fun k => impl_matches.f k t ks) r := by
  intro t
  induction t with
  | nil =>
    intro ks _ _ _
    refine ⟨(ks.length : Int) == 0, Ev.step (fun k => ?_) (Ev.now _), Ev.step (fun k => ?_) (Ev.now _)⟩
    · show spec_l03Match.f (k + 1) [] ks = _
      rw [spec_l03Match.f, if_pos (by simp)]
    · show impl_matches.f (k + 1) [] ks = _
      rw [impl_matches.f, if_pos (by simp)]
  | cons x t ih =>
    intro ks hs hm hk
    have hrest : smTerms t := ⟨by have := hs.1; simp at this; omega, fun y hy => hs.2 y (List.mem_cons_of_mem _ hy)⟩
    have hx := hm x List.mem_cons_self
    have hlen : ((x :: t).length : Int) = (t.length : Int) + 1 := by simp
    obtain ⟨least, hleast⟩ : ∃ n : Int, n = if x.f1 = 0 ∨ x.f1 = 3 then 1 else 0 := ⟨_, rfl⟩
    obtain ⟨most, hmost⟩ : ∃ n : Int, n = if x.f1 < 2 then mn (ks.length : Int) 1 else (ks.length : Int) := ⟨_, rfl⟩
    have hmn : mn (ks.length : Int) 1 ≤ (ks.length : Int) := by unfold mn; split <;> omega
    have hml : most ≤ ks.length := by rw [hmost]; split <;> omega
    have hl0 : 0 ≤ least := by rw [hleast]; split <;> omega
    obtain ⟨r, ⟨A, e1⟩, ⟨B, e2⟩⟩ := ways (x :: t) ks least most x.f0 x.f1 (by simp) hk hl0 hml (hs.2 x List.mem_cons_self)
      (fun n hn => ih (ks.drop n) hrest (fun y hy => hm y (List.mem_cons_of_mem _ hy)) (by rw [List.length_drop]; omega)) 14 0 (by omega) (by omega) (.inl rfl)
    refine ⟨r, ⟨A + 2, fun k hk' => ?_⟩, ⟨B + 6, fun k hk' => ?_⟩⟩
    · obtain ⟨m, rfl⟩ : ∃ m, k = m + 2 := ⟨k - 2, by omega⟩
      have e1 := e1 m (by omega)
      simp only at e1
      show spec_l03Match.f (m + 2) (x :: t) ks = some r
      rw [spec_l03Match.f, if_neg (by omega), if_pos (by omega)]
      have hr0 : rd_T111 (x :: t) 0 = x := rfl
      rw [hr0]
      have hL : spec_l03Least.f x.f1 = some least := by
        unfold spec_l03Least.f
        rw [hleast]
        by_cases a : x.f1 = 0
        · rw [if_pos a, if_pos (.inl a)]
        · by_cases b : x.f1 = 3
          · rw [if_neg a, if_pos b, if_pos (.inr b)]
          · rw [if_neg a, if_neg b, if_neg (by omega)]
      rw [hL]
      simp only [Option.bind_some]
      by_cases c : x.f1 < 2
      · rw [if_pos c, spec_l03Match.j0]
        rw [if_pos c] at hmost
        rw [← hmost]
        exact e1
      · rw [if_neg c, spec_l03Match.j0]
        rw [if_neg c] at hmost
        rw [← hmost]
        exact e1
    · obtain ⟨m, rfl⟩ : ∃ m, k = m + 6 := ⟨k - 6, by omega⟩
      have e2 := e2 (m + 1) (by omega)
      simp only [Int.natCast_zero] at e2
      show impl_matches.f (m + 6) (x :: t) ks = some r
      rw [impl_matches.f, if_neg (by omega), if_pos (by omega)]
      have hr0 : rd_T111 (x :: t) 0 = x := rfl
      rw [hr0]
      obtain h | h | h | h : x.f1 = 0 ∨ x.f1 = 1 ∨ x.f1 = 2 ∨ x.f1 = 3 := by omega
      · have hl : least = 1 := by rw [hleast, h]; rfl
        have hms : most = mn (ks.length : Int) 1 := by rw [hmost, h]; rfl
        rw [hl, hms, h] at e2
        simp only [h, impl_matches.j0, impl_matches.j1, impl_matches.j2, impl_matches.j3]
        simpa using e2
      · have hl : least = 0 := by rw [hleast, h]; rfl
        have hms : most = mn (ks.length : Int) 1 := by rw [hmost, h]; rfl
        rw [hl, hms, h] at e2
        simp only [h, impl_matches.j0, impl_matches.j1, impl_matches.j2, impl_matches.j3]
        simpa using e2
      · have hl : least = 0 := by rw [hleast, h]; rfl
        have hms : most = (ks.length : Int) := by rw [hmost, h]; rfl
        rw [hl, hms, h] at e2
        simp only [h, impl_matches.j0, impl_matches.j1, impl_matches.j2, impl_matches.j3]
        simpa using e2
      · have hl : least = 1 := by rw [hleast, h]; rfl
        have hms : most = (ks.length : Int) := by rw [hmost, h]; rfl
        rw [hl, hms, h] at e2
        simp only [h, impl_matches.j0, impl_matches.j1, impl_matches.j2, impl_matches.j3]
        simpa using e2

theorem terms_ref (t : List S111) (h : smTerms t) : Ev (fun k => spec_l03Terms.f k t) (decide (t.length ≤ 4) && allN t.length (fun i => tOk 8 (rd_T111 t i).f0 (rd_T111 t i).f1)) := by
  have hl := h.1
  by_cases h4 : t.length ≤ 4
  · rw [decide_eq_true h4, Bool.true_and]
    refine Ev.congr (f := fun k => spec_l03Terms.l0 k t 0) (fun k => by unfold spec_l03Terms.f; rw [if_neg (by omega)]) ?_
    refine all_loop t.length _ (fun k i => spec_l03Terms.l0 k t i) ?_ ?_ ?_
    · intro i r hi hp hr'
      obtain ⟨K, e⟩ := term_spec 8 (rd_T111 t i).f0 (rd_T111 t i).f1 (h.2 _ (getD_mem t _ i hi))
      obtain ⟨K', hr'⟩ := hr'
      refine ⟨K + K' + 1, fun k hk => ?_⟩
      obtain ⟨m, rfl⟩ : ∃ m, k = m + 1 := ⟨k - 1, by omega⟩
      have e := e m (by omega)
      have e2 := hr' m (by omega)
      simp only at e e2
      show spec_l03Terms.l0 (m + 1) t i = some r
      rw [spec_l03Terms.l0, if_pos (by omega), if_pos (by omega), e, hp]
      simp only [Option.bind_some, if_true]
      rw [wrap_id _ (by omega) (by omega)]
      exact e2
    · intro i hi hp
      obtain ⟨K, e⟩ := term_spec 8 (rd_T111 t i).f0 (rd_T111 t i).f1 (h.2 _ (getD_mem t _ i hi))
      refine ⟨K + 1, fun k hk => ?_⟩
      obtain ⟨m, rfl⟩ : ∃ m, k = m + 1 := ⟨k - 1, by omega⟩
      have e := e m (by omega)
      simp only at e
      show spec_l03Terms.l0 (m + 1) t i = some false
      rw [spec_l03Terms.l0, if_pos (by omega), if_pos (by omega), e, hp]
      simp only [Option.bind_some, Bool.false_eq_true, if_false]
    · exact Ev.step (fun k => by
        show spec_l03Terms.l0 (k + 1) t t.length = some true
        rw [spec_l03Terms.l0, if_neg (by omega)]) (Ev.now true)
  · rw [decide_eq_false h4, Bool.false_and]
    exact ⟨0, fun k _ => by show spec_l03Terms.f k t = _; unfold spec_l03Terms.f; rw [if_pos (by omega)]⟩

theorem kids (t : List S111) (ks : List Int) (h : smTerms t) : ∃ (r0 : Bool) (r1 : Int), Ev (fun k => spec_MatchKids.f k t ks) (r0, r1) ∧ Ev (fun k => impl_MatchKids.f k t ks) (r0, r1) := by
  by_cases h1 : (t.length : Int) > 4096
  · refine ⟨false, 2, ⟨1, fun k hk => ?_⟩, ⟨1, fun k hk => ?_⟩⟩
    all_goals obtain ⟨m, rfl⟩ : ∃ m, k = m + 1 := ⟨k - 1, by omega⟩
    · simp only [spec_MatchKids.f, if_pos h1, spec_MatchKids.j0, if_true]
    · simp only [impl_MatchKids.f, impl_isLongList_impl_Term.f, Option.bind_some, decide_eq_true h1, impl_MatchKids.j0, if_true]
  by_cases h2 : (ks.length : Int) > 4096
  · refine ⟨false, 2, ⟨1, fun k hk => ?_⟩, ⟨1, fun k hk => ?_⟩⟩
    all_goals obtain ⟨m, rfl⟩ : ∃ m, k = m + 1 := ⟨k - 1, by omega⟩
    · simp only [spec_MatchKids.f, if_neg h1, decide_eq_true h2, spec_MatchKids.j0, if_true]
    · simp only [impl_MatchKids.f, impl_isLongList_impl_Term.f, impl_isLongList_int.f, Option.bind_some, decide_eq_false h1, decide_eq_true h2, impl_MatchKids.j0, Bool.false_eq_true, if_false, if_true]
  obtain ⟨A, e1⟩ := terms_ref t h
  obtain ⟨B, e2⟩ := terms_impl 8 t h
  cases hok : (decide (t.length ≤ 4) && allN t.length (fun i => tOk 8 (rd_T111 t i).f0 (rd_T111 t i).f1)) with
  | false =>
    rw [hok] at e1 e2
    refine ⟨false, 1, ⟨A + 1, fun k hk => ?_⟩, ⟨B + 1, fun k hk => ?_⟩⟩
    all_goals obtain ⟨m, rfl⟩ : ∃ m, k = m + 1 := ⟨k - 1, by omega⟩
    · have e := e1 m (by omega)
      simp only at e
      simp only [spec_MatchKids.f, if_neg h1, decide_eq_false h2, spec_MatchKids.j0, Bool.false_eq_true, if_false, e, Option.bind_some]
    · have e := e2 m (by omega)
      simp only at e
      simp only [impl_MatchKids.f, impl_isLongList_impl_Term.f, impl_isLongList_int.f, Option.bind_some, decide_eq_false h1, decide_eq_false h2, impl_MatchKids.j0, Bool.false_eq_true, if_false, e]
  | true =>
    rw [hok] at e1 e2
    by_cases h3 : (ks.length : Int) > 12
    · refine ⟨false, 6, ⟨A + 1, fun k hk => ?_⟩, ⟨B + 1, fun k hk => ?_⟩⟩
      all_goals obtain ⟨m, rfl⟩ : ∃ m, k = m + 1 := ⟨k - 1, by omega⟩
      · have e := e1 m (by omega)
        simp only at e
        simp only [spec_MatchKids.f, if_neg h1, decide_eq_false h2, spec_MatchKids.j0, Bool.false_eq_true, if_false, e, Option.bind_some, if_true, if_pos h3]
      · have e := e2 m (by omega)
        simp only at e
        simp only [impl_MatchKids.f, impl_isLongList_impl_Term.f, impl_isLongList_int.f, Option.bind_some, decide_eq_false h1, decide_eq_false h2, impl_MatchKids.j0, Bool.false_eq_true, if_false, e, if_true, if_pos h3]
    · rw [Bool.and_eq_true, allN_iff] at hok
      have hmany : ∀ x ∈ t, 0 ≤ x.f1 ∧ x.f1 ≤ 3 := by
        intro x hx
        obtain ⟨i, hi, rfl⟩ := List.getElem_of_mem hx
        have := hok.2 i hi
        unfold tOk at this
        rw [Bool.and_eq_true, Bool.and_eq_true, decide_eq_true_eq, decide_eq_true_eq] at this
        have h2 := this.2.1
        have e : rd_T111 t (i : Int) = t[i] := by
          show t.getD i _ = _
          rw [List.getD_eq_getElem?_getD, List.getElem?_eq_getElem hi]
          rfl
        rwa [e] at h2
      obtain ⟨r, ⟨C, e3⟩, ⟨D, e4⟩⟩ := match_both t ks h hmany (by omega)
      refine ⟨r, 0, ⟨A + C + 1, fun k hk => ?_⟩, ⟨B + D + 1, fun k hk => ?_⟩⟩
      all_goals obtain ⟨m, rfl⟩ : ∃ m, k = m + 1 := ⟨k - 1, by omega⟩
      · have e := e1 m (by omega)
        have e' := e3 m (by omega)
        simp only at e e'
        simp only [spec_MatchKids.f, if_neg h1, decide_eq_false h2, spec_MatchKids.j0, Bool.false_eq_true, if_false, e, e', Option.bind_some, if_true, if_neg h3]
      · have e := e2 m (by omega)
        have e' := e4 m (by omega)
        simp only at e e'
        simp only [impl_MatchKids.f, impl_isLongList_impl_Term.f, impl_isLongList_int.f, Option.bind_some, decide_eq_false h1, decide_eq_false h2, impl_MatchKids.j0, Bool.false_eq_true, if_false, e, e', if_true, if_neg h3]

theorem FnExactMatchKids : laws_FnExactMatchKids.Pure := core_FnExactMatchKids (fun x0 x1 _ _ s0 _ => kids _ _ ⟨by rw [List.length_map]; exact s0.1, fun y hy => by
  obtain ⟨z, hz, rfl⟩ := List.mem_map.1 hy
  exact (s0.2 z hz).1⟩)

end Go.Proofs.Ytfemohapampkiaa.Pure
