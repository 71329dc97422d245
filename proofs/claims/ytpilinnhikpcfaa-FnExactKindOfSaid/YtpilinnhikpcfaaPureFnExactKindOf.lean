/- The program's KindOf answers what the reference's answers, for each schema and each name: the pure statement of FnExactKindOf. Conditions: none. -/
import Derived.Test.YtpilinnhikpcfaaYKindOfK
namespace Go.Proofs.Ytpilinnhikpcfaa.Pure
set_option linter.unusedVariables false
open Go.RowKit Go.Proofs.Ytpilinnhikpcfaa.XA Go.Proofs.Ytpilinnhikpcfaa.Pk Go.Proofs.YtpilinnhikpcfaaW.PrintWords Go.Proofs.YtpilinnhikpcfaaW.PrintLast Go.Proofs.YtpilinnhikpcfaaW.PrintMore

theorem rin_eq (x lo hi : Int) : spec_l01In.f x lo hi = some (decide (lo ≤ x ∧ x ≤ hi)) := by
  unfold spec_l01In.f
  by_cases h : x ≥ lo
  · rw [if_pos h]; exact congrArg some (decide_eq_decide.2 ⟨fun g => ⟨h, g⟩, fun g => g.2⟩)
  · rw [if_neg h]; exact congrArg some (decide_eq_false fun g => h g.1).symm
theorem rwithin_eq (x lo hi : Int) : impl_within.f x lo hi = some (decide (lo ≤ x ∧ x ≤ hi)) := rin_eq x lo hi

def kindAt (n : Int) (l : List Int) (i : Nat) : Bool := decide (1 ≤ rd l i ∧ rd l i ≤ n) && (decide (i = 0) || decide (rd l ((i : Int) - 1) < rd l i))
def tOk (n : Int) (l : List Int) (m : Int) : Bool := decide (0 < l.length) && (decide (0 ≤ m ∧ m ≤ 3) && allN l.length (kindAt n l))

theorem rising (n : Int) (l : List Int) (h : allN l.length (kindAt n l) = true) : ∀ i : Nat, i < l.length → (i : Int) + 1 ≤ rd l i := by
  rw [allN_iff] at h
  intro i
  induction i with
  | zero =>
    intro hi
    have := h 0 hi
    unfold kindAt at this
    rw [Bool.and_eq_true, decide_eq_true_eq] at this
    have := this.1.1
    omega
  | succ i ih =>
    intro hi
    have h1 := ih (by omega)
    have := h (i + 1) hi
    unfold kindAt at this
    rw [Bool.and_eq_true, Bool.or_eq_true, decide_eq_true_eq, decide_eq_true_eq] at this
    rcases this.2 with h2 | h2
    · omega
    · have h2 := of_decide_eq_true h2
      rw [show ((i + 1 : Nat) : Int) - 1 = (i : Int) by omega] at h2
      omega
theorem rising_len (n : Int) (l : List Int) (h : allN l.length (kindAt n l) = true) (h0 : 0 < l.length) : (l.length : Int) ≤ n := by
  have h1 := rising n l h (l.length - 1) (by omega)
  rw [allN_iff] at h
  have := h (l.length - 1) (by omega)
  unfold kindAt at this
  rw [Bool.and_eq_true, decide_eq_true_eq] at this
  have := this.1.2
  omega

theorem term_spec (n : Int) (l : List Int) (m : Int) (hl : l.length ≤ 1048576) : Ev (fun k => spec_l03Term.f k l m n) (tOk n l m) := by
  have key : Ev (fun k => spec_l03Term.l0 k n 0 l m) (allN l.length (kindAt n l)) := by
    refine all_loop l.length _ (fun k i => spec_l03Term.l0 k n i l m) ?_ ?_ ?_
    · intro i r hi hp hr
      unfold kindAt at hp
      rw [Bool.and_eq_true, Bool.or_eq_true, decide_eq_true_eq, decide_eq_true_eq] at hp
      obtain ⟨hin, hup⟩ := hp
      exact Ev.step (fun k => by
        show spec_l03Term.l0 (k + 1) n i l m = spec_l03Term.l0 k n ((i : Int) + 1) l m
        rw [spec_l03Term.l0, if_pos (by omega), if_pos (by omega), rin_eq, wrap_id ((i : Int) + 1) (by omega) (by omega)]
        simp only [Option.bind_some]
        rw [if_pos (decide_eq_true hin)]
        by_cases h0 : (i : Int) > 0
        · rw [if_pos h0, wrap_id ((i : Int) - 1) (by omega) (by omega), if_pos (by omega), if_pos (by omega), if_neg (by
            rcases hup with h | h
            · omega
            · have := of_decide_eq_true h; omega)]
        · rw [if_neg h0]) hr
    · intro i hi hp
      exact Ev.step (fun k => by
        show spec_l03Term.l0 (k + 1) n i l m = some false
        rw [spec_l03Term.l0, if_pos (by omega), if_pos (by omega), rin_eq]
        simp only [Option.bind_some]
        unfold kindAt at hp
        by_cases hin : 1 ≤ rd l i ∧ rd l i ≤ n
        · rw [decide_eq_true hin, Bool.true_and, Bool.or_eq_false_iff] at hp
          have h0 := of_decide_eq_false hp.1
          have h1 := of_decide_eq_false hp.2
          rw [if_pos (decide_eq_true hin), if_pos (by omega), wrap_id ((i : Int) - 1) (by omega) (by omega), if_pos (by omega), if_pos (by omega), if_pos (by omega)]
        · rw [if_neg (by rw [decide_eq_false hin]; decide)]) (Ev.now false)
    · exact Ev.step (fun k => by
        show spec_l03Term.l0 (k + 1) n l.length l m = some true
        rw [spec_l03Term.l0, if_neg (by omega)]) (Ev.now true)
  obtain ⟨K, key⟩ := key
  refine ⟨K + 1, fun k hk => ?_⟩
  obtain ⟨k, rfl⟩ : ∃ j, k = j + 1 := ⟨k - 1, by omega⟩
  have e := key k (by omega)
  simp only at e
  unfold tOk
  by_cases h0 : 0 < l.length
  · by_cases h1 : (l.length : Int) > n
    · have hf : allN l.length (kindAt n l) = false := by
        cases hc : allN l.length (kindAt n l)
        · rfl
        · have := rising_len n l hc h0; omega
      simp only [spec_l03Term.f, spec_l03Term.j0, if_neg (show ¬ (l.length : Int) = 0 by omega), if_pos h1, if_true, hf, Bool.and_false]
    · simp only [spec_l03Term.f, spec_l03Term.j0, spec_l03Many.f, rin_eq, Option.bind_some, if_neg (show ¬ (l.length : Int) = 0 by omega), if_neg h1, decide_eq_true h0, Bool.true_and, e]
      by_cases h2 : 0 ≤ m ∧ m ≤ 3
      · simp only [decide_eq_true h2, Bool.not_true, Bool.false_eq_true, if_false, Bool.true_and]
      · simp only [decide_eq_false h2, Bool.not_false, if_true, Bool.false_and]
  · simp only [spec_l03Term.f, spec_l03Term.j0, if_pos (show (l.length : Int) = 0 by omega), if_true, decide_eq_false h0, Bool.false_and]

theorem term_impl (n : Int) (l : List Int) (m : Int) (hl : l.length ≤ 1048576) : Ev (fun k => impl_isTerm.f k l m n) (tOk n l m) := by
  have key : Ev (fun k => impl_isTerm.l0 k n l l.length 0 l m) (if allN l.length (kindAt n l) = true then (decide (0 < l.length) && decide (0 ≤ m ∧ m ≤ 3)) else false) := by
    refine all_cps l.length _ (fun k i => impl_isTerm.l0 k n l l.length i l m) _ _ ?_ ?_ ?_
    · intro i r hi hp hr
      unfold kindAt at hp
      rw [Bool.and_eq_true, Bool.or_eq_true, decide_eq_true_eq, decide_eq_true_eq] at hp
      obtain ⟨hin, hup⟩ := hp
      exact Ev.step (fun k => by
        show impl_isTerm.l0 (k + 1) n l l.length i l m = impl_isTerm.l0 k n l l.length ((i : Int) + 1) l m
        rw [impl_isTerm.l0, if_pos (by omega), if_pos (by omega), if_pos (by omega), rwithin_eq, wrap_id ((i : Int) + 1) (by omega) (by omega)]
        simp only [Option.bind_some]
        rw [if_pos (decide_eq_true hin)]
        by_cases h0 : (i : Int) > 0
        · rw [if_pos h0, wrap_id ((i : Int) - 1) (by omega) (by omega), if_pos (by omega), if_pos (by omega), if_neg (by
            rcases hup with h | h
            · omega
            · have := of_decide_eq_true h; omega)]
        · rw [if_neg h0]) hr
    · intro i hi hp
      exact Ev.step (fun k => by
        show impl_isTerm.l0 (k + 1) n l l.length i l m = some false
        rw [impl_isTerm.l0, if_pos (by omega), if_pos (by omega), if_pos (by omega), rwithin_eq]
        simp only [Option.bind_some]
        unfold kindAt at hp
        by_cases hin : 1 ≤ rd l i ∧ rd l i ≤ n
        · rw [decide_eq_true hin, Bool.true_and, Bool.or_eq_false_iff] at hp
          have h0 := of_decide_eq_false hp.1
          have h1 := of_decide_eq_false hp.2
          rw [if_pos (decide_eq_true hin), if_pos (by omega), wrap_id ((i : Int) - 1) (by omega) (by omega), if_pos (by omega), if_pos (by omega), if_pos (by omega)]
        · rw [if_neg (by rw [decide_eq_false hin]; decide)]) (Ev.now false)
    · exact Ev.step (f := fun _ => some (decide (0 < l.length) && decide (0 ≤ m ∧ m ≤ 3))) (fun k => by
        show impl_isTerm.l0 (k + 1) n l l.length l.length l m = _
        rw [impl_isTerm.l0, if_neg (by omega), rwithin_eq]
        by_cases h0 : 0 < l.length
        · rw [if_pos (by omega), decide_eq_true h0, Bool.true_and]
          rfl
        · rw [if_neg (by omega), decide_eq_false h0, Bool.false_and]) (Ev.now _)
  obtain ⟨K, key⟩ := key
  refine ⟨K, fun k hk => ?_⟩
  have e := key k hk
  simp only at e
  show impl_isTerm.f k l m n = _
  unfold impl_isTerm.f
  rw [e]
  unfold tOk
  cases allN l.length (kindAt n l) <;> simp

def smTerms (terms : List S95) : Prop := terms.length ≤ 1048576 ∧ ∀ x ∈ terms, x.f0.length ≤ 1048576

theorem terms_impl (n : Int) (t : List S95) (h : smTerms t) : Ev (fun k => impl_areTerms.f k t n) (decide (t.length ≤ 4) && allN t.length (fun i => tOk n (rd_T95 t i).f0 (rd_T95 t i).f1)) := by
  have hl := h.1
  have key : Ev (fun k => slices_IndexFunc_impl_Term_impl_Term_at_impl_areTerms_1.l0 k t t.length 0 n) (findN t.length (fun i => !tOk n (rd_T95 t i).f0 (rd_T95 t i).f1)) := by
    refine find_loop t.length _ (fun k i => slices_IndexFunc_impl_Term_impl_Term_at_impl_areTerms_1.l0 k t t.length i n) ?_ ?_ ?_
    · intro i r hi hp hr'
      rw [Bool.not_eq_false'] at hp
      obtain ⟨K, e⟩ := term_impl n (rd_T95 t i).f0 (rd_T95 t i).f1 (h.2 _ (getD_mem t _ i hi))
      obtain ⟨K', hr'⟩ := hr'
      refine ⟨K + K' + 1, fun k hk => ?_⟩
      obtain ⟨m, rfl⟩ : ∃ m, k = m + 1 := ⟨k - 1, by omega⟩
      have e := e m (by omega)
      have e2 := hr' m (by omega)
      simp only at e e2
      show slices_IndexFunc_impl_Term_impl_Term_at_impl_areTerms_1.l0 (m + 1) t t.length i n = some r
      rw [slices_IndexFunc_impl_Term_impl_Term_at_impl_areTerms_1.l0, if_pos (by omega), if_pos (by omega), if_pos (by omega), impl_areTerms_1.f, e, hp]
      simp only [Option.bind_some, Bool.not_true, Bool.false_eq_true, if_false]
      rw [wrap_id _ (by omega) (by omega)]
      exact e2
    · intro i hi hp
      rw [Bool.not_eq_true'] at hp
      obtain ⟨K, e⟩ := term_impl n (rd_T95 t i).f0 (rd_T95 t i).f1 (h.2 _ (getD_mem t _ i hi))
      refine ⟨K + 1, fun k hk => ?_⟩
      obtain ⟨m, rfl⟩ : ∃ m, k = m + 1 := ⟨k - 1, by omega⟩
      have e := e m (by omega)
      simp only at e
      show slices_IndexFunc_impl_Term_impl_Term_at_impl_areTerms_1.l0 (m + 1) t t.length i n = some (i : Int)
      rw [slices_IndexFunc_impl_Term_impl_Term_at_impl_areTerms_1.l0, if_pos (by omega), if_pos (by omega), if_pos (by omega), impl_areTerms_1.f, e, hp]
      simp only [Option.bind_some, Bool.not_false, if_true]
    · exact Ev.step (fun k => by
        show slices_IndexFunc_impl_Term_impl_Term_at_impl_areTerms_1.l0 (k + 1) t t.length t.length n = some (-1)
        rw [slices_IndexFunc_impl_Term_impl_Term_at_impl_areTerms_1.l0, if_neg (by omega)]) (Ev.now _)
  obtain ⟨K, key⟩ := key
  refine ⟨K, fun k hk => ?_⟩
  have e := key k hk
  simp only at e
  show impl_areTerms.f k t n = _
  rw [all_of_any t.length]
  by_cases h4 : t.length ≤ 4
  · simp only [impl_areTerms.f, if_pos (show (t.length : Int) ≤ 4 by omega), slices_ContainsFunc_impl_Term_impl_Term_at_impl_areTerms_1.f, slices_IndexFunc_impl_Term_impl_Term_at_impl_areTerms_1.f, e, Option.bind_some, findN_any, decide_eq_true h4, Bool.true_and]
  · simp only [impl_areTerms.f, if_neg (show ¬ (t.length : Int) ≤ 4 by omega), decide_eq_false h4, Bool.false_and]


end Go.Proofs.Ytpilinnhikpcfaa.Pure
namespace Go.Proofs.Ytpilinnhikpcfaa.Pure
set_option linter.unusedVariables false
open Go.RowKit Go.Proofs.Ytpilinnhikpcfaa.XA Go.Proofs.Ytpilinnhikpcfaa.Pk Go.Proofs.YtpilinnhikpcfaaW.PrintWords Go.Proofs.YtpilinnhikpcfaaW.PrintLast Go.Proofs.YtpilinnhikpcfaaW.PrintMore

theorem letter_some (c : Int) : ∃ b, spec_l00Letter.f c = some b := by
  unfold spec_l00Letter.f
  repeat' split
  all_goals exact ⟨_, rfl⟩
theorem letter_same (c : Int) : impl_isLetter.f c = spec_l00Letter.f c := rfl

/-- Both loops answer alike, from each place on. -/
theorem names (s : ByteArray) (hs : s.size ≤ 12) (d : Nat) : ∀ (k : Nat) (i : Int), 0 ≤ i → i ≤ s.size → (s.size : Int) - i = d → d < k →
    ∃ r, spec_l00Word.l0 k s i = some r ∧ impl_NameOK.l0 k s (s.size : Int) i = some r := by
  induction d with
  | zero =>
    intro k i h0 h1 hd hk
    obtain ⟨k, rfl⟩ : ∃ m, k = m + 1 := ⟨k - 1, by omega⟩
    refine ⟨true, ?_, ?_⟩
    · simp only [spec_l00Word.l0]; rw [if_neg (by omega)]
    · simp only [impl_NameOK.l0]; rw [if_neg (by omega)]
  | succ d ih =>
    intro k i h0 h1 hd hk
    obtain ⟨k, rfl⟩ : ∃ m, k = m + 1 := ⟨k - 1, by omega⟩
    have hlt : i < (s.size : Int) := by omega
    have hw : wrap64 (i + 1) = i + 1 := by unfold wrap64; omega
    obtain ⟨r, g1, g2⟩ := ih k (i + 1) (by omega) (by omega) (by omega) (by omega)
    simp only [spec_l00Word.l0, impl_NameOK.l0]
    rw [if_pos hlt, if_pos h0, if_pos hlt, if_pos h0, if_pos hlt, letter_same, hw]
    obtain ⟨b, hb⟩ := letter_some (bt s i)
    rw [hb]
    simp only [Option.bind_some]
    cases b with
    | true => exact ⟨r, by rw [if_pos rfl]; exact g1, by rw [if_pos rfl]; exact g2⟩
    | false =>
      rw [if_neg (by decide), if_neg (by decide)]
      unfold spec_l00Digit.f
      by_cases a : bt s i < 48
      · exact ⟨false, by rw [if_neg (by omega)]; rfl, by rw [if_pos a]⟩
      · rw [if_pos (by omega), if_neg a]
        by_cases c : bt s i > 57
        · have e : decide (bt s i ≤ 57) = false := by simp; omega
          exact ⟨false, by simp [e], by rw [if_pos c]⟩
        · have e : decide (bt s i ≤ 57) = true := by simp; omega
          exact ⟨r, by simp only [e, Option.bind_some]; rw [if_pos trivial]; exact g1, by rw [if_neg c]; exact g2⟩

theorem word_one (s : ByteArray) : ∃ r, spec_l00Word.f (s.size + 2) s = some r ∧ impl_NameOK.f (s.size + 2) s = some r := by
  unfold spec_l00Word.f impl_NameOK.f
  by_cases h1 : (s.size : Int) < 1
  · exact ⟨false, by rw [if_pos h1]; simp [spec_l00Word.j0], by rw [if_pos h1]; simp [impl_NameOK.j0]⟩
  · by_cases h2 : (s.size : Int) > 12
    · exact ⟨false, by rw [if_neg h1, if_pos h2]; simp [spec_l00Word.j0], by rw [if_neg h1, if_pos h2]; simp [impl_NameOK.j0]⟩
    · rw [if_neg h1, if_neg h1, if_neg h2, if_neg h2, if_pos (by omega), if_pos (by omega), letter_same]
      obtain ⟨b, hb⟩ := letter_some (bt s 0)
      rw [hb]
      simp only [Option.bind_some, spec_l00Word.j0, impl_NameOK.j0]
      cases b with
      | false => exact ⟨false, by simp, by simp⟩
      | true =>
        obtain ⟨r, g1, g2⟩ := names s (by omega) (s.size - 1) s.size 1 (by omega) (by omega) (by omega) (by omega)
        have g3 : spec_l00Word.l0 (s.size + 1) s 1 = some r := spec_l00Word.mono_l s.size |>.2 _ _ _ g1
        have g4 : impl_NameOK.l0 (s.size + 1) s (s.size : Int) 0 = some r := by
          simp only [impl_NameOK.l0]
          rw [if_pos (by omega), if_pos (by omega), if_pos (by omega), letter_same, hb]
          simp only [Option.bind_some]
          rw [if_pos trivial, show wrap64 (0 + 1) = 1 from by unfold wrap64; omega]
          exact g2
        simp only [Bool.not_true]
        exact ⟨r, by rw [if_neg (by decide)]; exact g3, by rw [if_neg (by decide)]; exact g4⟩

theorem word (s : ByteArray) : ∃ r, Ev (fun k => spec_l00Word.f k s) r ∧ Ev (fun k => impl_NameOK.f k s) r := by
  obtain ⟨r, h1, h2⟩ := word_one s
  exact ⟨r, Ev.of (spec_l00Word.mono s) h1, Ev.of (impl_NameOK.mono s) h2⟩

def rOk (n : Int) (nm : Bool) (name : ByteArray) (leaf : Bool) (terms : List S95) : Bool :=
  nm && (!decide (name.toList = ([116, 101, 120, 116] : List UInt8)) && (decide (terms.length ≤ 4) && (!(leaf && decide (0 < terms.length)) && allN terms.length (fun i => tOk n (rd_T95 terms i).f0 (rd_T95 terms i).f1))))
theorem terms_spec (n : Int) (name : ByteArray) (leaf : Bool) (t : List S95) (h : smTerms t) : Ev (fun k => spec_l03Rule.l0 k n 0 name leaf t) (allN t.length (fun i => tOk n (rd_T95 t i).f0 (rd_T95 t i).f1)) := by
  have hl := h.1
  refine all_loop t.length _ (fun k i => spec_l03Rule.l0 k n i name leaf t) ?_ ?_ ?_
  · intro i r hi hp hr'
    obtain ⟨K, e⟩ := term_spec n (rd_T95 t i).f0 (rd_T95 t i).f1 (h.2 _ (getD_mem t _ i hi))
    obtain ⟨K', hr'⟩ := hr'
    refine ⟨K + K' + 1, fun k hk => ?_⟩
    obtain ⟨m, rfl⟩ : ∃ m, k = m + 1 := ⟨k - 1, by omega⟩
    have e := e m (by omega)
    have e2 := hr' m (by omega)
    simp only at e e2
    show spec_l03Rule.l0 (m + 1) n i name leaf t = some r
    rw [spec_l03Rule.l0, if_pos (by omega), if_pos (by omega), e, hp]
    simp only [Option.bind_some, if_true]
    rw [wrap_id _ (by omega) (by omega)]
    exact e2
  · intro i hi hp
    obtain ⟨K, e⟩ := term_spec n (rd_T95 t i).f0 (rd_T95 t i).f1 (h.2 _ (getD_mem t _ i hi))
    refine ⟨K + 1, fun k hk => ?_⟩
    obtain ⟨m, rfl⟩ : ∃ m, k = m + 1 := ⟨k - 1, by omega⟩
    have e := e m (by omega)
    simp only at e
    show spec_l03Rule.l0 (m + 1) n i name leaf t = some false
    rw [spec_l03Rule.l0, if_pos (by omega), if_pos (by omega), e, hp]
    simp only [Option.bind_some, Bool.false_eq_true, if_false]
  · exact Ev.step (fun k => by
      show spec_l03Rule.l0 (k + 1) n t.length name leaf t = some true
      rw [spec_l03Rule.l0, if_neg (by omega)]) (Ev.now true)

theorem rule_spec (n : Int) (nm : Bool) (name : ByteArray) (leaf : Bool) (t : List S95) (h : smTerms t) (hw : Ev (fun k => spec_l00Word.f k name) nm) : Ev (fun k => spec_l03Rule.f k name leaf t n) (rOk n nm name leaf t) := by
  obtain ⟨A, e1⟩ := hw
  obtain ⟨B, e2⟩ := terms_spec n name leaf t h
  refine ⟨A + B + 1, fun k hk => ?_⟩
  obtain ⟨k, rfl⟩ : ∃ j, k = j + 1 := ⟨k - 1, by omega⟩
  have e1 := e1 (k + 1) (by omega)
  have e2 := e2 k (by omega)
  simp only at e1 e2
  show spec_l03Rule.f (k + 1) name leaf t n = _
  unfold rOk
  simp only [spec_l03Rule.f, spec_l03Rule.j0, e1, e2, Option.bind_some]
  cases nm
  · simp
  · by_cases ht : name.toList = ([116, 101, 120, 116] : List UInt8)
    · simp [ht]
    · by_cases h4 : t.length ≤ 4
      · have h4' : ¬ (t.length : Int) > 4 := by omega
        cases leaf
        · simp [ht, h4, h4']
        · by_cases h0 : 0 < t.length
          · have h0' : (t.length : Int) > 0 := by omega
            simp [ht, h4, h4', h0, h0']
          · have h0' : ¬ (t.length : Int) > 0 := by omega
            simp [ht, h4, h4', h0, h0']
      · have h4' : (t.length : Int) > 4 := by omega
        simp [ht, h4, h4']

theorem rule_impl (n : Int) (nm : Bool) (name : ByteArray) (leaf : Bool) (t : List S95) (h : smTerms t) (hw : Ev (fun k => impl_NameOK.f k name) nm) : Ev (fun k => impl_RuleOK.f k name leaf t n) (decide (1 ≤ n ∧ n ≤ 8) && rOk n nm name leaf t) := by
  obtain ⟨B, e2⟩ := hw
  obtain ⟨C, e3⟩ := terms_impl n t h
  refine ⟨B + C, fun k hk => ?_⟩
  have e2 := e2 k (by omega)
  have e3 := e3 k (by omega)
  simp only at e2 e3
  show impl_RuleOK.f k name leaf t n = _
  simp only [impl_RuleOK.f, rwithin_eq, Option.bind_some, e2, e3]
  unfold rOk
  by_cases hn : 1 ≤ n ∧ n ≤ 8
  · simp only [decide_eq_true hn, if_true, Bool.true_and]
    cases nm
    · simp
    · by_cases ht : name.toList = ([116, 101, 120, 116] : List UInt8)
      · simp [ht]
      · cases leaf
        · simp [ht]
        · by_cases h0 : 0 < t.length
          · have h0' : t ≠ [] := by intro g; subst g; simp at h0
            simp [ht, h0, h0']
          · have h0' : t = [] := List.length_eq_zero_iff.1 (by omega)
            subst h0'
            simp [ht]
  · simp only [decide_eq_false hn, Bool.false_and, Bool.false_eq_true, if_false]

end Go.Proofs.Ytpilinnhikpcfaa.Pure
namespace Go.Proofs.Ytpilinnhikpcfaa.Pure
set_option linter.unusedVariables false
open Go.RowKit Go.Proofs.Ytpilinnhikpcfaa.XA Go.Proofs.Ytpilinnhikpcfaa.Pk Go.Proofs.YtpilinnhikpcfaaW.PrintWords Go.Proofs.YtpilinnhikpcfaaW.PrintLast Go.Proofs.YtpilinnhikpcfaaW.PrintMore

theorem findN_first (n : Nat) (p : Nat → Bool) : ∀ i : Nat, i < n → p i = true → decide (findN n p = (i : Int)) = allN i (fun j => !p j) := by
  induction n generalizing p with
  | zero => intro i hi; omega
  | succ n ih =>
    intro i hi hp
    rw [findN]
    cases i with
    | zero =>
      rw [if_pos hp]
      rfl
    | succ i =>
      have h := ih (fun j => p (j + 1)) i (by omega) hp
      have hge := findN_ge n (fun j => p (j + 1))
      rw [allN]
      cases h0 : p 0 with
      | true => simp; omega
      | false =>
        rw [if_neg (by decide), Bool.not_false, Bool.true_and, ← h]
        by_cases hlt : findN n (fun j => p (j + 1)) < 0
        · rw [if_pos hlt, decide_eq_false (by omega), decide_eq_false (by omega)]
        · rw [if_neg hlt]
          apply decide_eq_decide.2
          omega

def smRules (t : List S80) : Prop := t.length ≤ 1048576 ∧ ∀ x ∈ t, smTerms x.f2
def named (t : List S80) (a : ByteArray) (i : Nat) : Bool := ((rd_T80 t i).f0).toList == a.toList

theorem index_impl (t : List S80) (a : ByteArray) (h : t.length ≤ 1048576) : Ev (fun k => slices_IndexFunc_impl_Rule_impl_Rule_at_impl_kindOf_1.f k t a) (findN t.length (named t a)) := by
  refine find_loop t.length _ (fun k i => slices_IndexFunc_impl_Rule_impl_Rule_at_impl_kindOf_1.l0 k t t.length i a) ?_ ?_ ?_
  · intro i r hi hp hr
    exact Ev.step (fun k => by
      show slices_IndexFunc_impl_Rule_impl_Rule_at_impl_kindOf_1.l0 (k + 1) t t.length i a = slices_IndexFunc_impl_Rule_impl_Rule_at_impl_kindOf_1.l0 k t t.length ((i : Int) + 1) a
      rw [slices_IndexFunc_impl_Rule_impl_Rule_at_impl_kindOf_1.l0, if_pos (by omega), if_pos (by omega), if_pos (by omega), impl_kindOf_1.f]
      simp only [Option.bind_some]
      unfold named at hp
      rw [hp, if_neg (by decide), wrap_id _ (by omega) (by omega)]) hr
  · intro i hi hp
    exact Ev.step (fun k => by
      show slices_IndexFunc_impl_Rule_impl_Rule_at_impl_kindOf_1.l0 (k + 1) t t.length i a = some (i : Int)
      rw [slices_IndexFunc_impl_Rule_impl_Rule_at_impl_kindOf_1.l0, if_pos (by omega), if_pos (by omega), if_pos (by omega), impl_kindOf_1.f]
      simp only [Option.bind_some]
      unfold named at hp
      rw [hp, if_pos rfl]) (Ev.now _)
  · exact Ev.step (fun k => by
      show slices_IndexFunc_impl_Rule_impl_Rule_at_impl_kindOf_1.l0 (k + 1) t t.length t.length a = some (-1)
      rw [slices_IndexFunc_impl_Rule_impl_Rule_at_impl_kindOf_1.l0, if_neg (by omega)]) (Ev.now _)

theorem findN_lt (n : Nat) (p : Nat → Bool) : findN n p < n ∨ n = 0 := by
  induction n generalizing p with
  | zero => exact .inr rfl
  | succ n ih =>
    refine .inl ?_
    rw [findN]
    split
    · omega
    · split
      · omega
      · have := findN_ge n (fun i => p (i + 1))
        rcases ih (fun i => p (i + 1)) with h | h
        · omega
        · subst h; rename_i hlt; exact absurd (show findN 0 (fun i => p (i + 1)) < 0 from (by show (-1 : Int) < 0; omega)) hlt

theorem kind_impl (t : List S80) (a : ByteArray) (h : t.length ≤ 1048576) : Ev (fun k => impl_kindOf.f k t a) (findN t.length (named t a) + 1) := by
  obtain ⟨K, e⟩ := index_impl t a h
  refine ⟨K, fun k hk => ?_⟩
  have e := e k hk
  simp only at e
  have h1 := findN_ge t.length (named t a)
  have h2 := findN_lt t.length (named t a)
  show impl_kindOf.f k t a = _
  simp only [impl_kindOf.f, e, Option.bind_some]
  have h3 : findN t.length (named t a) ≤ t.length := by
    rcases h2 with h2 | h2
    · omega
    · rw [h2]; simp [findN]
  rw [wrap_id _ (by omega) (by omega)]

theorem schemas (t : List S80) (h : smRules t) (h1 : 1 ≤ t.length) (h8 : t.length ≤ 8) : ∀ m i : Nat, i + m = t.length →
    ∃ r, Ev (fun k => spec_l03OK.l0 k t i) r ∧ Ev (fun k => impl_SchemaOK.l0 k t t t.length i) r := by
  intro m
  induction m with
  | zero =>
    intro i hi
    refine ⟨true, Ev.step (fun k => ?_) (Ev.now _), Ev.step (fun k => ?_) (Ev.now _)⟩
    · show spec_l03OK.l0 (k + 1) t i = some true
      rw [spec_l03OK.l0, if_neg (by omega)]
    · show impl_SchemaOK.l0 (k + 1) t t t.length i = some true
      rw [impl_SchemaOK.l0, if_neg (by omega)]
  | succ m ih =>
    intro i hi
    obtain ⟨r, f1, f2⟩ := ih (i + 1) (by omega)
    obtain ⟨x, hx⟩ : ∃ x, x = rd_T80 t i := ⟨_, rfl⟩
    have hsm : smTerms x.f2 := by rw [hx]; exact h.2 _ (getD_mem t _ i (by omega))
    obtain ⟨nm, hs, hi'⟩ := word x.f0
    obtain ⟨A, e1⟩ := rule_spec t.length nm x.f0 x.f1 x.f2 hsm hs
    obtain ⟨B, e2⟩ := rule_impl t.length nm x.f0 x.f1 x.f2 hsm hi'
    rw [decide_eq_true (show 1 ≤ (t.length : Int) ∧ (t.length : Int) ≤ 8 by omega), Bool.true_and] at e2
    cases hr : rOk t.length nm x.f0 x.f1 x.f2 with
    | false =>
      rw [hr] at e1 e2
      refine ⟨false, ⟨A + 1, fun k hk => ?_⟩, ⟨B + 1, fun k hk => ?_⟩⟩
      all_goals obtain ⟨q, rfl⟩ : ∃ q, k = q + 1 := ⟨k - 1, by omega⟩
      · have e := e1 q (by omega)
        simp only at e
        show spec_l03OK.l0 (q + 1) t i = some false
        rw [spec_l03OK.l0, if_pos (by omega), if_pos (by omega), ← hx, e]
        simp only [Option.bind_some, Bool.false_eq_true, if_false]
      · have e := e2 q (by omega)
        simp only at e
        show impl_SchemaOK.l0 (q + 1) t t t.length i = some false
        rw [impl_SchemaOK.l0, if_pos (by omega), if_pos (by omega), if_pos (by omega), ← hx, e]
        simp only [Option.bind_some, Bool.false_eq_true, if_false]
    | true =>
      rw [hr] at e1 e2
      have hself : named t x.f0 i = true := by unfold named; rw [← hx]; simp
      have hfirst := findN_first t.length (named t x.f0) i (by omega) hself
      obtain ⟨C, e3⟩ := kind_impl t x.f0 h.1
      have key := all_cps' i (fun j => !named t x.f0 j) (fun k j => spec_l03OK.l1 k t i j) r false
        (fun j r hj hp hr => Ev.step (fun k => by
          show spec_l03OK.l1 (k + 1) t i j = spec_l03OK.l1 k t i ((j : Int) + 1)
          rw [Bool.not_eq_true'] at hp
          unfold named at hp
          rw [spec_l03OK.l1, if_pos (by omega), if_pos (by omega), if_pos (by omega), if_pos (by omega), if_pos (by omega), ← hx, if_neg (by intro g; rw [g] at hp; simp at hp), wrap_id _ (by omega) (by omega)]) hr)
        (fun j hj hp => Ev.step (fun k => by
          show spec_l03OK.l1 (k + 1) t i j = some false
          rw [Bool.not_eq_false'] at hp
          unfold named at hp
          rw [spec_l03OK.l1, if_pos (by omega), if_pos (by omega), if_pos (by omega), if_pos (by omega), if_pos (by omega), ← hx, if_pos (eq_of_beq hp)]) (Ev.now false))
        (fun _ => Ev.step (fun k => by
          show spec_l03OK.l1 (k + 1) t i i = spec_l03OK.l0 k t ((i + 1 : Nat) : Int)
          rw [spec_l03OK.l1, if_neg (by omega), wrap_id _ (by omega) (by omega)]
          rfl) f1)
      refine ⟨if allN i (fun j => !named t x.f0 j) = true then r else false, ?_, ?_⟩
      · obtain ⟨D, key⟩ := key
        refine ⟨A + D + 1, fun k hk => ?_⟩
        obtain ⟨q, rfl⟩ : ∃ q, k = q + 1 := ⟨k - 1, by omega⟩
        have e := e1 q (by omega)
        have d := key q (by omega)
        simp only at e d
        show spec_l03OK.l0 (q + 1) t i = _
        rw [spec_l03OK.l0, if_pos (by omega), if_pos (by omega), ← hx, e]
        simp only [Option.bind_some, if_true]
        exact d
      · obtain ⟨F, f2⟩ := f2
        refine ⟨B + C + F + 1, fun k hk => ?_⟩
        obtain ⟨q, rfl⟩ : ∃ q, k = q + 1 := ⟨k - 1, by omega⟩
        have e := e2 q (by omega)
        have c := e3 q (by omega)
        have f := f2 q (by omega)
        simp only at e c f
        have wi : wrap64 ((i : Int) + 1) = ((i + 1 : Nat) : Int) := wrap_id _ (by omega) (by omega)
        show impl_SchemaOK.l0 (q + 1) t t t.length i = _
        rw [impl_SchemaOK.l0, if_pos (by omega), if_pos (by omega), if_pos (by omega), ← hx, e]
        simp only [Option.bind_some, if_true, c, wi]
        rw [← hfirst]
        by_cases g : findN t.length (named t x.f0) = (i : Int)
        · rw [if_pos (by omega), decide_eq_true g, if_pos rfl]
          exact f
        · rw [if_neg (by omega), decide_eq_false g, if_neg (by decide)]

theorem schema_both (t : List S80) (h : smRules t) : ∃ r, Ev (fun k => spec_l03OK.f k t) r ∧ Ev (fun k => impl_SchemaOK.f k t) r ∧ (r = true → 1 ≤ t.length ∧ t.length ≤ 8) := by
  by_cases hl : 1 ≤ (t.length : Int) ∧ (t.length : Int) ≤ 8
  · obtain ⟨r, ⟨A, e1⟩, ⟨B, e2⟩⟩ := schemas t h (by omega) (by omega) t.length 0 (by omega)
    refine ⟨r, ⟨A, fun k hk => ?_⟩, ⟨B, fun k hk => ?_⟩, fun _ => by omega⟩
    · have e := e1 k hk
      simp only [Int.natCast_zero] at e
      show spec_l03OK.f k t = _
      simp only [spec_l03OK.f, rin_eq, Option.bind_some, decide_eq_true hl, if_true, e]
    · have e := e2 k hk
      simp only [Int.natCast_zero] at e
      show impl_SchemaOK.f k t = _
      simp only [impl_SchemaOK.f, rwithin_eq, Option.bind_some, decide_eq_true hl, if_true, e]
  · refine ⟨false, ⟨0, fun k hk => ?_⟩, ⟨0, fun k hk => ?_⟩, fun g => by cases g⟩
    · show spec_l03OK.f k t = _
      simp only [spec_l03OK.f, rin_eq, Option.bind_some, decide_eq_false hl, Bool.false_eq_true, if_false]
    · show impl_SchemaOK.f k t = _
      simp only [impl_SchemaOK.f, rwithin_eq, Option.bind_some, decide_eq_false hl, Bool.false_eq_true, if_false]

theorem smRules_of (l : List S75) (s0 : l.length ≤ 1048576 ∧ ∀ y ∈ l, sm75 y) : smRules (l.map cv75) := by
  refine ⟨by rw [List.length_map]; exact s0.1, fun y hy => ?_⟩
  obtain ⟨z, hz, rfl⟩ := List.mem_map.1 hy
  have hsz := (s0.2 z hz).2.2
  refine ⟨Nat.le_trans (Nat.le_of_eq (show (z.f2.map cv158).length = _ from List.length_map _)) hsz.1, fun w hw => ?_⟩
  obtain ⟨v, hv, rfl⟩ := (List.mem_map (f := cv158) (l := z.f2)).1 hw
  exact (hsz.2 v hv).1

end Go.Proofs.Ytpilinnhikpcfaa.Pure
namespace Go.Proofs.Ytpilinnhikpcfaa.Pure
set_option linter.unusedVariables false
open Go.RowKit Go.Proofs.Ytpilinnhikpcfaa.XA Go.Proofs.Ytpilinnhikpcfaa.Pk Go.Proofs.YtpilinnhikpcfaaW.PrintWords Go.Proofs.YtpilinnhikpcfaaW.PrintLast Go.Proofs.YtpilinnhikpcfaaW.PrintMore

theorem kind_spec (t : List S80) (a : ByteArray) (h : t.length ≤ 1048576) : Ev (fun k => spec_l03Kind.f k t a) (findN t.length (named t a) + 1) := by
  have key : ∀ m i : Nat, i + m = t.length → Ev (fun k => spec_l03Kind.l0 k t a i) (if findN m (fun j => named t a (i + j)) < 0 then 0 else findN m (fun j => named t a (i + j)) + i + 1) := by
    intro m
    induction m with
    | zero =>
      intro i hi
      exact Ev.step (fun k => by
        show spec_l03Kind.l0 (k + 1) t a i = some 0
        rw [spec_l03Kind.l0, if_neg (by omega)]) (Ev.now _)
    | succ m ih =>
      intro i hi
      have hn := ih (i + 1) (by omega)
      have e : findN m (fun j => named t a (i + (j + 1))) = findN m (fun j => named t a (i + 1 + j)) := congrArg (findN m) (funext fun j => by rw [Nat.add_assoc, Nat.add_comm 1 j])
      have e0 : findN (m + 1) (fun j => named t a (i + j)) = if named t a (i + 0) = true then 0 else if findN m (fun j => named t a (i + 1 + j)) < 0 then -1 else findN m (fun j => named t a (i + 1 + j)) + 1 := by rw [← e]; rfl
      rw [e0]
      have hg := findN_ge m (fun j => named t a (i + 1 + j))
      generalize findN m (fun j => named t a (i + 1 + j)) = g at hn hg
      have wi : wrap64 ((i : Int) + 1) = ((i + 1 : Nat) : Int) := wrap_id _ (by omega) (by omega)
      cases hp : named t a (i + 0) with
      | true =>
        simp only [if_true]
        rw [if_neg (by decide)]
        unfold named at hp
        exact Ev.step (fun k => by
          show spec_l03Kind.l0 (k + 1) t a i = some _
          rw [spec_l03Kind.l0, if_pos (by omega), if_pos (by omega), if_pos (show (rd_T80 t (i : Int)).f0.toList = a.toList from eq_of_beq hp), wi]
          congr 1
          omega) (Ev.now _)
      | false =>
        simp only [Bool.false_eq_true, if_false]
        unfold named at hp
        refine Ev.step (fun k => by
          show spec_l03Kind.l0 (k + 1) t a i = spec_l03Kind.l0 k t a ((i + 1 : Nat) : Int)
          rw [spec_l03Kind.l0, if_pos (by omega), if_pos (by omega), if_neg (by intro q; exact absurd (beq_iff_eq.2 q) (by rw [show ((rd_T80 t i).f0.toList == a.toList) = false from hp]; decide)), wi]) ?_
        by_cases hlt : g < 0
        · rw [if_pos hlt] at hn
          rw [if_pos hlt, if_pos (by decide)]
          exact hn
        · rw [if_neg hlt] at hn
          rw [if_neg hlt, if_neg (by omega), show g + 1 + (i : Int) + 1 = g + ((i + 1 : Nat) : Int) + 1 by omega]
          exact hn
  have h0 := key t.length 0 (by omega)
  rw [show findN t.length (fun j => named t a (0 + j)) = findN t.length (named t a) from congrArg (findN t.length) (funext fun j => by rw [Nat.zero_add])] at h0
  have hge := findN_ge t.length (named t a)
  have e : (if findN t.length (named t a) < 0 then 0 else findN t.length (named t a) + ((0 : Nat) : Int) + 1) = findN t.length (named t a) + 1 := by split <;> omega
  rw [e] at h0
  exact h0

theorem kind_all (t : List S80) (a : ByteArray) (h : smRules t) : ∃ (r0 : Int) (r1 : Int), Ev (fun k => spec_KindOf.f k t a) (r0, r1) ∧ Ev (fun k => impl_KindOf.f k t a) (r0, r1) := by
  by_cases h1 : (t.length : Int) > 4096
  · refine ⟨0, 2, ⟨1, fun k hk => ?_⟩, ⟨1, fun k hk => ?_⟩⟩
    all_goals obtain ⟨m, rfl⟩ : ∃ m, k = m + 1 := ⟨k - 1, by omega⟩
    · simp only [spec_KindOf.f, if_pos h1, spec_KindOf.j0, if_true]
    · simp only [impl_KindOf.f, impl_isLongList_impl_Rule.f, Option.bind_some, decide_eq_true h1, impl_KindOf.j0, if_true]
  by_cases h2 : (a.size : Int) > 65536
  · refine ⟨0, 2, ⟨1, fun k hk => ?_⟩, ⟨1, fun k hk => ?_⟩⟩
    all_goals obtain ⟨m, rfl⟩ : ∃ m, k = m + 1 := ⟨k - 1, by omega⟩
    · simp only [spec_KindOf.f, if_neg h1, decide_eq_true h2, spec_KindOf.j0, if_true]
    · simp only [impl_KindOf.f, impl_isLongList_impl_Rule.f, impl_isLong.f, Option.bind_some, decide_eq_false h1, decide_eq_true h2, impl_KindOf.j0, Bool.false_eq_true, if_false, if_true]
  obtain ⟨r, ⟨A, e1⟩, ⟨B, e2⟩, _⟩ := schema_both t h
  cases r with
  | false =>
    refine ⟨0, 1, ⟨A + 1, fun k hk => ?_⟩, ⟨B + 1, fun k hk => ?_⟩⟩
    all_goals obtain ⟨m, rfl⟩ : ∃ m, k = m + 1 := ⟨k - 1, by omega⟩
    · have e := e1 m (by omega)
      simp only at e
      simp only [spec_KindOf.f, if_neg h1, decide_eq_false h2, spec_KindOf.j0, Bool.false_eq_true, if_false, e, Option.bind_some]
    · have e := e2 m (by omega)
      simp only at e
      simp only [impl_KindOf.f, impl_isLongList_impl_Rule.f, impl_isLong.f, Option.bind_some, decide_eq_false h1, decide_eq_false h2, impl_KindOf.j0, Bool.false_eq_true, if_false, e]
  | true =>
    obtain ⟨C, e3⟩ := kind_spec t a h.1
    obtain ⟨D, e4⟩ := kind_impl t a h.1
    generalize findN t.length (named t a) + 1 = v at e3 e4
    by_cases hv : v = 0
    · refine ⟨0, 5, ⟨A + C + 1, fun k hk => ?_⟩, ⟨B + D + 1, fun k hk => ?_⟩⟩
      all_goals obtain ⟨m, rfl⟩ : ∃ m, k = m + 1 := ⟨k - 1, by omega⟩
      · have e := e1 m (by omega)
        have e' := e3 m (by omega)
        simp only at e e'
        simp only [spec_KindOf.f, if_neg h1, decide_eq_false h2, spec_KindOf.j0, Bool.false_eq_true, if_false, e, e', Option.bind_some, if_true, if_pos hv]
      · have e := e2 m (by omega)
        have e' := e4 m (by omega)
        simp only at e e'
        simp only [impl_KindOf.f, impl_isLongList_impl_Rule.f, impl_isLong.f, Option.bind_some, decide_eq_false h1, decide_eq_false h2, impl_KindOf.j0, Bool.false_eq_true, if_false, e, e', if_true, if_pos hv]
    · refine ⟨v, 0, ⟨A + C + 1, fun k hk => ?_⟩, ⟨B + D + 1, fun k hk => ?_⟩⟩
      all_goals obtain ⟨m, rfl⟩ : ∃ m, k = m + 1 := ⟨k - 1, by omega⟩
      · have e := e1 m (by omega)
        have e' := e3 m (by omega)
        simp only at e e'
        simp only [spec_KindOf.f, if_neg h1, decide_eq_false h2, spec_KindOf.j0, Bool.false_eq_true, if_false, e, e', Option.bind_some, if_true, if_neg hv]
      · have e := e2 m (by omega)
        have e' := e4 m (by omega)
        simp only at e e'
        simp only [impl_KindOf.f, impl_isLongList_impl_Rule.f, impl_isLong.f, Option.bind_some, decide_eq_false h1, decide_eq_false h2, impl_KindOf.j0, Bool.false_eq_true, if_false, e, e', if_true, if_neg hv]

theorem FnExactKindOf : laws_FnExactKindOf.Pure := core_FnExactKindOf (fun x0 x1 _ _ s0 _ => kind_all _ _ (smRules_of x0 s0))

end Go.Proofs.Ytpilinnhikpcfaa.Pure
