/- The program's SchemaLines answers what the reference's answers, for each schema: the pure statement of FnExactSchemaLines. Conditions: none. -/
import Derived.Test.YthkbgbkglgmpoaaPk
import Derived.Test.YthkbgbkglgmpoaaYSchemaLinesK
set_option linter.unusedVariables false
set_option linter.unusedSimpArgs false
namespace Go.Proofs.Ythkbgbkglgmpoaa.Pure
set_option linter.unusedVariables false
open Go.RowKit Go.Proofs.Ythkbgbkglgmpoaa.XA Go.Proofs.Ythkbgbkglgmpoaa.Pk Go.Proofs.YthkbgbkglgmpoaaW.PrintWords Go.Proofs.YthkbgbkglgmpoaaW.PrintLast Go.Proofs.YthkbgbkglgmpoaaW.PrintMore
theorem rin_eq (x lo hi : Int) : spec_l01In.f x lo hi = some (decide (lo ≤ x ∧ x ≤ hi)) := by
 unfold spec_l01In.f
 by_cases h : x ≥ lo
 ·rw [if_pos h]; exact congrArg some (decide_eq_decide.2 ⟨fun g => ⟨h, g⟩, fun g => g.2⟩)
 ·rw [if_neg h]; exact congrArg some (decide_eq_false fun g => h g.1).symm
theorem rwithin_eq (x lo hi : Int) : impl_within.f x lo hi = some (decide (lo ≤ x ∧ x ≤ hi)) := rin_eq x lo hi
def kindAt (n : Int) (l : List Int) (i : Nat) : Bool := decide (1 ≤ rd l i ∧ rd l i ≤ n) && (decide (i = 0) || decide (rd l ((i : Int) - 1) < rd l i))
def tOk (n : Int) (l : List Int) (m : Int) : Bool := decide (0 < l.length) && (decide (0 ≤ m ∧ m ≤ 3) && allN l.length (kindAt n l))
theorem rising (n : Int) (l : List Int) (h : allN l.length (kindAt n l) = true) : ∀ i : Nat, i < l.length → (i : Int) + 1 ≤ rd l i := by
 rw [allN_iff] at h
 intro i
 induction i with
 | zero =>
  intro hi
  have := h 0 hi
  unfold kindAt at this
  rw [Bool.and_eq_true, decide_eq_true_eq] at this
  have := this.1.1
  omega
 | succ i ih =>
  intro hi
  have h1 := ih (by omega)
  have := h (i + 1) hi
  unfold kindAt at this
  rw [Bool.and_eq_true, Bool.or_eq_true, decide_eq_true_eq, decide_eq_true_eq] at this
  rcases this.2 with h2 | h2
  ·omega
  ·have h2 := of_decide_eq_true h2
   rw [show ((i + 1 : Nat) : Int) - 1 = (i : Int) by omega] at h2
   omega
theorem rising_len (n : Int) (l : List Int) (h : allN l.length (kindAt n l) = true) (h0 : 0 < l.length) : (l.length : Int) ≤ n := by
 have h1 := rising n l h (l.length - 1) (by omega)
 rw [allN_iff] at h
 have := h (l.length - 1) (by omega)
 unfold kindAt at this
 rw [Bool.and_eq_true, decide_eq_true_eq] at this
 have := this.1.2
 omega
theorem term_spec (n : Int) (l : List Int) (m : Int) (hl : l.length ≤ 1048576) : Ev (fun k => spec_l03Term.f k l m n) (tOk n l m) := by
 have key : Ev (fun k => spec_l03Term.l0 k n 0 l m) (allN l.length (kindAt n l)) := by
  refine all_loop l.length _ (fun k i => spec_l03Term.l0 k n i l m) ?_ ?_ ?_
  ·intro i r hi hp hr
   unfold kindAt at hp
   rw [Bool.and_eq_true, Bool.or_eq_true, decide_eq_true_eq, decide_eq_true_eq] at hp
   obtain ⟨hin, hup⟩ := hp
   exact Ev.step (fun k => by
    show spec_l03Term.l0 (k + 1) n i l m = spec_l03Term.l0 k n ((i : Int) + 1) l m
    rw [spec_l03Term.l0, if_pos (by omega), if_pos (by omega), rin_eq, wrap_id ((i : Int) + 1) (by omega) (by omega)]
    simp only [Option.bind_some]
    rw [if_pos (decide_eq_true hin)]
    by_cases h0 : (i : Int) > 0
    ·rw [if_pos h0, wrap_id ((i : Int) - 1) (by omega) (by omega), if_pos (by omega), if_pos (by omega), if_neg (by
      rcases hup with h | h
      ·omega
      ·have := of_decide_eq_true h; omega)]
    ·rw [if_neg h0]) hr
  ·intro i hi hp
   exact Ev.step (fun k => by
    show spec_l03Term.l0 (k + 1) n i l m = some false
    rw [spec_l03Term.l0, if_pos (by omega), if_pos (by omega), rin_eq]
    simp only [Option.bind_some]
    unfold kindAt at hp
    by_cases hin : 1 ≤ rd l i ∧ rd l i ≤ n
    ·rw [decide_eq_true hin, Bool.true_and, Bool.or_eq_false_iff] at hp
     have h0 := of_decide_eq_false hp.1
     have h1 := of_decide_eq_false hp.2
     rw [if_pos (decide_eq_true hin), if_pos (by omega), wrap_id ((i : Int) - 1) (by omega) (by omega), if_pos (by omega), if_pos (by omega), if_pos (by omega)]
    ·rw [if_neg (by rw [decide_eq_false hin]; decide)]) (Ev.now false)
  ·exact Ev.step (fun k => by
    show spec_l03Term.l0 (k + 1) n l.length l m = some true
    rw [spec_l03Term.l0, if_neg (by omega)]) (Ev.now true)
 obtain ⟨K, key⟩ := key
 refine ⟨K + 1, fun k hk => ?_⟩
 obtain ⟨k, rfl⟩ : ∃ j, k = j + 1 := ⟨k - 1, by omega⟩
 have e := key k (by omega)
 simp only at e
 unfold tOk
 by_cases h0 : 0 < l.length
 ·by_cases h1 : (l.length : Int) > n
  ·have hf : allN l.length (kindAt n l) = false := by
    cases hc : allN l.length (kindAt n l)
    ·rfl
    ·have := rising_len n l hc h0; omega
   simp only [spec_l03Term.f, spec_l03Term.j0, if_neg (show ¬ (l.length : Int) = 0 by omega), if_pos h1, if_true, hf, Bool.and_false]
  ·simp only [spec_l03Term.f, spec_l03Term.j0, spec_l03Many.f, rin_eq, Option.bind_some, if_neg (show ¬ (l.length : Int) = 0 by omega), if_neg h1, decide_eq_true h0, Bool.true_and, e]
   by_cases h2 : 0 ≤ m ∧ m ≤ 3
   ·simp only [decide_eq_true h2, Bool.not_true, Bool.false_eq_true, if_false, Bool.true_and]
   ·simp only [decide_eq_false h2, Bool.not_false, if_true, Bool.false_and]
 ·simp only [spec_l03Term.f, spec_l03Term.j0, if_pos (show (l.length : Int) = 0 by omega), if_true, decide_eq_false h0, Bool.false_and]
theorem term_impl (n : Int) (l : List Int) (m : Int) (hl : l.length ≤ 1048576) : Ev (fun k => impl_isTerm.f k l m n) (tOk n l m) := by
 have key : Ev (fun k => impl_isTerm.l0 k n l l.length 0 l m) (if allN l.length (kindAt n l) = true then (decide (0 < l.length) && decide (0 ≤ m ∧ m ≤ 3)) else false) := by
  refine all_cps l.length _ (fun k i => impl_isTerm.l0 k n l l.length i l m) _ _ ?_ ?_ ?_
  ·intro i r hi hp hr
   unfold kindAt at hp
   rw [Bool.and_eq_true, Bool.or_eq_true, decide_eq_true_eq, decide_eq_true_eq] at hp
   obtain ⟨hin, hup⟩ := hp
   exact Ev.step (fun k => by
    show impl_isTerm.l0 (k + 1) n l l.length i l m = impl_isTerm.l0 k n l l.length ((i : Int) + 1) l m
    rw [impl_isTerm.l0, if_pos (by omega), if_pos (by omega), if_pos (by omega), rwithin_eq, wrap_id ((i : Int) + 1) (by omega) (by omega)]
    simp only [Option.bind_some]
    rw [if_pos (decide_eq_true hin)]
    by_cases h0 : (i : Int) > 0
    ·rw [if_pos h0, wrap_id ((i : Int) - 1) (by omega) (by omega), if_pos (by omega), if_pos (by omega), if_neg (by
      rcases hup with h | h
      ·omega
      ·have := of_decide_eq_true h; omega)]
    ·rw [if_neg h0]) hr
  ·intro i hi hp
   exact Ev.step (fun k => by
    show impl_isTerm.l0 (k + 1) n l l.length i l m = some false
    rw [impl_isTerm.l0, if_pos (by omega), if_pos (by omega), if_pos (by omega), rwithin_eq]
    simp only [Option.bind_some]
    unfold kindAt at hp
    by_cases hin : 1 ≤ rd l i ∧ rd l i ≤ n
    ·rw [decide_eq_true hin, Bool.true_and, Bool.or_eq_false_iff] at hp
     have h0 := of_decide_eq_false hp.1
     have h1 := of_decide_eq_false hp.2
     rw [if_pos (decide_eq_true hin), if_pos (by omega), wrap_id ((i : Int) - 1) (by omega) (by omega), if_pos (by omega), if_pos (by omega), if_pos (by omega)]
    ·rw [if_neg (by rw [decide_eq_false hin]; decide)]) (Ev.now false)
  ·exact Ev.step (f := fun _ => some (decide (0 < l.length) && decide (0 ≤ m ∧ m ≤ 3))) (fun k => by
    show impl_isTerm.l0 (k + 1) n l l.length l.length l m = _
    rw [impl_isTerm.l0, if_neg (by omega), rwithin_eq]
    by_cases h0 : 0 < l.length
    ·rw [if_pos (by omega), decide_eq_true h0, Bool.true_and]
     rfl
    ·rw [if_neg (by omega), decide_eq_false h0, Bool.false_and]) (Ev.now _)
 obtain ⟨K, key⟩ := key
 refine ⟨K, fun k hk => ?_⟩
 have e := key k hk
 simp only at e
 show impl_isTerm.f k l m n = _
 unfold impl_isTerm.f
 rw [e]
 unfold tOk
 cases allN l.length (kindAt n l) <;> simp
def smTerms (terms : List S78) : Prop := terms.length ≤ 1048576 ∧ ∀ x ∈ terms, x.f0.length ≤ 1048576
theorem terms_impl (n : Int) (t : List S78) (h : smTerms t) : Ev (fun k => impl_areTerms.f k t n) (decide (t.length ≤ 4) && allN t.length (fun i => tOk n (rd_T78 t i).f0 (rd_T78 t i).f1)) := by
 have hl := h.1
 have key : Ev (fun k => slices_IndexFunc_impl_Term_impl_Term_at_impl_areTerms_1.l0 k t t.length 0 n) (findN t.length (fun i => !tOk n (rd_T78 t i).f0 (rd_T78 t i).f1)) := by
  refine find_loop t.length _ (fun k i => slices_IndexFunc_impl_Term_impl_Term_at_impl_areTerms_1.l0 k t t.length i n) ?_ ?_ ?_
  ·intro i r hi hp hr'
   rw [Bool.not_eq_false'] at hp
   obtain ⟨K, e⟩ := term_impl n (rd_T78 t i).f0 (rd_T78 t i).f1 (h.2 _ (getD_mem t _ i hi))
   obtain ⟨K', hr'⟩ := hr'
   refine ⟨K + K' + 1, fun k hk => ?_⟩
   obtain ⟨m, rfl⟩ : ∃ m, k = m + 1 := ⟨k - 1, by omega⟩
   have e := e m (by omega)
   have e2 := hr' m (by omega)
   simp only at e e2
   show slices_IndexFunc_impl_Term_impl_Term_at_impl_areTerms_1.l0 (m + 1) t t.length i n = some r
   rw [slices_IndexFunc_impl_Term_impl_Term_at_impl_areTerms_1.l0, if_pos (by omega), if_pos (by omega), if_pos (by omega), impl_areTerms_1.f, e, hp]
   simp only [Option.bind_some, Bool.not_true, Bool.false_eq_true, if_false]
   rw [wrap_id _ (by omega) (by omega)]
   exact e2
  ·intro i hi hp
   rw [Bool.not_eq_true'] at hp
   obtain ⟨K, e⟩ := term_impl n (rd_T78 t i).f0 (rd_T78 t i).f1 (h.2 _ (getD_mem t _ i hi))
   refine ⟨K + 1, fun k hk => ?_⟩
   obtain ⟨m, rfl⟩ : ∃ m, k = m + 1 := ⟨k - 1, by omega⟩
   have e := e m (by omega)
   simp only at e
   show slices_IndexFunc_impl_Term_impl_Term_at_impl_areTerms_1.l0 (m + 1) t t.length i n = some (i : Int)
   rw [slices_IndexFunc_impl_Term_impl_Term_at_impl_areTerms_1.l0, if_pos (by omega), if_pos (by omega), if_pos (by omega), impl_areTerms_1.f, e, hp]
   simp only [Option.bind_some, Bool.not_false, if_true]
  ·exact Ev.step (fun k => by
    show slices_IndexFunc_impl_Term_impl_Term_at_impl_areTerms_1.l0 (k + 1) t t.length t.length n = some (-1)
    rw [slices_IndexFunc_impl_Term_impl_Term_at_impl_areTerms_1.l0, if_neg (by omega)]) (Ev.now _)
 obtain ⟨K, key⟩ := key
 refine ⟨K, fun k hk => ?_⟩
 have e := key k hk
 simp only at e
 show impl_areTerms.f k t n = _
 rw [all_of_any t.length]
 by_cases h4 : t.length ≤ 4
 ·simp only [impl_areTerms.f, if_pos (show (t.length : Int) ≤ 4 by omega), slices_ContainsFunc_impl_Term_impl_Term_at_impl_areTerms_1.f, slices_IndexFunc_impl_Term_impl_Term_at_impl_areTerms_1.f, e, Option.bind_some, findN_any, decide_eq_true h4, Bool.true_and]
 ·simp only [impl_areTerms.f, if_neg (show ¬ (t.length : Int) ≤ 4 by omega), decide_eq_false h4, Bool.false_and]
end Go.Proofs.Ythkbgbkglgmpoaa.Pure
namespace Go.Proofs.Ythkbgbkglgmpoaa.Pure
set_option linter.unusedVariables false
open Go.RowKit Go.Proofs.Ythkbgbkglgmpoaa.XA Go.Proofs.Ythkbgbkglgmpoaa.Pk Go.Proofs.YthkbgbkglgmpoaaW.PrintWords Go.Proofs.YthkbgbkglgmpoaaW.PrintLast Go.Proofs.YthkbgbkglgmpoaaW.PrintMore
theorem letter_some (c : Int) : ∃ b, spec_l00Letter.f c = some b := by
 unfold spec_l00Letter.f
 repeat' split
 all_goals exact ⟨_, rfl⟩
theorem letter_same (c : Int) : impl_isLetter.f c = spec_l00Letter.f c := rfl
theorem names (s : ByteArray) (hs : s.size ≤ 12) (d : Nat) : ∀ (k : Nat) (i : Int), 0 ≤ i → i ≤ s.size → (s.size : Int) - i = d → d < k →
  ∃ r, spec_l00Word.l0 k s i = some r ∧ impl_NameOK.l0 k s (s.size : Int) i = some r := by
 induction d with
 | zero =>
  intro k i h0 h1 hd hk
  obtain ⟨k, rfl⟩ : ∃ m, k = m + 1 := ⟨k - 1, by omega⟩
  refine ⟨true, ?_, ?_⟩
  ·simp only [spec_l00Word.l0]; rw [if_neg (by omega)]
  ·simp only [impl_NameOK.l0]; rw [if_neg (by omega)]
 | succ d ih =>
  intro k i h0 h1 hd hk
  obtain ⟨k, rfl⟩ : ∃ m, k = m + 1 := ⟨k - 1, by omega⟩
  have hlt : i < (s.size : Int) := by omega
  have hw : wrap64 (i + 1) = i + 1 := by unfold wrap64; omega
  obtain ⟨r, g1, g2⟩ := ih k (i + 1) (by omega) (by omega) (by omega) (by omega)
  simp only [spec_l00Word.l0, impl_NameOK.l0]
  rw [if_pos hlt, if_pos h0, if_pos hlt, if_pos h0, if_pos hlt, letter_same, hw]
  obtain ⟨b, hb⟩ := letter_some (bt s i)
  rw [hb]
  simp only [Option.bind_some]
  cases b with
  | true => exact ⟨r, by rw [if_pos rfl]; exact g1, by rw [if_pos rfl]; exact g2⟩
  | false =>
   rw [if_neg (by decide), if_neg (by decide)]
   unfold spec_l00Digit.f
   by_cases a : bt s i < 48
   ·exact ⟨false, by rw [if_neg (by omega)]; rfl, by rw [if_pos a]⟩
   ·rw [if_pos (by omega), if_neg a]
    by_cases c : bt s i > 57
    ·have e : decide (bt s i ≤ 57) = false := by simp; omega
     exact ⟨false, by simp [e], by rw [if_pos c]⟩
    ·have e : decide (bt s i ≤ 57) = true := by simp; omega
     exact ⟨r, by simp only [e, Option.bind_some]; rw [if_pos trivial]; exact g1, by rw [if_neg c]; exact g2⟩
theorem word_one (s : ByteArray) : ∃ r, spec_l00Word.f (s.size + 2) s = some r ∧ impl_NameOK.f (s.size + 2) s = some r := by
 unfold spec_l00Word.f impl_NameOK.f
 by_cases h1 : (s.size : Int) < 1
 ·exact ⟨false, by rw [if_pos h1]; simp [spec_l00Word.j0], by rw [if_pos h1]; simp [impl_NameOK.j0]⟩
 ·by_cases h2 : (s.size : Int) > 12
  ·exact ⟨false, by rw [if_neg h1, if_pos h2]; simp [spec_l00Word.j0], by rw [if_neg h1, if_pos h2]; simp [impl_NameOK.j0]⟩
  ·rw [if_neg h1, if_neg h1, if_neg h2, if_neg h2, if_pos (by omega), if_pos (by omega), letter_same]
   obtain ⟨b, hb⟩ := letter_some (bt s 0)
   rw [hb]
   simp only [Option.bind_some, spec_l00Word.j0, impl_NameOK.j0]
   cases b with
   | false => exact ⟨false, by simp, by simp⟩
   | true =>
    obtain ⟨r, g1, g2⟩ := names s (by omega) (s.size - 1) s.size 1 (by omega) (by omega) (by omega) (by omega)
    have g3 : spec_l00Word.l0 (s.size + 1) s 1 = some r := spec_l00Word.mono_l s.size |>.2 _ _ _ g1
    have g4 : impl_NameOK.l0 (s.size + 1) s (s.size : Int) 0 = some r := by
     simp only [impl_NameOK.l0]
     rw [if_pos (by omega), if_pos (by omega), if_pos (by omega), letter_same, hb]
     simp only [Option.bind_some]
     rw [if_pos trivial, show wrap64 (0 + 1) = 1 from by unfold wrap64; omega]
     exact g2
    simp only [Bool.not_true]
    exact ⟨r, by rw [if_neg (by decide)]; exact g3, by rw [if_neg (by decide)]; exact g4⟩
theorem word (s : ByteArray) : ∃ r, Ev (fun k => spec_l00Word.f k s) r ∧ Ev (fun k => impl_NameOK.f k s) r := by
 obtain ⟨r, h1, h2⟩ := word_one s
 exact ⟨r, Ev.of (spec_l00Word.mono s) h1, Ev.of (impl_NameOK.mono s) h2⟩
def rOk (n : Int) (nm : Bool) (name : ByteArray) (leaf : Bool) (terms : List S78) : Bool :=
 nm && (!decide (name.toList = ([116, 101, 120, 116] : List UInt8)) && (decide (terms.length ≤ 4) && (!(leaf && decide (0 < terms.length)) && allN terms.length (fun i => tOk n (rd_T78 terms i).f0 (rd_T78 terms i).f1))))
theorem terms_spec (n : Int) (name : ByteArray) (leaf : Bool) (t : List S78) (h : smTerms t) : Ev (fun k => spec_l03Rule.l0 k n 0 name leaf t) (allN t.length (fun i => tOk n (rd_T78 t i).f0 (rd_T78 t i).f1)) := by
 have hl := h.1
 refine all_loop t.length _ (fun k i => spec_l03Rule.l0 k n i name leaf t) ?_ ?_ ?_
 ·intro i r hi hp hr'
  obtain ⟨K, e⟩ := term_spec n (rd_T78 t i).f0 (rd_T78 t i).f1 (h.2 _ (getD_mem t _ i hi))
  obtain ⟨K', hr'⟩ := hr'
  refine ⟨K + K' + 1, fun k hk => ?_⟩
  obtain ⟨m, rfl⟩ : ∃ m, k = m + 1 := ⟨k - 1, by omega⟩
  have e := e m (by omega)
  have e2 := hr' m (by omega)
  simp only at e e2
  show spec_l03Rule.l0 (m + 1) n i name leaf t = some r
  rw [spec_l03Rule.l0, if_pos (by omega), if_pos (by omega), e, hp]
  simp only [Option.bind_some, if_true]
  rw [wrap_id _ (by omega) (by omega)]
  exact e2
 ·intro i hi hp
  obtain ⟨K, e⟩ := term_spec n (rd_T78 t i).f0 (rd_T78 t i).f1 (h.2 _ (getD_mem t _ i hi))
  refine ⟨K + 1, fun k hk => ?_⟩
  obtain ⟨m, rfl⟩ : ∃ m, k = m + 1 := ⟨k - 1, by omega⟩
  have e := e m (by omega)
  simp only at e
  show spec_l03Rule.l0 (m + 1) n i name leaf t = some false
  rw [spec_l03Rule.l0, if_pos (by omega), if_pos (by omega), e, hp]
  simp only [Option.bind_some, Bool.false_eq_true, if_false]
 ·exact Ev.step (fun k => by
   show spec_l03Rule.l0 (k + 1) n t.length name leaf t = some true
   rw [spec_l03Rule.l0, if_neg (by omega)]) (Ev.now true)
theorem rule_spec (n : Int) (nm : Bool) (name : ByteArray) (leaf : Bool) (t : List S78) (h : smTerms t) (hw : Ev (fun k => spec_l00Word.f k name) nm) : Ev (fun k => spec_l03Rule.f k name leaf t n) (rOk n nm name leaf t) := by
 obtain ⟨A, e1⟩ := hw
 obtain ⟨B, e2⟩ := terms_spec n name leaf t h
 refine ⟨A + B + 1, fun k hk => ?_⟩
 obtain ⟨k, rfl⟩ : ∃ j, k = j + 1 := ⟨k - 1, by omega⟩
 have e1 := e1 (k + 1) (by omega)
 have e2 := e2 k (by omega)
 simp only at e1 e2
 show spec_l03Rule.f (k + 1) name leaf t n = _
 unfold rOk
 simp only [spec_l03Rule.f, spec_l03Rule.j0, e1, e2, Option.bind_some]
 cases nm
 ·simp
 ·by_cases ht : name.toList = ([116, 101, 120, 116] : List UInt8)
  ·simp [ht]
  ·by_cases h4 : t.length ≤ 4
   ·have h4' : ¬ (t.length : Int) > 4 := by omega
    cases leaf
    ·simp [ht, h4, h4']
    ·by_cases h0 : 0 < t.length
     ·have h0' : (t.length : Int) > 0 := by omega
      simp [ht, h4, h4', h0, h0']
     ·have h0' : ¬ (t.length : Int) > 0 := by omega
      simp [ht, h4, h4', h0, h0']
   ·have h4' : (t.length : Int) > 4 := by omega
    simp [ht, h4, h4']
theorem rule_impl (n : Int) (nm : Bool) (name : ByteArray) (leaf : Bool) (t : List S78) (h : smTerms t) (hw : Ev (fun k => impl_NameOK.f k name) nm) : Ev (fun k => impl_RuleOK.f k name leaf t n) (decide (1 ≤ n ∧ n ≤ 8) && rOk n nm name leaf t) := by
 obtain ⟨B, e2⟩ := hw
 obtain ⟨C, e3⟩ := terms_impl n t h
 refine ⟨B + C, fun k hk => ?_⟩
 have e2 := e2 k (by omega)
 have e3 := e3 k (by omega)
 simp only at e2 e3
 show impl_RuleOK.f k name leaf t n = _
 simp only [impl_RuleOK.f, rwithin_eq, Option.bind_some, e2, e3]
 unfold rOk
 by_cases hn : 1 ≤ n ∧ n ≤ 8
 ·simp only [decide_eq_true hn, if_true, Bool.true_and]
  cases nm
  ·simp
  ·by_cases ht : name.toList = ([116, 101, 120, 116] : List UInt8)
   ·simp [ht]
   ·cases leaf
    ·simp [ht]
    ·by_cases h0 : 0 < t.length
     ·have h0' : t ≠ [] := by intro g; subst g; simp at h0
      simp [ht, h0, h0']
     ·have h0' : t = [] := List.length_eq_zero_iff.1 (by omega)
      subst h0'
      simp [ht]
 ·simp only [decide_eq_false hn, Bool.false_and, Bool.false_eq_true, if_false]
end Go.Proofs.Ythkbgbkglgmpoaa.Pure
namespace Go.Proofs.Ythkbgbkglgmpoaa.Pure
set_option linter.unusedVariables false
open Go.RowKit Go.Proofs.Ythkbgbkglgmpoaa.XA Go.Proofs.Ythkbgbkglgmpoaa.Pk Go.Proofs.YthkbgbkglgmpoaaW.PrintWords Go.Proofs.YthkbgbkglgmpoaaW.PrintLast Go.Proofs.YthkbgbkglgmpoaaW.PrintMore
theorem findN_first (n : Nat) (p : Nat → Bool) : ∀ i : Nat, i < n → p i = true → decide (findN n p = (i : Int)) = allN i (fun j => !p j) := by
 induction n generalizing p with
 | zero => intro i hi; omega
 | succ n ih =>
  intro i hi hp
  rw [findN]
  cases i with
  | zero =>
   rw [if_pos hp]
   rfl
  | succ i =>
   have h := ih (fun j => p (j + 1)) i (by omega) hp
   have hge := findN_ge n (fun j => p (j + 1))
   rw [allN]
   cases h0 : p 0 with
   | true => simp; omega
   | false =>
    rw [if_neg (by decide), Bool.not_false, Bool.true_and, ← h]
    by_cases hlt : findN n (fun j => p (j + 1)) < 0
    ·rw [if_pos hlt, decide_eq_false (by omega), decide_eq_false (by omega)]
    ·rw [if_neg hlt]
     apply decide_eq_decide.2
     omega
def smRules (t : List S97) : Prop := t.length ≤ 1048576 ∧ ∀ x ∈ t, smTerms x.f2
def named (t : List S97) (a : ByteArray) (i : Nat) : Bool := ((rd_T97 t i).f0).toList == a.toList
theorem index_impl (t : List S97) (a : ByteArray) (h : t.length ≤ 1048576) : Ev (fun k => slices_IndexFunc_impl_Rule_impl_Rule_at_impl_kindOf_1.f k t a) (findN t.length (named t a)) := by
 refine find_loop t.length _ (fun k i => slices_IndexFunc_impl_Rule_impl_Rule_at_impl_kindOf_1.l0 k t t.length i a) ?_ ?_ ?_
 ·intro i r hi hp hr
  exact Ev.step (fun k => by
   show slices_IndexFunc_impl_Rule_impl_Rule_at_impl_kindOf_1.l0 (k + 1) t t.length i a = slices_IndexFunc_impl_Rule_impl_Rule_at_impl_kindOf_1.l0 k t t.length ((i : Int) + 1) a
   rw [slices_IndexFunc_impl_Rule_impl_Rule_at_impl_kindOf_1.l0, if_pos (by omega), if_pos (by omega), if_pos (by omega), impl_kindOf_1.f]
   simp only [Option.bind_some]
   unfold named at hp
   rw [hp, if_neg (by decide), wrap_id _ (by omega) (by omega)]) hr
 ·intro i hi hp
  exact Ev.step (fun k => by
   show slices_IndexFunc_impl_Rule_impl_Rule_at_impl_kindOf_1.l0 (k + 1) t t.length i a = some (i : Int)
   rw [slices_IndexFunc_impl_Rule_impl_Rule_at_impl_kindOf_1.l0, if_pos (by omega), if_pos (by omega), if_pos (by omega), impl_kindOf_1.f]
   simp only [Option.bind_some]
   unfold named at hp
   rw [hp, if_pos rfl]) (Ev.now _)
 ·exact Ev.step (fun k => by
   show slices_IndexFunc_impl_Rule_impl_Rule_at_impl_kindOf_1.l0 (k + 1) t t.length t.length a = some (-1)
   rw [slices_IndexFunc_impl_Rule_impl_Rule_at_impl_kindOf_1.l0, if_neg (by omega)]) (Ev.now _)
theorem findN_lt (n : Nat) (p : Nat → Bool) : findN n p < n ∨ n = 0 := by
 induction n generalizing p with
 | zero => exact .inr rfl
 | succ n ih =>
  refine .inl ?_
  rw [findN]
  split
  ·omega
  ·split
   ·omega
   ·have := findN_ge n (fun i => p (i + 1))
    rcases ih (fun i => p (i + 1)) with h | h
    ·omega
    ·subst h; rename_i hlt; exact absurd (show findN 0 (fun i => p (i + 1)) < 0 from (by show (-1 : Int) < 0; omega)) hlt
theorem kind_impl (t : List S97) (a : ByteArray) (h : t.length ≤ 1048576) : Ev (fun k => impl_kindOf.f k t a) (findN t.length (named t a) + 1) := by
 obtain ⟨K, e⟩ := index_impl t a h
 refine ⟨K, fun k hk => ?_⟩
 have e := e k hk
 simp only at e
 have h1 := findN_ge t.length (named t a)
 have h2 := findN_lt t.length (named t a)
 show impl_kindOf.f k t a = _
 simp only [impl_kindOf.f, e, Option.bind_some]
 have h3 : findN t.length (named t a) ≤ t.length := by
  rcases h2 with h2 | h2
  ·omega
  ·rw [h2]; simp [findN]
 rw [wrap_id _ (by omega) (by omega)]
def ruleG (t : List S97) (j : Nat) : Prop := Ev (fun k => spec_l00Word.f k (rd_T97 t (j : Int)).f0) true ∧ rOk t.length true (rd_T97 t (j : Int)).f0 (rd_T97 t (j : Int)).f1 (rd_T97 t (j : Int)).f2 = true ∧ allN j (fun q => !named t (rd_T97 t (j : Int)).f0 q) = true
theorem schemas (t : List S97) (h : smRules t) (h1 : 1 ≤ t.length) (h8 : t.length ≤ 8) : ∀ m i : Nat, i + m = t.length →
  ∃ r, Ev (fun k => spec_l03OK.l0 k t i) r ∧ Ev (fun k => impl_SchemaOK.l0 k t t t.length i) r ∧ (r = true → ∀ j, i ≤ j → j < t.length → ruleG t j) := by
 intro m
 induction m with
 | zero =>
  intro i hi
  refine ⟨true, Ev.step (fun k => ?_) (Ev.now _), Ev.step (fun k => ?_) (Ev.now _), fun _ j h1 h2 => by omega⟩
  ·show spec_l03OK.l0 (k + 1) t i = some true
   rw [spec_l03OK.l0, if_neg (by omega)]
  ·show impl_SchemaOK.l0 (k + 1) t t t.length i = some true
   rw [impl_SchemaOK.l0, if_neg (by omega)]
 | succ m ih =>
  intro i hi
  obtain ⟨r, f1, f2, f3⟩ := ih (i + 1) (by omega)
  obtain ⟨x, hx⟩ : ∃ x, x = rd_T97 t i := ⟨_, rfl⟩
  have hsm : smTerms x.f2 := by rw [hx]; exact h.2 _ (getD_mem t _ i (by omega))
  obtain ⟨nm, hs, hi'⟩ := word x.f0
  obtain ⟨A, e1⟩ := rule_spec t.length nm x.f0 x.f1 x.f2 hsm hs
  obtain ⟨B, e2⟩ := rule_impl t.length nm x.f0 x.f1 x.f2 hsm hi'
  rw [decide_eq_true (show 1 ≤ (t.length : Int) ∧ (t.length : Int) ≤ 8 by omega), Bool.true_and] at e2
  cases hr : rOk t.length nm x.f0 x.f1 x.f2 with
  | false =>
   rw [hr] at e1 e2
   refine ⟨false, ⟨A + 1, fun k hk => ?_⟩, ⟨B + 1, fun k hk => ?_⟩, fun g => by cases g⟩
   all_goals obtain ⟨q, rfl⟩ : ∃ q, k = q + 1 := ⟨k - 1, by omega⟩
   ·have e := e1 q (by omega)
    simp only at e
    show spec_l03OK.l0 (q + 1) t i = some false
    rw [spec_l03OK.l0, if_pos (by omega), if_pos (by omega), ← hx, e]
    simp only [Option.bind_some, Bool.false_eq_true, if_false]
   ·have e := e2 q (by omega)
    simp only at e
    show impl_SchemaOK.l0 (q + 1) t t t.length i = some false
    rw [impl_SchemaOK.l0, if_pos (by omega), if_pos (by omega), if_pos (by omega), ← hx, e]
    simp only [Option.bind_some, Bool.false_eq_true, if_false]
  | true =>
   rw [hr] at e1 e2
   have hself : named t x.f0 i = true := by unfold named; rw [← hx]; simp
   have hfirst := findN_first t.length (named t x.f0) i (by omega) hself
   obtain ⟨C, e3⟩ := kind_impl t x.f0 h.1
   have key := all_cps' i (fun j => !named t x.f0 j) (fun k j => spec_l03OK.l1 k t i j) r false
    (fun j r hj hp hr => Ev.step (fun k => by
     show spec_l03OK.l1 (k + 1) t i j = spec_l03OK.l1 k t i ((j : Int) + 1)
     rw [Bool.not_eq_true'] at hp
     unfold named at hp
     rw [spec_l03OK.l1, if_pos (by omega), if_pos (by omega), if_pos (by omega), if_pos (by omega), if_pos (by omega), ← hx, if_neg (by intro g; rw [g] at hp; simp at hp), wrap_id _ (by omega) (by omega)]) hr)
    (fun j hj hp => Ev.step (fun k => by
     show spec_l03OK.l1 (k + 1) t i j = some false
     rw [Bool.not_eq_false'] at hp
     unfold named at hp
     rw [spec_l03OK.l1, if_pos (by omega), if_pos (by omega), if_pos (by omega), if_pos (by omega), if_pos (by omega), ← hx, if_pos (eq_of_beq hp)]) (Ev.now false))
    (fun _ => Ev.step (fun k => by
     show spec_l03OK.l1 (k + 1) t i i = spec_l03OK.l0 k t ((i + 1 : Nat) : Int)
     rw [spec_l03OK.l1, if_neg (by omega), wrap_id _ (by omega) (by omega)]
     rfl) f1)
   refine ⟨if allN i (fun j => !named t x.f0 j) = true then r else false, ?_, ?_, ?_⟩
   ·obtain ⟨D, key⟩ := key
    refine ⟨A + D + 1, fun k hk => ?_⟩
    obtain ⟨q, rfl⟩ : ∃ q, k = q + 1 := ⟨k - 1, by omega⟩
    have e := e1 q (by omega)
    have d := key q (by omega)
    simp only at e d
    show spec_l03OK.l0 (q + 1) t i = _
    rw [spec_l03OK.l0, if_pos (by omega), if_pos (by omega), ← hx, e]
    simp only [Option.bind_some, if_true]
    exact d
   ·obtain ⟨F, f2⟩ := f2
    refine ⟨B + C + F + 1, fun k hk => ?_⟩
    obtain ⟨q, rfl⟩ : ∃ q, k = q + 1 := ⟨k - 1, by omega⟩
    have e := e2 q (by omega)
    have c := e3 q (by omega)
    have f := f2 q (by omega)
    simp only at e c f
    have wi : wrap64 ((i : Int) + 1) = ((i + 1 : Nat) : Int) := wrap_id _ (by omega) (by omega)
    show impl_SchemaOK.l0 (q + 1) t t t.length i = _
    rw [impl_SchemaOK.l0, if_pos (by omega), if_pos (by omega), if_pos (by omega), ← hx, e]
    simp only [Option.bind_some, if_true, c, wi]
    rw [← hfirst]
    by_cases g : findN t.length (named t x.f0) = (i : Int)
    ·rw [if_pos (by omega), decide_eq_true g, if_pos rfl]
     exact f
    ·rw [if_neg (by omega), decide_eq_false g, if_neg (by decide)]
   ·intro g j hj hjl
    have hall : allN i (fun j => !named t x.f0 j) = true := by
     by_cases c : allN i (fun j => !named t x.f0 j) = true
     ·exact c
     ·rw [if_neg c] at g; cases g
    rw [if_pos hall] at g
    by_cases e : j = i
    ·subst e
     have hnm : nm = true := by
      unfold rOk at hr
      simp only [Bool.and_eq_true] at hr
      exact hr.1
     subst hnm
     unfold ruleG
     rw [← hx]
     exact ⟨hs, hr, hall⟩
    ·exact f3 g j (by omega) hjl
theorem schema_more (t : List S97) (h : smRules t) : ∃ r, Ev (fun k => spec_l03OK.f k t) r ∧ Ev (fun k => impl_SchemaOK.f k t) r ∧ (r = true → (1 ≤ t.length ∧ t.length ≤ 8) ∧ ∀ j, j < t.length → ruleG t j) := by
 by_cases hl : 1 ≤ (t.length : Int) ∧ (t.length : Int) ≤ 8
 ·obtain ⟨r, ⟨A, e1⟩, ⟨B, e2⟩, e3⟩ := schemas t h (by omega) (by omega) t.length 0 (by omega)
  refine ⟨r, ⟨A, fun k hk => ?_⟩, ⟨B, fun k hk => ?_⟩, fun g => ⟨by omega, fun j hj => e3 g j (by omega) hj⟩⟩
  ·have e := e1 k hk
   simp only [Int.natCast_zero] at e
   show spec_l03OK.f k t = _
   simp only [spec_l03OK.f, rin_eq, Option.bind_some, decide_eq_true hl, if_true, e]
  ·have e := e2 k hk
   simp only [Int.natCast_zero] at e
   show impl_SchemaOK.f k t = _
   simp only [impl_SchemaOK.f, rwithin_eq, Option.bind_some, decide_eq_true hl, if_true, e]
 ·refine ⟨false, ⟨0, fun k hk => ?_⟩, ⟨0, fun k hk => ?_⟩, fun g => by cases g⟩
  ·show spec_l03OK.f k t = _
   simp only [spec_l03OK.f, rin_eq, Option.bind_some, decide_eq_false hl, Bool.false_eq_true, if_false]
  ·show impl_SchemaOK.f k t = _
   simp only [impl_SchemaOK.f, rwithin_eq, Option.bind_some, decide_eq_false hl, Bool.false_eq_true, if_false]
theorem smRules_of (l : List S93) (s0 : l.length ≤ 1048576 ∧ ∀ y ∈ l, sm93 y) : smRules (l.map cv93) := by
 refine ⟨by rw [List.length_map]; exact s0.1, fun y hy => ?_⟩
 obtain ⟨z, hz, rfl⟩ := List.mem_map.1 hy
 have hsz := (s0.2 z hz).2.2
 refine ⟨Nat.le_trans (Nat.le_of_eq (show (z.f2.map cv75).length = _ from List.length_map _)) hsz.1, fun w hw => ?_⟩
 obtain ⟨v, hv, rfl⟩ := (List.mem_map (f := cv75) (l := z.f2)).1 hw
 exact (hsz.2 v hv).1
end Go.Proofs.Ythkbgbkglgmpoaa.Pure
namespace Go.Proofs.Ythkbgbkglgmpoaa.Pure
set_option linter.unusedVariables false
set_option linter.unusedSimpArgs false
def wordc (c : UInt8) : Bool := decide (97 ≤ c.toNat ∧ c.toNat ≤ 122) || (decide (65 ≤ c.toNat ∧ c.toNat ≤ 90) || (decide (c.toNat = 95) || decide (48 ≤ c.toNat ∧ c.toNat ≤ 57)))
def Wd (w : List UInt8) : Prop := w ≠ [] ∧ ∀ c, c ∈ w → wordc c = true
def markB (m : Int) : List UInt8 := if m = 1 then [63] else if m = 2 then [42] else if m = 3 then [43] else []
def joinB : List (List UInt8) → List UInt8
 | [] => []
 | [w] => w
 | w :: v :: ws => w ++ 124 :: joinB (v :: ws)
def tailB : List (List UInt8) → List UInt8 → List UInt8
 | [], k => k
 | w :: ws, k => 124 :: (w ++ tailB ws k)
theorem join_tail (k : List UInt8) : ∀ (w : List UInt8) (ws : List (List UInt8)), joinB (w :: ws) ++ k = w ++ tailB ws k
 | w, [] => rfl
 | w, v :: ws => by
  rw [joinB, List.append_assoc, List.cons_append, join_tail k v ws]
  rfl
def termB (ws : List (List UInt8)) (m : Int) : List UInt8 := joinB ws ++ markB m
def restB (ts : List (List UInt8)) : List UInt8 := (ts.map (fun t => 32 :: t)).flatten
end Go.Proofs.Ythkbgbkglgmpoaa.Pure
namespace Go.Proofs.Ythkbgbkglgmpoaa.Pure
set_option linter.unusedVariables false
open Go.RowKit Go.Proofs.Ythkbgbkglgmpoaa.XA Go.Proofs.Ythkbgbkglgmpoaa.Pk Go.Proofs.YthkbgbkglgmpoaaW.PrintWords Go.Proofs.YthkbgbkglgmpoaaW.PrintLast Go.Proofs.YthkbgbkglgmpoaaW.PrintMore
def Lb (s : ByteArray) : List UInt8 := s.data.toList
theorem Lb_inj {a b : ByteArray} (h : Lb a = Lb b) : a = b := by
 cases a
 cases b
 exact congrArg ByteArray.mk (Array.ext' h)
theorem Lb_add (a b : ByteArray) : Lb (a ++ b) = Lb a ++ Lb b := by
 unfold Lb
 rw [_root_.ByteArray.data_append, Array.toList_append]
theorem Lb_len (a : ByteArray) : (Lb a).length = a.size := by
 unfold Lb
 rw [Array.length_toList]
 rfl
theorem wsuc (i : Nat) (h : i < 4611686018427387904) : wrap64 ((i : Int) + 1) = ((i + 1 : Nat) : Int) := wrap_id _ (by omega) (by omega)
def nmB (t : List S97) (x : Int) : List UInt8 := Lb (rd_T97 t (x - 1)).f0
theorem mark_bytes {m : Int} (hm : 0 ≤ m ∧ m ≤ 3) : Lb (rdOf ByteArray.empty ([(⟨#[]⟩ : ByteArray), (⟨#[63]⟩ : ByteArray), (⟨#[42]⟩ : ByteArray), (⟨#[43]⟩ : ByteArray)] : List ByteArray) m) = markB m ∧ (rdOf ByteArray.empty ([(⟨#[]⟩ : ByteArray), (⟨#[63]⟩ : ByteArray), (⟨#[42]⟩ : ByteArray), (⟨#[43]⟩ : ByteArray)] : List ByteArray) m).size ≤ 1 := by
 obtain ⟨h1, h2⟩ := hm
 rcases (by omega : m = 0 ∨ m = 1 ∨ m = 2 ∨ m = 3) with h | h | h | h
 all_goals subst h; exact ⟨rfl, by decide⟩
theorem drop_rd (l : List Int) (i : Nat) (h : i < l.length) : l.drop i = rd l (i : Int) :: l.drop (i + 1) := by
 rw [List.drop_eq_getElem_cons h]
 congr 1
 show _ = l.getD (i : Int).toNat 0
 simp [h]
def Nm (t : List S97) : Prop := t.length ≤ 1048576 ∧ ∀ j : Int, 0 ≤ j → j < t.length → (rd_T97 t j).f0.size ≤ 12
def goodT (t : List S97) (x : S78) : Prop := x.f0 ≠ [] ∧ x.f0.length ≤ 8 ∧ (∀ i : Nat, i < x.f0.length → 1 ≤ rd x.f0 i ∧ rd x.f0 i ≤ t.length) ∧ 0 ≤ x.f1 ∧ x.f1 ≤ 3
def txB (t : List S97) (x : S78) : List UInt8 := termB (x.f0.map (nmB t)) x.f1
theorem term_tail {t : List S97} (ht : Nm t) {l : List Int} {m : Int} (hl : l.length ≤ 1048576) (hk : ∀ i : Nat, i < l.length → 1 ≤ rd l i ∧ rd l i ≤ t.length) (hm : 0 ≤ m ∧ m ≤ 3) :
  ∀ (n i : Nat) (acc : ByteArray), 0 < i → i + n = l.length → acc.size + 13 * n + 1 ≤ 1000000000 → ∃ v, Ev (fun k => spec_l03TermText.l0 k t acc (i : Int) l m) v ∧ Lb v = Lb acc ++ tailB ((l.drop i).map (nmB t)) (markB m) ∧ v.size ≤ acc.size + 13 * n + 1 := by
 have hm' := mark_bytes hm
 intro n
 induction n with
 | zero =>
  intro i acc h0 hi hb
  refine ⟨acc ++ rdOf ByteArray.empty ([(⟨#[]⟩ : ByteArray), (⟨#[63]⟩ : ByteArray), (⟨#[42]⟩ : ByteArray), (⟨#[43]⟩ : ByteArray)] : List ByteArray) m, ?_, ?_, ?_⟩
  ·refine Ev.step (fun k => by rw [spec_l03TermText.l0]) ?_
   exact Ev.neg (by omega) (Ev.bind (Ev.now _) (Ev.pos hm.1 (Ev.pos (by show m < 4; omega) (Ev.pos (by have := hm'.2; omega) (Ev.now _)))))
  ·rw [Lb_add, hm'.1, List.drop_eq_nil_of_le (by omega)]
   rfl
  ·rw [_root_.ByteArray.size_append]
   have := hm'.2
   omega
 | succ n ih =>
  intro i acc h0 hi hb
  obtain ⟨k1, k2⟩ := hk i (by omega)
  have hs := ht.2 (rd l i - 1) (by omega) (by omega)
  have h1 := ht.1
  have w1 : wrap64 (rd l (i : Int) - 1) = rd l (i : Int) - 1 := wrap_id _ (by omega) (by omega)
  have e1 : (acc ++ (⟨#[124]⟩ : ByteArray)).size = acc.size + 1 := by rw [_root_.ByteArray.size_append]; rfl
  have e2 : ((acc ++ (⟨#[124]⟩ : ByteArray)) ++ (rd_T97 t (rd l (i : Int) - 1)).f0).size = acc.size + 1 + (rd_T97 t (rd l (i : Int) - 1)).f0.size := by rw [_root_.ByteArray.size_append, e1]
  obtain ⟨v, v1, v2, v3⟩ := ih (i + 1) ((acc ++ (⟨#[124]⟩ : ByteArray)) ++ (rd_T97 t (rd l (i : Int) - 1)).f0) (by omega) (by omega) (by omega)
  refine ⟨v, ?_, ?_, by omega⟩
  ·refine Ev.step (fun k => by rw [spec_l03TermText.l0]) ?_
   simp only [w1, wsuc i (by omega)]
   exact Ev.pos (by omega) (Ev.pos (by omega) (Ev.pos (by omega) (Ev.pos (by omega) (Ev.pos (by omega) (Ev.pos (by omega) (Ev.pos (by omega) v1))))))
  ·rw [v2, Lb_add, Lb_add, drop_rd l i (by omega), List.map_cons, tailB]
   show (Lb acc ++ [124] ++ nmB t (rd l i)) ++ _ = _
   simp
theorem term_text {t : List S97} (ht : Nm t) {x : S78} (hx : goodT t x) : ∃ v, Ev (fun k => spec_l03TermText.f k t x.f0 x.f1) v ∧ Lb v = txB t x ∧ v.size ≤ 120 := by
 obtain ⟨h0, h8, hk, hm⟩ := hx
 have hp : 0 < x.f0.length := by
  cases h : x.f0 with
  | nil => exact absurd h h0
  | cons a b => simp
 obtain ⟨k1, k2⟩ := hk 0 hp
 have hs := ht.2 (rd x.f0 (0 : Nat) - 1) (by omega) (by omega)
 have h1 := ht.1
 have w1 : wrap64 (rd x.f0 ((0 : Nat) : Int) - 1) = rd x.f0 ((0 : Nat) : Int) - 1 := wrap_id _ (by omega) (by omega)
 have e2 : ((⟨#[]⟩ : ByteArray) ++ (rd_T97 t (rd x.f0 ((0 : Nat) : Int) - 1)).f0).size = (rd_T97 t (rd x.f0 ((0 : Nat) : Int) - 1)).f0.size := by
  rw [_root_.ByteArray.size_append]
  show 0 + _ = _
  omega
 obtain ⟨v, v1, v2, v3⟩ := term_tail ht (by omega) hk hm (x.f0.length - 1) 1 ((⟨#[]⟩ : ByteArray) ++ (rd_T97 t (rd x.f0 ((0 : Nat) : Int) - 1)).f0) (by omega) (by omega) (by omega)
 refine ⟨v, ?_, ?_, by omega⟩
 ·show Ev (fun k => spec_l03TermText.l0 k t (⟨#[]⟩ : ByteArray) ((0 : Nat) : Int) x.f0 x.f1) v
  refine Ev.step (fun k => by rw [spec_l03TermText.l0]) ?_
  simp only [w1, wsuc 0 (by omega)]
  refine Ev.pos (by omega) (Ev.neg (by omega) (Ev.pos (by omega) (Ev.pos (by omega) (Ev.pos (by omega) (Ev.pos ?_ v1)))))
  show 0 + _ ≤ _
  omega
 ·rw [v2, Lb_add]
  unfold txB termB
  have e : x.f0 = rd x.f0 ((0 : Nat) : Int) :: x.f0.drop 1 := drop_rd x.f0 0 hp
  generalize rd x.f0 ((0 : Nat) : Int) = y at *
  generalize x.f0.drop 1 = ys at *
  rw [e, List.map_cons, join_tail]
  rfl
def restT (t : List S97) (ts : List S78) : List UInt8 := restB (ts.map (txB t))
theorem rest_loop {t : List S97} (ht : Nm t) {ts : List S78} (hg : ∀ x, x ∈ ts → goodT t x) (hl : ts.length ≤ 1048576) (nm : ByteArray) (lf : Bool) :
  ∀ (n i : Nat) (acc : ByteArray), i + n = ts.length → acc.size + 200 * n ≤ 1000000000 → ∃ v, Ev (fun k => spec_l03Line.l0 k t acc (i : Int) nm lf ts) v ∧ Lb v = Lb acc ++ restT t (ts.drop i) ∧ v.size ≤ acc.size + 200 * n := by
 intro n
 induction n with
 | zero =>
  intro i acc hi hb
  refine ⟨acc, ?_, ?_, by omega⟩
  ·refine Ev.step (fun k => by rw [spec_l03Line.l0]) ?_
   exact Ev.neg (by omega) (Ev.now _)
  ·rw [List.drop_eq_nil_of_le (by omega)]
   exact (List.append_nil _).symm
 | succ n ih =>
  intro i acc hi hb
  have hlt : i < ts.length := by omega
  obtain ⟨x, hx⟩ : ∃ x, x = rd_T78 ts (i : Int) := ⟨_, rfl⟩
  have hd : ts.drop i = x :: ts.drop (i + 1) := by
   rw [List.drop_eq_getElem_cons hlt, hx]
   congr 1
   show _ = ts.getD (i : Int).toNat z78
   simp [hlt]
  obtain ⟨tv, t1, t2, t3⟩ := term_text ht (hg x (by
   have : x ∈ ts.drop i := by rw [hd]; exact List.mem_cons_self
   exact List.mem_of_mem_drop this))
  have e1 : ((⟨#[32]⟩ : ByteArray) ++ tv).size = 1 + tv.size := by rw [_root_.ByteArray.size_append]; rfl
  have e2 : (acc ++ ((⟨#[32]⟩ : ByteArray) ++ tv)).size = acc.size + (1 + tv.size) := by rw [_root_.ByteArray.size_append, e1]
  obtain ⟨v, v1, v2, v3⟩ := ih (i + 1) (acc ++ ((⟨#[32]⟩ : ByteArray) ++ tv)) (by omega) (by omega)
  refine ⟨v, ?_, ?_, by omega⟩
  ·refine Ev.step (fun k => by rw [spec_l03Line.l0]) ?_
   rw [← hx]
   simp only [wsuc i (by omega)]
   exact Ev.pos (by omega) (Ev.pos (by omega) (Ev.bind t1 (Ev.pos (by omega) (Ev.pos (by omega) v1))))
  ·rw [v2, Lb_add, Lb_add, t2, hd]
   show Lb acc ++ ([32] ++ txB t x) ++ _ = Lb acc ++ restB ((x :: ts.drop (i + 1)).map (txB t))
   simp [restB, restT]
def lineB (t : List S97) (x : S97) : List UInt8 := Lb x.f0 ++ 58 :: ((if x.f1 = true then [32, 116, 101, 120, 116] else []) ++ restT t x.f2)
def goodR (t : List S97) (x : S97) : Prop := x.f0.size ≤ 12 ∧ x.f2.length ≤ 4 ∧ ∀ y, y ∈ x.f2 → goodT t y
theorem line_le {t : List S97} (ht : Nm t) {x : S97} (hx : goodR t x) : ∃ v, Ev (fun k => spec_l03Line.f k t x.f0 x.f1 x.f2) v ∧ Lb v = lineB t x ∧ v.size ≤ 2000 := by
 obtain ⟨h12, h4, hg⟩ := hx
 have e1 : (x.f0 ++ (⟨#[58]⟩ : ByteArray)).size = x.f0.size + 1 := by rw [_root_.ByteArray.size_append]; rfl
 cases hf : x.f1 with
 | false =>
  obtain ⟨v, v1, v2, v3⟩ := rest_loop ht hg (by omega) x.f0 false x.f2.length 0 (x.f0 ++ (⟨#[58]⟩ : ByteArray)) (by omega) (by omega)
  refine ⟨v, ?_, ?_, by omega⟩
  ·show Ev (fun k => if x.f0.size + 1 ≤ 9223372036854775807 then _ else _) v
   refine Ev.pos (by omega) (Ev.neg (by decide) ?_)
   refine Ev.step (fun k => by rw [spec_l03Line.j0]) ?_
   exact v1
  ·rw [v2, Lb_add]
   unfold lineB
   rw [hf, if_neg (by decide)]
   show Lb x.f0 ++ [58] ++ _ = _
   simp
 | true =>
  have e2 : ((x.f0 ++ (⟨#[58]⟩ : ByteArray)) ++ (⟨#[32, 116, 101, 120, 116]⟩ : ByteArray)).size = x.f0.size + 1 + 5 := by rw [_root_.ByteArray.size_append, e1]; rfl
  obtain ⟨v, v1, v2, v3⟩ := rest_loop ht hg (by omega) x.f0 true x.f2.length 0 ((x.f0 ++ (⟨#[58]⟩ : ByteArray)) ++ (⟨#[32, 116, 101, 120, 116]⟩ : ByteArray)) (by omega) (by omega)
  refine ⟨v, ?_, ?_, by omega⟩
  ·show Ev (fun k => if x.f0.size + 1 ≤ 9223372036854775807 then _ else _) v
   refine Ev.pos (by omega) (Ev.pos rfl (Ev.pos (by omega) ?_))
   refine Ev.step (fun k => by rw [spec_l03Line.j0]) ?_
   exact v1
  ·rw [v2, Lb_add, Lb_add]
   unfold lineB
   rw [hf, if_pos rfl]
   show Lb x.f0 ++ [58] ++ [32, 116, 101, 120, 116] ++ _ = _
   simp
theorem line {t : List S97} (ht : Nm t) {x : S97} (hx : goodR t x) : ∃ v, Ev (fun k => spec_l03Line.f k t x.f0 x.f1 x.f2) v ∧ Lb v = lineB t x := by
 obtain ⟨v, h1, h2, _⟩ := line_le ht hx
 exact ⟨v, h1, h2⟩
theorem lines_loop {t : List S97} (ht : Nm t) (hg : ∀ x, x ∈ t → goodR t x) : ∀ (n i : Nat) (acc : List ByteArray), i + n = t.length → acc.length + n ≤ 1000000000 → ∃ vs, Ev (fun k => spec_l03Lines.l0 k t acc (i : Int)) vs ∧ vs.map Lb = acc.map Lb ++ (t.drop i).map (lineB t) := by
 have hl := ht.1
 intro n
 induction n with
 | zero =>
  intro i acc hi hb
  refine ⟨acc, ?_, ?_⟩
  ·refine Ev.step (fun k => by rw [spec_l03Lines.l0]) ?_
   exact Ev.neg (by omega) (Ev.now _)
  ·rw [List.drop_eq_nil_of_le (by omega)]
   simp
 | succ n ih =>
  intro i acc hi hb
  have hlt : i < t.length := by omega
  obtain ⟨x, hx⟩ : ∃ x, x = rd_T97 t (i : Int) := ⟨_, rfl⟩
  have hd : t.drop i = x :: t.drop (i + 1) := by
   rw [List.drop_eq_getElem_cons hlt, hx]
   congr 1
   show _ = t.getD (i : Int).toNat z97
   simp [hlt]
  obtain ⟨tv, t1, t2⟩ := line ht (hg x (by
   have : x ∈ t.drop i := by rw [hd]; exact List.mem_cons_self
   exact List.mem_of_mem_drop this))
  obtain ⟨vs, v1, v2⟩ := ih (i + 1) (acc ++ [tv]) (by omega) (by simp; omega)
  refine ⟨vs, ?_, ?_⟩
  ·refine Ev.step (fun k => by rw [spec_l03Lines.l0]) ?_
   rw [← hx]
   simp only [wsuc i (by omega)]
   exact Ev.pos (by omega) (Ev.pos (by omega) (Ev.bind t1 (Ev.pos (by omega) v1)))
  ·rw [v2, hd]
   simp [t2]
theorem lines {t : List S97} (ht : Nm t) (hg : ∀ x, x ∈ t → goodR t x) : ∃ vs, Ev (fun k => spec_l03Lines.f k t) vs ∧ vs.map Lb = t.map (lineB t) := by
 have hl := ht.1
 obtain ⟨vs, h1, h2⟩ := lines_loop ht hg t.length 0 [] (by omega) (by simp; omega)
 exact ⟨vs, h1, by rw [h2]; rfl⟩
end Go.Proofs.Ythkbgbkglgmpoaa.Pure
namespace Go.Proofs.Ythkbgbkglgmpoaa.Pure
set_option linter.unusedVariables false
open Go.RowKit Go.Proofs.Ythkbgbkglgmpoaa.XA Go.Proofs.Ythkbgbkglgmpoaa.Pk Go.Proofs.YthkbgbkglgmpoaaW.PrintWords Go.Proofs.YthkbgbkglgmpoaaW.PrintLast Go.Proofs.YthkbgbkglgmpoaaW.PrintMore
def wOk (c : Int) : Prop := (97 ≤ c ∧ c ≤ 122) ∨ (65 ≤ c ∧ c ≤ 90) ∨ c = 95 ∨ (48 ≤ c ∧ c ≤ 57)
theorem letter_w {c : Int} (h : spec_l00Letter.f c = some true) : wOk c := by
 unfold wOk
 unfold spec_l00Letter.f at h
 repeat' split at h
 all_goals first | omega | (injection h with h; have h := eq_of_beq h; omega) | (injection h with h; have h := of_decide_eq_true h; omega)
theorem digit_w {c : Int} (h : spec_l00Digit.f c = some true) : wOk c := by
 unfold wOk
 unfold spec_l00Digit.f at h
 repeat' split at h
 all_goals first | omega | (injection h with h; have h := of_decide_eq_true h; omega) | (injection h with h; cases h)
theorem word_loop (s : ByteArray) (hs : s.size ≤ 12) : ∀ (k i : Nat), spec_l00Word.l0 k s (i : Int) = some true → ∀ j : Nat, i ≤ j → j < s.size → wOk (bt s (j : Int))
 | 0, i, h, j, _, _ => by cases h
 | k + 1, i, h, j, h1, h2 => by
  rw [spec_l00Word.l0, if_pos (by omega), if_pos (by omega), wsuc i (by omega)] at h
  obtain ⟨b, hb⟩ := letter_some (bt s (i : Int))
  rw [hb, Option.bind_some] at h
  cases b with
  | true =>
   rw [if_pos rfl] at h
   by_cases e : i = j
   ·subst e; exact letter_w hb
   ·exact word_loop s hs k (i + 1) h j (by omega) h2
  | false =>
   rw [if_neg (by decide)] at h
   obtain ⟨d, hd, h⟩ := Option.bind_eq_some_iff.1 h
   cases d with
   | false => rw [if_neg (by decide)] at h; cases h
   | true =>
    rw [if_pos rfl] at h
    by_cases e : i = j
    ·subst e; exact digit_w hd
    ·exact word_loop s hs k (i + 1) h j (by omega) h2
theorem word_chars {s : ByteArray} (h : Ev (fun k => spec_l00Word.f k s) true) : 1 ≤ s.size ∧ s.size ≤ 12 ∧ ∀ j : Nat, j < s.size → wOk (bt s (j : Int)) := by
 obtain ⟨K, h⟩ := h
 have h := h (K + 1) (by omega)
 simp only [spec_l00Word.f] at h
 by_cases h1 : (s.size : Int) < 1
 ·rw [if_pos h1, spec_l00Word.j0, if_pos rfl] at h
  cases h
 ·rw [if_neg h1] at h
  by_cases h2 : (s.size : Int) > 12
  ·rw [if_pos h2, spec_l00Word.j0, if_pos rfl] at h
   cases h
  ·rw [if_neg h2, if_pos (by omega)] at h
   obtain ⟨b, hb, h⟩ := Option.bind_eq_some_iff.1 h
   rw [spec_l00Word.j0] at h
   cases b with
   | false => rw [Bool.not_false, if_pos rfl] at h; cases h
   | true =>
    rw [Bool.not_true, if_neg (by decide)] at h
    refine ⟨by omega, by omega, fun j hj => ?_⟩
    by_cases e : j = 0
    ·subst e; exact letter_w hb
    ·exact word_loop s (by omega) K 1 h j (by omega) hj
theorem word_Wd {s : ByteArray} (h : Ev (fun k => spec_l00Word.f k s) true) : Wd (Lb s) := by
 obtain ⟨h1, h2, h3⟩ := word_chars h
 refine ⟨fun e => ?_, fun c hc => ?_⟩
 ·have := Lb_len s
  rw [e] at this
  simp at this
  omega
 ·obtain ⟨j, hj, e⟩ := List.mem_iff_getElem.1 hc
  have hj' : j < s.size := by rw [Lb_len] at hj; exact hj
  have hb := bt_at s (j : Int) hj'
  have e2 : s[((j : Int)).toNat]'hj' = c := by rw [← e]; rfl
  rw [e2] at hb
  have := h3 j hj'
  unfold wOk at this
  unfold wordc
  simp only [Bool.or_eq_true, decide_eq_true_eq]
  omega
def GoodS (t : List S97) : Prop := Nm t ∧ (∀ x, x ∈ t → goodR t x ∧ Wd (Lb x.f0) ∧ Lb x.f0 ≠ [116, 101, 120, 116] ∧ (x.f1 = true → x.f2 = [])) ∧ ∀ i j : Nat, i < t.length → j < t.length → (rd_T97 t (i : Int)).f0 = (rd_T97 t (j : Int)).f0 → i = j
theorem good_of {t : List S97} (hs : smRules t) (h8 : t.length ≤ 8) (h : ∀ j, j < t.length → ruleG t j) : GoodS t := by
 have hw : ∀ j : Nat, j < t.length → Wd (Lb (rd_T97 t (j : Int)).f0) := fun j hj => word_Wd (h j hj).1
 refine ⟨⟨hs.1, fun j h0 hj => ?_⟩, fun x hx => ?_, ?_⟩
 ·have := (word_chars (h j.toNat (by omega)).1).2.1
  rw [show ((j.toNat : Nat) : Int) = j by omega] at this
  exact this
 ·obtain ⟨i, hi, rfl⟩ := List.mem_iff_getElem.1 hx
  have e : rd_T97 t (i : Int) = t[i] := by
   show t.getD (i : Int).toNat z97 = _
   simp [hi]
  obtain ⟨g1, g2, g3⟩ := h i hi
  rw [e] at g1 g2
  unfold rOk at g2
  simp only [Bool.and_eq_true, Bool.true_and, decide_eq_true_eq, Bool.not_eq_true', decide_eq_false_iff_not] at g2
  obtain ⟨n1, n2, n3, n4⟩ := g2
  refine ⟨⟨(word_chars g1).2.1, n2, fun y hy => ?_⟩, word_Wd g1, fun q => n1 (by rw [Go.ByteArray.toList_eq]; exact q), fun q => ?_⟩
  ·obtain ⟨m, hm, rfl⟩ := List.mem_iff_getElem.1 hy
   rw [allN_iff] at n4
   have := n4 m hm
   have e2 : rd_T78 t[i].f2 (m : Int) = t[i].f2[m] := by
    show t[i].f2.getD (m : Int).toNat z78 = _
    simp [hm]
   rw [e2] at this
   unfold tOk at this
   simp only [Bool.and_eq_true, decide_eq_true_eq] at this
   obtain ⟨p1, p2, p3⟩ := this
   refine ⟨fun q => by rw [q] at p1; simp at p1, ?_, fun z hz => ?_, p2.1, p2.2⟩
   ·have := rising_len _ _ p3 p1
    omega
   ·rw [allN_iff] at p3
    have := p3 z hz
    unfold kindAt at this
    simp only [Bool.and_eq_true, decide_eq_true_eq] at this
    exact this.1
  ·rw [q, Bool.true_and] at n3
   have := of_decide_eq_false n3
   exact List.length_eq_zero_iff.1 (by omega)
 ·have key : ∀ i j : Nat, i < j → j < t.length → ¬ (rd_T97 t (i : Int)).f0 = (rd_T97 t (j : Int)).f0 := by
   intro i j hij hj e
   have := (h j hj).2.2
   rw [allN_iff] at this
   have := this i hij
   unfold named at this
   rw [e] at this
   simp at this
  intro i j hi hj e
  rcases Nat.lt_trichotomy i j with c | c | c
  ·exact absurd e (key i j c hj)
  ·exact c
  ·exact absurd e.symm (key j i c hi)
theorem map_inj_on {α β : Type} (f : α → β) : ∀ (u v : List α), (∀ p q, p ∈ u → q ∈ v → f p = f q → p = q) → u.map f = v.map f → u = v
 | [], [], _, _ => rfl
 | [], b :: v, _, h => by cases h
 | a :: u, [], _, h => by cases h
 | a :: u, b :: v, hp, h => by
  rw [List.map_cons, List.map_cons] at h
  injection h with h1 h2
  rw [hp a b List.mem_cons_self List.mem_cons_self h1, map_inj_on f u v (fun p q h1 h2 => hp p q (List.mem_cons_of_mem _ h1) (List.mem_cons_of_mem _ h2)) h2]
end Go.Proofs.Ythkbgbkglgmpoaa.Pure
namespace Go.Proofs.Ythkbgbkglgmpoaa.Pure
set_option linter.unusedVariables false
set_option linter.unusedSimpArgs false
open Go.RowKit Go.Proofs.Ythkbgbkglgmpoaa.XA Go.Proofs.Ythkbgbkglgmpoaa.Pk Go.Proofs.YthkbgbkglgmpoaaW.PrintWords Go.Proofs.YthkbgbkglgmpoaaW.PrintLast Go.Proofs.YthkbgbkglgmpoaaW.PrintMore
theorem Ev.use {α β : Type} {a : Option α} {x : α} {f : Nat → α → Option β} {r : β} (h : a = some x) (k : Ev (fun n => f n x) r) : Ev (fun n => a.bind (f n)) r := by
 subst h
 exact k
theorem ndec {p : Prop} [Decidable p] (h : ¬ p) : ¬ decide p = true := fun g => h (of_decide_eq_true g)
end Go.Proofs.Ythkbgbkglgmpoaa.Pure
namespace Go.Proofs.Ythkbgbkglgmpoaa.Pure
set_option linter.unusedVariables false
open Go.RowKit Go.Proofs.Ythkbgbkglgmpoaa.XA Go.Proofs.Ythkbgbkglgmpoaa.Pk Go.Proofs.YthkbgbkglgmpoaaW.PrintWords Go.Proofs.YthkbgbkglgmpoaaW.PrintLast Go.Proofs.YthkbgbkglgmpoaaW.PrintMore
theorem join_is : ∀ ws : List (List UInt8), Go.Lib.join ws [124] = joinB ws
 | [] => rfl
 | [w] => Go.Lib.join_one w [124]
 | w :: v :: ws => by
  have h1 := Go.Lib.join_cons w (v :: ws) [124]
  have h2 := Go.Lib.join_cons v ws [124]
  rw [join_is (v :: ws)] at h2
  rw [h1, joinB]
  show w ++ ([124] ++ v ++ Go.Lib.joinTail [124] ws) = w ++ 124 :: joinB (v :: ws)
  rw [h2]
  simp
def sumW : List (List UInt8) → Nat
 | [] => 0
 | w :: r => w.length + 1 + sumW r
theorem join_le : ∀ ws : List (List UInt8), (joinB ws).length ≤ sumW ws
 | [] => Nat.le_refl _
 | [w] => by show w.length ≤ w.length + 1 + 0; omega
 | w :: v :: ws => by
  have := join_le (v :: ws)
  show (w ++ 124 :: joinB (v :: ws)).length ≤ w.length + 1 + sumW (v :: ws)
  rw [List.length_append, List.length_cons]
  omega
theorem sumW_le : ∀ ws : List (List UInt8), (∀ w ∈ ws, w.length ≤ 12) → sumW ws ≤ ws.length * 13
 | [], _ => Nat.le_refl _
 | w :: r, h => by
  have h1 := h w List.mem_cons_self
  have h2 := sumW_le r (fun y hy => h y (List.mem_cons_of_mem _ hy))
  show w.length + 1 + sumW r ≤ (w :: r).length * 13
  rw [List.length_cons]
  omega
theorem ext_mark {m : Int} (hm : 1 ≤ m ∧ m ≤ 3) : Lb ((⟨#[32, 63, 42, 43]⟩ : ByteArray).extract (m : Int).toNat ((wrap64 (m + 1)) : Int).toNat) = markB m ∧ ((⟨#[32, 63, 42, 43]⟩ : ByteArray).extract (m : Int).toNat ((wrap64 (m + 1)) : Int).toNat).size ≤ 1 := by
 obtain ⟨h1, h2⟩ := hm
 rcases (by omega : m = 1 ∨ m = 2 ∨ m = 3) with h | h | h
 all_goals subst h; exact ⟨by decide +kernel, by decide +kernel⟩
section
variable {t : List S97}
theorem names_loop (ht : Nm t) (x3 : List ByteArray) (x6 : ByteArray) (x12 : List S97) (x13 x14 : Int) (x26 : List S78) (x27 x28 : Int) {l : List Int} {m : Int} (hl : l.length ≤ 8) (hk : ∀ i : Nat, i < l.length → 1 ≤ rd l i ∧ rd l i ≤ t.length) (c0 : List Int) (r : List ByteArray) :
  ∀ (n i : Nat) (acc : List ByteArray), i + n = l.length → acc.length = i → (∀ w ∈ acc, w.size ≤ 12) →
  (∀ ws : List ByteArray, ws.map Lb = acc.map Lb ++ (l.drop i).map (nmB t) → ws.length ≤ 8 → (∀ w ∈ ws, w.size ≤ 12) → Ev (fun k => impl_schemaLines.l2 k t x3 x6 ws x12 x13 x14 x26 x27 x28 l (l.length : Int) (l.length : Int) c0 m) r) →
  Ev (fun k => impl_schemaLines.l2 k t x3 x6 acc x12 x13 x14 x26 x27 x28 l (l.length : Int) (i : Int) c0 m) r := by
 have h1 := ht.1
 intro n
 induction n with
 | zero =>
  intro i acc hi ha hs H
  have e : i = l.length := by omega
  subst e
  exact H acc (by rw [List.drop_length]; simp) (by omega) hs
 | succ n ih =>
  intro i acc hi ha hs H
  obtain ⟨k1, k2⟩ := hk i (by omega)
  have hz := ht.2 (rd l i - 1) (by omega) (by omega)
  have w1 : wrap64 (rd l (i : Int) - 1) = rd l (i : Int) - 1 := wrap_id _ (by omega) (by omega)
  refine Ev.step (fun k => by rw [impl_schemaLines.l2]) ?_
  simp only [w1, wsuc i (by omega)]
  refine Ev.pos (by omega) (Ev.pos (by omega) (Ev.pos (by omega) (Ev.pos (by omega) (Ev.pos (by omega) (Ev.pos (by omega) ?_)))))
  refine ih (i + 1) (acc ++ [(rd_T97 t (rd l (i : Int) - 1)).f0]) (by omega) (by simp; omega) (fun w hw => ?_) (fun ws hw h8 hs' => H ws ?_ h8 hs')
  ·rcases List.mem_append.1 hw with h | h
   ·exact hs w h
   ·rw [List.mem_singleton.1 h]; exact hz
  ·rw [hw, drop_rd l i (by omega), List.map_append, List.map_cons, List.map_cons, List.map_nil, List.append_assoc]
   rfl
theorem impl_term (ht : Nm t) (x3 : List ByteArray) (x12 : List S97) (x13 x14 : Int) (x26 : List S78) {i : Nat} (hi : i < x26.length) (hil : x26.length ≤ 1000000) {x : S78} (hx : rd_T78 x26 (i : Int) = x) (hg : goodT t x) (acc : ByteArray) (hb : acc.size ≤ 1000000000) (r : List ByteArray)
  (H : ∀ acc' : ByteArray, Lb acc' = Lb acc ++ ([32] ++ txB t x) → acc'.size ≤ acc.size + 200 → Ev (fun k => impl_schemaLines.l1 k t x3 acc' x12 x13 x14 x26 (x26.length : Int) ((i + 1 : Nat) : Int)) r) :
  Ev (fun k => impl_schemaLines.l1 k t x3 acc x12 x13 x14 x26 (x26.length : Int) (i : Int)) r := by
 obtain ⟨h0, h8, hk, hm⟩ := hg
 refine Ev.step (fun k => by rw [impl_schemaLines.l1]) ?_
 rw [hx]
 refine Ev.pos (by omega) (Ev.pos (by omega) (Ev.pos (by omega) ?_))
 refine names_loop ht x3 acc x12 x13 x14 x26 (x26.length : Int) (i : Int) h8 hk x.f0 r x.f0.length 0 [] (by omega) rfl (fun _ h => by cases h) (fun ws hw hl hs => ?_)
 rw [List.map_nil, List.nil_append, List.drop_zero] at hw
 have hj : Go.Lib.join (ws.map (·.data.toList)) (⟨#[124]⟩ : ByteArray).data.toList = joinB (x.f0.map (nmB t)) := by
  rw [← hw]
  exact join_is _
 have hle : (joinB (x.f0.map (nmB t))).length ≤ 104 := by
  have h1 := join_le (x.f0.map (nmB t))
  have h2 := sumW_le (ws.map Lb) (fun w hw' => by
   obtain ⟨y, hy, rfl⟩ := List.mem_map.1 hw'
   rw [Lb_len]
   exact hs y hy)
  rw [hw, List.length_map] at h2
  omega
 have ej : strings_Join.f ws (⟨#[124]⟩ : ByteArray) = some (joinT ws (⟨#[124]⟩ : ByteArray)) := by
  unfold strings_Join.f
  rw [if_pos ⟨by omega, by rw [hj]; omega⟩]
 obtain ⟨J, hJ⟩ : ∃ J, J = joinT ws (⟨#[124]⟩ : ByteArray) := ⟨_, rfl⟩
 have hJb : Lb J = joinB (x.f0.map (nmB t)) := by
  rw [hJ]
  unfold joinT Lb
  rw [hj]
 have hJs : J.size ≤ 104 := by rw [← Lb_len, hJb]; exact hle
 rw [← hJ] at ej
 have e1 : ((⟨#[32]⟩ : ByteArray) ++ J).size = 1 + J.size := by rw [_root_.ByteArray.size_append]; rfl
 have e2 : (acc ++ ((⟨#[32]⟩ : ByteArray) ++ J)).size = acc.size + (1 + J.size) := by rw [_root_.ByteArray.size_append, e1]
 refine Ev.step (fun k => by rw [impl_schemaLines.l2]) ?_
 refine Ev.neg (by omega) ?_
 simp only [ej, Option.bind_some, wsuc i (by omega)]
 refine Ev.pos (by omega) (Ev.pos (by omega) ?_)
 by_cases hz : x.f1 = 0
 ·refine Ev.pos hz (H _ ?_ (by omega))
  rw [Lb_add, Lb_add, hJb]
  unfold txB termB
  rw [hz]
  show Lb acc ++ ([32] ++ _) = Lb acc ++ ([32] ++ (_ ++ []))
  rw [List.append_nil]
 ·have hq := ext_mark (m := x.f1) (by omega)
  have w2 : wrap64 (x.f1 + 1) = x.f1 + 1 := wrap_id _ (by omega) (by omega)
  refine Ev.neg hz (Ev.pos (by omega) (Ev.pos (by omega) (Ev.pos (by omega) (Ev.pos (by have := hq.2; omega) (H _ ?_ ?_)))))
  ·rw [Lb_add, Lb_add, Lb_add, hJb, hq.1]
   unfold txB termB
   show Lb acc ++ ([32] ++ _) ++ _ = Lb acc ++ ([32] ++ (_ ++ _))
   simp only [List.append_assoc]
  ·rw [_root_.ByteArray.size_append]
   have := hq.2
   omega
theorem impl_terms (ht : Nm t) (x3 : List ByteArray) (x12 : List S97) (x13 x14 : Int) (ts : List S78) (hl : ts.length ≤ 4) (hg : ∀ x, x ∈ ts → goodT t x) (r : List ByteArray) :
  ∀ (n i : Nat) (acc : ByteArray), i + n = ts.length → acc.size + 200 * n ≤ 1000000000 →
  (∀ acc' : ByteArray, Lb acc' = Lb acc ++ restT t (ts.drop i) → Ev (fun k => impl_schemaLines.l1 k t x3 acc' x12 x13 x14 ts (ts.length : Int) (ts.length : Int)) r) →
  Ev (fun k => impl_schemaLines.l1 k t x3 acc x12 x13 x14 ts (ts.length : Int) (i : Int)) r := by
 intro n
 induction n with
 | zero =>
  intro i acc hi hb H
  have e : i = ts.length := by omega
  subst e
  exact H acc (by rw [List.drop_length]; exact (List.append_nil _).symm)
 | succ n ih =>
  intro i acc hi hb H
  have hlt : i < ts.length := by omega
  obtain ⟨x, hx⟩ : ∃ x, x = rd_T78 ts (i : Int) := ⟨_, rfl⟩
  have hd : ts.drop i = x :: ts.drop (i + 1) := by
   rw [List.drop_eq_getElem_cons hlt, hx]
   congr 1
   show _ = ts.getD (i : Int).toNat z78
   simp [hlt]
  refine impl_term ht x3 x12 x13 x14 ts hlt (by omega) hx.symm (hg x (by
   have : x ∈ ts.drop i := by rw [hd]; exact List.mem_cons_self
   exact List.mem_of_mem_drop this)) acc (by omega) r (fun acc' h1 h2 => ?_)
  refine ih (i + 1) acc' (by omega) (by omega) (fun acc2 h3 => H acc2 ?_)
  rw [h3, h1, hd]
  simp [restB, restT]
theorem impl_lines_loop (ht : Nm t) (hg : ∀ x, x ∈ t → goodR t x) (h8 : t.length ≤ 8) : ∀ (n i : Nat) (acc : List ByteArray), i + n = t.length → acc.length = i → ∃ vs, Ev (fun k => impl_schemaLines.l0 k t acc t (t.length : Int) (i : Int)) vs ∧ vs.map Lb = acc.map Lb ++ (t.drop i).map (lineB t) := by
 intro n
 induction n with
 | zero =>
  intro i acc hi ha
  refine ⟨acc, Ev.step (fun k => by rw [impl_schemaLines.l0]) (Ev.neg (by omega) (Ev.now _)), ?_⟩
  rw [List.drop_eq_nil_of_le (by omega)]
  simp
 | succ n ih =>
  intro i acc hi ha
  have hlt : i < t.length := by omega
  obtain ⟨x, hx⟩ : ∃ x, x = rd_T97 t (i : Int) := ⟨_, rfl⟩
  have hd : t.drop i = x :: t.drop (i + 1) := by
   rw [List.drop_eq_getElem_cons hlt, hx]
   congr 1
   show _ = t.getD (i : Int).toNat z97
   simp [hlt]
  obtain ⟨h12, h4, hT⟩ := hg x (by
   have : x ∈ t.drop i := by rw [hd]; exact List.mem_cons_self
   exact List.mem_of_mem_drop this)
  obtain ⟨L, hL⟩ : ∃ L : ByteArray, Lb L = lineB t x := ⟨⟨(lineB t x).toArray⟩, by unfold Lb; rfl⟩
  obtain ⟨vs, v1, v2⟩ := ih (i + 1) (acc ++ [L]) (by omega) (by simp; omega)
  refine ⟨vs, ?_, ?_⟩
  ·have e1 : (x.f0 ++ (⟨#[58]⟩ : ByteArray)).size = x.f0.size + 1 := by rw [_root_.ByteArray.size_append]; rfl
   have fin : ∀ acc0 : ByteArray, acc0.size ≤ 100 → Lb acc0 ++ restT t x.f2 = lineB t x → Ev (fun k => impl_schemaLines.l1 k t acc acc0 t (t.length : Int) (i : Int) x.f2 (x.f2.length : Int) ((0 : Nat) : Int)) vs := by
    intro acc0 hs he
    refine impl_terms ht acc t (t.length : Int) (i : Int) x.f2 h4 hT vs x.f2.length 0 acc0 (by omega) (by omega) (fun acc' h1 => ?_)
    rw [List.drop_zero, he, ← hL] at h1
    obtain rfl := Lb_inj h1
    refine Ev.step (fun k => by rw [impl_schemaLines.l1]) (Ev.neg (by omega) (Ev.pos (by omega) ?_))
    simp only [wsuc i (by omega)]
    exact v1
   refine Ev.step (fun k => by rw [impl_schemaLines.l0]) ?_
   rw [← hx]
   refine Ev.pos (by omega) (Ev.pos (by omega) (Ev.pos (by omega) (Ev.pos (by omega) ?_)))
   cases hf : x.f1 with
   | false =>
    refine Ev.neg (by decide) (fin _ (by omega) ?_)
    rw [Lb_add]
    unfold lineB
    rw [hf, if_neg (by decide)]
    show Lb x.f0 ++ [58] ++ _ = _
    simp
   | true =>
    have e2 : ((x.f0 ++ (⟨#[58]⟩ : ByteArray)) ++ (⟨#[32, 116, 101, 120, 116]⟩ : ByteArray)).size = x.f0.size + 1 + 5 := by rw [_root_.ByteArray.size_append, e1]; rfl
    refine Ev.pos rfl (Ev.pos (by omega) (fin _ (by omega) ?_))
    rw [Lb_add, Lb_add]
    unfold lineB
    rw [hf, if_pos rfl]
    show Lb x.f0 ++ [58] ++ [32, 116, 101, 120, 116] ++ _ = _
    simp
  ·rw [v2, hd]
   simp [hL]
theorem impl_lines (ht : Nm t) (hg : ∀ x, x ∈ t → goodR t x) (h8 : t.length ≤ 8) : ∃ vs, Ev (fun k => impl_schemaLines.f k t) vs ∧ vs.map Lb = t.map (lineB t) := by
 obtain ⟨vs, h1, h2⟩ := impl_lines_loop ht hg h8 t.length 0 [] (by omega) rfl
 exact ⟨vs, h1, by rw [h2]; rfl⟩
end
theorem lines_both (t : List S97) (h : smRules t) : ∃ (r0 : List ByteArray) (r1 : Int), r0.length ≤ 8 ∧ (∀ y ∈ r0, y.size ≤ 1048576) ∧ Ev (fun k => spec_SchemaLines.f k t) (r0, r1) ∧ Ev (fun k => impl_SchemaLines.f k t) (r0, r1) := by
 by_cases h1 : (t.length : Int) > 4096
 ·exact ⟨[], 2, by simp, (fun y hy => by cases hy), Ev.pos h1 (Ev.now _), Ev.use (show impl_isLongList_impl_Rule.f t = some (decide ((t.length : Int) > 4096)) from rfl) (Ev.pos (decide_eq_true h1) (Ev.now _))⟩
 obtain ⟨b, s1, s2, s3⟩ := schema_more t h
 cases b with
 | false => exact ⟨[], 1, by simp, (fun y hy => by cases hy), Ev.neg h1 (Ev.bind s1 (Ev.neg (by decide) (Ev.now _))), Ev.use (show impl_isLongList_impl_Rule.f t = some (decide ((t.length : Int) > 4096)) from rfl) (Ev.neg (ndec h1) (Ev.bind s2 (Ev.neg (by decide) (Ev.now _))))⟩
 | true =>
  obtain ⟨⟨a4, a5⟩, a6⟩ := s3 rfl
  have ga := good_of h a5 a6
  obtain ⟨va, u1, u2⟩ := lines ga.1 (fun x hx => (ga.2.1 x hx).1)
  obtain ⟨vb, w1, w2⟩ := impl_lines ga.1 (fun x hx => (ga.2.1 x hx).1) a5
  obtain rfl : va = vb := map_inj_on Lb _ _ (fun p q _ _ h => Lb_inj h) (w2.trans u2.symm) |>.symm
  have hl : va.length = t.length := by
   have := congrArg List.length u2
   simpa using this
  refine ⟨va, 0, by omega, fun y hy => ?_, Ev.neg h1 (Ev.bind s1 (Ev.pos rfl (Ev.bind u1 (Ev.now _)))), Ev.use (show impl_isLongList_impl_Rule.f t = some (decide ((t.length : Int) > 4096)) from rfl) (Ev.neg (ndec h1) (Ev.bind s2 (Ev.pos rfl (Ev.bind w1 (Ev.now _)))))⟩
  have hy' : Lb y ∈ t.map (lineB t) := by rw [← u2]; exact List.mem_map_of_mem hy
  obtain ⟨x, hx, e⟩ := List.mem_map.1 hy'
  obtain ⟨v, v1, v2, v3⟩ := line_le ga.1 (ga.2.1 x hx).1
  rw [← Lb_len, ← e, ← v2, Lb_len]
  omega
end Go.Proofs.Ythkbgbkglgmpoaa.Pure
namespace Go.Proofs.Ythkbgbkglgmpoaa.Pure
set_option linter.unusedVariables false
open Go.RowKit Go.Proofs.Ythkbgbkglgmpoaa.XA Go.Proofs.Ythkbgbkglgmpoaa.Pk Go.Proofs.YthkbgbkglgmpoaaW.PrintWords
theorem sumT_leR : ∀ (l : List S78), (∀ x ∈ l, x.f0.length ≤ 1048576) → sumT l ≤ (l.length : Int) * 1048577
 | [], _ => by show (0 : Int) ≤ _; simp
 | x :: r, h => by
  have h1 := h x List.mem_cons_self
  have h2 := sumT_leR r (fun y hy => h y (List.mem_cons_of_mem _ hy))
  show (x.f0.length : Int) + 1 + sumT r ≤ ((x :: r).length : Int) * 1048577
  rw [List.length_cons]
  omega
theorem sumR_le : ∀ (l : List S97), (∀ x ∈ l, smTerms x.f2) → sumR l ≤ (l.length : Int) * 1099512676354
 | [], _ => by show (0 : Int) ≤ _; simp
 | x :: r, h => by
  have h1 := h x List.mem_cons_self
  have h2 := sumR_le r (fun y hy => h y (List.mem_cons_of_mem _ hy))
  have h3 := sumT_leR x.f2 h1.2
  have h4 := h1.1
  show 2 + sumT x.f2 + sumR r ≤ ((x :: r).length : Int) * 1099512676354
  rw [List.length_cons]
  omega
end Go.Proofs.Ythkbgbkglgmpoaa.Pure
namespace Go.Proofs.Ythkbgbkglgmpoaa.Pure
set_option linter.unusedVariables false
open Go.RowKit Go.Proofs.Ythkbgbkglgmpoaa.XA Go.Proofs.Ythkbgbkglgmpoaa.Pk Go.Proofs.YthkbgbkglgmpoaaW.PrintWords
theorem FnExactSchemaLines (x0 : List S93) (o0 : x0.length ≤ maxLen ∧ ∀ y_ ∈ x0, ok93 y_) : ∃ k, laws_FnExactSchemaLines.P k x0 := by
 obtain ⟨v, ⟨K0, e0⟩, l0, s0⟩ := sz46 x0 o0 1048576 (by omega) (by omega)
 rcases s0 with s0 | ⟨s0, sm0⟩
 ·exact ⟨K0, v, e0 K0 (Nat.le_refl _), .inl s0⟩
 have hx := smRules_of x0 sm0
 obtain ⟨K1, e1⟩ := to46 x0 sm0
 obtain ⟨K3, e3⟩ := eq51 (x0.map cv93) ⟨hx.1, fun y hy => by
  obtain ⟨z, hz, rfl⟩ := List.mem_map.1 hy
  exact smcv93 z (sm0.2 z hz)⟩
 obtain ⟨t, ht⟩ : ∃ t, t = x0.map cv93 := ⟨_, rfl⟩
 rw [← ht] at hx e1 e3
 obtain ⟨r0, r1, hrl, hrs, ⟨K5, e5⟩, ⟨K6, e6⟩⟩ := lines_both t hx
 obtain ⟨K7, e7⟩ := eq48 r0 ⟨by omega, hrs⟩
 have hR := sumR_le t hx.2
 have hR0 := sumR_ge t
 have htl := hx.1
 obtain ⟨q, K8, e8⟩ := markRuleS_ex t 1 (by omega) (by omega) htl (fun x hx' => (hx.2 x hx').1)
 obtain ⟨K10, e10⟩ := markStringS_ev r0 1 (by omega) (by omega) (by omega)
 obtain ⟨K11, e11⟩ := heldStringS_ev r0 1 (by omega) (by omega) (by omega)
 refine ⟨K0 + K1 + K3 + K5 + K6 + K7 + K8 + K10 + K11, v, e0 _ (by omega), .inr ⟨s0, t, r0, r1, _, q, _, _, e1 _ (by omega), e5 _ (by omega), e6 _ (by omega), e7 _ (by omega), e3 _ (by omega), e8 _ (by omega), e10 _ (by omega), e11 _ (by omega), by omega, by omega⟩⟩
end Go.Proofs.Ythkbgbkglgmpoaa.Pure
