/- The program's SameMachine answers what the reference's answers, for each two machines: the pure statement of FnExactSameMachine. Conditions: none. -/
import Derived.Test.YtpilinnhikpcfaaYSameMachineK
namespace Go.Proofs.Ytpilinnhikpcfaa.Pure
set_option linter.unusedVariables false
open Go.RowKit Go.Proofs.Ytpilinnhikpcfaa.XA Go.Proofs.Ytpilinnhikpcfaa.Pk Go.Proofs.YtpilinnhikpcfaaW.PrintWords Go.Proofs.YtpilinnhikpcfaaW.PrintLast Go.Proofs.YtpilinnhikpcfaaW.PrintMore

theorem in_eq (x lo hi : Int) : spec_l01In.f x lo hi = some (decide (lo ≤ x ∧ x ≤ hi)) := by
  unfold spec_l01In.f
  by_cases h : x ≥ lo
  · rw [if_pos h]; exact congrArg some (decide_eq_decide.2 ⟨fun g => ⟨h, g⟩, fun g => g.2⟩)
  · rw [if_neg h]; exact congrArg some (decide_eq_false fun g => h g.1).symm
theorem within_eq (x lo hi : Int) : impl_within.f x lo hi = some (decide (lo ≤ x ∧ x ≤ hi)) := in_eq x lo hi

def inr (n v : Int) : Bool := decide (-1 ≤ v ∧ v ≤ n - 1)
def rowOk (n : Int) (l : List Int) : Bool := decide (l.length = 8) && allN 8 (fun j => inr n (rd l j))
def machOk (a : List (List Int)) (b : List Bool) : Bool := decide (1 ≤ a.length ∧ a.length ≤ 512) && (decide (b.length = a.length) && allN a.length (fun i => rowOk a.length (a.getD i [])))

theorem spec_cells (a : List (List Int)) (b : List Bool) (i : Nat) (hi : i < a.length) (h8 : (a.getD i []).length = 8) (h : a.length ≤ 1048576) (r : Bool)
    (hr : allN 8 (fun j => inr a.length (rd (a.getD i []) j)) = true → Ev (fun k => spec_MachineOK.l0 k ((i : Int) + 1) a b) r) :
    Ev (fun k => spec_MachineOK.l1 k i 0 a b) (if allN 8 (fun j => inr a.length (rd (a.getD i []) j)) = true then r else false) := by
  have w1 : wrap64 ((a.length : Int) - 1) = (a.length : Int) - 1 := wrap_id _ (by omega) (by omega)
  have hc : ∀ j : Nat, j < 8 → (j : Int) < ((a.getD i []).length : Int) := fun j hj => by omega
  refine all_cps' 8 _ (fun k j => spec_MachineOK.l1 k i j a b) r false ?_ ?_ ?_
  · intro j r hj hp hr
    exact Ev.step (fun k => by
      show spec_MachineOK.l1 (k + 1) i j a b = spec_MachineOK.l1 k i ((j : Int) + 1) a b
      rw [spec_MachineOK.l1, if_pos (by omega), if_pos (by omega), if_pos (by omega), if_pos (by omega)]
      refine (if_pos (hc j hj)).trans ?_
      rw [in_eq, w1]
      simp only [Option.bind_some]
      refine (if_pos hp).trans ?_
      rw [wrap_id _ (by omega) (by omega)]) hr
  · intro j hj hp
    exact Ev.step (fun k => by
      show spec_MachineOK.l1 (k + 1) i j a b = some false
      rw [spec_MachineOK.l1, if_pos (by omega), if_pos (by omega), if_pos (by omega), if_pos (by omega)]
      refine (if_pos (hc j hj)).trans ?_
      rw [in_eq, w1]
      simp only [Option.bind_some]
      exact if_neg (fun g => by have g' : inr a.length (rd (a.getD i []) j) = true := g; rw [hp] at g'; cases g')) (Ev.now false)
  · intro hall
    exact Ev.step (fun k => by
      show spec_MachineOK.l1 (k + 1) i (8 : Nat) a b = spec_MachineOK.l0 k ((i : Int) + 1) a b
      rw [spec_MachineOK.l1, if_neg (by omega), wrap_id _ (by omega) (by omega)]) (hr hall)

theorem spec_rows (a : List (List Int)) (b : List Bool) (h : a.length ≤ 1048576) : Ev (fun k => spec_MachineOK.l0 k 0 a b) (allN a.length (fun i => rowOk a.length (a.getD i []))) := by
  refine all_loop a.length _ (fun k i => spec_MachineOK.l0 k i a b) ?_ ?_ ?_
  · intro i r hi hp hr
    obtain ⟨h8, hall⟩ := (Bool.and_eq_true _ _).mp hp
    have h8 := of_decide_eq_true h8
    have e := spec_cells a b i hi h8 h r (fun _ => hr)
    rw [if_pos hall] at e
    exact Ev.step (fun k => by
      show spec_MachineOK.l0 (k + 1) i a b = spec_MachineOK.l1 k i 0 a b
      rw [spec_MachineOK.l0, if_pos (by omega), if_pos (by omega)]
      exact if_pos (show ((a.getD i []).length : Int) = 8 by omega)) e
  · intro i hi hp
    by_cases h8 : (a.getD i []).length = 8
    · have hall : allN 8 (fun j => inr a.length (rd (a.getD i []) j)) = false := by
        unfold rowOk at hp
        rwa [decide_eq_true h8, Bool.true_and] at hp
      have e := spec_cells a b i hi h8 h true (fun g => by rw [hall] at g; cases g)
      rw [hall, if_neg (by decide)] at e
      exact Ev.step (fun k => by
        show spec_MachineOK.l0 (k + 1) i a b = spec_MachineOK.l1 k i 0 a b
        rw [spec_MachineOK.l0, if_pos (by omega), if_pos (by omega)]
        exact if_pos (show ((a.getD i []).length : Int) = 8 by omega)) e
    · exact Ev.step (fun k => by
        show spec_MachineOK.l0 (k + 1) i a b = some false
        rw [spec_MachineOK.l0, if_pos (by omega), if_pos (by omega)]
        exact if_neg (show ¬ ((a.getD i []).length : Int) = 8 by omega)) (Ev.now false)
  · exact Ev.step (fun k => by
      show spec_MachineOK.l0 (k + 1) a.length a b = some true
      rw [spec_MachineOK.l0, if_neg (by omega)]) (Ev.now true)

theorem spec_machine (a : List (List Int)) (b : List Bool) (h : a.length ≤ 1048576) : Ev (fun k => spec_MachineOK.f k a b) (machOk a b) := by
  obtain ⟨K, e⟩ := spec_rows a b h
  refine ⟨K + 1, fun k hk => ?_⟩
  obtain ⟨m, rfl⟩ : ∃ m, k = m + 1 := ⟨k - 1, by omega⟩
  have e := e m (by omega)
  simp only at e
  simp only [spec_MachineOK.f, spec_MachineOK.j0, in_eq, Option.bind_some, e]
  unfold machOk
  by_cases h1 : 1 ≤ a.length ∧ a.length ≤ 512
  · have h1' : (1 : Int) ≤ (a.length : Int) ∧ (a.length : Int) ≤ 512 := by omega
    by_cases h2 : b.length = a.length
    · have h2' : (b.length : Int) = (a.length : Int) := by omega
      simp [h1, h1', h2, h2']
    · have h2' : ¬ (b.length : Int) = (a.length : Int) := by omega
      simp [h1, h1', h2, h2']
  · have h1' : ¬ ((1 : Int) ≤ (a.length : Int) ∧ (a.length : Int) ≤ 512) := by omega
    simp only [decide_eq_false h1, decide_eq_false h1', Bool.false_and, Bool.false_eq_true, if_false, if_true]

theorem impl_cells (l : List Int) (n : Int) (hl : l.length ≤ 1048576) (h0 : 0 ≤ n) (h1 : n ≤ 1048576) : Ev (fun k => slices_ContainsFunc_int_int_at_impl_MachineOK_1_1.f k l n) (anyN l.length (fun j => !inr n (rd l j))) := by
  have w1 : wrap64 (n - 1) = n - 1 := wrap_id _ (by omega) (by omega)
  have key : Ev (fun k => slices_IndexFunc_int_int_at_impl_MachineOK_1_1.l0 k l l.length 0 n) (findN l.length (fun j => !inr n (rd l j))) := by
    refine find_loop l.length _ (fun k i => slices_IndexFunc_int_int_at_impl_MachineOK_1_1.l0 k l l.length i n) ?_ ?_ ?_
    · intro i r hi hp hr
      exact Ev.step (fun k => by
        show slices_IndexFunc_int_int_at_impl_MachineOK_1_1.l0 (k + 1) l l.length i n = slices_IndexFunc_int_int_at_impl_MachineOK_1_1.l0 k l l.length ((i : Int) + 1) n
        rw [slices_IndexFunc_int_int_at_impl_MachineOK_1_1.l0, if_pos (by omega), if_pos (by omega), if_pos (by omega)]
        simp only [impl_MachineOK_1_1.f, within_eq, Option.bind_some, w1]
        refine (if_neg (fun g => by have g' : (!inr n (rd l i)) = true := g; rw [hp] at g'; cases g')).trans ?_
        rw [wrap_id _ (by omega) (by omega)]) hr
    · intro i hi hp
      exact Ev.step (fun k => by
        show slices_IndexFunc_int_int_at_impl_MachineOK_1_1.l0 (k + 1) l l.length i n = some (i : Int)
        rw [slices_IndexFunc_int_int_at_impl_MachineOK_1_1.l0, if_pos (by omega), if_pos (by omega), if_pos (by omega)]
        simp only [impl_MachineOK_1_1.f, within_eq, Option.bind_some, w1]
        exact if_pos hp) (Ev.now _)
    · exact Ev.step (fun k => by
        show slices_IndexFunc_int_int_at_impl_MachineOK_1_1.l0 (k + 1) l l.length l.length n = some (-1)
        rw [slices_IndexFunc_int_int_at_impl_MachineOK_1_1.l0, if_neg (by omega)]) (Ev.now _)
  obtain ⟨K, key⟩ := key
  refine ⟨K, fun k hk => ?_⟩
  have e := key k hk
  simp only at e
  simp only [slices_ContainsFunc_int_int_at_impl_MachineOK_1_1.f, slices_IndexFunc_int_int_at_impl_MachineOK_1_1.f, e, Option.bind_some, findN_any]

theorem impl_row (l : List Int) (n : Int) (hl : l.length ≤ 1048576) (h0 : 0 ≤ n) (h1 : n ≤ 1048576) : Ev (fun k => impl_MachineOK_1.f k l n) (!rowOk n l) := by
  obtain ⟨K, e⟩ := impl_cells l n hl h0 h1
  refine ⟨K, fun k hk => ?_⟩
  have e := e k hk
  simp only at e
  unfold rowOk
  by_cases h8 : l.length = 8
  · simp only [impl_MachineOK_1.f, if_pos (show (l.length : Int) = 8 by omega), e, Option.bind_some]
    rw [decide_eq_true h8, Bool.true_and, h8]
    simp [anyN]
  · simp only [impl_MachineOK_1.f, if_neg (show ¬ (l.length : Int) = 8 by omega)]
    rw [decide_eq_false h8, Bool.false_and]
    rfl

theorem impl_machine (a : List (List Int)) (b : List Bool) (h : a.length ≤ 1048576) (hr : ∀ l ∈ a, l.length ≤ 1048576) : Ev (fun k => impl_MachineOK.f k a b) (machOk a b) := by
  have key : Ev (fun k => slices_IndexFunc_int_int_at_impl_MachineOK_1.l0 k a a.length 0 a.length) (findN a.length (fun i => !rowOk a.length (a.getD i []))) := by
    refine find_loop a.length _ (fun k i => slices_IndexFunc_int_int_at_impl_MachineOK_1.l0 k a a.length i a.length) ?_ ?_ ?_
    · intro i r hi hp hr'
      obtain ⟨K, e⟩ := impl_row (a.getD i []) a.length (hr _ (getD_mem a [] i hi)) (by omega) (by omega)
      obtain ⟨K', hr'⟩ := hr'
      refine ⟨K + K' + 1, fun k hk => ?_⟩
      obtain ⟨m, rfl⟩ : ∃ m, k = m + 1 := ⟨k - 1, by omega⟩
      have e := e m (by omega)
      have e2 := hr' m (by omega)
      simp only at e2
      show slices_IndexFunc_int_int_at_impl_MachineOK_1.l0 (m + 1) a a.length i a.length = some r
      rw [slices_IndexFunc_int_int_at_impl_MachineOK_1.l0, if_pos (by omega), if_pos (by omega), if_pos (by omega)]
      refine (congrArg (fun o => Option.bind o _) (show _ = some _ from e)).trans ?_
      rw [hp]
      simp only [Option.bind_some, Bool.false_eq_true, if_false]
      rw [wrap_id _ (by omega) (by omega)]
      exact e2
    · intro i hi hp
      obtain ⟨K, e⟩ := impl_row (a.getD i []) a.length (hr _ (getD_mem a [] i hi)) (by omega) (by omega)
      refine ⟨K + 1, fun k hk => ?_⟩
      obtain ⟨m, rfl⟩ : ∃ m, k = m + 1 := ⟨k - 1, by omega⟩
      have e := e m (by omega)
      show slices_IndexFunc_int_int_at_impl_MachineOK_1.l0 (m + 1) a a.length i a.length = some (i : Int)
      rw [slices_IndexFunc_int_int_at_impl_MachineOK_1.l0, if_pos (by omega), if_pos (by omega), if_pos (by omega)]
      refine (congrArg (fun o => Option.bind o _) (show _ = some _ from e)).trans ?_
      rw [hp]
      simp only [Option.bind_some, if_true]
    · exact Ev.step (fun k => by
        show slices_IndexFunc_int_int_at_impl_MachineOK_1.l0 (k + 1) a a.length a.length a.length = some (-1)
        rw [slices_IndexFunc_int_int_at_impl_MachineOK_1.l0, if_neg (by omega)]) (Ev.now _)
  obtain ⟨K, key⟩ := key
  refine ⟨K, fun k hk => ?_⟩
  have e := key k hk
  simp only at e
  simp only [impl_MachineOK.f, within_eq, Option.bind_some, slices_ContainsFunc_int_int_at_impl_MachineOK_1.f, slices_IndexFunc_int_int_at_impl_MachineOK_1.f, e, findN_any]
  unfold machOk
  rw [all_of_any a.length]
  by_cases h1 : 1 ≤ a.length ∧ a.length ≤ 512
  · have h1' : (1 : Int) ≤ (a.length : Int) ∧ (a.length : Int) ≤ 512 := by omega
    by_cases h2 : b.length = a.length
    · have h2' : (b.length : Int) = (a.length : Int) := by omega
      simp only [decide_eq_true h1, decide_eq_true h1', decide_eq_true h2, if_true, if_pos h2', Bool.true_and]
    · have h2' : ¬ (b.length : Int) = (a.length : Int) := by omega
      simp only [decide_eq_true h1, decide_eq_true h1', decide_eq_false h2, if_true, if_neg h2', Bool.true_and, Bool.false_and]
  · have h1' : ¬ ((1 : Int) ≤ (a.length : Int) ∧ (a.length : Int) ≤ 512) := by omega
    simp only [decide_eq_false h1, decide_eq_false h1', Bool.false_and, Bool.false_eq_true, if_false]

end Go.Proofs.Ytpilinnhikpcfaa.Pure
namespace Go.Proofs.Ytpilinnhikpcfaa.Pure
set_option linter.unusedVariables false
open Go.RowKit Go.Proofs.Ytpilinnhikpcfaa.XA Go.Proofs.Ytpilinnhikpcfaa.Pk Go.Proofs.YtpilinnhikpcfaaW.PrintWords Go.Proofs.YtpilinnhikpcfaaW.PrintLast Go.Proofs.YtpilinnhikpcfaaW.PrintMore

def sameI (a c : List Int) : Bool := decide (a.length = c.length) && allN a.length (fun i => decide (rd a i = rd c i))
def sameB (a c : List Bool) : Bool := decide (a.length = c.length) && allN a.length (fun i => !(rdOf false a i != rdOf false c i))
def sameR (a c : List (List Int)) : Bool := decide (a.length = c.length) && allN a.length (fun i => sameI (a.getD i []) (c.getD i []))

theorem ints_spec (a c : List Int) (h : a.length ≤ 1048576) : Ev (fun k => spec_l00Same.f k a c) (sameI a c) := by
  unfold sameI
  by_cases hl : a.length = c.length
  · rw [decide_eq_true hl, Bool.true_and]
    refine Ev.congr (f := fun k => spec_l00Same.l0 k a c 0) (fun k => by unfold spec_l00Same.f; rw [if_pos (by omega)]) ?_
    refine all_loop a.length _ (fun k i => spec_l00Same.l0 k a c i) ?_ ?_ ?_
    · intro i r hi hp hr
      exact Ev.step (fun k => by
        show spec_l00Same.l0 (k + 1) a c i = spec_l00Same.l0 k a c ((i : Int) + 1)
        rw [spec_l00Same.l0, if_pos (by omega), if_pos (by omega), if_pos (by omega), if_pos (of_decide_eq_true hp), wrap_id _ (by omega) (by omega)]) hr
    · intro i hi hp
      exact Ev.step (fun k => by
        show spec_l00Same.l0 (k + 1) a c i = some false
        rw [spec_l00Same.l0, if_pos (by omega), if_pos (by omega), if_pos (by omega), if_neg (of_decide_eq_false hp)]) (Ev.now false)
    · exact Ev.step (fun k => by
        show spec_l00Same.l0 (k + 1) a c a.length = some true
        rw [spec_l00Same.l0, if_neg (by omega)]) (Ev.now true)
  · rw [decide_eq_false hl, Bool.false_and]
    exact ⟨0, fun k _ => by show spec_l00Same.f k a c = _; unfold spec_l00Same.f; rw [if_neg (by omega)]⟩

theorem ints_impl (a c : List Int) (h : a.length ≤ 1048576) : Ev (fun k => slices_Equal_int_int.f k a c) (sameI a c) := by
  unfold sameI
  by_cases hl : a.length = c.length
  · rw [decide_eq_true hl, Bool.true_and]
    refine Ev.congr (f := fun k => slices_Equal_int_int.l0 k a c a.length 0) (fun k => by unfold slices_Equal_int_int.f; rw [if_pos (by omega)]) ?_
    refine all_loop a.length _ (fun k i => slices_Equal_int_int.l0 k a c a.length i) ?_ ?_ ?_
    · intro i r hi hp hr
      exact Ev.step (fun k => by
        show slices_Equal_int_int.l0 (k + 1) a c a.length i = slices_Equal_int_int.l0 k a c a.length ((i : Int) + 1)
        rw [slices_Equal_int_int.l0, if_pos (by omega), if_pos (by omega), if_pos (by omega), if_pos (by omega), if_pos (of_decide_eq_true hp), wrap_id _ (by omega) (by omega)]) hr
    · intro i hi hp
      exact Ev.step (fun k => by
        show slices_Equal_int_int.l0 (k + 1) a c a.length i = some false
        rw [slices_Equal_int_int.l0, if_pos (by omega), if_pos (by omega), if_pos (by omega), if_pos (by omega), if_neg (of_decide_eq_false hp)]) (Ev.now false)
    · exact Ev.step (fun k => by
        show slices_Equal_int_int.l0 (k + 1) a c a.length a.length = some true
        rw [slices_Equal_int_int.l0, if_neg (by omega)]) (Ev.now true)
  · rw [decide_eq_false hl, Bool.false_and]
    exact ⟨0, fun k _ => by show slices_Equal_int_int.f k a c = _; unfold slices_Equal_int_int.f; rw [if_neg (by omega)]⟩

theorem bools_spec (a c : List Bool) (h : a.length ≤ 1048576) : Ev (fun k => spec_l04Same.f k a c) (sameB a c) := by
  unfold sameB
  by_cases hl : a.length = c.length
  · rw [decide_eq_true hl, Bool.true_and]
    refine Ev.congr (f := fun k => spec_l04Same.l0 k a c 0) (fun k => by unfold spec_l04Same.f; rw [if_pos (by omega)]) ?_
    refine all_loop a.length _ (fun k i => spec_l04Same.l0 k a c i) ?_ ?_ ?_
    · intro i r hi hp hr
      rw [Bool.not_eq_true'] at hp
      exact Ev.step (fun k => by
        show spec_l04Same.l0 (k + 1) a c i = spec_l04Same.l0 k a c ((i : Int) + 1)
        rw [spec_l04Same.l0, if_pos (by omega), if_pos (by omega), if_pos (by omega), hp, if_neg (by decide), wrap_id _ (by omega) (by omega)]) hr
    · intro i hi hp
      rw [Bool.not_eq_false'] at hp
      exact Ev.step (fun k => by
        show spec_l04Same.l0 (k + 1) a c i = some false
        rw [spec_l04Same.l0, if_pos (by omega), if_pos (by omega), if_pos (by omega), hp, if_pos rfl]) (Ev.now false)
    · exact Ev.step (fun k => by
        show spec_l04Same.l0 (k + 1) a c a.length = some true
        rw [spec_l04Same.l0, if_neg (by omega)]) (Ev.now true)
  · rw [decide_eq_false hl, Bool.false_and]
    exact ⟨0, fun k _ => by show spec_l04Same.f k a c = _; unfold spec_l04Same.f; rw [if_neg (by omega)]⟩

theorem bools_impl (a c : List Bool) (h : a.length ≤ 1048576) : Ev (fun k => slices_Equal_bool_bool.f k a c) (sameB a c) := by
  unfold sameB
  by_cases hl : a.length = c.length
  · rw [decide_eq_true hl, Bool.true_and]
    refine Ev.congr (f := fun k => slices_Equal_bool_bool.l0 k a c a.length 0) (fun k => by unfold slices_Equal_bool_bool.f; rw [if_pos (by omega)]) ?_
    refine all_loop a.length _ (fun k i => slices_Equal_bool_bool.l0 k a c a.length i) ?_ ?_ ?_
    · intro i r hi hp hr
      rw [Bool.not_eq_true'] at hp
      exact Ev.step (fun k => by
        show slices_Equal_bool_bool.l0 (k + 1) a c a.length i = slices_Equal_bool_bool.l0 k a c a.length ((i : Int) + 1)
        rw [slices_Equal_bool_bool.l0, if_pos (by omega), if_pos (by omega), if_pos (by omega), if_pos (by omega), hp, if_neg (by decide), wrap_id _ (by omega) (by omega)]) hr
    · intro i hi hp
      rw [Bool.not_eq_false'] at hp
      exact Ev.step (fun k => by
        show slices_Equal_bool_bool.l0 (k + 1) a c a.length i = some false
        rw [slices_Equal_bool_bool.l0, if_pos (by omega), if_pos (by omega), if_pos (by omega), if_pos (by omega), hp, if_pos rfl]) (Ev.now false)
    · exact Ev.step (fun k => by
        show slices_Equal_bool_bool.l0 (k + 1) a c a.length a.length = some true
        rw [slices_Equal_bool_bool.l0, if_neg (by omega)]) (Ev.now true)
  · rw [decide_eq_false hl, Bool.false_and]
    exact ⟨0, fun k _ => by show slices_Equal_bool_bool.f k a c = _; unfold slices_Equal_bool_bool.f; rw [if_neg (by omega)]⟩

theorem rows_impl (a c : List (List Int)) (h : a.length ≤ 1048576) (hr : ∀ l ∈ a, l.length ≤ 1048576) : Ev (fun k => slices_EqualFunc_int_int_int_int_at_slices_Equal_int_int.f k a c) (sameR a c) := by
  unfold sameR
  by_cases hl : a.length = c.length
  · rw [decide_eq_true hl, Bool.true_and]
    refine Ev.congr (f := fun k => slices_EqualFunc_int_int_int_int_at_slices_Equal_int_int.l0 k c a a.length 0) (fun k => by unfold slices_EqualFunc_int_int_int_int_at_slices_Equal_int_int.f; rw [if_pos (by omega)]) ?_
    refine all_loop a.length _ (fun k i => slices_EqualFunc_int_int_int_int_at_slices_Equal_int_int.l0 k c a a.length i) ?_ ?_ ?_
    · intro i r hi hp hr'
      obtain ⟨K, e⟩ := ints_impl (a.getD i []) (c.getD i []) (hr _ (getD_mem a [] i hi))
      obtain ⟨K', hr'⟩ := hr'
      refine ⟨K + K' + 1, fun k hk => ?_⟩
      obtain ⟨m, rfl⟩ : ∃ m, k = m + 1 := ⟨k - 1, by omega⟩
      have e := e m (by omega)
      have e2 := hr' m (by omega)
      simp only at e2
      show slices_EqualFunc_int_int_int_int_at_slices_Equal_int_int.l0 (m + 1) c a a.length i = some r
      rw [slices_EqualFunc_int_int_int_int_at_slices_Equal_int_int.l0, if_pos (by omega), if_pos (by omega), if_pos (by omega), if_pos (by omega)]
      refine (congrArg (fun o => Option.bind o _) (show _ = some _ from e)).trans ?_
      rw [hp]
      simp only [Option.bind_some, if_true]
      rw [wrap_id _ (by omega) (by omega)]
      exact e2
    · intro i hi hp
      obtain ⟨K, e⟩ := ints_impl (a.getD i []) (c.getD i []) (hr _ (getD_mem a [] i hi))
      refine ⟨K + 1, fun k hk => ?_⟩
      obtain ⟨m, rfl⟩ : ∃ m, k = m + 1 := ⟨k - 1, by omega⟩
      have e := e m (by omega)
      show slices_EqualFunc_int_int_int_int_at_slices_Equal_int_int.l0 (m + 1) c a a.length i = some false
      rw [slices_EqualFunc_int_int_int_int_at_slices_Equal_int_int.l0, if_pos (by omega), if_pos (by omega), if_pos (by omega), if_pos (by omega)]
      refine (congrArg (fun o => Option.bind o _) (show _ = some _ from e)).trans ?_
      rw [hp]
      simp only [Option.bind_some, Bool.false_eq_true, if_false]
    · exact Ev.step (fun k => by
        show slices_EqualFunc_int_int_int_int_at_slices_Equal_int_int.l0 (k + 1) c a a.length a.length = some true
        rw [slices_EqualFunc_int_int_int_int_at_slices_Equal_int_int.l0, if_neg (by omega)]) (Ev.now true)
  · rw [decide_eq_false hl, Bool.false_and]
    exact ⟨0, fun k _ => by show slices_EqualFunc_int_int_int_int_at_slices_Equal_int_int.f k a c = _; unfold slices_EqualFunc_int_int_int_int_at_slices_Equal_int_int.f; rw [if_neg (by omega)]⟩

theorem rows_spec (a c : List (List Int)) (b d : List Bool) (hl : a.length = c.length) (h : a.length ≤ 1048576) (hr : ∀ l ∈ a, l.length ≤ 1048576) : Ev (fun k => spec_l04SameMachine.l0 k 0 a b c d) (sameR a c) := by
  unfold sameR
  rw [decide_eq_true hl, Bool.true_and]
  refine all_loop a.length _ (fun k i => spec_l04SameMachine.l0 k i a b c d) ?_ ?_ ?_
  · intro i r hi hp hr'
    obtain ⟨K, e⟩ := ints_spec (a.getD i []) (c.getD i []) (hr _ (getD_mem a [] i hi))
    obtain ⟨K', hr'⟩ := hr'
    refine ⟨K + K' + 1, fun k hk => ?_⟩
    obtain ⟨m, rfl⟩ : ∃ m, k = m + 1 := ⟨k - 1, by omega⟩
    have e := e m (by omega)
    have e2 := hr' m (by omega)
    simp only at e2
    show spec_l04SameMachine.l0 (m + 1) i a b c d = some r
    rw [spec_l04SameMachine.l0, if_pos (by omega), if_pos (by omega), if_pos (by omega)]
    refine (congrArg (fun o => Option.bind o _) (show _ = some _ from e)).trans ?_
    rw [hp]
    simp only [Option.bind_some, if_true]
    rw [wrap_id _ (by omega) (by omega)]
    exact e2
  · intro i hi hp
    obtain ⟨K, e⟩ := ints_spec (a.getD i []) (c.getD i []) (hr _ (getD_mem a [] i hi))
    refine ⟨K + 1, fun k hk => ?_⟩
    obtain ⟨m, rfl⟩ : ∃ m, k = m + 1 := ⟨k - 1, by omega⟩
    have e := e m (by omega)
    show spec_l04SameMachine.l0 (m + 1) i a b c d = some false
    rw [spec_l04SameMachine.l0, if_pos (by omega), if_pos (by omega), if_pos (by omega)]
    refine (congrArg (fun o => Option.bind o _) (show _ = some _ from e)).trans ?_
    rw [hp]
    simp only [Option.bind_some, Bool.false_eq_true, if_false]
  · exact Ev.step (fun k => by
      show spec_l04SameMachine.l0 (k + 1) a.length a b c d = some true
      rw [spec_l04SameMachine.l0, if_neg (by omega)]) (Ev.now true)

theorem same_spec (a c : List (List Int)) (b d : List Bool) (h : a.length ≤ 1048576) (hb : b.length ≤ 1048576) (hr : ∀ l ∈ a, l.length ≤ 1048576) : Ev (fun k => spec_l04SameMachine.f k a b c d) (sameR a c && sameB b d) := by
  by_cases hl : a.length = c.length
  · obtain ⟨A, e1⟩ := bools_spec b d hb
    obtain ⟨B, e2⟩ := rows_spec a c b d hl h hr
    refine ⟨A + B + 1, fun k hk => ?_⟩
    obtain ⟨m, rfl⟩ : ∃ m, k = m + 1 := ⟨k - 1, by omega⟩
    have e1 := e1 (m + 1) (by omega)
    have e2 := e2 m (by omega)
    simp only at e1 e2
    simp only [spec_l04SameMachine.f, spec_l04SameMachine.j0, if_pos (show (a.length : Int) = (c.length : Int) by omega), e1, Option.bind_some]
    cases sameB b d
    · simp
    · simp [e2]
  · have hn : sameR a c = false := by unfold sameR; rw [decide_eq_false hl, Bool.false_and]
    rw [hn, Bool.false_and]
    refine ⟨1, fun k hk => ?_⟩
    obtain ⟨m, rfl⟩ : ∃ m, k = m + 1 := ⟨k - 1, by omega⟩
    simp only [spec_l04SameMachine.f, spec_l04SameMachine.j0, if_neg (show ¬ (a.length : Int) = (c.length : Int) by omega), if_true]

theorem machines (a c : List (List Int)) (b d : List Bool) (ha : a.length ≤ 1048576) (hb : b.length ≤ 1048576) (hr : ∀ l ∈ a, l.length ≤ 1048576) (hc : c.length ≤ 1048576) (hrc : ∀ l ∈ c, l.length ≤ 1048576) :
    ∃ r, Ev (fun k => spec_SameMachine.f k a b c d) r ∧ Ev (fun k => impl_SameMachine.f k a b c d) r := by
  obtain ⟨A, e1⟩ := spec_machine a b ha
  obtain ⟨B, e2⟩ := spec_machine c d hc
  obtain ⟨C, e3⟩ := impl_machine a b ha hr
  obtain ⟨D, e4⟩ := impl_machine c d hc hrc
  obtain ⟨E, e5⟩ := same_spec a c b d ha hb hr
  obtain ⟨F, e6⟩ := rows_impl a c ha hr
  obtain ⟨G, e7⟩ := bools_impl b d hb
  refine ⟨machOk a b && (machOk c d && (sameR a c && sameB b d)), ⟨A + B + E, fun k hk => ?_⟩, ⟨C + D + F + G, fun k hk => ?_⟩⟩
  · have e1 := e1 k (by omega)
    have e2 := e2 k (by omega)
    have e5 := e5 k (by omega)
    simp only at e1 e2 e5
    simp only [spec_SameMachine.f, e1, e2, e5, Option.bind_some]
    cases machOk a b <;> cases machOk c d <;> simp
  · have e3 := e3 k (by omega)
    have e4 := e4 k (by omega)
    have e6 := e6 k (by omega)
    have e7 := e7 k (by omega)
    simp only at e3 e4 e6 e7
    simp only [impl_SameMachine.f, e3, e4, e6, e7, Option.bind_some]
    cases machOk a b <;> cases machOk c d <;> cases sameR a c <;> simp

theorem FnExactSameMachine : laws_FnExactSameMachine.Pure := core_FnExactSameMachine (fun x0 x1 _ _ s0 s1 => machines _ _ _ _ s0.1.1 s0.2 s0.1.2 s1.1.1 s1.1.2)

end Go.Proofs.Ytpilinnhikpcfaa.Pure
