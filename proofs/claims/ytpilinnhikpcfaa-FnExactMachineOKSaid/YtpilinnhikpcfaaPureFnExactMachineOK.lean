/- The program's MachineOK answers what the reference's answers, for each machine: the pure statement of FnExactMachineOK. Conditions: none. -/
import Derived.Test.YtpilinnhikpcfaaYMachineOKK
namespace Go.Proofs.Ytpilinnhikpcfaa.Pure
set_option linter.unusedVariables false
open Go.RowKit Go.Proofs.Ytpilinnhikpcfaa.XA Go.Proofs.Ytpilinnhikpcfaa.Pk Go.Proofs.YtpilinnhikpcfaaW.PrintWords Go.Proofs.YtpilinnhikpcfaaW.PrintLast Go.Proofs.YtpilinnhikpcfaaW.PrintMore

theorem in_eq (x lo hi : Int) : spec_l01In.f x lo hi = some (decide (lo ≤ x ∧ x ≤ hi)) := by
  unfold spec_l01In.f
  by_cases h : x ≥ lo
  · rw [if_pos h]; exact congrArg some (decide_eq_decide.2 ⟨fun g => ⟨h, g⟩, fun g => g.2⟩)
  · rw [if_neg h]; exact congrArg some (decide_eq_false fun g => h g.1).symm
theorem within_eq (x lo hi : Int) : impl_within.f x lo hi = some (decide (lo ≤ x ∧ x ≤ hi)) := in_eq x lo hi

def inr (n v : Int) : Bool := decide (-1 ≤ v ∧ v ≤ n - 1)
def rowOk (n : Int) (l : List Int) : Bool := decide (l.length = 8) && allN 8 (fun j => inr n (rd l j))
def machOk (a : List (List Int)) (b : List Bool) : Bool := decide (1 ≤ a.length ∧ a.length ≤ 512) && (decide (b.length = a.length) && allN a.length (fun i => rowOk a.length (a.getD i [])))

theorem spec_cells (a : List (List Int)) (b : List Bool) (i : Nat) (hi : i < a.length) (h8 : (a.getD i []).length = 8) (h : a.length ≤ 1048576) (r : Bool)
    (hr : allN 8 (fun j => inr a.length (rd (a.getD i []) j)) = true → Ev (fun k => spec_MachineOK.l0 k ((i : Int) + 1) a b) r) :
    Ev (fun k => spec_MachineOK.l1 k i 0 a b) (if allN 8 (fun j => inr a.length (rd (a.getD i []) j)) = true then r else false) := by
  have w1 : wrap64 ((a.length : Int) - 1) = (a.length : Int) - 1 := wrap_id _ (by omega) (by omega)
  have hc : ∀ j : Nat, j < 8 → (j : Int) < ((a.getD i []).length : Int) := fun j hj => by omega
  refine all_cps' 8 _ (fun k j => spec_MachineOK.l1 k i j a b) r false ?_ ?_ ?_
  · intro j r hj hp hr
    exact Ev.step (fun k => by
      show spec_MachineOK.l1 (k + 1) i j a b = spec_MachineOK.l1 k i ((j : Int) + 1) a b
      rw [spec_MachineOK.l1, if_pos (by omega), if_pos (by omega), if_pos (by omega), if_pos (by omega)]
      refine (if_pos (hc j hj)).trans ?_
      rw [in_eq, w1]
      simp only [Option.bind_some]
      refine (if_pos hp).trans ?_
      rw [wrap_id _ (by omega) (by omega)]) hr
  · intro j hj hp
    exact Ev.step (fun k => by
      show spec_MachineOK.l1 (k + 1) i j a b = some false
      rw [spec_MachineOK.l1, if_pos (by omega), if_pos (by omega), if_pos (by omega), if_pos (by omega)]
      refine (if_pos (hc j hj)).trans ?_
      rw [in_eq, w1]
      simp only [Option.bind_some]
      exact if_neg (fun g => by have g' : inr a.length (rd (a.getD i []) j) = true := g; rw [hp] at g'; cases g')) (Ev.now false)
  · intro hall
    exact Ev.step (fun k => by
      show spec_MachineOK.l1 (k + 1) i (8 : Nat) a b = spec_MachineOK.l0 k ((i : Int) + 1) a b
      rw [spec_MachineOK.l1, if_neg (by omega), wrap_id _ (by omega) (by omega)]) (hr hall)

theorem spec_rows (a : List (List Int)) (b : List Bool) (h : a.length ≤ 1048576) : Ev (fun k => spec_MachineOK.l0 k 0 a b) (allN a.length (fun i => rowOk a.length (a.getD i []))) := by
  refine all_loop a.length _ (fun k i => spec_MachineOK.l0 k i a b) ?_ ?_ ?_
  · intro i r hi hp hr
    obtain ⟨h8, hall⟩ := (Bool.and_eq_true _ _).mp hp
    have h8 := of_decide_eq_true h8
    have e := spec_cells a b i hi h8 h r (fun _ => hr)
    rw [if_pos hall] at e
    exact Ev.step (fun k => by
      show spec_MachineOK.l0 (k + 1) i a b = spec_MachineOK.l1 k i 0 a b
      rw [spec_MachineOK.l0, if_pos (by omega), if_pos (by omega)]
      exact if_pos (show ((a.getD i []).length : Int) = 8 by omega)) e
  · intro i hi hp
    by_cases h8 : (a.getD i []).length = 8
    · have hall : allN 8 (fun j => inr a.length (rd (a.getD i []) j)) = false := by
        unfold rowOk at hp
        rwa [decide_eq_true h8, Bool.true_and] at hp
      have e := spec_cells a b i hi h8 h true (fun g => by rw [hall] at g; cases g)
      rw [hall, if_neg (by decide)] at e
      exact Ev.step (fun k => by
        show spec_MachineOK.l0 (k + 1) i a b = spec_MachineOK.l1 k i 0 a b
        rw [spec_MachineOK.l0, if_pos (by omega), if_pos (by omega)]
        exact if_pos (show ((a.getD i []).length : Int) = 8 by omega)) e
    · exact Ev.step (fun k => by
        show spec_MachineOK.l0 (k + 1) i a b = some false
        rw [spec_MachineOK.l0, if_pos (by omega), if_pos (by omega)]
        exact if_neg (show ¬ ((a.getD i []).length : Int) = 8 by omega)) (Ev.now false)
  · exact Ev.step (fun k => by
      show spec_MachineOK.l0 (k + 1) a.length a b = some true
      rw [spec_MachineOK.l0, if_neg (by omega)]) (Ev.now true)

theorem spec_machine (a : List (List Int)) (b : List Bool) (h : a.length ≤ 1048576) : Ev (fun k => spec_MachineOK.f k a b) (machOk a b) := by
  obtain ⟨K, e⟩ := spec_rows a b h
  refine ⟨K + 1, fun k hk => ?_⟩
  obtain ⟨m, rfl⟩ : ∃ m, k = m + 1 := ⟨k - 1, by omega⟩
  have e := e m (by omega)
  simp only at e
  simp only [spec_MachineOK.f, spec_MachineOK.j0, in_eq, Option.bind_some, e]
  unfold machOk
  by_cases h1 : 1 ≤ a.length ∧ a.length ≤ 512
  · have h1' : (1 : Int) ≤ (a.length : Int) ∧ (a.length : Int) ≤ 512 := by omega
    by_cases h2 : b.length = a.length
    · have h2' : (b.length : Int) = (a.length : Int) := by omega
      simp [h1, h1', h2, h2']
    · have h2' : ¬ (b.length : Int) = (a.length : Int) := by omega
      simp [h1, h1', h2, h2']
  · have h1' : ¬ ((1 : Int) ≤ (a.length : Int) ∧ (a.length : Int) ≤ 512) := by omega
    simp only [decide_eq_false h1, decide_eq_false h1', Bool.false_and, Bool.false_eq_true, if_false, if_true]

theorem impl_cells (l : List Int) (n : Int) (hl : l.length ≤ 1048576) (h0 : 0 ≤ n) (h1 : n ≤ 1048576) : Ev (fun k => slices_ContainsFunc_int_int_at_impl_MachineOK_1_1.f k l n) (anyN l.length (fun j => !inr n (rd l j))) := by
  have w1 : wrap64 (n - 1) = n - 1 := wrap_id _ (by omega) (by omega)
  have key : Ev (fun k => slices_IndexFunc_int_int_at_impl_MachineOK_1_1.l0 k l l.length 0 n) (findN l.length (fun j => !inr n (rd l j))) := by
    refine find_loop l.length _ (fun k i => slices_IndexFunc_int_int_at_impl_MachineOK_1_1.l0 k l l.length i n) ?_ ?_ ?_
    · intro i r hi hp hr
      exact Ev.step (fun k => by
        show slices_IndexFunc_int_int_at_impl_MachineOK_1_1.l0 (k + 1) l l.length i n = slices_IndexFunc_int_int_at_impl_MachineOK_1_1.l0 k l l.length ((i : Int) + 1) n
        rw [slices_IndexFunc_int_int_at_impl_MachineOK_1_1.l0, if_pos (by omega), if_pos (by omega), if_pos (by omega)]
        simp only [impl_MachineOK_1_1.f, within_eq, Option.bind_some, w1]
        refine (if_neg (fun g => by have g' : (!inr n (rd l i)) = true := g; rw [hp] at g'; cases g')).trans ?_
        rw [wrap_id _ (by omega) (by omega)]) hr
    · intro i hi hp
      exact Ev.step (fun k => by
        show slices_IndexFunc_int_int_at_impl_MachineOK_1_1.l0 (k + 1) l l.length i n = some (i : Int)
        rw [slices_IndexFunc_int_int_at_impl_MachineOK_1_1.l0, if_pos (by omega), if_pos (by omega), if_pos (by omega)]
        simp only [impl_MachineOK_1_1.f, within_eq, Option.bind_some, w1]
        exact if_pos hp) (Ev.now _)
    · exact Ev.step (fun k => by
        show slices_IndexFunc_int_int_at_impl_MachineOK_1_1.l0 (k + 1) l l.length l.length n = some (-1)
        rw [slices_IndexFunc_int_int_at_impl_MachineOK_1_1.l0, if_neg (by omega)]) (Ev.now _)
  obtain ⟨K, key⟩ := key
  refine ⟨K, fun k hk => ?_⟩
  have e := key k hk
  simp only at e
  simp only [slices_ContainsFunc_int_int_at_impl_MachineOK_1_1.f, slices_IndexFunc_int_int_at_impl_MachineOK_1_1.f, e, Option.bind_some, findN_any]

theorem impl_row (l : List Int) (n : Int) (hl : l.length ≤ 1048576) (h0 : 0 ≤ n) (h1 : n ≤ 1048576) : Ev (fun k => impl_MachineOK_1.f k l n) (!rowOk n l) := by
  obtain ⟨K, e⟩ := impl_cells l n hl h0 h1
  refine ⟨K, fun k hk => ?_⟩
  have e := e k hk
  simp only at e
  unfold rowOk
  by_cases h8 : l.length = 8
  · simp only [impl_MachineOK_1.f, if_pos (show (l.length : Int) = 8 by omega), e, Option.bind_some]
    rw [decide_eq_true h8, Bool.true_and, h8]
    simp [anyN]
  · simp only [impl_MachineOK_1.f, if_neg (show ¬ (l.length : Int) = 8 by omega)]
    rw [decide_eq_false h8, Bool.false_and]
    rfl

theorem impl_machine (a : List (List Int)) (b : List Bool) (h : a.length ≤ 1048576) (hr : ∀ l ∈ a, l.length ≤ 1048576) : Ev (fun k => impl_MachineOK.f k a b) (machOk a b) := by
  have key : Ev (fun k => slices_IndexFunc_int_int_at_impl_MachineOK_1.l0 k a a.length 0 a.length) (findN a.length (fun i => !rowOk a.length (a.getD i []))) := by
    refine find_loop a.length _ (fun k i => slices_IndexFunc_int_int_at_impl_MachineOK_1.l0 k a a.length i a.length) ?_ ?_ ?_
    · intro i r hi hp hr'
      obtain ⟨K, e⟩ := impl_row (a.getD i []) a.length (hr _ (getD_mem a [] i hi)) (by omega) (by omega)
      obtain ⟨K', hr'⟩ := hr'
      refine ⟨K + K' + 1, fun k hk => ?_⟩
      obtain ⟨m, rfl⟩ : ∃ m, k = m + 1 := ⟨k - 1, by omega⟩
      have e := e m (by omega)
      have e2 := hr' m (by omega)
      simp only at e2
      show slices_IndexFunc_int_int_at_impl_MachineOK_1.l0 (m + 1) a a.length i a.length = some r
      rw [slices_IndexFunc_int_int_at_impl_MachineOK_1.l0, if_pos (by omega), if_pos (by omega), if_pos (by omega)]
      refine (congrArg (fun o => Option.bind o _) (show _ = some _ from e)).trans ?_
      rw [hp]
      simp only [Option.bind_some, Bool.false_eq_true, if_false]
      rw [wrap_id _ (by omega) (by omega)]
      exact e2
    · intro i hi hp
      obtain ⟨K, e⟩ := impl_row (a.getD i []) a.length (hr _ (getD_mem a [] i hi)) (by omega) (by omega)
      refine ⟨K + 1, fun k hk => ?_⟩
      obtain ⟨m, rfl⟩ : ∃ m, k = m + 1 := ⟨k - 1, by omega⟩
      have e := e m (by omega)
      show slices_IndexFunc_int_int_at_impl_MachineOK_1.l0 (m + 1) a a.length i a.length = some (i : Int)
      rw [slices_IndexFunc_int_int_at_impl_MachineOK_1.l0, if_pos (by omega), if_pos (by omega), if_pos (by omega)]
      refine (congrArg (fun o => Option.bind o _) (show _ = some _ from e)).trans ?_
      rw [hp]
      simp only [Option.bind_some, if_true]
    · exact Ev.step (fun k => by
        show slices_IndexFunc_int_int_at_impl_MachineOK_1.l0 (k + 1) a a.length a.length a.length = some (-1)
        rw [slices_IndexFunc_int_int_at_impl_MachineOK_1.l0, if_neg (by omega)]) (Ev.now _)
  obtain ⟨K, key⟩ := key
  refine ⟨K, fun k hk => ?_⟩
  have e := key k hk
  simp only at e
  simp only [impl_MachineOK.f, within_eq, Option.bind_some, slices_ContainsFunc_int_int_at_impl_MachineOK_1.f, slices_IndexFunc_int_int_at_impl_MachineOK_1.f, e, findN_any]
  unfold machOk
  rw [all_of_any a.length]
  by_cases h1 : 1 ≤ a.length ∧ a.length ≤ 512
  · have h1' : (1 : Int) ≤ (a.length : Int) ∧ (a.length : Int) ≤ 512 := by omega
    by_cases h2 : b.length = a.length
    · have h2' : (b.length : Int) = (a.length : Int) := by omega
      simp only [decide_eq_true h1, decide_eq_true h1', decide_eq_true h2, if_true, if_pos h2', Bool.true_and]
    · have h2' : ¬ (b.length : Int) = (a.length : Int) := by omega
      simp only [decide_eq_true h1, decide_eq_true h1', decide_eq_false h2, if_true, if_neg h2', Bool.true_and, Bool.false_and]
  · have h1' : ¬ ((1 : Int) ≤ (a.length : Int) ∧ (a.length : Int) ≤ 512) := by omega
    simp only [decide_eq_false h1, decide_eq_false h1', Bool.false_and, Bool.false_eq_true, if_false]

end Go.Proofs.Ytpilinnhikpcfaa.Pure
namespace Go.Proofs.Ytpilinnhikpcfaa.Pure
open Go.RowKit Go.Proofs.Ytpilinnhikpcfaa.XA Go.Proofs.Ytpilinnhikpcfaa.Pk Go.Proofs.YtpilinnhikpcfaaW.PrintWords Go.Proofs.YtpilinnhikpcfaaW.PrintLast Go.Proofs.YtpilinnhikpcfaaW.PrintMore
theorem FnExactMachineOK : laws_FnExactMachineOK.Pure := core_FnExactMachineOK (fun x0 _ s0 => ⟨_, spec_machine _ _ s0.1.1, impl_machine _ _ s0.1.1 s0.1.2⟩)
end Go.Proofs.Ytpilinnhikpcfaa.Pure
