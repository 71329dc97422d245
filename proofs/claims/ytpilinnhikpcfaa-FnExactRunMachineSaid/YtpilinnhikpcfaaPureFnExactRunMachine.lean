/- The program's RunMachine answers what the reference's answers, for each machine and each row of kinds: the pure statement of FnExactRunMachine. Conditions: none. -/
import Derived.Test.YtpilinnhikpcfaaYRunMachineK
namespace Go.Proofs.Ytpilinnhikpcfaa.Pure
set_option linter.unusedVariables false
open Go.RowKit Go.Proofs.Ytpilinnhikpcfaa.XA Go.Proofs.Ytpilinnhikpcfaa.Pk Go.Proofs.YtpilinnhikpcfaaW.PrintWords Go.Proofs.YtpilinnhikpcfaaW.PrintLast Go.Proofs.YtpilinnhikpcfaaW.PrintMore

theorem in_eq (x lo hi : Int) : spec_l01In.f x lo hi = some (decide (lo ≤ x ∧ x ≤ hi)) := by
  unfold spec_l01In.f
  by_cases h : x ≥ lo
  · rw [if_pos h]; exact congrArg some (decide_eq_decide.2 ⟨fun g => ⟨h, g⟩, fun g => g.2⟩)
  · rw [if_neg h]; exact congrArg some (decide_eq_false fun g => h g.1).symm
theorem within_eq (x lo hi : Int) : impl_within.f x lo hi = some (decide (lo ≤ x ∧ x ≤ hi)) := in_eq x lo hi

def inr (n v : Int) : Bool := decide (-1 ≤ v ∧ v ≤ n - 1)
def rowOk (n : Int) (l : List Int) : Bool := decide (l.length = 8) && allN 8 (fun j => inr n (rd l j))
def machOk (a : List (List Int)) (b : List Bool) : Bool := decide (1 ≤ a.length ∧ a.length ≤ 512) && (decide (b.length = a.length) && allN a.length (fun i => rowOk a.length (a.getD i [])))

theorem spec_cells (a : List (List Int)) (b : List Bool) (i : Nat) (hi : i < a.length) (h8 : (a.getD i []).length = 8) (h : a.length ≤ 1048576) (r : Bool)
    (hr : allN 8 (fun j => inr a.length (rd (a.getD i []) j)) = true → Ev (fun k => spec_MachineOK.l0 k ((i : Int) + 1) a b) r) :
    Ev (fun k => spec_MachineOK.l1 k i 0 a b) (if allN 8 (fun j => inr a.length (rd (a.getD i []) j)) = true then r else false) := by
  have w1 : wrap64 ((a.length : Int) - 1) = (a.length : Int) - 1 := wrap_id _ (by omega) (by omega)
  have hc : ∀ j : Nat, j < 8 → (j : Int) < ((a.getD i []).length : Int) := fun j hj => by omega
  refine all_cps' 8 _ (fun k j => spec_MachineOK.l1 k i j a b) r false ?_ ?_ ?_
  · intro j r hj hp hr
    exact Ev.step (fun k => by
      show spec_MachineOK.l1 (k + 1) i j a b = spec_MachineOK.l1 k i ((j : Int) + 1) a b
      rw [spec_MachineOK.l1, if_pos (by omega), if_pos (by omega), if_pos (by omega), if_pos (by omega)]
      refine (if_pos (hc j hj)).trans ?_
      rw [in_eq, w1]
      simp only [Option.bind_some]
      refine (if_pos hp).trans ?_
      rw [wrap_id _ (by omega) (by omega)]) hr
  · intro j hj hp
    exact Ev.step (fun k => by
      show spec_MachineOK.l1 (k + 1) i j a b = some false
      rw [spec_MachineOK.l1, if_pos (by omega), if_pos (by omega), if_pos (by omega), if_pos (by omega)]
      refine (if_pos (hc j hj)).trans ?_
      rw [in_eq, w1]
      simp only [Option.bind_some]
      exact if_neg (fun g => by have g' : inr a.length (rd (a.getD i []) j) = true := g; rw [hp] at g'; cases g')) (Ev.now false)
  · intro hall
    exact Ev.step (fun k => by
      show spec_MachineOK.l1 (k + 1) i (8 : Nat) a b = spec_MachineOK.l0 k ((i : Int) + 1) a b
      rw [spec_MachineOK.l1, if_neg (by omega), wrap_id _ (by omega) (by omega)]) (hr hall)

theorem spec_rows (a : List (List Int)) (b : List Bool) (h : a.length ≤ 1048576) : Ev (fun k => spec_MachineOK.l0 k 0 a b) (allN a.length (fun i => rowOk a.length (a.getD i []))) := by
  refine all_loop a.length _ (fun k i => spec_MachineOK.l0 k i a b) ?_ ?_ ?_
  · intro i r hi hp hr
    obtain ⟨h8, hall⟩ := (Bool.and_eq_true _ _).mp hp
    have h8 := of_decide_eq_true h8
    have e := spec_cells a b i hi h8 h r (fun _ => hr)
    rw [if_pos hall] at e
    exact Ev.step (fun k => by
      show spec_MachineOK.l0 (k + 1) i a b = spec_MachineOK.l1 k i 0 a b
      rw [spec_MachineOK.l0, if_pos (by omega), if_pos (by omega)]
      exact if_pos (show ((a.getD i []).length : Int) = 8 by omega)) e
  · intro i hi hp
    by_cases h8 : (a.getD i []).length = 8
    · have hall : allN 8 (fun j => inr a.length (rd (a.getD i []) j)) = false := by
        unfold rowOk at hp
        rwa [decide_eq_true h8, Bool.true_and] at hp
      have e := spec_cells a b i hi h8 h true (fun g => by rw [hall] at g; cases g)
      rw [hall, if_neg (by decide)] at e
      exact Ev.step (fun k => by
        show spec_MachineOK.l0 (k + 1) i a b = spec_MachineOK.l1 k i 0 a b
        rw [spec_MachineOK.l0, if_pos (by omega), if_pos (by omega)]
        exact if_pos (show ((a.getD i []).length : Int) = 8 by omega)) e
    · exact Ev.step (fun k => by
        show spec_MachineOK.l0 (k + 1) i a b = some false
        rw [spec_MachineOK.l0, if_pos (by omega), if_pos (by omega)]
        exact if_neg (show ¬ ((a.getD i []).length : Int) = 8 by omega)) (Ev.now false)
  · exact Ev.step (fun k => by
      show spec_MachineOK.l0 (k + 1) a.length a b = some true
      rw [spec_MachineOK.l0, if_neg (by omega)]) (Ev.now true)

theorem spec_machine (a : List (List Int)) (b : List Bool) (h : a.length ≤ 1048576) : Ev (fun k => spec_MachineOK.f k a b) (machOk a b) := by
  obtain ⟨K, e⟩ := spec_rows a b h
  refine ⟨K + 1, fun k hk => ?_⟩
  obtain ⟨m, rfl⟩ : ∃ m, k = m + 1 := ⟨k - 1, by omega⟩
  have e := e m (by omega)
  simp only at e
  simp only [spec_MachineOK.f, spec_MachineOK.j0, in_eq, Option.bind_some, e]
  unfold machOk
  by_cases h1 : 1 ≤ a.length ∧ a.length ≤ 512
  · have h1' : (1 : Int) ≤ (a.length : Int) ∧ (a.length : Int) ≤ 512 := by omega
    by_cases h2 : b.length = a.length
    · have h2' : (b.length : Int) = (a.length : Int) := by omega
      simp [h1, h1', h2, h2']
    · have h2' : ¬ (b.length : Int) = (a.length : Int) := by omega
      simp [h1, h1', h2, h2']
  · have h1' : ¬ ((1 : Int) ≤ (a.length : Int) ∧ (a.length : Int) ≤ 512) := by omega
    simp only [decide_eq_false h1, decide_eq_false h1', Bool.false_and, Bool.false_eq_true, if_false, if_true]

theorem impl_cells (l : List Int) (n : Int) (hl : l.length ≤ 1048576) (h0 : 0 ≤ n) (h1 : n ≤ 1048576) : Ev (fun k => slices_ContainsFunc_int_int_at_impl_MachineOK_1_1.f k l n) (anyN l.length (fun j => !inr n (rd l j))) := by
  have w1 : wrap64 (n - 1) = n - 1 := wrap_id _ (by omega) (by omega)
  have key : Ev (fun k => slices_IndexFunc_int_int_at_impl_MachineOK_1_1.l0 k l l.length 0 n) (findN l.length (fun j => !inr n (rd l j))) := by
    refine find_loop l.length _ (fun k i => slices_IndexFunc_int_int_at_impl_MachineOK_1_1.l0 k l l.length i n) ?_ ?_ ?_
    · intro i r hi hp hr
      exact Ev.step (fun k => by
        show slices_IndexFunc_int_int_at_impl_MachineOK_1_1.l0 (k + 1) l l.length i n = slices_IndexFunc_int_int_at_impl_MachineOK_1_1.l0 k l l.length ((i : Int) + 1) n
        rw [slices_IndexFunc_int_int_at_impl_MachineOK_1_1.l0, if_pos (by omega), if_pos (by omega), if_pos (by omega)]
        simp only [impl_MachineOK_1_1.f, within_eq, Option.bind_some, w1]
        refine (if_neg (fun g => by have g' : (!inr n (rd l i)) = true := g; rw [hp] at g'; cases g')).trans ?_
        rw [wrap_id _ (by omega) (by omega)]) hr
    · intro i hi hp
      exact Ev.step (fun k => by
        show slices_IndexFunc_int_int_at_impl_MachineOK_1_1.l0 (k + 1) l l.length i n = some (i : Int)
        rw [slices_IndexFunc_int_int_at_impl_MachineOK_1_1.l0, if_pos (by omega), if_pos (by omega), if_pos (by omega)]
        simp only [impl_MachineOK_1_1.f, within_eq, Option.bind_some, w1]
        exact if_pos hp) (Ev.now _)
    · exact Ev.step (fun k => by
        show slices_IndexFunc_int_int_at_impl_MachineOK_1_1.l0 (k + 1) l l.length l.length n = some (-1)
        rw [slices_IndexFunc_int_int_at_impl_MachineOK_1_1.l0, if_neg (by omega)]) (Ev.now _)
  obtain ⟨K, key⟩ := key
  refine ⟨K, fun k hk => ?_⟩
  have e := key k hk
  simp only at e
  simp only [slices_ContainsFunc_int_int_at_impl_MachineOK_1_1.f, slices_IndexFunc_int_int_at_impl_MachineOK_1_1.f, e, Option.bind_some, findN_any]

theorem impl_row (l : List Int) (n : Int) (hl : l.length ≤ 1048576) (h0 : 0 ≤ n) (h1 : n ≤ 1048576) : Ev (fun k => impl_MachineOK_1.f k l n) (!rowOk n l) := by
  obtain ⟨K, e⟩ := impl_cells l n hl h0 h1
  refine ⟨K, fun k hk => ?_⟩
  have e := e k hk
  simp only at e
  unfold rowOk
  by_cases h8 : l.length = 8
  · simp only [impl_MachineOK_1.f, if_pos (show (l.length : Int) = 8 by omega), e, Option.bind_some]
    rw [decide_eq_true h8, Bool.true_and, h8]
    simp [anyN]
  · simp only [impl_MachineOK_1.f, if_neg (show ¬ (l.length : Int) = 8 by omega)]
    rw [decide_eq_false h8, Bool.false_and]
    rfl

theorem impl_machine (a : List (List Int)) (b : List Bool) (h : a.length ≤ 1048576) (hr : ∀ l ∈ a, l.length ≤ 1048576) : Ev (fun k => impl_MachineOK.f k a b) (machOk a b) := by
  have key : Ev (fun k => slices_IndexFunc_int_int_at_impl_MachineOK_1.l0 k a a.length 0 a.length) (findN a.length (fun i => !rowOk a.length (a.getD i []))) := by
    refine find_loop a.length _ (fun k i => slices_IndexFunc_int_int_at_impl_MachineOK_1.l0 k a a.length i a.length) ?_ ?_ ?_
    · intro i r hi hp hr'
      obtain ⟨K, e⟩ := impl_row (a.getD i []) a.length (hr _ (getD_mem a [] i hi)) (by omega) (by omega)
      obtain ⟨K', hr'⟩ := hr'
      refine ⟨K + K' + 1, fun k hk => ?_⟩
      obtain ⟨m, rfl⟩ : ∃ m, k = m + 1 := ⟨k - 1, by omega⟩
      have e := e m (by omega)
      have e2 := hr' m (by omega)
      simp only at e2
      show slices_IndexFunc_int_int_at_impl_MachineOK_1.l0 (m + 1) a a.length i a.length = some r
      rw [slices_IndexFunc_int_int_at_impl_MachineOK_1.l0, if_pos (by omega), if_pos (by omega), if_pos (by omega)]
      refine (congrArg (fun o => Option.bind o _) (show _ = some _ from e)).trans ?_
      rw [hp]
      simp only [Option.bind_some, Bool.false_eq_true, if_false]
      rw [wrap_id _ (by omega) (by omega)]
      exact e2
    · intro i hi hp
      obtain ⟨K, e⟩ := impl_row (a.getD i []) a.length (hr _ (getD_mem a [] i hi)) (by omega) (by omega)
      refine ⟨K + 1, fun k hk => ?_⟩
      obtain ⟨m, rfl⟩ : ∃ m, k = m + 1 := ⟨k - 1, by omega⟩
      have e := e m (by omega)
      show slices_IndexFunc_int_int_at_impl_MachineOK_1.l0 (m + 1) a a.length i a.length = some (i : Int)
      rw [slices_IndexFunc_int_int_at_impl_MachineOK_1.l0, if_pos (by omega), if_pos (by omega), if_pos (by omega)]
      refine (congrArg (fun o => Option.bind o _) (show _ = some _ from e)).trans ?_
      rw [hp]
      simp only [Option.bind_some, if_true]
    · exact Ev.step (fun k => by
        show slices_IndexFunc_int_int_at_impl_MachineOK_1.l0 (k + 1) a a.length a.length a.length = some (-1)
        rw [slices_IndexFunc_int_int_at_impl_MachineOK_1.l0, if_neg (by omega)]) (Ev.now _)
  obtain ⟨K, key⟩ := key
  refine ⟨K, fun k hk => ?_⟩
  have e := key k hk
  simp only at e
  simp only [impl_MachineOK.f, within_eq, Option.bind_some, slices_ContainsFunc_int_int_at_impl_MachineOK_1.f, slices_IndexFunc_int_int_at_impl_MachineOK_1.f, e, findN_any]
  unfold machOk
  rw [all_of_any a.length]
  by_cases h1 : 1 ≤ a.length ∧ a.length ≤ 512
  · have h1' : (1 : Int) ≤ (a.length : Int) ∧ (a.length : Int) ≤ 512 := by omega
    by_cases h2 : b.length = a.length
    · have h2' : (b.length : Int) = (a.length : Int) := by omega
      simp only [decide_eq_true h1, decide_eq_true h1', decide_eq_true h2, if_true, if_pos h2', Bool.true_and]
    · have h2' : ¬ (b.length : Int) = (a.length : Int) := by omega
      simp only [decide_eq_true h1, decide_eq_true h1', decide_eq_false h2, if_true, if_neg h2', Bool.true_and, Bool.false_and]
  · have h1' : ¬ ((1 : Int) ≤ (a.length : Int) ∧ (a.length : Int) ≤ 512) := by omega
    simp only [decide_eq_false h1, decide_eq_false h1', Bool.false_and, Bool.false_eq_true, if_false]

end Go.Proofs.Ytpilinnhikpcfaa.Pure
namespace Go.Proofs.Ytpilinnhikpcfaa.Pure
set_option linter.unusedVariables false
open Go.RowKit Go.Proofs.Ytpilinnhikpcfaa.XA Go.Proofs.Ytpilinnhikpcfaa.Pk Go.Proofs.YtpilinnhikpcfaaW.PrintWords Go.Proofs.YtpilinnhikpcfaaW.PrintLast Go.Proofs.YtpilinnhikpcfaaW.PrintMore

theorem mach_facts {a : List (List Int)} {b : List Bool} (h : machOk a b = true) : a.length ≤ 512 ∧ 1 ≤ a.length ∧ b.length = a.length ∧ ∀ i, i < a.length → (a.getD i []).length = 8 ∧ ∀ j, j < 8 → inr a.length (rd (a.getD i []) (j : Nat)) = true := by
  unfold machOk at h
  rw [Bool.and_eq_true, Bool.and_eq_true, decide_eq_true_eq, decide_eq_true_eq, allN_iff] at h
  obtain ⟨⟨h1, h2⟩, h3, h4⟩ := h
  refine ⟨h2, h1, h3, fun i hi => ?_⟩
  have := h4 i hi
  unfold rowOk at this
  rw [Bool.and_eq_true, decide_eq_true_eq, allN_iff] at this
  exact this

theorem runs (a : List (List Int)) (b : List Bool) (l : List Int) (hl : l.length ≤ 4096) (hm : machOk a b = true) : ∀ (m i : Nat) (s : Int), i + m = l.length → 0 ≤ s → s < a.length →
    ∃ r, Ev (fun k => spec_l04Run.l0 k l s i a b) r ∧ Ev (fun k => impl_RunMachine.l0 k s l l.length i a b) (r, 0) := by
  obtain ⟨ha, ha1, hb, hrows⟩ := mach_facts hm
  intro m
  induction m with
  | zero =>
    intro i s hi h0 h1
    refine ⟨rdOf false b s, Ev.step (fun k => ?_) (Ev.now _), Ev.step (fun k => ?_) (Ev.now _)⟩
    · show spec_l04Run.l0 (k + 1) l s i a b = some _
      rw [spec_l04Run.l0, if_neg (by omega), if_pos (by omega), if_pos (by omega)]
    · show impl_RunMachine.l0 (k + 1) s l l.length i a b = some _
      rw [impl_RunMachine.l0, if_neg (by omega), if_pos (by omega), if_pos (by omega)]
  | succ m ih =>
    intro i s hi h0 h1
    by_cases hk : 1 ≤ rd l i ∧ rd l i ≤ 8
    · have wk : wrap64 (rd l i - 1) = rd l i - 1 := wrap_id _ (by omega) (by omega)
      obtain ⟨s', hs'⟩ : ∃ n : Nat, s = (n : Int) := ⟨s.toNat, by omega⟩
      obtain ⟨j, hj⟩ : ∃ n : Nat, rd l i - 1 = (n : Int) := ⟨(rd l i - 1).toNat, by omega⟩
      subst hs'
      have wk' : wrap64 (rd l i - 1) = (j : Int) := wk.trans hj
      obtain ⟨h8, hin⟩ := hrows s' (by omega)
      have hv := of_decide_eq_true (hin j (by omega))
      have hlen : (j : Int) < ((a.getD s' []).length : Int) := by omega
      obtain ⟨v, hvd⟩ : ∃ v, v = rd (a.getD s' []) (j : Int) := ⟨_, rfl⟩
      rw [← hvd] at hv
      by_cases hneg : v < 0
      · refine ⟨false, Ev.step (fun k => ?_) (Ev.now _), Ev.step (fun k => ?_) (Ev.now _)⟩
        · show spec_l04Run.l0 (k + 1) l s' i a b = some _
          rw [spec_l04Run.l0, if_pos (by omega), if_pos (by omega), spec_l02Kind.f, in_eq]
          simp only [Option.bind_some, wk']
          rw [if_pos (decide_eq_true hk), if_pos (by omega), if_pos (by omega), if_pos (by omega)]
          refine (if_pos hlen).trans ?_
          exact if_pos (show rd (a.getD s' []) (j : Int) < 0 by rw [← hvd]; exact hneg)
        · show impl_RunMachine.l0 (k + 1) s' l l.length i a b = some _
          rw [impl_RunMachine.l0, if_pos (by omega), if_pos (by omega), if_pos (by omega), within_eq]
          simp only [Option.bind_some, wk']
          rw [if_pos (decide_eq_true hk), if_pos (by omega), if_pos (by omega), if_pos (by omega)]
          refine (if_pos hlen).trans ?_
          exact if_pos (show rd (a.getD s' []) (j : Int) = -1 by rw [← hvd]; omega)
      · obtain ⟨r, e1, e2⟩ := ih (i + 1) v (by omega) (by omega) (by omega)
        refine ⟨r, Ev.step (fun k => ?_) e1, Ev.step (fun k => ?_) e2⟩
        · show spec_l04Run.l0 (k + 1) l s' i a b = spec_l04Run.l0 k l v ((i : Int) + 1) a b
          rw [spec_l04Run.l0, if_pos (by omega), if_pos (by omega), spec_l02Kind.f, in_eq]
          simp only [Option.bind_some, wk']
          rw [if_pos (decide_eq_true hk), if_pos (by omega), if_pos (by omega), if_pos (by omega)]
          refine (if_pos hlen).trans ?_
          refine (if_neg (show ¬ rd (a.getD s' []) (j : Int) < 0 by rw [← hvd]; exact hneg)).trans ?_
          rw [wrap_id _ (by omega) (by omega), hvd]
          rfl
        · show impl_RunMachine.l0 (k + 1) s' l l.length i a b = impl_RunMachine.l0 k v l l.length ((i : Int) + 1) a b
          rw [impl_RunMachine.l0, if_pos (by omega), if_pos (by omega), if_pos (by omega), within_eq]
          simp only [Option.bind_some, wk']
          rw [if_pos (decide_eq_true hk), if_pos (by omega), if_pos (by omega), if_pos (by omega)]
          refine (if_pos hlen).trans ?_
          refine (if_neg (show ¬ rd (a.getD s' []) (j : Int) = -1 by rw [← hvd]; omega)).trans ?_
          rw [wrap_id _ (by omega) (by omega), hvd]
          rfl
    · refine ⟨false, Ev.step (fun k => ?_) (Ev.now _), Ev.step (fun k => ?_) (Ev.now _)⟩
      · show spec_l04Run.l0 (k + 1) l s i a b = some _
        rw [spec_l04Run.l0, if_pos (by omega), if_pos (by omega), spec_l02Kind.f, in_eq]
        simp only [Option.bind_some, decide_eq_false hk, Bool.false_eq_true, if_false]
      · show impl_RunMachine.l0 (k + 1) s l l.length i a b = some _
        rw [impl_RunMachine.l0, if_pos (by omega), if_pos (by omega), if_pos (by omega), within_eq]
        simp only [Option.bind_some, decide_eq_false hk, Bool.false_eq_true, if_false]

theorem run_all (a : List (List Int)) (b : List Bool) (l : List Int) (ha : a.length ≤ 1048576) (hr : ∀ l ∈ a, l.length ≤ 1048576) :
    ∃ (r0 : Bool) (r1 : Int), Ev (fun k => spec_RunMachine.f k a b l) (r0, r1) ∧ Ev (fun k => impl_RunMachine.f k a b l) (r0, r1) := by
  by_cases hl : (l.length : Int) > 4096
  · refine ⟨false, 2, ⟨0, fun k _ => ?_⟩, ⟨0, fun k _ => ?_⟩⟩
    · simp only [spec_RunMachine.f, if_pos hl]
    · simp only [impl_RunMachine.f, impl_isLongList_int.f, Option.bind_some, decide_eq_true hl, if_true]
  obtain ⟨A, e1⟩ := spec_machine a b ha
  obtain ⟨B, e2⟩ := impl_machine a b ha hr
  cases hm : machOk a b with
  | false =>
    rw [hm] at e1 e2
    refine ⟨false, 1, ⟨A, fun k hk => ?_⟩, ⟨B, fun k hk => ?_⟩⟩
    · have e := e1 k hk
      simp only at e
      simp only [spec_RunMachine.f, if_neg hl, e, Option.bind_some, Bool.false_eq_true, if_false]
    · have e := e2 k hk
      simp only at e
      simp only [impl_RunMachine.f, impl_isLongList_int.f, decide_eq_false hl, e, Option.bind_some, Bool.false_eq_true, if_false]
  | true =>
    rw [hm] at e1 e2
    obtain ⟨_, h1, _, _⟩ := mach_facts hm
    obtain ⟨r, ⟨C, e3⟩, ⟨D, e4⟩⟩ := runs a b l (by omega) hm l.length 0 0 (by omega) (by omega) (by omega)
    refine ⟨r, 0, ⟨A + C, fun k hk => ?_⟩, ⟨B + D, fun k hk => ?_⟩⟩
    · have e := e1 k (by omega)
      have e' := e3 k (by omega)
      simp only [Int.natCast_zero] at e e'
      simp only [spec_RunMachine.f, spec_l04Run.f, if_neg hl, e, e', Option.bind_some, if_true]
    · have e := e2 k (by omega)
      have e' := e4 k (by omega)
      simp only [Int.natCast_zero] at e e'
      simp only [impl_RunMachine.f, impl_isLongList_int.f, decide_eq_false hl, e, e', Option.bind_some, Bool.false_eq_true, if_false, if_true]

theorem FnExactRunMachine : laws_FnExactRunMachine.Pure := core_FnExactRunMachine (fun x0 x1 _ _ s0 _ => run_all _ _ _ s0.1.1 s0.1.2)

end Go.Proofs.Ytpilinnhikpcfaa.Pure
