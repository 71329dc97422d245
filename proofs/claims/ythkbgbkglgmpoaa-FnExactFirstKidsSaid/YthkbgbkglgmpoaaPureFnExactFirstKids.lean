/- The program's FirstKids answers what the reference's answers: the pure statement of FnExactFirstKids. Conditions: none. -/
import Derived.Test.YthkbgbkglgmpoaaYFirstKidsK
set_option linter.unusedVariables false
set_option linter.unusedSimpArgs false
namespace Go.Proofs.Ythkbgbkglgmpoaa.Pure
set_option linter.unusedVariables false
open Go.RowKit Go.Proofs.Ythkbgbkglgmpoaa.XA Go.Proofs.Ythkbgbkglgmpoaa.Pk Go.Proofs.YthkbgbkglgmpoaaW.PrintWords Go.Proofs.YthkbgbkglgmpoaaW.PrintLast Go.Proofs.YthkbgbkglgmpoaaW.PrintMore
theorem in_eq (x lo hi : Int) : spec_l01In.f x lo hi = some (decide (lo ≤ x ∧ x ≤ hi)) := by
 unfold spec_l01In.f
 by_cases h : x ≥ lo
 ·rw [if_pos h]; exact congrArg some (decide_eq_decide.2 ⟨fun g => ⟨h, g⟩, fun g => g.2⟩)
 ·rw [if_neg h]; exact congrArg some (decide_eq_false fun g => h g.1).symm
theorem within_eq (x lo hi : Int) : impl_within.f x lo hi = some (decide (lo ≤ x ∧ x ≤ hi)) := in_eq x lo hi
def inr (n v : Int) : Bool := decide (-1 ≤ v ∧ v ≤ n - 1)
def rowOk (n : Int) (l : List Int) : Bool := decide (l.length = 8) && allN 8 (fun j => inr n (rd l j))
def machOk (a : List (List Int)) (b : List Bool) : Bool := decide (1 ≤ a.length ∧ a.length ≤ 512) && (decide (b.length = a.length) && allN a.length (fun i => rowOk a.length (a.getD i [])))
theorem spec_cells (a : List (List Int)) (b : List Bool) (i : Nat) (hi : i < a.length) (h8 : (a.getD i []).length = 8) (h : a.length ≤ 1048576) (r : Bool)
  (hr : allN 8 (fun j => inr a.length (rd (a.getD i []) j)) = true → Ev (fun k => spec_MachineOK.l0 k ((i : Int) + 1) a b) r) :
  Ev (fun k => spec_MachineOK.l1 k i 0 a b) (if allN 8 (fun j => inr a.length (rd (a.getD i []) j)) = true then r else false) := by
 have w1 : wrap64 ((a.length : Int) - 1) = (a.length : Int) - 1 := wrap_id _ (by omega) (by omega)
 have hc : ∀ j : Nat, j < 8 → (j : Int) < ((a.getD i []).length : Int) := fun j hj => by omega
 refine all_cps' 8 _ (fun k j => spec_MachineOK.l1 k i j a b) r false ?_ ?_ ?_
 ·intro j r hj hp hr
  exact Ev.step (fun k => by
   show spec_MachineOK.l1 (k + 1) i j a b = spec_MachineOK.l1 k i ((j : Int) + 1) a b
   rw [spec_MachineOK.l1, if_pos (by omega), if_pos (by omega), if_pos (by omega), if_pos (by omega)]
   refine (if_pos (hc j hj)).trans ?_
   rw [in_eq, w1]
   simp only [Option.bind_some]
   refine (if_pos hp).trans ?_
   rw [wrap_id _ (by omega) (by omega)]) hr
 ·intro j hj hp
  exact Ev.step (fun k => by
   show spec_MachineOK.l1 (k + 1) i j a b = some false
   rw [spec_MachineOK.l1, if_pos (by omega), if_pos (by omega), if_pos (by omega), if_pos (by omega)]
   refine (if_pos (hc j hj)).trans ?_
   rw [in_eq, w1]
   simp only [Option.bind_some]
   exact if_neg (fun g => by have g' : inr a.length (rd (a.getD i []) j) = true := g; rw [hp] at g'; cases g')) (Ev.now false)
 ·intro hall
  exact Ev.step (fun k => by
   show spec_MachineOK.l1 (k + 1) i (8 : Nat) a b = spec_MachineOK.l0 k ((i : Int) + 1) a b
   rw [spec_MachineOK.l1, if_neg (by omega), wrap_id _ (by omega) (by omega)]) (hr hall)
theorem spec_rows (a : List (List Int)) (b : List Bool) (h : a.length ≤ 1048576) : Ev (fun k => spec_MachineOK.l0 k 0 a b) (allN a.length (fun i => rowOk a.length (a.getD i []))) := by
 refine all_loop a.length _ (fun k i => spec_MachineOK.l0 k i a b) ?_ ?_ ?_
 ·intro i r hi hp hr
  obtain ⟨h8, hall⟩ := (Bool.and_eq_true _ _).mp hp
  have h8 := of_decide_eq_true h8
  have e := spec_cells a b i hi h8 h r (fun _ => hr)
  rw [if_pos hall] at e
  exact Ev.step (fun k => by
   show spec_MachineOK.l0 (k + 1) i a b = spec_MachineOK.l1 k i 0 a b
   rw [spec_MachineOK.l0, if_pos (by omega), if_pos (by omega)]
   exact if_pos (show ((a.getD i []).length : Int) = 8 by omega)) e
 ·intro i hi hp
  by_cases h8 : (a.getD i []).length = 8
  ·have hall : allN 8 (fun j => inr a.length (rd (a.getD i []) j)) = false := by
    unfold rowOk at hp
    rwa [decide_eq_true h8, Bool.true_and] at hp
   have e := spec_cells a b i hi h8 h true (fun g => by rw [hall] at g; cases g)
   rw [hall, if_neg (by decide)] at e
   exact Ev.step (fun k => by
    show spec_MachineOK.l0 (k + 1) i a b = spec_MachineOK.l1 k i 0 a b
    rw [spec_MachineOK.l0, if_pos (by omega), if_pos (by omega)]
    exact if_pos (show ((a.getD i []).length : Int) = 8 by omega)) e
  ·exact Ev.step (fun k => by
    show spec_MachineOK.l0 (k + 1) i a b = some false
    rw [spec_MachineOK.l0, if_pos (by omega), if_pos (by omega)]
    exact if_neg (show ¬ ((a.getD i []).length : Int) = 8 by omega)) (Ev.now false)
 ·exact Ev.step (fun k => by
   show spec_MachineOK.l0 (k + 1) a.length a b = some true
   rw [spec_MachineOK.l0, if_neg (by omega)]) (Ev.now true)
theorem spec_machine (a : List (List Int)) (b : List Bool) (h : a.length ≤ 1048576) : Ev (fun k => spec_MachineOK.f k a b) (machOk a b) := by
 obtain ⟨K, e⟩ := spec_rows a b h
 refine ⟨K + 1, fun k hk => ?_⟩
 obtain ⟨m, rfl⟩ : ∃ m, k = m + 1 := ⟨k - 1, by omega⟩
 have e := e m (by omega)
 simp only at e
 simp only [spec_MachineOK.f, spec_MachineOK.j0, in_eq, Option.bind_some, e]
 unfold machOk
 by_cases h1 : 1 ≤ a.length ∧ a.length ≤ 512
 ·have h1' : (1 : Int) ≤ (a.length : Int) ∧ (a.length : Int) ≤ 512 := by omega
  by_cases h2 : b.length = a.length
  ·have h2' : (b.length : Int) = (a.length : Int) := by omega
   simp [h1, h1', h2, h2']
  ·have h2' : ¬ (b.length : Int) = (a.length : Int) := by omega
   simp [h1, h1', h2, h2']
 ·have h1' : ¬ ((1 : Int) ≤ (a.length : Int) ∧ (a.length : Int) ≤ 512) := by omega
  simp only [decide_eq_false h1, decide_eq_false h1', Bool.false_and, Bool.false_eq_true, if_false, if_true]
theorem impl_cells (l : List Int) (n : Int) (hl : l.length ≤ 1048576) (h0 : 0 ≤ n) (h1 : n ≤ 1048576) : Ev (fun k => slices_ContainsFunc_int_int_at_impl_MachineOK_1_1.f k l n) (anyN l.length (fun j => !inr n (rd l j))) := by
 have w1 : wrap64 (n - 1) = n - 1 := wrap_id _ (by omega) (by omega)
 have key : Ev (fun k => slices_IndexFunc_int_int_at_impl_MachineOK_1_1.l0 k l l.length 0 n) (findN l.length (fun j => !inr n (rd l j))) := by
  refine find_loop l.length _ (fun k i => slices_IndexFunc_int_int_at_impl_MachineOK_1_1.l0 k l l.length i n) ?_ ?_ ?_
  ·intro i r hi hp hr
   exact Ev.step (fun k => by
    show slices_IndexFunc_int_int_at_impl_MachineOK_1_1.l0 (k + 1) l l.length i n = slices_IndexFunc_int_int_at_impl_MachineOK_1_1.l0 k l l.length ((i : Int) + 1) n
    rw [slices_IndexFunc_int_int_at_impl_MachineOK_1_1.l0, if_pos (by omega), if_pos (by omega), if_pos (by omega)]
    simp only [impl_MachineOK_1_1.f, within_eq, Option.bind_some, w1]
    refine (if_neg (fun g => by have g' : (!inr n (rd l i)) = true := g; rw [hp] at g'; cases g')).trans ?_
    rw [wrap_id _ (by omega) (by omega)]) hr
  ·intro i hi hp
   exact Ev.step (fun k => by
    show slices_IndexFunc_int_int_at_impl_MachineOK_1_1.l0 (k + 1) l l.length i n = some (i : Int)
    rw [slices_IndexFunc_int_int_at_impl_MachineOK_1_1.l0, if_pos (by omega), if_pos (by omega), if_pos (by omega)]
    simp only [impl_MachineOK_1_1.f, within_eq, Option.bind_some, w1]
    exact if_pos hp) (Ev.now _)
  ·exact Ev.step (fun k => by
    show slices_IndexFunc_int_int_at_impl_MachineOK_1_1.l0 (k + 1) l l.length l.length n = some (-1)
    rw [slices_IndexFunc_int_int_at_impl_MachineOK_1_1.l0, if_neg (by omega)]) (Ev.now _)
 obtain ⟨K, key⟩ := key
 refine ⟨K, fun k hk => ?_⟩
 have e := key k hk
 simp only at e
 simp only [slices_ContainsFunc_int_int_at_impl_MachineOK_1_1.f, slices_IndexFunc_int_int_at_impl_MachineOK_1_1.f, e, Option.bind_some, findN_any]
theorem impl_row (l : List Int) (n : Int) (hl : l.length ≤ 1048576) (h0 : 0 ≤ n) (h1 : n ≤ 1048576) : Ev (fun k => impl_MachineOK_1.f k l n) (!rowOk n l) := by
 obtain ⟨K, e⟩ := impl_cells l n hl h0 h1
 refine ⟨K, fun k hk => ?_⟩
 have e := e k hk
 simp only at e
 unfold rowOk
 by_cases h8 : l.length = 8
 ·simp only [impl_MachineOK_1.f, if_pos (show (l.length : Int) = 8 by omega), e, Option.bind_some]
  rw [decide_eq_true h8, Bool.true_and, h8]
  simp [anyN]
 ·simp only [impl_MachineOK_1.f, if_neg (show ¬ (l.length : Int) = 8 by omega)]
  rw [decide_eq_false h8, Bool.false_and]
  rfl
theorem impl_machine (a : List (List Int)) (b : List Bool) (h : a.length ≤ 1048576) (hr : ∀ l ∈ a, l.length ≤ 1048576) : Ev (fun k => impl_MachineOK.f k a b) (machOk a b) := by
 have key : Ev (fun k => slices_IndexFunc_int_int_at_impl_MachineOK_1.l0 k a a.length 0 a.length) (findN a.length (fun i => !rowOk a.length (a.getD i []))) := by
  refine find_loop a.length _ (fun k i => slices_IndexFunc_int_int_at_impl_MachineOK_1.l0 k a a.length i a.length) ?_ ?_ ?_
  ·intro i r hi hp hr'
   obtain ⟨K, e⟩ := impl_row (a.getD i []) a.length (hr _ (getD_mem a [] i hi)) (by omega) (by omega)
   obtain ⟨K', hr'⟩ := hr'
   refine ⟨K + K' + 1, fun k hk => ?_⟩
   obtain ⟨m, rfl⟩ : ∃ m, k = m + 1 := ⟨k - 1, by omega⟩
   have e := e m (by omega)
   have e2 := hr' m (by omega)
   simp only at e2
   show slices_IndexFunc_int_int_at_impl_MachineOK_1.l0 (m + 1) a a.length i a.length = some r
   rw [slices_IndexFunc_int_int_at_impl_MachineOK_1.l0, if_pos (by omega), if_pos (by omega), if_pos (by omega)]
   refine (congrArg (fun o => Option.bind o _) (show _ = some _ from e)).trans ?_
   rw [hp]
   simp only [Option.bind_some, Bool.false_eq_true, if_false]
   rw [wrap_id _ (by omega) (by omega)]
   exact e2
  ·intro i hi hp
   obtain ⟨K, e⟩ := impl_row (a.getD i []) a.length (hr _ (getD_mem a [] i hi)) (by omega) (by omega)
   refine ⟨K + 1, fun k hk => ?_⟩
   obtain ⟨m, rfl⟩ : ∃ m, k = m + 1 := ⟨k - 1, by omega⟩
   have e := e m (by omega)
   show slices_IndexFunc_int_int_at_impl_MachineOK_1.l0 (m + 1) a a.length i a.length = some (i : Int)
   rw [slices_IndexFunc_int_int_at_impl_MachineOK_1.l0, if_pos (by omega), if_pos (by omega), if_pos (by omega)]
   refine (congrArg (fun o => Option.bind o _) (show _ = some _ from e)).trans ?_
   rw [hp]
   simp only [Option.bind_some, if_true]
  ·exact Ev.step (fun k => by
    show slices_IndexFunc_int_int_at_impl_MachineOK_1.l0 (k + 1) a a.length a.length a.length = some (-1)
    rw [slices_IndexFunc_int_int_at_impl_MachineOK_1.l0, if_neg (by omega)]) (Ev.now _)
 obtain ⟨K, key⟩ := key
 refine ⟨K, fun k hk => ?_⟩
 have e := key k hk
 simp only at e
 simp only [impl_MachineOK.f, within_eq, Option.bind_some, slices_ContainsFunc_int_int_at_impl_MachineOK_1.f, slices_IndexFunc_int_int_at_impl_MachineOK_1.f, e, findN_any]
 unfold machOk
 rw [all_of_any a.length]
 by_cases h1 : 1 ≤ a.length ∧ a.length ≤ 512
 ·have h1' : (1 : Int) ≤ (a.length : Int) ∧ (a.length : Int) ≤ 512 := by omega
  by_cases h2 : b.length = a.length
  ·have h2' : (b.length : Int) = (a.length : Int) := by omega
   simp only [decide_eq_true h1, decide_eq_true h1', decide_eq_true h2, if_true, if_pos h2', Bool.true_and]
  ·have h2' : ¬ (b.length : Int) = (a.length : Int) := by omega
   simp only [decide_eq_true h1, decide_eq_true h1', decide_eq_false h2, if_true, if_neg h2', Bool.true_and, Bool.false_and]
 ·have h1' : ¬ ((1 : Int) ≤ (a.length : Int) ∧ (a.length : Int) ≤ 512) := by omega
  simp only [decide_eq_false h1, decide_eq_false h1', Bool.false_and, Bool.false_eq_true, if_false]
end Go.Proofs.Ythkbgbkglgmpoaa.Pure
namespace Go.Proofs.Ythkbgbkglgmpoaa.Pure
set_option linter.unusedVariables false
set_option linter.unusedSimpArgs false
open Go.RowKit Go.Proofs.Ythkbgbkglgmpoaa.XA Go.Proofs.Ythkbgbkglgmpoaa.Pk Go.Proofs.YthkbgbkglgmpoaaW.PrintWords
theorem mach_facts {a : List (List Int)} {b : List Bool} (h : machOk a b = true) : a.length ≤ 512 ∧ 1 ≤ a.length ∧ b.length = a.length ∧ ∀ i, i < a.length → (a.getD i []).length = 8 ∧ ∀ j, j < 8 → inr a.length (rd (a.getD i []) (j : Nat)) = true := by
 unfold machOk at h
 rw [Bool.and_eq_true, Bool.and_eq_true, decide_eq_true_eq, decide_eq_true_eq, allN_iff] at h
 obtain ⟨⟨h1, h2⟩, h3, h4⟩ := h
 refine ⟨h2, h1, h3, fun i hi => ?_⟩
 have := h4 i hi
 unfold rowOk at this
 rw [Bool.and_eq_true, decide_eq_true_eq, allN_iff] at this
 exact this
end Go.Proofs.Ythkbgbkglgmpoaa.Pure
namespace Go.Proofs.Ythkbgbkglgmpoaa.Pure
set_option linter.unusedVariables false
set_option linter.unusedSimpArgs false
open Go.RowKit Go.Proofs.Ythkbgbkglgmpoaa.XA Go.Proofs.Ythkbgbkglgmpoaa.Pk Go.Proofs.YthkbgbkglgmpoaaW.PrintWords
theorem nodup_lenF {α : Type} [DecidableEq α] : ∀ (U a : List α), a.Nodup → (∀ x, x ∈ a → x ∈ U) → a.length ≤ U.length
 | [], a, _, h => by
  cases a with
  | nil => exact Nat.le_refl _
  | cons x a => exact absurd (h x List.mem_cons_self) List.not_mem_nil
 | u :: U, a, hn, h => by
  by_cases c : u ∈ a
  ·have := nodup_lenF U (a.erase u) (hn.erase u) (fun x hx => by
    obtain ⟨h1, h2⟩ := (List.Nodup.mem_erase_iff hn).1 hx
    rcases List.mem_cons.1 (h x h2) with e | h3
    ·exact absurd e h1
    ·exact h3)
   have e := List.length_erase_of_mem c
   have hp : 0 < a.length := List.length_pos_of_mem c
   rw [List.length_cons]
   omega
  ·have := nodup_lenF U a hn (fun x hx => by
    rcases List.mem_cons.1 (h x hx) with e | h3
    ·exact absurd (e ▸ hx) c
    ·exact h3)
   rw [List.length_cons]
   omega
structure Ways (n : Nat) (ws : List SWay) (sn : List Bool) : Prop where
 len : sn.length = n
 rng : ∀ x ∈ ws, 0 ≤ x.f0 ∧ x.f0 < (n : Int)
 nodup : (ws.map (·.f0)).Nodup
 seen : ∀ s : Int, 0 ≤ s → s < (n : Int) → rdOf false sn s = decide (s ∈ ws.map (·.f0))
 kids : ∀ i, i < ws.length → (ws.getD i zWay).f1.length ≤ i
theorem Ways.bound {n : Nat} {ws : List SWay} {sn : List Bool} (h : Ways n ws sn) : ws.length ≤ n := by
 have h1 : (ws.map (·.f0)).length ≤ ((List.range n).map (fun (i : Nat) => (i : Int))).length := by
  refine nodup_lenF _ _ h.nodup ?_
  intro x hx
  obtain ⟨w, hw, rfl⟩ := List.mem_map.1 hx
  have := h.rng w hw
  exact List.mem_map.2 ⟨w.f0.toNat, List.mem_range.2 (by omega), by omega⟩
 simpa using h1
theorem Ways.add {n : Nat} {ws : List SWay} {sn : List Bool} (h : Ways n ws sn) {i : Nat} (hi : i < ws.length) (t x : Int) (h0 : 0 ≤ t) (h1 : t < (n : Int)) (hn : rdOf false sn t = false) :
  Ways n (ws ++ [⟨t, (ws.getD i zWay).f1 ++ [x]⟩]) (sn.set t.toNat true) := by
 have hm : t ∉ ws.map (·.f0) := by
  rw [h.seen t h0 h1] at hn
  exact of_decide_eq_false hn
 refine ⟨by rw [List.length_set]; exact h.len, ?_, ?_, ?_, ?_⟩
 ·intro y hy
  rcases List.mem_append.1 hy with hy | hy
  ·exact h.rng y hy
  ·rw [List.mem_singleton.1 hy]; exact ⟨h0, h1⟩
 ·rw [List.map_append, List.nodup_append]
  refine ⟨h.nodup, by simp, ?_⟩
  intro a ha b hb e
  simp only [List.map_cons, List.map_nil, List.mem_singleton] at hb
  rw [e, hb] at ha
  exact hm ha
 ·intro s s0 s1
  have e1 : rdOf false (sn.set t.toNat true) s = if s = t then true else rdOf false sn s := by
   unfold rdOf
   rw [List.getD_eq_getElem?_getD, List.getD_eq_getElem?_getD, List.getElem?_set]
   have hl := h.len
   by_cases c : s = t
   ·subst c
    rw [if_pos rfl, if_pos rfl, if_pos (by omega)]
    rfl
   ·rw [if_neg (by omega), if_neg c]
  rw [e1, h.seen s s0 s1]
  by_cases c : s = t
  ·subst c; simp
  ·rw [if_neg c]
   simp [c]
 ·intro k hk
  rw [List.length_append, List.length_singleton] at hk
  by_cases c : k < ws.length
  ·rw [List.getD_eq_getElem?_getD, List.getElem?_append_left c, ← List.getD_eq_getElem?_getD]; exact h.kids k c
  ·have e : k = ws.length := by omega
   subst e
   have := h.kids i hi
   rw [List.getD_eq_getElem?_getD, List.getElem?_append_right (Nat.le_refl _), Nat.sub_self, List.getElem?_cons_zero, Option.getD_some, List.length_append, List.length_singleton]
   omega
theorem way_f0 (ws : List SWay) (i : Nat) : rd (ws.map (·.f0)) (i : Int) = (rdWay ws (i : Int)).f0 := by
 unfold rd rdWay
 simp only [Int.toNat_natCast, List.getD_eq_getElem?_getD, List.getElem?_map]
 cases ws[i]? <;> rfl
theorem way_f1 (ws : List SWay) (i : Nat) : rd_L1 (ws.map (·.f1)) (i : Int) = (rdWay ws (i : Int)).f1 := by
 unfold rd_L1 rdWay
 simp only [Int.toNat_natCast, List.getD_eq_getElem?_getD, List.getElem?_map]
 cases ws[i]? <;> rfl
end Go.Proofs.Ythkbgbkglgmpoaa.Pure
namespace Go.Proofs.Ythkbgbkglgmpoaa.Pure
set_option linter.unusedVariables false
set_option linter.unusedSimpArgs false
open Go.RowKit Go.Proofs.Ythkbgbkglgmpoaa.XA Go.Proofs.Ythkbgbkglgmpoaa.Pk Go.Proofs.YthkbgbkglgmpoaaW.PrintWords Go.Proofs.YthkbgbkglgmpoaaW.PrintLast Go.Proofs.YthkbgbkglgmpoaaW.PrintMore
theorem list_loop {α σ ρ : Type} (l : List α) (z : α) (I : Nat → σ → Prop) (G : List α → σ → ρ) (F : Nat → Int → σ → Option ρ)
  (hs : ∀ (i : Nat) (s : σ), i < l.length → I i s → (∀ s', I (i + 1) s' → Ev (fun k => F k ((i : Int) + 1) s') (G (l.drop (i + 1)) s')) → Ev (fun k => F k (i : Int) s) (G (l.getD i z :: l.drop (i + 1)) s))
  (he : ∀ s, I l.length s → Ev (fun k => F k (l.length : Int) s) (G [] s)) : ∀ s, I 0 s → Ev (fun k => F k 0 s) (G l s) := by
 have key : ∀ (m i : Nat) (s : σ), i + m = l.length → I i s → Ev (fun k => F k (i : Int) s) (G (l.drop i) s) := by
  intro m
  induction m with
  | zero =>
   intro i s hi h
   have e : i = l.length := by omega
   subst e
   rw [List.drop_length]
   exact he s h
  | succ m ih =>
   intro i s hi h
   have e : l.drop i = l.getD i z :: l.drop (i + 1) := by
    rw [List.getD_eq_getElem?_getD, List.getElem?_eq_getElem (by omega), Option.getD_some]
    exact List.drop_eq_getElem_cons (by omega)
   rw [e]
   exact hs i s (by omega) h (fun s' h' => ih (i + 1) s' (by omega) h')
 intro s h
 exact key l.length 0 s (by omega) h
theorem list_loop0 {α ρ : Type} (l : List α) (z : α) (G : List α → ρ) (F : Nat → Int → Option ρ)
  (hs : ∀ i : Nat, i < l.length → Ev (fun k => F k ((i : Int) + 1)) (G (l.drop (i + 1))) → Ev (fun k => F k (i : Int)) (G (l.getD i z :: l.drop (i + 1))))
  (he : Ev (fun k => F k (l.length : Int)) (G [])) : Ev (fun k => F k 0) (G l) :=
 list_loop (σ := Unit) l z (fun _ _ => True) (fun l _ => G l) (fun k i _ => F k i) (fun i _ hi _ h => hs i hi (h () trivial)) (fun _ _ => he) () trivial
theorem wrap_suc (i : Nat) (h : i < 4611686018427387904) : wrap64 ((i : Int) + 1) = (i : Int) + 1 := wrap_id _ (by omega) (by omega)
end Go.Proofs.Ythkbgbkglgmpoaa.Pure
namespace Go.Proofs.Ythkbgbkglgmpoaa.Pure
set_option linter.unusedVariables false
set_option linter.unusedSimpArgs false
open Go.RowKit Go.Proofs.Ythkbgbkglgmpoaa.XA Go.Proofs.Ythkbgbkglgmpoaa.Pk Go.Proofs.YthkbgbkglgmpoaaW.PrintWords Go.Proofs.YthkbgbkglgmpoaaW.PrintLast Go.Proofs.YthkbgbkglgmpoaaW.PrintMore
theorem spec_has (l : List Int) (v : Int) (h : l.length ≤ 4611686018427387903) : Ev (fun k => spec_l02Has.f k l v) (decide (v ∈ l)) := by
 refine list_loop0 l 0 (fun l => decide (v ∈ l)) (fun k i => spec_l02Has.l0 k l v i) ?_ ?_
 ·intro i hi hr
  refine Ev.step (fun k => by rw [spec_l02Has.l0]) ?_
  refine Ev.pos (by omega) (Ev.pos (by omega) ?_)
  by_cases e : rd l (i : Int) = v
  ·refine Ev.pos e ?_
   rw [decide_eq_true (by rw [List.mem_cons]; exact .inl e.symm)]
   exact Ev.now _
  ·refine Ev.neg e ?_
   simp only [wrap_suc i (by omega)]
   have : (v ∈ l.getD i 0 :: l.drop (i + 1)) ↔ v ∈ l.drop (i + 1) := by
    rw [List.mem_cons]
    exact ⟨fun g => g.resolve_left (fun g => e g.symm), .inr⟩
   rw [decide_eq_decide.2 this]
   exact hr
 ·refine Ev.step (fun k => by rw [spec_l02Has.l0]) ?_
  exact Ev.neg (by omega) (Ev.now _)
end Go.Proofs.Ythkbgbkglgmpoaa.Pure
namespace Go.Proofs.Ythkbgbkglgmpoaa.Pure
set_option linter.unusedVariables false
set_option linter.unusedSimpArgs false
open Go.RowKit Go.Proofs.Ythkbgbkglgmpoaa.XA Go.Proofs.Ythkbgbkglgmpoaa.Pk Go.Proofs.YthkbgbkglgmpoaaW.PrintWords
section
variable {a : List (List Int)} {b : List Bool} (hm : machOk a b = true)
include hm
theorem first_row (i : Nat) : ∀ (m j : Nat) (ws : List SWay) (sn : List Bool), j + m = 8 → Ways a.length ws sn → i < ws.length →
  (∀ ws' sn', Ways a.length ws' sn' → ws.length ≤ ws'.length → ∃ r : List Int × Bool, r.1.length ≤ 512 ∧ Ev (fun k => spec_l04First.l0 k (ws'.map (·.f0)) (ws'.map (·.f1)) ((i + 1 : Nat) : Int) a b) r ∧ Ev (fun k => impl_firstKids.l0 k a b ws' sn' ((i + 1 : Nat) : Int)) r) →
  ∃ r : List Int × Bool, r.1.length ≤ 512 ∧ Ev (fun k => spec_l04First.l1 k (ws.map (·.f0)) (ws.map (·.f1)) (i : Int) ((j + 1 : Nat) : Int) a b) r ∧ Ev (fun k => impl_firstKids.l1 k a b ws sn (i : Int) (rdWay ws (i : Int)).f0 (rdWay ws (i : Int)).f1 (j : Int)) r := by
 obtain ⟨ha, ha1, hbl, hrow⟩ := mach_facts hm
 intro m
 induction m with
 | zero =>
  intro j ws sn hj h hi hK
  have hb := h.bound
  have hst := h.rng (rdWay ws (i : Int)) (by unfold rdWay; rw [Int.toNat_natCast]; exact getD_mem ws zWay i hi)
  have hrl : (rd_L1 a (rdWay ws (i : Int)).f0).length = 8 := (hrow (rdWay ws (i : Int)).f0.toNat (by omega)).1
  obtain ⟨r, h0, h1, h2⟩ := hK ws sn h (Nat.le_refl _)
  refine ⟨r, h0, Ev.step (fun k => by rw [spec_l04First.l1]) (Ev.neg (by omega) ?_), Ev.step (fun k => by rw [impl_firstKids.l1]) (Ev.neg ?_ ?_)⟩
  ·simp only [wrap_suc i (by omega)]; exact h1
  ·rw [hrl]; omega
  ·simp only [wrap_suc i (by omega)]; exact h2
 | succ m ih =>
  intro j ws sn hj h hi hK
  have hb := h.bound
  have hst := h.rng (rdWay ws (i : Int)) (by unfold rdWay; rw [Int.toNat_natCast]; exact getD_mem ws zWay i hi)
  obtain ⟨hrl', hc⟩ := hrow (rdWay ws (i : Int)).f0.toNat (by omega)
  have hrl : (rd_L1 a (rdWay ws (i : Int)).f0).length = 8 := hrl'
  have hin := hc j (by omega)
  obtain ⟨t, ht⟩ : ∃ t, t = rd (rd_L1 a (rdWay ws (i : Int)).f0) (j : Int) := ⟨_, rfl⟩
  replace hin : inr a.length t = true := by rw [ht]; exact hin
  have hin' := of_decide_eq_true hin
  have hw : wrap64 (((j + 1 : Nat) : Int) - 1) = (j : Int) := by rw [wrap_id _ (by omega) (by omega)]; omega
  have hml : (ws.map (·.f0)).length = ws.length := List.length_map ..
  have hml1 : (ws.map (·.f1)).length = ws.length := List.length_map ..
  have hkk := h.kids i hi
  by_cases c : t = -1
  ·obtain ⟨r, h0, h1, h2⟩ := ih (j + 1) ws sn (by omega) h hi hK
   refine ⟨r, h0, Ev.step (fun k => by rw [spec_l04First.l1]) ?_, Ev.step (fun k => by rw [impl_firstKids.l1]) ?_⟩
   ·simp only [way_f0, hw, ← ht, hml, hml1, hrl]
    refine Ev.pos (by omega) (Ev.pos (by omega) (Ev.pos (by omega) (Ev.pos hst.1 (Ev.pos hst.2 (Ev.pos (by omega) (Ev.pos (by omega) (Ev.neg (by omega) ?_)))))))
    simp only [wrap_suc (j + 1) (by omega)]
    exact h1
   ·simp only [← ht, hrl]
    refine Ev.pos (by omega) (Ev.pos (by omega) (Ev.pos c ?_))
    simp only [wrap_suc j (by omega)]
    exact h2
  ·have h0t : 0 ≤ t := by omega
   have h1t : t < (a.length : Int) := by omega
   have hl := h.len
   have hse := h.seen t h0t h1t
   by_cases e : rdOf false sn t = true
   ·obtain ⟨r, h0, h1, h2⟩ := ih (j + 1) ws sn (by omega) h hi hK
    rw [e] at hse
    refine ⟨r, h0, Ev.step (fun k => by rw [spec_l04First.l1]) ?_, Ev.step (fun k => by rw [impl_firstKids.l1]) ?_⟩
    ·simp only [way_f0, hw, ← ht, hml, hml1, hrl]
     refine Ev.pos (by omega) (Ev.pos (by omega) (Ev.pos (by omega) (Ev.pos hst.1 (Ev.pos hst.2 (Ev.pos (by omega) (Ev.pos (by omega) (Ev.pos h0t (Ev.bind (spec_has _ t (by omega)) (Ev.pos hse.symm ?_)))))))))
     simp only [wrap_suc (j + 1) (by omega)]
     exact h1
    ·simp only [← ht, hrl]
     refine Ev.pos (by omega) (Ev.pos (by omega) (Ev.neg c (Ev.pos h0t (Ev.pos (by omega) (Ev.pos e ?_)))))
     simp only [wrap_suc j (by omega)]
     exact h2
   ·replace e := Bool.eq_false_iff.mpr e
    have hA := h.add hi t ((j + 1 : Nat) : Int) h0t h1t e
    have hw1 : rdWay (ws ++ [⟨t, (rdWay ws (i : Int)).f1 ++ [((j + 1 : Nat) : Int)]⟩]) (i : Int) = rdWay ws (i : Int) := by
     unfold rdWay
     simp only [Int.toNat_natCast, List.getD_eq_getElem?_getD]
     rw [List.getElem?_append_left hi]
    obtain ⟨r, h0, h1, h2⟩ := ih (j + 1) (ws ++ [⟨t, (rdWay ws (i : Int)).f1 ++ [((j + 1 : Nat) : Int)]⟩]) (sn.set t.toNat true) (by omega) hA (by simp; omega) (fun ws' sn' H hle => hK ws' sn' H (by simp at hle; omega))
    rw [hw1] at h2
    rw [e] at hse
    have hkk' : (rdWay ws (i : Int)).f1.length ≤ i := by unfold rdWay; rw [Int.toNat_natCast]; exact hkk
    refine ⟨r, h0, Ev.step (fun k => by rw [spec_l04First.l1]) ?_, Ev.step (fun k => by rw [impl_firstKids.l1]) ?_⟩
    ·simp only [way_f0, way_f1, hw, ← ht, hml, hml1, hrl]
     refine Ev.pos (by omega) (Ev.pos (by omega) (Ev.pos (by omega) (Ev.pos hst.1 (Ev.pos hst.2 (Ev.pos (by omega) (Ev.pos (by omega) (Ev.pos h0t (Ev.bind (spec_has _ t (by omega)) (Ev.neg (by rw [← hse]; decide) ?_)))))))))
     simp only [Option.bind_some, List.nil_append, List.length_nil, wrap_suc (j + 1) (by omega)]
     refine Ev.pos (by omega) (Ev.pos (by omega) (Ev.pos (by omega) (Ev.pos (by omega) (Ev.pos (by omega) ?_))))
     simp only [List.map_append, List.map_cons, List.map_nil] at h1
     exact h1
    ·simp only [← ht, hrl]
     refine Ev.pos (by omega) (Ev.pos (by omega) (Ev.neg c (Ev.pos h0t (Ev.pos (by omega) (Ev.neg (by rw [e]; decide) (Ev.pos (by omega) (Ev.pos (by omega) ?_)))))))
     simp only [wrap_suc j (by omega)]
     exact h2
theorem first_all : ∀ (m i : Nat) (ws : List SWay) (sn : List Bool), i + m = a.length + 1 → Ways a.length ws sn → i ≤ ws.length →
  ∃ r : List Int × Bool, r.1.length ≤ 512 ∧ Ev (fun k => spec_l04First.l0 k (ws.map (·.f0)) (ws.map (·.f1)) (i : Int) a b) r ∧ Ev (fun k => impl_firstKids.l0 k a b ws sn (i : Int)) r := by
 obtain ⟨ha, ha1, hbl, hrow⟩ := mach_facts hm
 intro m
 induction m with
 | zero => intro i ws sn hi h hl; have := h.bound; omega
 | succ m ih =>
  intro i ws sn him h hl
  have hb := h.bound
  have hml : (ws.map (·.f0)).length = ws.length := List.length_map ..
  have hml1 : (ws.map (·.f1)).length = ws.length := List.length_map ..
  by_cases hi : i < ws.length
  ·have hst := h.rng (rdWay ws (i : Int)) (by unfold rdWay; rw [Int.toNat_natCast]; exact getD_mem ws zWay i hi)
   have hkk : (rdWay ws (i : Int)).f1.length ≤ i := by have := h.kids i hi; unfold rdWay; rw [Int.toNat_natCast]; exact this
   by_cases e : rdOf false b (rdWay ws (i : Int)).f0 = true
   ·refine ⟨((rdWay ws (i : Int)).f1, true), by show (rdWay ws (i : Int)).f1.length ≤ 512; omega, Ev.step (fun k => by rw [spec_l04First.l0]) ?_, Ev.step (fun k => by rw [impl_firstKids.l0]) ?_⟩
    ·simp only [way_f0, way_f1, hml, hml1]
     exact Ev.pos (by omega) (Ev.pos (by omega) (Ev.pos hst.1 (Ev.pos (by omega) (Ev.pos e (Ev.pos (by omega) (Ev.now _))))))
    ·exact Ev.pos (by omega) (Ev.pos (by omega) (Ev.pos hst.1 (Ev.pos (by omega) (Ev.pos e (Ev.now _)))))
   ·obtain ⟨r, h0, h1, h2⟩ := first_row hm i 8 0 ws sn rfl h hi (fun ws' sn' H hle => ih (i + 1) ws' sn' (by omega) H (by omega))
    refine ⟨r, h0, Ev.step (fun k => by rw [spec_l04First.l0]) ?_, Ev.step (fun k => by rw [impl_firstKids.l0]) ?_⟩
    ·simp only [way_f0, way_f1, hml, hml1]
     exact Ev.pos (by omega) (Ev.pos (by omega) (Ev.pos hst.1 (Ev.pos (by omega) (Ev.neg e h1))))
    ·exact Ev.pos (by omega) (Ev.pos (by omega) (Ev.pos hst.1 (Ev.pos (by omega) (Ev.neg e (Ev.pos hst.2 h2)))))
  ·refine ⟨([], false), Nat.zero_le _, Ev.step (fun k => by rw [spec_l04First.l0]) (Ev.neg (by omega) (Ev.now _)), Ev.step (fun k => by rw [impl_firstKids.l0]) (Ev.neg (by omega) (Ev.now _))⟩
end
end Go.Proofs.Ythkbgbkglgmpoaa.Pure
namespace Go.Proofs.Ythkbgbkglgmpoaa.Pure
set_option linter.unusedVariables false
open Go.RowKit Go.Proofs.Ythkbgbkglgmpoaa.XA Go.Proofs.Ythkbgbkglgmpoaa.Pk Go.Proofs.YthkbgbkglgmpoaaW.PrintWords
theorem sumL_leF : ∀ (l : List (List Int)), (∀ x ∈ l, x.length ≤ 1048576) → sumL l ≤ (l.length : Int) * 1048577
 | [], _ => by show (0 : Int) ≤ _; simp
 | x :: r, h => by
  have h1 := h x List.mem_cons_self
  have h2 := sumL_leF r (fun y hy => h y (List.mem_cons_of_mem _ hy))
  show (x.length : Int) + sumL r ≤ ((x :: r).length : Int) * 1048577
  rw [List.length_cons]
  omega
theorem ways0 (n : Nat) (hn : 1 ≤ n) : Ways n [⟨0, []⟩] ((List.replicate n false).set 0 true) := by
 refine ⟨by simp, ?_, by simp, ?_, ?_⟩
 ·intro x hx
  rw [List.mem_singleton.1 hx]
  exact ⟨Int.le_refl _, by show (0 : Int) < (n : Int); omega⟩
 ·intro s h0 h1
  unfold rdOf
  rw [List.getD_eq_getElem?_getD, List.getElem?_set]
  by_cases c : s = 0
  ·subst c
   rw [if_pos (show 0 = Int.toNat 0 from rfl), if_pos (by simp; omega)]
   simp
  ·rw [if_neg (by omega), List.getElem?_replicate, if_pos (by omega)]
   simp [c]
 ·intro i hi
  have : i = 0 := by simpa using hi
  subst this
  exact Nat.le_refl _
theorem first_both (a : List (List Int)) (b : List Bool) (ha : a.length ≤ 1048576) (hr : ∀ l ∈ a, l.length ≤ 1048576) : ∃ (r0 : List Int) (r1 : Int), r0.length ≤ 512 ∧ Ev (fun k => spec_FirstKids.f k a b) (r0, r1) ∧ Ev (fun k => impl_FirstKids.f k a b) (r0, r1) := by
 have e1 := spec_machine a b ha
 have e2 := impl_machine a b ha hr
 cases hok : machOk a b with
 | false =>
  rw [hok] at e1 e2
  exact ⟨[], 1, Nat.zero_le _, Ev.bind e1 (Ev.neg (by decide) (Ev.now _)), Ev.bind e2 (Ev.neg (by decide) (Ev.now _))⟩
 | true =>
  rw [hok] at e1 e2
  obtain ⟨h1, h2, h3, h4⟩ := mach_facts hok
  obtain ⟨⟨r0, ok⟩, hl, f1, f2⟩ := first_all hok (a.length + 1) 0 [⟨0, []⟩] ((List.replicate a.length false).set 0 true) (by omega) (ways0 a.length h2) (Nat.zero_le _)
  have hl : r0.length ≤ 512 := hl
  have g1 : Ev (fun k => spec_l04First.f k a b) (r0, ok) := f1
  have g2 : Ev (fun k => impl_firstKids.f k a b) (r0, ok) := by
   unfold impl_firstKids.f
   exact Ev.pos (by omega) (Ev.pos (by omega) f2)
  cases ok with
  | true =>
   refine ⟨r0, 0, hl, Ev.bind e1 (Ev.pos rfl (Ev.bind g1 (Ev.pos rfl ?_))), Ev.bind e2 (Ev.pos rfl (Ev.bind g2 (Ev.pos rfl (Ev.now _))))⟩
   simp only [Option.bind_some, List.nil_append, List.length_nil]
   exact Ev.pos (by omega) (Ev.now _)
  | false =>
   exact ⟨[], 5, Nat.zero_le _, Ev.bind e1 (Ev.pos rfl (Ev.bind g1 (Ev.neg (fun h => nomatch h) (Ev.now _)))), Ev.bind e2 (Ev.pos rfl (Ev.bind g2 (Ev.neg (fun h => nomatch h) (Ev.now _))))⟩
theorem FnExactFirstKids (x0 : S37) (o0 : ok37 x0) : ∃ k, laws_FnExactFirstKids.P k x0.f0 x0.f1 := by
 obtain ⟨v, ⟨K0, e0⟩, l0, s0⟩ := sz37 x0 o0 1048576 (by omega) (by omega)
 rcases s0 with s0 | ⟨s0, sm0⟩
 ·exact ⟨K0, v, e0 K0 (Nat.le_refl _), .inl s0⟩
 obtain ⟨K1, e1⟩ := to37 x0 sm0
 have hm := smcv37 x0 sm0
 obtain ⟨K5, e5⟩ := eq27 _ hm
 obtain ⟨a, b⟩ := x0
 have hA : a.length ≤ 1048576 := hm.1.1
 have hR : ∀ y ∈ a, y.length ≤ 1048576 := hm.1.2
 have hB : b.length ≤ 1048576 := hm.2
 obtain ⟨r0, r1, hl, ⟨K2, e2⟩, ⟨K3, e3⟩⟩ := first_both a b hA hR
 obtain ⟨K4, e4⟩ := eq39 r0 (by omega)
 have hL := sumL_leF a hR
 have hL0 := sumL_ge a
 obtain ⟨K6, e6⟩ := markMachine_ev a b 1 (by omega) (by omega) hA hB
 obtain ⟨K7, e7⟩ := markIntS_ev r0 1 (by omega) (by omega)
 obtain ⟨K8, e8⟩ := heldIntS_ev r0.length 1 (by omega) (by omega)
 refine ⟨K0 + K1 + K2 + K3 + K4 + K5 + K6 + K7 + K8, v, e0 _ (by omega), .inr ⟨s0, a, b, r0, r1, _, _, _, _, _, e1 _ (by omega), e2 _ (by omega), e3 _ (by omega), e4 _ (by omega), e5 _ (by omega), e6 _ (by omega), e7 _ (by omega), e8 _ (by omega), by omega, by omega⟩⟩
end Go.Proofs.Ythkbgbkglgmpoaa.Pure
