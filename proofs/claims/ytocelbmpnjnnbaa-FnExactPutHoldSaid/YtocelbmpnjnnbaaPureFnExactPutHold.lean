/- The program's PutHold answers what the reference's answers: the pure statement of FnExactPutHold. Conditions: none. -/
import Derived.Test.YtocelbmpnjnnbaaYPutHoldK
set_option linter.unusedVariables false
set_option linter.unusedSimpArgs false
namespace Go.Proofs.Ytocelbmpnjnnbaa.Pure
set_option linter.unusedVariables false
set_option linter.unusedSimpArgs false
open Go.RowKit Go.Proofs.Ytocelbmpnjnnbaa.XA Go.Proofs.Ytocelbmpnjnnbaa.Pk Go.Proofs.YtocelbmpnjnnbaaW.PrintWords Go.Proofs.YtocelbmpnjnnbaaW.PrintLast Go.Proofs.YtocelbmpnjnnbaaW.PrintMore
theorem list_loop {α σ ρ : Type} (l : List α) (z : α) (I : Nat → σ → Prop) (G : List α → σ → ρ) (F : Nat → Int → σ → Option ρ)
  (hs : ∀ (i : Nat) (s : σ), i < l.length → I i s → (∀ s', I (i + 1) s' → Ev (fun k => F k ((i : Int) + 1) s') (G (l.drop (i + 1)) s')) → Ev (fun k => F k (i : Int) s) (G (l.getD i z :: l.drop (i + 1)) s))
  (he : ∀ s, I l.length s → Ev (fun k => F k (l.length : Int) s) (G [] s)) : ∀ s, I 0 s → Ev (fun k => F k 0 s) (G l s) := by
 have key : ∀ (m i : Nat) (s : σ), i + m = l.length → I i s → Ev (fun k => F k (i : Int) s) (G (l.drop i) s) := by
  intro m
  induction m with
  | zero =>
   intro i s hi h
   have e : i = l.length := by omega
   subst e
   rw [List.drop_length]
   exact he s h
  | succ m ih =>
   intro i s hi h
   have e : l.drop i = l.getD i z :: l.drop (i + 1) := by
    rw [List.getD_eq_getElem?_getD, List.getElem?_eq_getElem (by omega), Option.getD_some]
    exact List.drop_eq_getElem_cons (by omega)
   rw [e]
   exact hs i s (by omega) h (fun s' h' => ih (i + 1) s' (by omega) h')
 intro s h
 exact key l.length 0 s (by omega) h
theorem list_loop0 {α ρ : Type} (l : List α) (z : α) (G : List α → ρ) (F : Nat → Int → Option ρ)
  (hs : ∀ i : Nat, i < l.length → Ev (fun k => F k ((i : Int) + 1)) (G (l.drop (i + 1))) → Ev (fun k => F k (i : Int)) (G (l.getD i z :: l.drop (i + 1))))
  (he : Ev (fun k => F k (l.length : Int)) (G [])) : Ev (fun k => F k 0) (G l) :=
 list_loop (σ := Unit) l z (fun _ _ => True) (fun l _ => G l) (fun k i _ => F k i) (fun i _ hi _ h => hs i hi (h () trivial)) (fun _ _ => he) () trivial
theorem idx_loop {σ ρ : Type} (n : Nat) (I : Nat → σ → Prop) (G : Nat → Nat → σ → ρ) (F : Nat → Int → σ → Option ρ)
  (hs : ∀ (m i : Nat) (s : σ), i + (m + 1) = n → I i s → (∀ s', I (i + 1) s' → Ev (fun k => F k ((i : Int) + 1) s') (G m (i + 1) s')) → Ev (fun k => F k (i : Int) s) (G (m + 1) i s))
  (he : ∀ s, I n s → Ev (fun k => F k (n : Int) s) (G 0 n s)) : ∀ s, I 0 s → Ev (fun k => F k 0 s) (G n 0 s) := by
 have key : ∀ (m i : Nat) (s : σ), i + m = n → I i s → Ev (fun k => F k (i : Int) s) (G m i s) := by
  intro m
  induction m with
  | zero =>
   intro i s hi h
   have e : i = n := by omega
   subst e
   exact he s h
  | succ m ih =>
   intro i s hi h
   exact hs m i s hi h (fun s' h' => ih (i + 1) s' (by omega) h')
 intro s h
 exact key n 0 s (by omega) h
theorem wrap_suc (i : Nat) (h : i < 4611686018427387904) : wrap64 ((i : Int) + 1) = (i : Int) + 1 := wrap_id _ (by omega) (by omega)
theorem Ev.use {α β : Type} {a : Option α} {x : α} {f : Nat → α → Option β} {r : β} (h : a = some x) (k : Ev (fun n => f n x) r) : Ev (fun n => a.bind (f n)) r := by
 subst h
 exact k
theorem tin_eq (x lo hi : Int) : spec_l01In.f x lo hi = some (decide (lo ≤ x ∧ x ≤ hi)) := by
 unfold spec_l01In.f
 by_cases h : x ≥ lo
 ·rw [if_pos h]; exact congrArg some (decide_eq_decide.2 ⟨fun g => ⟨h, g⟩, fun g => g.2⟩)
 ·rw [if_neg h]; exact congrArg some (decide_eq_false fun g => h g.1).symm
theorem twithin_eq (x lo hi : Int) : impl_within.f x lo hi = some (decide (lo ≤ x ∧ x ≤ hi)) := tin_eq x lo hi
def ids (l : List S64) : List Int := l.map (fun x => x.f0)
def atF (l : List S64) (id : Int) : Int := findN l.length (fun i => decide ((l.getD i z64).f0 = id))
def nd (l : List S64) (id : Int) : S64 := rd_T64 l (atF l id)
def kd (l : List S64) (id : Int) : List Int := (nd l id).f4
def par : List S64 → Int → Int
 | [], _ => 0
 | x :: l, id => if id ∈ x.f4 then x.f0 else par l id
theorem findN_spec (n : Nat) (p : Nat → Bool) : (findN n p = -1 ∧ ∀ i, i < n → p i = false) ∨ ∃ i, i < n ∧ findN n p = (i : Int) ∧ p i = true ∧ ∀ j, j < i → p j = false := by
 induction n generalizing p with
 | zero => exact .inl ⟨rfl, fun i hi => by omega⟩
 | succ n ih =>
  rw [findN]
  cases h0 : p 0
  ·rw [if_neg (by decide)]
   rcases ih (fun i => p (i + 1)) with ⟨h1, h2⟩ | ⟨i, hi, h1, h2, h3⟩
   ·rw [if_pos (by omega)]
    refine .inl ⟨rfl, fun i hi => ?_⟩
    cases i with
    | zero => exact h0
    | succ i => exact h2 i (by omega)
   ·rw [if_neg (by omega)]
    refine .inr ⟨i + 1, by omega, by omega, h2, fun j hj => ?_⟩
    cases j with
    | zero => exact h0
    | succ j => exact h3 j (by omega)
  ·rw [if_pos rfl]
   exact .inr ⟨0, by omega, rfl, h0, fun j hj => by omega⟩
theorem rd_nat (l : List S64) (i : Nat) : rd_T64 l (i : Int) = l.getD i z64 := rfl
theorem at_spec (l : List S64) (id : Int) : (atF l id = -1 ∧ id ∉ ids l) ∨ ∃ i, i < l.length ∧ atF l id = (i : Int) ∧ (nd l id).f0 = id ∧ nd l id ∈ l ∧ id ∈ ids l ∧ nd l id = l.getD i z64 := by
 rcases findN_spec l.length (fun i => decide ((l.getD i z64).f0 = id)) with ⟨h1, h2⟩ | ⟨i, hi, h1, h2, h3⟩
 ·refine .inl ⟨h1, fun hm => ?_⟩
  obtain ⟨x, hx, e⟩ := List.mem_map.1 hm
  obtain ⟨i, hi, rfl⟩ := List.getElem_of_mem hx
  have := of_decide_eq_false (h2 i hi)
  rw [List.getD_eq_getElem?_getD, List.getElem?_eq_getElem hi] at this
  exact this e
 ·have e : atF l id = (i : Int) := h1
  have e2 : nd l id = l.getD i z64 := by unfold nd; rw [e]; rfl
  have e3 : (l.getD i z64).f0 = id := of_decide_eq_true h2
  have e4 : l.getD i z64 ∈ l := getD_mem l _ i hi
  exact .inr ⟨i, hi, e, by rw [e2]; exact e3, by rw [e2]; exact e4, List.mem_map.2 ⟨_, e4, e3⟩, e2⟩
theorem at_neg (l : List S64) (id : Int) : atF l id < 0 ↔ id ∉ ids l := by
 rcases at_spec l id with ⟨h1, h2⟩ | ⟨i, hi, h1, _, _, h2, _⟩
 ·exact ⟨fun _ => h2, fun _ => by omega⟩
 ·exact ⟨fun h => by omega, fun h => absurd h2 h⟩
theorem spec_at (l : List S64) (r n id : Int) (h : l.length ≤ 1048576) : Ev (fun k => spec_l02At.f k r n l id) (atF l id) := by
 refine find_loop l.length _ (fun k i => spec_l02At.l0 k id i r n l) ?_ ?_ ?_
 ·intro i q hi hp hq
  refine Ev.step (fun k => by rw [spec_l02At.l0]) ?_
  refine Ev.pos (by omega) (Ev.pos (by omega) (Ev.neg (of_decide_eq_false hp) ?_))
  simp only [wrap_suc i (by omega)]
  exact hq
 ·intro i hi hp
  refine Ev.step (fun k => by rw [spec_l02At.l0]) ?_
  exact Ev.pos (by omega) (Ev.pos (by omega) (Ev.pos (of_decide_eq_true hp) (Ev.now _)))
 ·refine Ev.step (fun k => by rw [spec_l02At.l0]) ?_
  exact Ev.neg (by omega) (Ev.now _)
theorem ndec {p : Prop} [Decidable p] (h : ¬ p) : ¬ decide p = true := fun g => h (of_decide_eq_true g)
theorem spec_has (l : List Int) (v : Int) (h : l.length ≤ 4611686018427387903) : Ev (fun k => spec_l02Has.f k l v) (decide (v ∈ l)) := by
 refine list_loop0 l 0 (fun l => decide (v ∈ l)) (fun k i => spec_l02Has.l0 k l v i) ?_ ?_
 ·intro i hi hr
  refine Ev.step (fun k => by rw [spec_l02Has.l0]) ?_
  refine Ev.pos (by omega) (Ev.pos (by omega) ?_)
  by_cases e : rd l (i : Int) = v
  ·refine Ev.pos e ?_
   rw [decide_eq_true (by rw [List.mem_cons]; exact .inl e.symm)]
   exact Ev.now _
  ·refine Ev.neg e ?_
   simp only [wrap_suc i (by omega)]
   have : (v ∈ l.getD i 0 :: l.drop (i + 1)) ↔ v ∈ l.drop (i + 1) := by
    rw [List.mem_cons]
    exact ⟨fun g => g.resolve_left (fun g => e g.symm), .inr⟩
   rw [decide_eq_decide.2 this]
   exact hr
 ·refine Ev.step (fun k => by rw [spec_l02Has.l0]) ?_
  exact Ev.neg (by omega) (Ev.now _)
theorem spec_parent (l : List S64) (r n id : Int) (h : l.length ≤ 1048576) (hk : ∀ x ∈ l, x.f4.length ≤ 1048576) : Ev (fun k => spec_l02Parent.f k r n l id) (par l id) := by
 refine list_loop0 l z64 (fun l => par l id) (fun k i => spec_l02Parent.l0 k id i r n l) ?_ ?_
 ·intro i hi hr
  refine Ev.step (fun k => by rw [spec_l02Parent.l0]) ?_
  refine Ev.pos (by omega) (Ev.pos (by omega) ?_)
  refine Ev.bind (spec_has _ _ (Nat.le_trans (hk _ (getD_mem l _ i hi)) (by omega))) ?_
  show Ev (fun k => if decide (id ∈ (l.getD i z64).f4) = true then _ else _) (if id ∈ (l.getD i z64).f4 then (l.getD i z64).f0 else par (l.drop (i + 1)) id)
  by_cases e : id ∈ (l.getD i z64).f4
  ·rw [if_pos e]
   exact Ev.pos (decide_eq_true e) (Ev.now _)
  ·rw [if_neg e]
   refine Ev.neg (by simpa using e) ?_
   simp only [wrap_suc i (by omega)]
   exact hr
 ·refine Ev.step (fun k => by rw [spec_l02Parent.l0]) ?_
  exact Ev.neg (by omega) (Ev.now _)
def i64 (n : Int) : Prop := -9223372036854775808 ≤ n ∧ n ≤ 9223372036854775807
def docSm (l : List S64) : Prop := l.length ≤ 1048576 ∧ ∀ x ∈ l, x.f4.length ≤ 1048576
def docI (l : List S64) : Prop := ∀ x ∈ l, i64 x.f0 ∧ ∀ c ∈ x.f4, i64 c
def nodeB (next : Int) (x : S64) : Bool := decide (1 ≤ x.f0 ∧ x.f0 ≤ next - 1) && (decide (1 ≤ x.f1 ∧ x.f1 ≤ 8) && (decide (0 ≤ x.f2 ∧ x.f2 ≤ 99) && (decide (x.f3.size ≤ 20) && decide (x.f4.length ≤ 12))))
def ordB (l : List S64) (i : Nat) : Bool := decide (i = 0 ∨ (l.getD (i - 1) z64).f0 < (l.getD i z64).f0)
def kidsB (root : Int) (I : List Int) : List Int → List Int → Option (List Int)
 | [], s => some s
 | c :: cs, s => if c = root ∨ c ∈ s ∨ c ∉ I then none else kidsB root I cs (s ++ [c])
def finB (root : Int) (l : List S64) (s : List Int) : Bool := decide ((s.length : Int) = (l.length : Int) - 1 ∧ root ∈ ids l)
def nodesG (root next : Int) (l : List S64) : Nat → Nat → List Int → Bool
 | 0, _, s => finB root l s
 | m + 1, i, s => if nodeB next (l.getD i z64) = true ∧ ordB l i = true then (match kidsB root (ids l) (l.getD i z64).f4 s with | none => false | some s' => nodesG root next l m (i + 1) s') else false
theorem spec_node (x : S64) (next : Int) (hn : 2 ≤ next ∧ next ≤ 999999) : spec_l02Node.f x.f0 x.f1 x.f2 x.f3 x.f4 next = some (nodeB next x) := by
 have w1 : wrap64 (next - 1) = next - 1 := wrap_id _ (by omega) (by omega)
 simp only [spec_l02Node.f, spec_l02Kind.f, tin_eq, w1, Option.bind_some, nodeB]
 by_cases h1 : 1 ≤ x.f0 ∧ x.f0 ≤ next - 1
 ·by_cases h2 : 1 ≤ x.f1 ∧ x.f1 ≤ 8
  ·by_cases h3 : 0 ≤ x.f2 ∧ x.f2 ≤ 99
   ·by_cases h4 : x.f3.size ≤ 20
    ·have h4' : (x.f3.size : Int) ≤ 20 := by omega
     have h5 : (decide ((x.f4.length : Int) ≤ 12)) = decide (x.f4.length ≤ 12) := decide_eq_decide.2 (by omega)
     simp [h1, h2, h3, h4, h4', h5]
    ·have h4' : ¬ (x.f3.size : Int) ≤ 20 := by omega
     simp [h1, h2, h3, h4, h4']
   ·simp [h1, h2, h3]
  ·simp [h1, h2]
 ·simp [h1]
theorem spec_kids (l : List S64) (root n : Int) (i : Nat) (s : List Int) (x : S64) (hl : docSm l) (hi : i < l.length) (hx : x.f4.length ≤ 1048576) (hs : s.length ≤ 1048576 * i) (c : List Int → Bool)
  (hc : ∀ s', s'.length ≤ 1048576 * (i + 1) → Ev (fun k => spec_l02Nodes.l0 k s' ((i : Int) + 1) root n l) (c s')) :
  Ev (fun k => spec_l02Nodes.l1 k s i 0 root n l x.f0 x.f1 x.f2 x.f3 x.f4) (match kidsB root (ids l) x.f4 s with | none => false | some s' => c s') := by
 have hl' := hl.1
 refine list_loop x.f4 0 (fun j s' => s'.length ≤ 1048576 * i + j) (fun cs s' => match kidsB root (ids l) cs s' with | none => false | some s' => c s') (fun k j s' => spec_l02Nodes.l1 k s' i j root n l x.f0 x.f1 x.f2 x.f3 x.f4) ?_ ?_ s (by simpa using hs)
 ·intro j s' hj hs' hr
  refine Ev.step (fun k => by rw [spec_l02Nodes.l1]) ?_
  refine Ev.pos (by omega) (Ev.pos (by omega) ?_)
  show Ev (fun k => if x.f4.getD j 0 = root then _ else _) (match (if x.f4.getD j 0 = root ∨ x.f4.getD j 0 ∈ s' ∨ x.f4.getD j 0 ∉ ids l then none else kidsB root (ids l) (x.f4.drop (j + 1)) (s' ++ [x.f4.getD j 0])) with | none => false | some s' => c s')
  by_cases h1 : x.f4.getD j 0 = root
  ·rw [if_pos (.inl h1)]
   exact Ev.pos h1 (Ev.now _)
  refine Ev.neg h1 (Ev.bind (spec_has s' _ (by omega)) ?_)
  by_cases h2 : x.f4.getD j 0 ∈ s'
  ·rw [if_pos (.inr (.inl h2))]
   exact Ev.pos (decide_eq_true h2) (Ev.now _)
  refine Ev.neg (ndec h2) (Ev.bind (spec_at l root n _ hl') ?_)
  by_cases h3 : x.f4.getD j 0 ∈ ids l
  ·rw [if_neg (fun h => h.elim h1 (fun h => h.elim h2 (fun h => h h3)))]
   refine Ev.neg (fun h => (at_neg l _).1 h h3) (Ev.pos (by omega) ?_)
   simp only [wrap_suc j (by omega)]
   exact hr _ (by simp; omega)
  ·rw [if_pos (.inr (.inr h3))]
   exact Ev.pos ((at_neg l _).2 h3) (Ev.now _)
 ·intro s' hs'
  refine Ev.step (fun k => by rw [spec_l02Nodes.l1]) ?_
  refine Ev.neg (by omega) ?_
  simp only [wrap_suc i (by omega)]
  exact hc s' (by omega)
theorem spec_nodes (l : List S64) (root next : Int) (hn : 2 ≤ next ∧ next ≤ 999999) (hl : docSm l) (h0 : 1 ≤ l.length) : Ev (fun k => spec_l02Nodes.f k root next l) (nodesG root next l l.length 0 []) := by
 have hl' := hl.1
 refine idx_loop l.length (fun i s => s.length ≤ 1048576 * i) (fun m i s => nodesG root next l m i s) (fun k i s => spec_l02Nodes.l0 k s i root next l) ?_ ?_ [] (by simp)
 ·intro m i s hi hs hr
  refine Ev.step (fun k => by rw [spec_l02Nodes.l0]) ?_
  refine Ev.pos (by omega) (Ev.pos (by omega) (Ev.use (spec_node (l.getD i z64) next hn) ?_))
  show Ev _ (if nodeB next (l.getD i z64) = true ∧ ordB l i = true then (match kidsB root (ids l) (l.getD i z64).f4 s with | none => false | some s' => nodesG root next l m (i + 1) s') else false)
  have hk := spec_kids l root next i s (l.getD i z64) hl (by omega) (hl.2 _ (getD_mem l _ i (by omega))) hs (fun s' => nodesG root next l m (i + 1) s') hr
  by_cases h1 : nodeB next (l.getD i z64) = true
  ·refine Ev.pos h1 ?_
   by_cases h2 : i = 0
   ·rw [if_pos ⟨h1, decide_eq_true (.inl h2)⟩]
    refine Ev.neg (by omega) ?_
    refine Ev.step (fun k => by rw [spec_l02Nodes.j1]) ?_
    exact Ev.neg (by decide) hk
   ·have e : wrap64 ((i : Int) - 1) = ((i - 1 : Nat) : Int) := by rw [wrap_id _ (by omega) (by omega)]; omega
    simp only [e]
    refine Ev.pos (by omega) (Ev.pos (by omega) (Ev.pos (by omega) ?_))
    by_cases h3 : (l.getD (i - 1) z64).f0 < (l.getD i z64).f0
    ·rw [if_pos ⟨h1, decide_eq_true (.inr h3)⟩]
     refine Ev.step (fun k => by rw [spec_l02Nodes.j1]) ?_
     refine Ev.neg ?_ hk
     rw [rd_nat, rd_nat, decide_eq_true_eq]
     omega
    ·rw [if_neg (fun h => (of_decide_eq_true h.2).elim h2 h3)]
     refine Ev.step (fun k => by rw [spec_l02Nodes.j1]) ?_
     refine Ev.pos ?_ (Ev.now _)
     rw [rd_nat, rd_nat, decide_eq_true_eq]
     omega
  ·rw [if_neg (fun h => h1 h.1)]
   refine Ev.neg h1 ?_
   refine Ev.step (fun k => by rw [spec_l02Nodes.j1]) ?_
   exact Ev.pos rfl (Ev.now _)
 ·intro s hs
  refine Ev.step (fun k => by rw [spec_l02Nodes.l0]) ?_
  refine Ev.neg (by omega) ?_
  rw [wrap_id _ (by omega) (by omega)]
  show Ev _ (finB root l s)
  unfold finB
  by_cases h1 : (s.length : Int) = (l.length : Int) - 1
  ·refine Ev.pos h1 (Ev.bind (spec_at l root next root hl') ?_)
   have e : decide (atF l root ≥ 0) = decide ((s.length : Int) = (l.length : Int) - 1 ∧ root ∈ ids l) := by
    refine decide_eq_decide.2 ⟨fun h => ⟨h1, ?_⟩, fun h => ?_⟩
    ·apply Classical.byContradiction
     intro g
     have := (at_neg l root).2 g
     omega
    ·have := mt (at_neg l root).1 (fun g => g h.2)
     omega
   rw [e]
   exact Ev.now _
  ·refine Ev.neg h1 ?_
   rw [decide_eq_false (fun h => h1 h.1)]
   exact Ev.now _
def locG (next : Int) (l : List S64) : Nat → Nat → Bool
 | 0, _ => true
 | m + 1, i => (nodeB next (l.getD i z64) && ordB l i) && locG next l m (i + 1)
def kidsM (root : Int) (l : List S64) : Nat → Nat → List Int → Option (List Int)
 | 0, _, s => some s
 | m + 1, i, s => (kidsB root (ids l) (l.getD i z64).f4 s).bind (kidsM root l m (i + 1))
theorem nodesG_eq (root next : Int) (l : List S64) (m i : Nat) (s : List Int) : nodesG root next l m i s = (locG next l m i && match kidsM root l m i s with | none => false | some s' => finB root l s') := by
 induction m generalizing i s with
 | zero => simp [nodesG, locG, kidsM]
 | succ m ih =>
  rw [nodesG, locG, kidsM]
  by_cases h : nodeB next (l.getD i z64) = true ∧ ordB l i = true
  ·rw [if_pos h, h.1, h.2]
   cases hk : kidsB root (ids l) (l.getD i z64).f4 s with
   | none => simp
   | some s' => simp only [Option.bind_some, ih, Bool.and_self, Bool.true_and]
  ·rw [if_neg h]
   have : (nodeB next (l.getD i z64) && ordB l i) = false := by
    cases h1 : nodeB next (l.getD i z64) <;> cases h2 : ordB l i <;> simp_all
   rw [this]
   simp
theorem kidsB_append (root : Int) (I a b s : List Int) : kidsB root I (a ++ b) s = (kidsB root I a s).bind (kidsB root I b) := by
 induction a generalizing s with
 | nil => rfl
 | cons c a ih =>
  rw [List.cons_append, kidsB, kidsB]
  split
  ·rfl
  ·exact ih _
theorem kidsM_eq (root : Int) (l : List S64) (m i : Nat) (h : i + m = l.length) (s : List Int) : kidsM root l m i s = kidsB root (ids l) ((l.drop i).flatMap (fun x => x.f4)) s := by
 induction m generalizing i s with
 | zero =>
  have e : i = l.length := by omega
  subst e
  rw [List.drop_length]
  rfl
 | succ m ih =>
  have e : l.drop i = l.getD i z64 :: l.drop (i + 1) := by
   rw [List.getD_eq_getElem?_getD, List.getElem?_eq_getElem (by omega), Option.getD_some]
   exact List.drop_eq_getElem_cons (by omega)
  rw [e, List.flatMap_cons, kidsB_append, kidsM]
  congr 1
  funext s'
  exact ih (i + 1) (by omega) s'
theorem kidsB_some (root : Int) (I cs s s' : List Int) (h : kidsB root I cs s = some s') (hn : s.Nodup) : s' = s ++ cs ∧ (∀ c ∈ cs, c ≠ root ∧ c ∈ I) ∧ (s ++ cs).Nodup := by
 induction cs generalizing s with
 | nil => cases h; simp [hn]
 | cons c cs ih =>
  rw [kidsB] at h
  split at h
  ·cases h
  ·rename_i g
   have g1 : c ≠ root := fun e => g (.inl e)
   have g2 : c ∉ s := fun e => g (.inr (.inl e))
   have g3 : c ∈ I := Classical.byContradiction fun e => g (.inr (.inr e))
   obtain ⟨h1, h2, h3⟩ := ih (s ++ [c]) h (by
    rw [List.nodup_append]
    refine ⟨hn, by simp, fun a ha b hb => ?_⟩
    simp only [List.mem_singleton] at hb
    subst hb
    exact fun e => g2 (e ▸ ha))
   rw [List.append_assoc] at h1 h3
   refine ⟨h1, fun d hd => ?_, h3⟩
   rcases List.mem_cons.1 hd with e | hd
   ·subst e; exact ⟨g1, g3⟩
   ·exact h2 d hd
theorem locG_iff (next : Int) (l : List S64) (m i : Nat) : locG next l m i = true ↔ ∀ j, i ≤ j → j < i + m → nodeB next (l.getD j z64) = true ∧ ordB l j = true := by
 induction m generalizing i with
 | zero => exact ⟨fun _ j h1 h2 => by omega, fun _ => rfl⟩
 | succ m ih =>
  rw [locG, Bool.and_eq_true, Bool.and_eq_true, ih]
  constructor
  ·rintro ⟨h1, h2⟩ j hj hj'
   by_cases e : j = i
   ·subst e; exact h1
   ·exact h2 j (by omega) (by omega)
  ·intro h
   exact ⟨h i (by omega) (by omega), fun j hj hj' => h j (by omega) (by omega)⟩
structure Loc (next : Int) (l : List S64) : Prop where
 nx : 2 ≤ next ∧ next ≤ 999999
 id : ∀ x ∈ l, 1 ≤ x.f0 ∧ x.f0 ≤ next - 1
 kind : ∀ x ∈ l, 1 ≤ x.f1 ∧ x.f1 ≤ 8
 attr : ∀ x ∈ l, 0 ≤ x.f2 ∧ x.f2 ≤ 99
 text : ∀ x ∈ l, x.f3.size ≤ 20
 kids : ∀ x ∈ l, x.f4.length ≤ 12
 rise : ∀ i j, i < j → j < l.length → (l.getD i z64).f0 < (l.getD j z64).f0
theorem nodeB_iff (next : Int) (x : S64) : nodeB next x = true ↔ (1 ≤ x.f0 ∧ x.f0 ≤ next - 1) ∧ (1 ≤ x.f1 ∧ x.f1 ≤ 8) ∧ (0 ≤ x.f2 ∧ x.f2 ≤ 99) ∧ x.f3.size ≤ 20 ∧ x.f4.length ≤ 12 := by
 simp only [nodeB, Bool.and_eq_true, decide_eq_true_eq]
theorem loc_of (next : Int) (l : List S64) (hn : 2 ≤ next ∧ next ≤ 999999) (h : locG next l l.length 0 = true) : Loc next l := by
 have h := (locG_iff next l l.length 0).1 h
 have h1 : ∀ x ∈ l, nodeB next x = true := fun x hx => by
  obtain ⟨i, hi, rfl⟩ := List.getElem_of_mem hx
  have := (h i (by omega) (by omega)).1
  rwa [List.getD_eq_getElem?_getD, List.getElem?_eq_getElem hi] at this
 have h1 := fun x hx => (nodeB_iff next x).1 (h1 x hx)
 refine ⟨hn, fun x hx => (h1 x hx).1, fun x hx => (h1 x hx).2.1, fun x hx => (h1 x hx).2.2.1, fun x hx => (h1 x hx).2.2.2.1, fun x hx => (h1 x hx).2.2.2.2, fun i j hij hj => ?_⟩
 induction j with
 | zero => omega
 | succ j ih =>
  have g := (of_decide_eq_true (h (j + 1) (by omega) (by omega)).2).resolve_left (by omega)
  simp only [Nat.add_sub_cancel] at g
  by_cases e : i = j
  ·subst e; exact g
  ·have := ih (by omega) (by omega)
   omega
theorem loc_inj {next : Int} {l : List S64} (h : Loc next l) {i j : Nat} (hi : i < l.length) (hj : j < l.length) (e : (l.getD i z64).f0 = (l.getD j z64).f0) : i = j := by
 rcases Nat.lt_trichotomy i j with g | g | g
 ·have := h.rise i j g hj; omega
 ·exact g
 ·have := h.rise j i g hi; omega
theorem wrap_ne (a b : Int) (ha : 1 ≤ a ∧ a ≤ 999998) (hb : i64 b) : (wrap64 (a - b) == 0) = decide (a = b) := by
 unfold i64 at hb
 by_cases h : a = b
 ·subst h; simp [wrap64]
 ·rw [decide_eq_false h]
  refine beq_eq_false_iff_ne.2 ?_
  unfold wrap64
  omega
theorem impl_search {next : Int} {l : List S64} (hl : docSm l) (hL : Loc next l) (id : Int) (hI : i64 id) (d : Nat) : ∀ i j : Nat, j - i ≤ d → i ≤ j → j ≤ l.length → (∀ p, p < l.length → (l.getD p z64).f0 = id → i ≤ p ∧ p ≤ j) →
  ∃ q, q ≤ l.length ∧ Ev (fun k => slices_BinarySearchFunc_impl_Node_impl_Node_int_at_impl_Doc_find_1.l0 k l id l.length i j) ((q : Int), decide (q < l.length ∧ (l.getD q z64).f0 = id)) ∧ ∀ p, p < l.length → (l.getD p z64).f0 = id → q = p := by
 have hl' := hl.1
 have hnx := hL.nx
 have done : ∀ i : Nat, i ≤ l.length → (∀ p, p < l.length → (l.getD p z64).f0 = id → i ≤ p ∧ p ≤ i) → ∃ q, q ≤ l.length ∧ Ev (fun k => slices_BinarySearchFunc_impl_Node_impl_Node_int_at_impl_Doc_find_1.l0 k l id l.length i i) ((q : Int), decide (q < l.length ∧ (l.getD q z64).f0 = id)) ∧ ∀ p, p < l.length → (l.getD p z64).f0 = id → q = p := by
  intro i hi hp
  refine ⟨i, hi, ?_, fun p h1 h2 => by have := hp p h1 h2; omega⟩
  refine Ev.step (fun k => by rw [slices_BinarySearchFunc_impl_Node_impl_Node_int_at_impl_Doc_find_1.l0]) ?_
  refine Ev.neg (by omega) ?_
  by_cases g : i < l.length
  ·refine Ev.pos (by omega) (Ev.pos (by omega) (Ev.pos (by omega) (Ev.use rfl ?_)))
   have hx := hL.id _ (getD_mem l z64 i g)
   have e := wrap_ne (l.getD i z64).f0 id (by omega) hI
   rw [show decide (i < l.length ∧ (l.getD i z64).f0 = id) = (wrap64 ((l.getD i z64).f0 - id) == 0) from by rw [e]; exact decide_eq_decide.2 ⟨fun h => h.2, fun h => ⟨g, h⟩⟩]
   exact Ev.now _
  ·refine Ev.neg (by omega) ?_
   rw [decide_eq_false (fun h => g h.1)]
   exact Ev.now _
 induction d with
 | zero =>
  intro i j h1 h2 h3 hp
  have e : i = j := by omega
  subst e
  exact done i h3 hp
 | succ d ih =>
  intro i j h1 h2 h3 hp
  by_cases g : i < j
  ·have w0 : wrap64 ((i : Int) + (j : Int)) = ((i + j : Nat) : Int) := by rw [wrap_id _ (by omega) (by omega)]; omega
   have w1 : IntKind.u64.wrap (wrap64 ((i : Int) + (j : Int))) = ((i + j : Nat) : Int) := by rw [w0]; exact Go.IntWalk.u64_in _ (by omega)
   have w2 : wrap64 ((IntKind.u64.wrap (wrap64 ((i : Int) + (j : Int)))) / 2) = (((i + j) / 2 : Nat) : Int) := by rw [w1, wrap_id _ (by omega) (by omega)]; omega
   have hh : (i + j) / 2 < l.length := by omega
   have hx := hL.id _ (getD_mem l z64 _ hh)
   by_cases c : wrap64 ((l.getD ((i + j) / 2) z64).f0 - id) < 0
   ·obtain ⟨q, hq, he, hu⟩ := ih ((i + j) / 2 + 1) j (by omega) (by omega) h3 (fun p hp1 hp2 => by
     have g1 := hp p hp1 hp2
     refine ⟨?_, g1.2⟩
     have hy := hL.id _ (getD_mem l z64 p hp1)
     have : (l.getD ((i + j) / 2) z64).f0 < (l.getD p z64).f0 := by
      rw [← hp2] at c
      rw [wrap_id _ (by omega) (by omega)] at c
      omega
     rcases Nat.lt_trichotomy ((i + j) / 2) p with z | z | z
     ·omega
     ·rw [z] at this; omega
     ·have := hL.rise _ _ z hh; omega)
    refine ⟨q, hq, ?_, hu⟩
    refine Ev.step (fun k => by rw [slices_BinarySearchFunc_impl_Node_impl_Node_int_at_impl_Doc_find_1.l0]) ?_
    simp only [w2]
    refine Ev.pos (by omega) (Ev.pos (by omega) (Ev.pos (by omega) (Ev.use rfl (Ev.pos c ?_))))
    simp only [wrap_suc ((i + j) / 2) (by omega)]
    exact he
   ·obtain ⟨q, hq, he, hu⟩ := ih i ((i + j) / 2) (by omega) (by omega) (by omega) (fun p hp1 hp2 => by
     have g1 := hp p hp1 hp2
     refine ⟨g1.1, ?_⟩
     have hy := hL.id _ (getD_mem l z64 p hp1)
     have : ¬ (l.getD ((i + j) / 2) z64).f0 < (l.getD p z64).f0 := by
      rw [← hp2] at c
      rw [wrap_id _ (by omega) (by omega)] at c
      omega
     rcases Nat.lt_trichotomy ((i + j) / 2) p with z | z | z
     ·have := hL.rise _ _ z hp1; omega
     ·omega
     ·omega)
    refine ⟨q, hq, ?_, hu⟩
    refine Ev.step (fun k => by rw [slices_BinarySearchFunc_impl_Node_impl_Node_int_at_impl_Doc_find_1.l0]) ?_
    simp only [w2]
    exact Ev.pos (by omega) (Ev.pos (by omega) (Ev.pos (by omega) (Ev.use rfl (Ev.neg c he))))
  ·have e : i = j := by omega
   subst e
   exact done i h3 hp
theorem impl_find {next : Int} {l : List S64} (hl : docSm l) (hL : Loc next l) (r n id : Int) (hI : i64 id) : Ev (fun k => impl_Doc_find.f k r n l id) (atF l id) := by
 obtain ⟨q, hq, he, hu⟩ := impl_search hl hL id hI l.length 0 l.length (by omega) (by omega) (by omega) (fun p h1 _ => ⟨by omega, by omega⟩)
 refine Ev.bind he ?_
 show Ev (fun k => if decide (q < l.length ∧ (l.getD q z64).f0 = id) = true then _ else _) _
 rcases at_spec l id with ⟨h1, h2⟩ | ⟨i, hi, h1, h2, h3, h4, h5⟩
 ·rw [h1]
  refine Ev.neg (ndec fun h => h2 (List.mem_map.2 ⟨_, getD_mem l z64 q h.1, h.2⟩)) (Ev.now _)
 ·rw [h5] at h2
  obtain rfl := hu i hi h2
  rw [h1]
  exact Ev.pos (decide_eq_true ⟨hi, h2⟩) (Ev.pos (by omega) (Ev.pos (by omega) (Ev.now _)))
theorem impl_has {next : Int} {l : List S64} (hl : docSm l) (hL : Loc next l) (r n id : Int) (hI : i64 id) : Ev (fun k => impl_Doc_has.f k r n l id) (decide (id ∈ ids l)) := by
 refine Ev.bind (impl_find hl hL r n id hI) ?_
 by_cases h : id ∈ ids l
 ·rw [decide_eq_true h]
  exact Ev.neg (fun g => (at_neg l id).1 g h) (Ev.now _)
 ·rw [decide_eq_false h]
  exact Ev.pos ((at_neg l id).2 h) (Ev.now _)
def Clo (l : List S64) : Prop := ∀ x ∈ l, ∀ c ∈ x.f4, c ∈ ids l
theorem nd_mem {l : List S64} {id : Int} (h : id ∈ ids l) : ∃ i, i < l.length ∧ atF l id = (i : Int) ∧ nd l id ∈ l ∧ (nd l id).f0 = id ∧ nd l id = l.getD i z64 := by
 rcases at_spec l id with ⟨_, h2⟩ | ⟨i, hi, h1, h2, h3, _, h5⟩
 ·exact absurd h h2
 ·exact ⟨i, hi, h1, h3, h2, h5⟩
theorem kd_ids {l : List S64} (hc : Clo l) {id c : Int} (h : id ∈ ids l) (h2 : c ∈ kd l id) : c ∈ ids l := by
 obtain ⟨_, _, _, hm, _⟩ := nd_mem h
 exact hc _ hm c h2
def dp (l : List S64) : Nat → Int → Int
 | 0, _ => 1
 | n + 1, id => (kd l id).foldl (fun a c => mx a (dp l n c)) 0 + 1
theorem mx_le {a b B : Int} : mx a b ≤ B ↔ a ≤ B ∧ b ≤ B := by unfold mx; split <;> omega
theorem le_mx {a b : Int} : a ≤ mx a b := by unfold mx; split <;> omega
theorem fold_mx (f : Int → Int) (cs : List Int) (a B : Int) : cs.foldl (fun a c => mx a (f c)) a ≤ B ↔ a ≤ B ∧ ∀ c ∈ cs, f c ≤ B := by
 induction cs generalizing a with
 | nil => simp
 | cons c cs ih =>
  rw [List.foldl_cons, ih, mx_le]
  simp only [List.mem_cons, forall_eq_or_imp, and_assoc]
theorem fold_mx_ge (f : Int → Int) (cs : List Int) (a : Int) : a ≤ cs.foldl (fun a c => mx a (f c)) a := ((fold_mx f cs a _).1 (Int.le_refl _)).1
theorem dp_bound (l : List S64) (n : Nat) (id : Int) : 1 ≤ dp l n id ∧ dp l n id ≤ n + 1 := by
 induction n generalizing id with
 | zero => simp [dp]
 | succ n ih =>
  rw [dp]
  have h1 := fold_mx_ge (dp l n) (kd l id) 0
  have h2 := (fold_mx (dp l n) (kd l id) 0 (n + 1)).2 ⟨by omega, fun c _ => (ih c).2⟩
  omega
theorem dp_kid {l : List S64} {n : Nat} {id : Int} (h : dp l (n + 1) id ≤ (n : Int) + 1) : ∀ c ∈ kd l id, dp l n c ≤ n := by
 rw [dp] at h
 exact ((fold_mx (dp l n) (kd l id) 0 n).1 (by omega)).2
theorem spec_deep {l : List S64} (root nx : Int) (hl : docSm l) (hc : Clo l) (n : Nat) (hn : n ≤ 1000000) (id : Int) (h : id ∈ ids l) : Ev (fun k => spec_l02Deep.f k root nx l id (n : Int)) (dp l n id) := by
 have hl' := hl.1
 induction n generalizing id with
 | zero =>
  refine Ev.step (fun k => by rw [spec_l02Deep.f]) ?_
  exact Ev.pos rfl (Ev.now _)
 | succ n ih =>
  refine Ev.step (fun k => by rw [spec_l02Deep.f]) ?_
  obtain ⟨i, hi, e1, hm, _, e2⟩ := nd_mem h
  refine Ev.neg (by omega) (Ev.bind (spec_at l root nx id hl') ?_)
  simp only [e1]
  refine Ev.pos (by omega) (Ev.pos (by omega) ?_)
  show Ev (fun k => spec_l02Deep.l0 k ((n + 1 : Nat) : Int) 0 (l.getD i z64).f4 0 root nx l) (dp l (n + 1) id)
  have e3 : kd l id = (l.getD i z64).f4 := by unfold kd; rw [e2]
  rw [dp, e3]
  have hx := hl.2 _ (getD_mem l z64 i hi)
  refine list_loop (l.getD i z64).f4 0 (fun _ acc => 0 ≤ acc ∧ acc ≤ (n : Int) + 1) (fun cs acc => cs.foldl (fun a c => mx a (dp l n c)) acc + 1) (fun k j acc => spec_l02Deep.l0 k ((n + 1 : Nat) : Int) acc (l.getD i z64).f4 j root nx l) ?_ ?_ 0 (by omega)
  ·intro j acc hj ha hr
   refine Ev.step (fun k => by rw [spec_l02Deep.l0]) ?_
   have hk : (l.getD i z64).f4.getD j 0 ∈ ids l := hc _ (getD_mem l z64 i hi) _ (getD_mem _ _ j hj)
   refine Ev.pos (by omega) (Ev.pos (by omega) ?_)
   have w : wrap64 (((n + 1 : Nat) : Int) - 1) = (n : Int) := by rw [wrap_id _ (by omega) (by omega)]; omega
   simp only [w]
   refine Ev.bind (ih (by omega) _ hk) ?_
   simp only [wrap_suc j (by omega)]
   have hb := dp_bound l n ((l.getD i z64).f4.getD j 0)
   exact hr _ ⟨Int.le_trans ha.1 le_mx, mx_le.2 ⟨ha.2, hb.2⟩⟩
  ·intro acc ha
   refine Ev.step (fun k => by rw [spec_l02Deep.l0]) ?_
   refine Ev.neg (by omega) ?_
   rw [wrap_id _ (by omega) (by omega)]
   exact Ev.now _
theorem impl_depth {next : Int} {l : List S64} (root : Int) (hl : docSm l) (hL : Loc next l) (hI : docI l) (hc : Clo l) (n : Nat) (hn : n ≤ 6) (id : Int) (h : id ∈ ids l) : Ev (fun k => impl_Doc_depth.f k root next l id (6 - (n : Int))) (dp l n id) := by
 have hl' := hl.1
 have idI : ∀ id, id ∈ ids l → i64 id := fun id h => by
  obtain ⟨x, hx, rfl⟩ := List.mem_map.1 h
  exact (hI x hx).1
 induction n generalizing id with
 | zero =>
  refine Ev.step (fun k => by rw [impl_Doc_depth.f]) ?_
  obtain ⟨i, hi, e1, hm, _, e2⟩ := nd_mem h
  refine Ev.neg (by omega) (Ev.bind (impl_find hl hL root next id (idI id h)) ?_)
  simp only [e1]
  refine Ev.neg (by omega) (Ev.pos (by omega) (Ev.pos (by omega) ?_))
  show Ev (fun k => impl_Doc_depth.l0 k (6 - (0 : Nat) : Int) 0 (l.getD i z64).f4 (l.getD i z64).f4.length 0 root next l) 1
  have hx := hl.2 _ (getD_mem l z64 i hi)
  refine list_loop0 (l.getD i z64).f4 0 (fun _ => (1 : Int)) (fun k j => impl_Doc_depth.l0 k (6 - (0 : Nat) : Int) 0 (l.getD i z64).f4 (l.getD i z64).f4.length j root next l) ?_ ?_
  ·intro j hj hr
   refine Ev.step (fun k => by rw [impl_Doc_depth.l0]) ?_
   refine Ev.pos (by omega) (Ev.pos (by omega) (Ev.pos (by omega) ?_))
   refine Ev.bind (a := 0) ?_ ?_
   ·refine Ev.step (fun k => by rw [impl_Doc_depth.f]) ?_
    exact Ev.pos (by rw [wrap_id _ (by omega) (by omega)]; omega) (Ev.now _)
   ·simp only [wrap_suc j (by omega)]
    exact hr
  ·refine Ev.step (fun k => by rw [impl_Doc_depth.l0]) ?_
   exact Ev.neg (by omega) (Ev.const (by rw [wrap_id _ (by omega) (by omega)]; rfl))
 | succ n ih =>
  refine Ev.step (fun k => by rw [impl_Doc_depth.f]) ?_
  obtain ⟨i, hi, e1, hm, _, e2⟩ := nd_mem h
  refine Ev.neg (by omega) (Ev.bind (impl_find hl hL root next id (idI id h)) ?_)
  simp only [e1]
  refine Ev.neg (by omega) (Ev.pos (by omega) (Ev.pos (by omega) ?_))
  show Ev (fun k => impl_Doc_depth.l0 k (6 - ((n + 1 : Nat) : Int)) 0 (l.getD i z64).f4 (l.getD i z64).f4.length 0 root next l) (dp l (n + 1) id)
  have e3 : kd l id = (l.getD i z64).f4 := by unfold kd; rw [e2]
  rw [dp, e3]
  have hx := hl.2 _ (getD_mem l z64 i hi)
  refine list_loop (l.getD i z64).f4 0 (fun _ acc => 0 ≤ acc ∧ acc ≤ (n : Int) + 1) (fun cs acc => cs.foldl (fun a c => mx a (dp l n c)) acc + 1) (fun k j acc => impl_Doc_depth.l0 k (6 - ((n + 1 : Nat) : Int)) acc (l.getD i z64).f4 (l.getD i z64).f4.length j root next l) ?_ ?_ 0 (by omega)
  ·intro j acc hj ha hr
   refine Ev.step (fun k => by rw [impl_Doc_depth.l0]) ?_
   have hk : (l.getD i z64).f4.getD j 0 ∈ ids l := hc _ (getD_mem l z64 i hi) _ (getD_mem _ _ j hj)
   refine Ev.pos (by omega) (Ev.pos (by omega) (Ev.pos (by omega) ?_))
   have w : wrap64 (6 - ((n + 1 : Nat) : Int) + 1) = 6 - (n : Int) := by rw [wrap_id _ (by omega) (by omega)]; omega
   simp only [w]
   refine Ev.bind (ih (by omega) _ hk) ?_
   simp only [wrap_suc j (by omega)]
   have hb := dp_bound l n ((l.getD i z64).f4.getD j 0)
   exact hr _ ⟨Int.le_trans ha.1 le_mx, mx_le.2 ⟨ha.2, hb.2⟩⟩
  ·intro acc ha
   refine Ev.step (fun k => by rw [impl_Doc_depth.l0]) ?_
   refine Ev.neg (by omega) ?_
   rw [wrap_id _ (by omega) (by omega)]
   exact Ev.now _
theorem impl_deep {next : Int} {l : List S64} (root : Int) (hl : docSm l) (hL : Loc next l) (hI : docI l) (hc : Clo l) (h : root ∈ ids l) : Ev (fun k => impl_Doc_isDeep.f k root next l) (decide (dp l 6 root > 6)) :=
 Ev.bind (impl_depth root hl hL hI hc 6 (by omega) root h) (Ev.now _)
def ordF (l : List S64) : Nat → Int → List Int
 | 0, _ => []
 | n + 1, id => id :: (kd l id).flatMap (ordF l n)
theorem flat_len (f : Int → List Int) (cs : List Int) (m b : Nat) (hl : cs.length ≤ m) (h : ∀ c ∈ cs, (f c).length ≤ b) : (cs.flatMap f).length ≤ m * b := by
 induction cs generalizing m with
 | nil => simp
 | cons c cs ih =>
  obtain ⟨m, rfl⟩ : ∃ k, m = k + 1 := ⟨m - 1, by simp at hl; omega⟩
  rw [List.flatMap_cons, List.length_append, Nat.succ_mul]
  have h1 := ih m (by simpa using hl) (fun d hd => h d (List.mem_cons_of_mem _ hd))
  have h2 := h c List.mem_cons_self
  omega
theorem ordF_len {l : List S64} (hk : ∀ x ∈ l, x.f4.length ≤ 12) (hc : Clo l) (n : Nat) (id : Int) (h : id ∈ ids l) : (ordF l n id).length ≤ 13 ^ n := by
 induction n generalizing id with
 | zero => simp [ordF]
 | succ n ih =>
  obtain ⟨i, hi, e1, hm, _, e2⟩ := nd_mem h
  have h1 := flat_len (ordF l n) (kd l id) 12 (13 ^ n) (hk _ hm) (fun c hc' => ih c (kd_ids hc h hc'))
  have h2 : 1 ≤ 13 ^ n := Nat.one_le_pow _ _ (by omega)
  rw [ordF, List.length_cons, Nat.pow_succ]
  omega
theorem impl_order {next : Int} {l : List S64} (root : Int) (hl : docSm l) (hL : Loc next l) (hI : docI l) (hc : Clo l) (n : Nat) (id : Int) (h : id ∈ ids l) (hd : dp l n id ≤ n) (out : List Int) (ho : out.length + 13 ^ n ≤ 1000000000000) :
  Ev (fun k => impl_Doc_order.f k root next l out id) (out ++ ordF l n id) := by
 have hl' := hl.1
 have idI : ∀ id, id ∈ ids l → i64 id := fun id h => by
  obtain ⟨x, hx, rfl⟩ := List.mem_map.1 h
  exact (hI x hx).1
 induction n generalizing id out with
 | zero => have := (dp_bound l 0 id).1; omega
 | succ n ih =>
  refine Ev.step (fun k => by rw [impl_Doc_order.f]) ?_
  obtain ⟨i, hi, e1, hm, _, e2⟩ := nd_mem h
  have h13 : 13 ^ (n + 1) = 13 * 13 ^ n := by rw [Nat.pow_succ, Nat.mul_comm]
  have hp : 1 ≤ 13 ^ n := Nat.one_le_pow _ _ (by omega)
  refine Ev.pos (by omega) (Ev.bind (impl_find hl hL root next id (idI id h)) ?_)
  simp only [e1]
  refine Ev.neg (by omega) (Ev.pos (by omega) (Ev.pos (by omega) ?_))
  show Ev (fun k => impl_Doc_order.l0 k (out ++ [id]) (l.getD i z64).f4 (l.getD i z64).f4.length 0 root next l) (out ++ ordF l (n + 1) id)
  have e3 : kd l id = (l.getD i z64).f4 := by unfold kd; rw [e2]
  rw [ordF, e3, show out ++ id :: List.flatMap (ordF l n) (l.getD i z64).f4 = (out ++ [id]) ++ List.flatMap (ordF l n) (l.getD i z64).f4 from by simp]
  have hx := hL.kids _ (getD_mem l z64 i hi)
  have hdk := dp_kid hd
  rw [e3] at hdk
  refine list_loop (l.getD i z64).f4 0 (fun j o => o.length + (12 - j) * 13 ^ n ≤ 1000000000000) (fun cs o => o ++ cs.flatMap (ordF l n)) (fun k j o => impl_Doc_order.l0 k o (l.getD i z64).f4 (l.getD i z64).f4.length j root next l) ?_ ?_ (out ++ [id]) (by simp; omega)
  ·intro j o hj ho' hr
   refine Ev.step (fun k => by rw [impl_Doc_order.l0]) ?_
   have hmj := getD_mem (l.getD i z64).f4 0 j hj
   have hk : (l.getD i z64).f4.getD j 0 ∈ ids l := hc _ (getD_mem l z64 i hi) _ hmj
   have e12 : 12 - j = (12 - (j + 1)) + 1 := by omega
   rw [e12, Nat.succ_mul] at ho'
   refine Ev.pos (by omega) (Ev.pos (by omega) (Ev.pos (by omega) ?_))
   refine Ev.bind (ih _ hk (hdk _ hmj) o (by omega)) ?_
   simp only [wrap_suc j (by omega)]
   rw [List.flatMap_cons, ← List.append_assoc]
   refine hr _ ?_
   have := ordF_len hL.kids hc n _ hk
   rw [List.length_append]
   omega
  ·intro o ho'
   refine Ev.step (fun k => by rw [impl_Doc_order.l0]) ?_
   refine Ev.neg (by omega) ?_
   simp only [List.flatMap_nil, List.append_nil]
   exact Ev.now _
def up (l : List S64) : Nat → Int → Int
 | 0, id => id
 | m + 1, id => up l m (par l id)
def cl (l : List S64) (root : Int) : Nat → Int → Bool
 | 0, id => decide (id = root)
 | m + 1, id => if id = root then true else if 0 < id then cl l root m (par l id) else false
theorem spec_climb {l : List S64} (root n : Int) (hl : docSm l) (i : Nat) (hi : i < l.length) (C : Bool) (hC : Ev (fun k => spec_l02Reach.l0 k ((i : Int) + 1) root n l) C) (m : Nat) : ∀ (s : Nat) (id : Int), s + m = l.length + 1 →
  Ev (fun k => spec_l02Reach.l1 k i id s root n l) (cl l root m id && C) := by
 have hl' := hl.1
 induction m with
 | zero =>
  intro s id hs
  refine Ev.step (fun k => by rw [spec_l02Reach.l1]) ?_
  rw [cl]
  by_cases h : id = root
  ·refine Ev.pos h ?_
   rw [decide_eq_true h, Bool.true_and]
   simp only [wrap_suc i (by omega)]
   exact hC
  ·refine Ev.neg h ?_
   rw [decide_eq_false h, Bool.false_and]
   by_cases g : id > 0
   ·exact Ev.pos g (Ev.neg (by omega) (Ev.now _))
   ·exact Ev.neg g (Ev.now _)
 | succ m ih =>
  intro s id hs
  refine Ev.step (fun k => by rw [spec_l02Reach.l1]) ?_
  rw [cl]
  by_cases h : id = root
  ·refine Ev.pos h ?_
   rw [if_pos h, Bool.true_and]
   simp only [wrap_suc i (by omega)]
   exact hC
  ·refine Ev.neg h ?_
   rw [if_neg h]
   by_cases g : id > 0
   ·rw [if_pos g]
    refine Ev.pos g (Ev.pos (by omega) (Ev.bind (spec_parent l root n id hl' hl.2) ?_))
    simp only [wrap_suc s (by omega)]
    exact ih (s + 1) _ (by omega)
   ·rw [if_neg g]
    exact Ev.neg g (Ev.now _)
theorem spec_reach {l : List S64} (root n : Int) (hl : docSm l) : Ev (fun k => spec_l02Reach.f k root n l) (l.all (fun x => cl l root (l.length + 1) x.f0)) := by
 have hl' := hl.1
 refine list_loop0 l z64 (fun l' => l'.all (fun x => cl l root (l.length + 1) x.f0)) (fun k i => spec_l02Reach.l0 k i root n l) ?_ ?_
 ·intro i hi hr
  refine Ev.step (fun k => by rw [spec_l02Reach.l0]) ?_
  rw [List.all_cons]
  exact Ev.pos (by omega) (Ev.pos (by omega) (spec_climb root n hl i hi _ hr (l.length + 1) 0 _ (by omega)))
 ·refine Ev.step (fun k => by rw [spec_l02Reach.l0]) ?_
  exact Ev.neg (by omega) (Ev.now _)
def flat (l : List S64) : List Int := l.flatMap (fun x => x.f4)
structure Doc0 (root next : Int) (l : List S64) : Prop where
 loc : Loc next l
 clo : Clo l
 rin : root ∈ ids l
 free : root ∉ flat l
 once : (flat l).Nodup
 cnt : (flat l).length + 1 = l.length
 len : 1 ≤ l.length ∧ l.length ≤ 40
def sumN : Nat → (Nat → Nat) → Nat
 | 0, _ => 0
 | n + 1, f => f 0 + sumN n (fun m => f (m + 1))
theorem sumN_congr {n : Nat} {f g : Nat → Nat} (h : ∀ m, m < n → f m = g m) : sumN n f = sumN n g := by
 induction n generalizing f g with
 | zero => rfl
 | succ n ih => rw [sumN, sumN, h 0 (by omega), ih (fun m hm => h (m + 1) (by omega))]
theorem sumN_add (n : Nat) (f g : Nat → Nat) : sumN n (fun m => f m + g m) = sumN n f + sumN n g := by
 induction n generalizing f g with
 | zero => rfl
 | succ n ih => simp only [sumN, ih]; omega
theorem sumN_zero (n : Nat) : sumN n (fun _ => 0) = 0 := by
 induction n with
 | zero => rfl
 | succ n ih => simp [sumN, ih]
theorem sumN_list (n : Nat) (cs : List Int) (g : Int → Nat → Nat) : (cs.map (fun c => sumN n (g c))).sum = sumN n (fun m => (cs.map (fun c => g c m)).sum) := by
 induction cs with
 | nil => simp [sumN_zero]
 | cons c cs ih => simp only [List.map_cons, List.sum_cons, ih, sumN_add]
theorem sumN_ge (n m : Nat) (f : Nat → Nat) (h : ∀ j, j ≤ m → 1 ≤ f j) (hm : m < n) : m + 1 ≤ sumN n f := by
 induction n generalizing m f with
 | zero => omega
 | succ n ih =>
  rw [sumN]
  have h0 := h 0 (by omega)
  cases m with
  | zero => omega
  | succ m =>
   have := ih m (fun j => f (j + 1)) (fun j hj => h (j + 1) (by omega)) (by omega)
   omega
theorem sumN_one (n : Nat) (p : Nat → Prop) [∀ m, Decidable (p m)] (h : ∀ a b, p a → p b → a = b) : sumN n (fun m => if p m then 1 else 0) = if ∃ m, m < n ∧ p m then 1 else 0 := by
 induction n generalizing p with
 | zero => simp [sumN]
 | succ n ih =>
  have e := ih (fun m => p (m + 1)) (fun a b ha hb => by have := h _ _ ha hb; omega)
  rw [sumN, e]
  by_cases h0 : p 0
  ·have : ¬ ∃ m, m < n ∧ p (m + 1) := fun ⟨m, _, hp⟩ => by have := h _ _ h0 hp; omega
   rw [if_pos h0, if_neg this, if_pos ⟨0, by omega, h0⟩]
  ·rw [if_neg h0, Nat.zero_add]
   by_cases g : ∃ m, m < n ∧ p (m + 1)
   ·obtain ⟨m, hm, hp⟩ := g
    rw [if_pos ⟨m, hm, hp⟩, if_pos ⟨m + 1, by omega, hp⟩]
   ·rw [if_neg g, if_neg (fun ⟨m, hm, hp⟩ => by
     cases m with
     | zero => exact h0 hp
     | succ m => exact g ⟨m, by omega, hp⟩)]
theorem count_flat (f : Int → List Int) (cs : List Int) (a : Int) : (cs.flatMap f).count a = (cs.map (fun c => (f c).count a)).sum := by
 induction cs with
 | nil => rfl
 | cons c cs ih => rw [List.flatMap_cons, List.count_append, List.map_cons, List.sum_cons, ih]
theorem sum_eq_count (cs : List Int) (a : Int) : (cs.map (fun c => if a = c then 1 else 0)).sum = cs.count a := by
 induction cs with
 | nil => rfl
 | cons c cs ih =>
  rw [List.map_cons, List.sum_cons, ih, List.count_cons]
  by_cases h : a = c
  ·subst h; simp; omega
  ·rw [if_neg h, if_neg (by simpa using fun e => h e.symm)]; omega
theorem par_of {l : List S64} (hn : (flat l).Nodup) {x : S64} (hx : x ∈ l) {id : Int} (h : id ∈ x.f4) : par l id = x.f0 := by
 induction l with
 | nil => cases hx
 | cons y l ih =>
  unfold flat at hn
  rw [List.flatMap_cons, List.nodup_append] at hn
  rw [par]
  rcases List.mem_cons.1 hx with e | hx
  ·subst e; rw [if_pos h]
  ·rw [if_neg (fun g => hn.2.2 _ g _ (List.mem_flatMap.2 ⟨x, hx, h⟩) rfl)]
   exact ih hn.2.1 hx
theorem kids_nodup {l : List S64} (hn : (flat l).Nodup) {x : S64} (hx : x ∈ l) : x.f4.Nodup := by
 obtain ⟨s, t, rfl⟩ := List.append_of_mem hx
 unfold flat at hn
 rw [List.flatMap_append, List.flatMap_cons, List.nodup_append] at hn
 exact (List.nodup_append.1 hn.2.1).1
theorem par_none {l : List S64} {id : Int} (h : id ∉ flat l) : par l id = 0 := by
 induction l with
 | nil => rfl
 | cons y l ih =>
  unfold flat at h
  rw [List.flatMap_cons, List.mem_append] at h
  rw [par, if_neg (fun g => h (.inl g))]
  exact ih (fun g => h (.inr g))
theorem par_cases (l : List S64) (id : Int) : (par l id = 0 ∧ id ∉ flat l) ∨ ∃ x, x ∈ l ∧ id ∈ x.f4 ∧ par l id = x.f0 := by
 induction l with
 | nil => exact .inl ⟨rfl, by simp [flat]⟩
 | cons y l ih =>
  rw [par]
  by_cases h : id ∈ y.f4
  ·exact .inr ⟨y, List.mem_cons_self, h, by rw [if_pos h]⟩
  ·rw [if_neg h]
   rcases ih with ⟨h1, h2⟩ | ⟨x, hx, h1, h2⟩
   ·refine .inl ⟨h1, ?_⟩
    unfold flat at h2 ⊢
    rw [List.flatMap_cons, List.mem_append]
    exact fun g => g.elim h h2
   ·exact .inr ⟨x, List.mem_cons_of_mem _ hx, h1, h2⟩
section
variable {root next : Int} {l : List S64}
theorem Doc0.pos (D : Doc0 root next l) {id : Int} (h : id ∈ ids l) : 1 ≤ id ∧ id ≤ next - 1 := by
 obtain ⟨x, hx, rfl⟩ := List.mem_map.1 h
 exact D.loc.id x hx
theorem Doc0.inj (D : Doc0 root next l) {x y : S64} (hx : x ∈ l) (hy : y ∈ l) (h : x.f0 = y.f0) : x = y := by
 obtain ⟨i, hi, rfl⟩ := List.getElem_of_mem hx
 obtain ⟨j, hj, rfl⟩ := List.getElem_of_mem hy
 have e := loc_inj D.loc hi hj (by rw [List.getD_eq_getElem?_getD, List.getD_eq_getElem?_getD, List.getElem?_eq_getElem hi, List.getElem?_eq_getElem hj]; exact h)
 subst e
 rfl
theorem Doc0.flat_ids (D : Doc0 root next l) {c : Int} (h : c ∈ flat l) : c ∈ ids l := by
 obtain ⟨x, hx, hc⟩ := List.mem_flatMap.1 h
 exact D.clo x hx c hc
theorem Doc0.par_ids (D : Doc0 root next l) (id : Int) : (par l id = 0 ∧ id ∉ flat l) ∨ par l id ∈ ids l := by
 rcases par_cases l id with h | ⟨x, hx, _, h⟩
 ·exact .inl h
 ·exact .inr (h ▸ List.mem_map.2 ⟨x, hx, rfl⟩)
theorem Doc0.par_root (D : Doc0 root next l) : par l root = 0 := par_none D.free
theorem Doc0.par_zero (D : Doc0 root next l) : par l 0 = 0 := par_none (fun h => by have := D.pos (D.flat_ids h); omega)
theorem Doc0.up_zero (D : Doc0 root next l) (m : Nat) : up l m 0 = 0 := by
 induction m with
 | zero => rfl
 | succ m ih => rw [up, D.par_zero, ih]
theorem up_add (l : List S64) (a b : Nat) (id : Int) : up l (a + b) id = up l b (up l a id) := by
 induction a generalizing id with
 | zero => rw [Nat.zero_add]; rfl
 | succ a ih => rw [Nat.succ_add, up, up, ih]
theorem Doc0.kid_count (D : Doc0 root next l) {p : Int} (hp : p ∈ ids l) (a : Int) : (kd l p).count a = if par l a = p then 1 else 0 := by
 obtain ⟨i, hi, e1, hm, e2, _⟩ := nd_mem hp
 by_cases h : a ∈ kd l p
 ·have e := par_of D.once hm h
  rw [e2] at e
  rw [if_pos e]
  have hn : (kd l p).Nodup := kids_nodup D.once hm
  exact (List.Nodup.count hn).trans (if_pos h)
 ·rw [List.count_eq_zero_of_not_mem h]
  rw [if_neg]
  intro e
  rcases par_cases l a with ⟨h1, _⟩ | ⟨x, hx, h1, h2⟩
  ·have := D.pos hp; omega
  ·have := D.inj hx hm (by rw [← h2, e, e2])
   subst this
   exact h h1
def Lv (l : List S64) : Nat → Int → List Int
 | 0, id => [id]
 | m + 1, id => (Lv l m id).flatMap (kd l)
theorem Lv_top (l : List S64) (m : Nat) (id : Int) : Lv l (m + 1) id = (kd l id).flatMap (Lv l m) := by
 induction m with
 | zero =>
  rw [Lv, Lv, List.flatMap_cons, List.flatMap_nil, List.append_nil]
  have : ∀ cs : List Int, cs.flatMap (Lv l 0) = cs := fun cs => by
   induction cs with
   | nil => rfl
   | cons c cs ih => rw [List.flatMap_cons, ih]; rfl
  exact (this _).symm
 | succ m ih =>
  rw [Lv, ih, List.flatMap_assoc]
  rfl
theorem Lv_ids (hc : Clo l) {m : Nat} {id : Int} (h : id ∈ ids l) : ∀ c ∈ Lv l m id, c ∈ ids l := by
 induction m with
 | zero =>
  intro c hc'
  rw [List.mem_singleton.1 hc']
  exact h
 | succ m ih =>
  intro c hc'
  obtain ⟨p, hp, hc'⟩ := List.mem_flatMap.1 hc'
  exact kd_ids hc (ih p hp) hc'
theorem Doc0.Lv_count (D : Doc0 root next l) (m : Nat) (a : Int) : (Lv l m root).count a = if up l m a = root then 1 else 0 := by
 induction m generalizing a with
 | zero =>
  rw [Lv, up, List.count_cons, List.count_nil]
  by_cases h : a = root
  ·subst h; simp
  ·rw [if_neg h, if_neg (by simpa using fun e => h e.symm)]
 | succ m ih =>
  rw [Lv, count_flat]
  have : (Lv l m root).map (fun c => (kd l c).count a) = (Lv l m root).map (fun c => if par l a = c then 1 else 0) :=
   List.map_congr_left (fun c hc => D.kid_count (Lv_ids D.clo D.rin c hc) a)
  rw [this, sum_eq_count, ih]
  rfl
theorem Doc0.up_once (D : Doc0 root next l) {id : Int} : ∀ a b, up l a id = root → up l b id = root → a = b := by
 have hr := D.pos D.rin
 have key : ∀ a d, up l a id = root → up l (a + (d + 1)) id = root → False := by
  intro a d h1 h2
  rw [up_add, h1, up, D.par_root, D.up_zero] at h2
  omega
 intro a b h1 h2
 rcases Nat.lt_trichotomy a b with h | h | h
 ·exact (key a (b - a - 1) h1 (by rw [show a + (b - a - 1 + 1) = b from by omega]; exact h2)).elim
 ·exact h
 ·exact (key b (a - b - 1) h2 (by rw [show b + (a - b - 1 + 1) = a from by omega]; exact h1)).elim
theorem ord_count (l : List S64) (n : Nat) (x a : Int) : (ordF l n x).count a = sumN n (fun m => (Lv l m x).count a) := by
 induction n generalizing x with
 | zero => rfl
 | succ n ih =>
  rw [ordF, sumN, List.count_cons, count_flat]
  have : (kd l x).map (fun c => (ordF l n c).count a) = (kd l x).map (fun c => sumN n (fun m => (Lv l m c).count a)) := List.map_congr_left (fun c _ => ih c)
  rw [this, sumN_list]
  have e : sumN n (fun m => ((kd l x).map (fun c => (Lv l m c).count a)).sum) = sumN n (fun m => (Lv l (m + 1) x).count a) := sumN_congr (fun m _ => by rw [Lv_top, count_flat])
  rw [e, Lv, List.count_cons, List.count_nil]
  omega
theorem len_flat (f : Int → List Int) (cs : List Int) : (cs.flatMap f).length = (cs.map (fun c => (f c).length)).sum := by
 induction cs with
 | nil => rfl
 | cons c cs ih => rw [List.flatMap_cons, List.length_append, List.map_cons, List.sum_cons, ih]
theorem ord_length (l : List S64) (n : Nat) (x : Int) : (ordF l n x).length = sumN n (fun m => (Lv l m x).length) := by
 induction n generalizing x with
 | zero => rfl
 | succ n ih =>
  rw [ordF, sumN, List.length_cons, len_flat]
  have : (kd l x).map (fun c => (ordF l n c).length) = (kd l x).map (fun c => sumN n (fun m => (Lv l m c).length)) := List.map_congr_left (fun c _ => ih c)
  rw [this, sumN_list]
  have e : sumN n (fun m => ((kd l x).map (fun c => (Lv l m c).length)).sum) = sumN n (fun m => (Lv l (m + 1) x).length) := sumN_congr (fun m _ => by rw [Lv_top, len_flat])
  rw [e, Lv, List.length_singleton]
  omega
theorem Doc0.ord_at (D : Doc0 root next l) (n : Nat) (a : Int) : (ordF l n root).count a = if ∃ m, m < n ∧ up l m a = root then 1 else 0 := by
 rw [ord_count]
 rw [sumN_congr (fun m _ => D.Lv_count m a)]
 exact sumN_one n (fun m => up l m a = root) D.up_once
theorem Doc0.ord_mem (D : Doc0 root next l) (n : Nat) (a : Int) : a ∈ ordF l n root ↔ ∃ m, m < n ∧ up l m a = root := by
 rw [← List.count_pos_iff, D.ord_at]
 split
 ·rename_i h; exact ⟨fun _ => h, fun _ => by omega⟩
 ·rename_i h; exact ⟨fun g => by omega, fun g => absurd g h⟩
theorem Doc0.ord_nodup (D : Doc0 root next l) (n : Nat) : (ordF l n root).Nodup := by
 rw [List.nodup_iff_count]
 intro a
 rw [D.ord_at]
 split <;> omega
theorem Doc0.ids_nodup (D : Doc0 root next l) : (ids l).Nodup := by
 unfold ids
 rw [List.nodup_iff_pairwise_ne, List.pairwise_map, List.pairwise_iff_getElem]
 intro i j hi hj hij
 have := D.loc.rise i j hij hj
 rw [List.getD_eq_getElem?_getD, List.getD_eq_getElem?_getD, List.getElem?_eq_getElem hi, List.getElem?_eq_getElem hj] at this
 simp only [Option.getD_some] at this
 omega
theorem ordF_ids (hc : Clo l) {n : Nat} {id : Int} (h : id ∈ ids l) : ∀ c ∈ ordF l n id, c ∈ ids l := by
 induction n generalizing id with
 | zero => intro c hc'; cases hc'
 | succ n ih =>
  intro c hc'
  rcases List.mem_cons.1 hc' with e | hc'
  ·subst e; exact h
  ·obtain ⟨p, hp, hc'⟩ := List.mem_flatMap.1 hc'
   exact ih (kd_ids hc h hp) c hc'
theorem nodup_len {A B : List Int} (hA : A.Nodup) (h : ∀ a ∈ A, a ∈ B) : A.length ≤ B.length := by
 induction A generalizing B with
 | nil => simp
 | cons a A ih =>
  obtain ⟨hna, hA⟩ := List.nodup_cons.1 hA
  have hb := h a List.mem_cons_self
  have := ih hA (B := B.erase a) (fun c hc => by
   have hne : c ≠ a := fun e => hna (e ▸ hc)
   exact (List.mem_erase_of_ne hne).2 (h c (List.mem_cons_of_mem _ hc)))
  rw [List.length_erase_of_mem hb] at this
  have := List.length_pos_of_mem hb
  simp only [List.length_cons]
  omega
theorem nodup_all {A B : List Int} (hA : A.Nodup) (h : ∀ a ∈ A, a ∈ B) (hl : B.length ≤ A.length) : ∀ b ∈ B, b ∈ A := by
 intro b hb
 apply Classical.byContradiction
 intro hn
 have := nodup_len hA (B := B.erase b) (fun c hc => (List.mem_erase_of_ne (fun e : c = b => hn (e ▸ hc))).2 (h c hc))
 rw [List.length_erase_of_mem hb] at this
 have := List.length_pos_of_mem hb
 omega
theorem Lv_nil {n : Nat} {x : Int} (h : dp l n x ≤ n) : Lv l n x = [] := by
 induction n generalizing x with
 | zero => have := (dp_bound l 0 x).1; omega
 | succ n ih =>
  rw [Lv_top]
  have hk := dp_kid h
  have : ∀ cs : List Int, (∀ c ∈ cs, dp l n c ≤ n) → cs.flatMap (Lv l n) = [] := fun cs => by
   induction cs with
   | nil => intro _; rfl
   | cons c cs ih2 =>
    intro h2
    rw [List.flatMap_cons, ih (h2 c List.mem_cons_self), ih2 (fun d hd => h2 d (List.mem_cons_of_mem _ hd))]
    rfl
  exact this _ hk
theorem Lv_nil_more {n : Nat} {x : Int} (h : Lv l n x = []) (d : Nat) : Lv l (n + d) x = [] := by
 induction d with
 | zero => exact h
 | succ d ih => rw [← Nat.add_assoc, Lv, ih]; rfl
theorem Doc0.up_lt (D : Doc0 root next l) {n : Nat} (h : dp l n root ≤ n) {m : Nat} {a : Int} (hu : up l m a = root) : m < n := by
 apply Classical.byContradiction
 intro g
 have e := Lv_nil_more (Lv_nil h) (m - n)
 rw [show n + (m - n) = m from by omega] at e
 have := D.Lv_count m a
 rw [e, if_pos hu] at this
 simp at this
theorem Doc0.cl_iff (D : Doc0 root next l) (M : Nat) (id : Int) (h : 1 ≤ id) : cl l root M id = true ↔ ∃ m, m ≤ M ∧ up l m id = root := by
 have hr := D.pos D.rin
 induction M generalizing id with
 | zero =>
  rw [cl, decide_eq_true_eq]
  constructor
  ·intro e; exact ⟨0, by omega, e⟩
  ·rintro ⟨m, hm, e⟩
   obtain rfl : m = 0 := by omega
   exact e
 | succ M ih =>
  rw [cl]
  by_cases e : id = root
  ·rw [if_pos e]
   exact ⟨fun _ => ⟨0, by omega, e⟩, fun _ => rfl⟩
  ·rw [if_neg e, if_pos (by omega)]
   rcases D.par_ids id with ⟨h0, _⟩ | h0
   ·rw [h0]
    constructor
    ·intro hcl
     cases M with
     | zero => rw [cl, decide_eq_true_eq] at hcl; omega
     | succ M => rw [cl, if_neg (by omega), if_neg (by omega)] at hcl; cases hcl
    ·rintro ⟨m, hm, hu⟩
     cases m with
     | zero => exact absurd hu e
     | succ m => rw [up, h0, D.up_zero] at hu; omega
   ·refine (ih _ (D.pos h0).1).trans ?_
    constructor
    ·rintro ⟨m, hm, hu⟩; exact ⟨m + 1, by omega, hu⟩
    ·rintro ⟨m, hm, hu⟩
     cases m with
     | zero => exact absurd hu e
     | succ m => exact ⟨m, by omega, hu⟩
theorem Doc0.reach (D : Doc0 root next l) (hd : dp l 6 root ≤ 6) : l.all (fun x => cl l root (l.length + 1) x.f0) = decide ((ordF l 6 root).length = l.length) := by
 have hlen : (ids l).length = l.length := by unfold ids; rw [List.length_map]
 apply Bool.eq_iff_iff.2
 rw [List.all_eq_true, decide_eq_true_eq]
 constructor
 ·intro h
  have h1 : ∀ a ∈ ids l, a ∈ ordF l 6 root := by
   intro a ha
   obtain ⟨x, hx, rfl⟩ := List.mem_map.1 ha
   obtain ⟨m, _, hu⟩ := (D.cl_iff _ _ (D.pos ha).1).1 (h x hx)
   exact (D.ord_mem 6 _).2 ⟨m, D.up_lt hd hu, hu⟩
  have h2 := nodup_len D.ids_nodup h1
  have h3 := nodup_len (D.ord_nodup 6) (ordF_ids D.clo D.rin)
  omega
 ·intro h x hx
  have hx' : x.f0 ∈ ids l := List.mem_map.2 ⟨x, hx, rfl⟩
  have hm := nodup_all (D.ord_nodup 6) (ordF_ids D.clo D.rin) (by omega) _ hx'
  obtain ⟨m, hm6, hu⟩ := (D.ord_mem 6 _).1 hm
  refine (D.cl_iff _ _ (D.pos hx').1).2 ⟨m, ?_, hu⟩
  have h1 := sumN_ge 6 m (fun j => (Lv l j root).length) (fun j hj => by
   have hc := D.Lv_count j (up l (m - j) x.f0)
   rw [← up_add, show m - j + j = m from by omega, if_pos hu] at hc
   exact List.length_pos_of_mem (List.count_pos_iff.1 (by omega : 0 < (Lv l j root).count (up l (m - j) x.f0)))) hm6
  rw [← ord_length] at h1
  omega
end
end Go.Proofs.Ytocelbmpnjnnbaa.Pure
namespace Go.Proofs.Ytocelbmpnjnnbaa.Pure
set_option linter.unusedVariables false
set_option linter.unusedSimpArgs false
open Go.RowKit Go.Proofs.Ytocelbmpnjnnbaa.XA Go.Proofs.Ytocelbmpnjnnbaa.Pk Go.Proofs.YtocelbmpnjnnbaaW.PrintWords Go.Proofs.YtocelbmpnjnnbaaW.PrintLast Go.Proofs.YtocelbmpnjnnbaaW.PrintMore
def docB (root next : Int) (l : List S64) : Bool :=
 decide (1 ≤ l.length ∧ l.length ≤ 40) && (decide (2 ≤ next ∧ next ≤ 999999) && (nodesG root next l l.length 0 [] && (decide (dp l 6 root ≤ 6) && l.all (fun x => cl l root (l.length + 1) x.f0))))
theorem doc0_of {root next : Int} {l : List S64} (hn : 2 ≤ next ∧ next ≤ 999999) (hl : 1 ≤ l.length ∧ l.length ≤ 40) (h : nodesG root next l l.length 0 [] = true) : Doc0 root next l := by
 rw [nodesG_eq, Bool.and_eq_true] at h
 obtain ⟨h1, h2⟩ := h
 rw [kidsM_eq root l l.length 0 (by omega), List.drop_zero] at h2
 cases hk : kidsB root (ids l) (l.flatMap fun x => x.f4) [] with
 | none => rw [hk] at h2; cases h2
 | some s =>
  rw [hk] at h2
  obtain ⟨g1, g2, g3⟩ := kidsB_some _ _ _ _ _ hk List.nodup_nil
  rw [List.nil_append] at g1 g3
  subst g1
  have h2 := of_decide_eq_true h2
  refine ⟨loc_of next l hn h1, fun x hx c hc => (g2 c (List.mem_flatMap.2 ⟨x, hx, hc⟩)).2, h2.2, fun g => (g2 root g).1 rfl, g3, ?_, hl⟩
  have := h2.1
  unfold flat
  omega
structure Doc1 (root next : Int) (l : List S64) : Prop extends Doc0 root next l where
 deep : dp l 6 root ≤ 6
 all : (ordF l 6 root).length = l.length
theorem doc1_of {root next : Int} {l : List S64} (h : docB root next l = true) : Doc1 root next l := by
 simp only [docB, Bool.and_eq_true, decide_eq_true_eq] at h
 obtain ⟨h1, h2, h3, h4, h5⟩ := h
 have D := doc0_of h2 h1 h3
 rw [D.reach h4, decide_eq_true_eq] at h5
 exact ⟨D, h4, h5⟩
theorem spec_ok {root next : Int} {l : List S64} (hl : docSm l) : Ev (fun k => spec_l02OK.f k root next l) (docB root next l) := by
 refine Ev.use (tin_eq _ _ _) ?_
 unfold docB
 by_cases h1 : 1 ≤ l.length ∧ l.length ≤ 40
 ·refine Ev.pos (decide_eq_true (by omega)) (Ev.use (tin_eq _ _ _) ?_)
  rw [decide_eq_true h1, Bool.true_and]
  by_cases h2 : 2 ≤ next ∧ next ≤ 999999
  ·refine Ev.pos (decide_eq_true h2) (Ev.bind (spec_nodes l root next h2 hl (by omega)) ?_)
   rw [decide_eq_true h2, Bool.true_and]
   cases h3 : nodesG root next l l.length 0 []
   ·exact Ev.neg (by decide) (Ev.now _)
   ·have D := doc0_of h2 h1 h3
    refine Ev.pos rfl (Ev.bind (spec_reach root next hl) ?_)
    rw [Bool.true_and]
    cases h4 : l.all (fun x => cl l root (l.length + 1) x.f0)
    ·refine Ev.neg (by decide) ?_
     rw [Bool.and_false]
     exact Ev.now _
    ·refine Ev.pos rfl (Ev.bind (spec_deep root next hl D.clo 6 (by omega) root D.rin) ?_)
     rw [Bool.and_true]
     exact Ev.now _
  ·refine Ev.neg (ndec h2) ?_
   rw [decide_eq_false h2, Bool.false_and]
   exact Ev.now _
 ·refine Ev.neg (ndec (by omega)) ?_
  rw [decide_eq_false h1, Bool.false_and]
  exact Ev.now _
def mp (s : List Int) : List (Int × Bool) := s.map (fun c => (c, true))
theorem get_mp (s : List Int) (c : Int) : XM.get false (mp s) c = decide (c ∈ s) := by
 induction s with
 | nil => rfl
 | cons a s ih =>
  rw [show mp (a :: s) = (a, true) :: mp s from rfl, XM.get]
  by_cases h : c = a
  ·rw [if_pos h, decide_eq_true (by rw [h]; exact List.mem_cons_self)]
  ·rw [if_neg h, ih]
   exact decide_eq_decide.2 ⟨fun g => List.mem_cons_of_mem _ g, fun g => (List.mem_cons.1 g).resolve_left h⟩
theorem put_mp (s : List Int) (c : Int) (h : c ∉ s) : XM.put (mp s) c true = mp (s ++ [c]) := by
 induction s with
 | nil => rfl
 | cons a s ih =>
  rw [show mp (a :: s) = (a, true) :: mp s from rfl, XM.put, if_neg (fun e => h (by rw [e]; exact List.mem_cons_self)), ih (fun g => h (List.mem_cons_of_mem _ g))]
  rfl
theorem len_mp (s : List Int) : (mp s).length = s.length := List.length_map _
section
variable {root next : Int} {l : List S64}
def finI (root : Int) (l : List S64) (s : List Int) : Bool := if root ∈ ids l ∧ (s.length : Int) = (l.length : Int) - 1 then (if dp l 6 root > 6 then false else decide ((ordF l 6 root).length = l.length)) else false
def secI (root : Int) (l : List S64) : Bool := match kidsM root l l.length 0 [] with | none => false | some s => finI root l s
theorem impl_tail (x : S64) (J : Nat → Bool → Option Bool) (V : Bool) (hT : Ev (fun k => J k true) false) (hF : Ev (fun k => J k false) V) :
  Ev (fun k => (impl_within.f x.f1 1 8).bind fun t => (if t = true then ((impl_within.f x.f2 0 99).bind fun u => (if u = true then (if (x.f3.size : Int) > 20 then (J k true) else (J k (decide ((x.f4.length : Int) > 12)))) else (J k true))) else (J k true)))
   (if (1 ≤ x.f1 ∧ x.f1 ≤ 8) ∧ (0 ≤ x.f2 ∧ x.f2 ≤ 99) ∧ x.f3.size ≤ 20 ∧ x.f4.length ≤ 12 then V else false) := by
 refine Ev.use (twithin_eq _ _ _) ?_
 by_cases h1 : 1 ≤ x.f1 ∧ x.f1 ≤ 8
 ·refine Ev.pos (decide_eq_true h1) (Ev.use (twithin_eq _ _ _) ?_)
  by_cases h2 : 0 ≤ x.f2 ∧ x.f2 ≤ 99
  ·refine Ev.pos (decide_eq_true h2) ?_
   by_cases h3 : x.f3.size ≤ 20
   ·refine Ev.neg (by omega) ?_
    by_cases h4 : x.f4.length ≤ 12
    ·rw [if_pos ⟨h1, h2, h3, h4⟩, decide_eq_false (by omega)]
     exact hF
    ·rw [if_neg (fun g => h4 g.2.2.2), decide_eq_true (by omega)]
     exact hT
   ·rw [if_neg (fun g => h3 g.2.2.1)]
    exact Ev.pos (by omega) hT
  ·rw [if_neg (fun g => h2 g.2.1)]
   exact Ev.neg (ndec h2) hT
 ·rw [if_neg (fun g => h1 g.1)]
  exact Ev.neg (ndec h1) hT
theorem impl_first (hl : docSm l) (hn : 2 ≤ next ∧ next ≤ 999999) (V : Bool) (hV : Loc next l → Ev (fun k => impl_DocOK.l1 k l l.length 0 root next l ([] : List (Int × Bool))) V) :
  Ev (fun k => impl_DocOK.l0 k l l.length 0 root next l) (locG next l l.length 0 && V) := by
 have hl' := hl.1
 have w1 : wrap64 (next - 1) = next - 1 := wrap_id _ (by omega) (by omega)
 refine idx_loop l.length (fun i (_ : Unit) => ∀ j, j < i → nodeB next (l.getD j z64) = true ∧ ordB l j = true) (fun m i _ => locG next l m i && V) (fun k i _ => impl_DocOK.l0 k l l.length i root next l) ?_ ?_ () (fun j hj => by omega)
 ·intro m i _ hi hI hr
  refine Ev.step (fun k => by rw [impl_DocOK.l0]) ?_
  refine Ev.pos (by omega) (Ev.pos (by omega) (Ev.pos (by omega) (Ev.use (twithin_eq _ _ _) ?_)))
  rw [w1]
  have hT : Ev (fun k => impl_DocOK.j2 k l l.length i true root next l) false := Ev.step (fun k => by rw [impl_DocOK.j2]) (Ev.pos rfl (Ev.now _))
  have hF : ∀ W : Bool, Ev (fun k => impl_DocOK.l0 k l l.length ((i : Int) + 1) root next l) W → Ev (fun k => impl_DocOK.j2 k l l.length i false root next l) W := fun W hW =>
   Ev.step (fun k => by rw [impl_DocOK.j2]) (Ev.neg (by decide) (by simp only [wrap_suc i (by omega)]; exact hW))
  have tail : ordB l i = true → (1 ≤ (l.getD i z64).f0 ∧ (l.getD i z64).f0 ≤ next - 1) → Ev (fun k => (impl_within.f (l.getD i z64).f1 1 8).bind fun t => (if t = true then ((impl_within.f (l.getD i z64).f2 0 99).bind fun u => (if u = true then (if ((l.getD i z64).f3.size : Int) > 20 then (impl_DocOK.j2 k l l.length i true root next l) else (impl_DocOK.j2 k l l.length i (decide (((l.getD i z64).f4.length : Int) > 12)) root next l)) else (impl_DocOK.j2 k l l.length i true root next l))) else (impl_DocOK.j2 k l l.length i true root next l))) (locG next l (m + 1) i && V) := by
   intro h0 h1
   rw [locG, h0]
   by_cases hb : nodeB next (l.getD i z64) = true
   ·have hg := impl_tail (l.getD i z64) (fun k b => impl_DocOK.j2 k l l.length i b root next l) (locG next l m (i + 1) && V) hT (hF _ (hr () (fun j hj => by
     by_cases e : j = i
     ·subst e; exact ⟨hb, h0⟩
     ·exact hI j (by omega))))
    have hb' := (nodeB_iff _ _).1 hb
    rw [if_pos hb'.2] at hg
    rw [hb, Bool.true_and, Bool.true_and]
    exact hg
   ·have hg := impl_tail (l.getD i z64) (fun k b => impl_DocOK.j2 k l l.length i b root next l) true hT
    have hb' : nodeB next (l.getD i z64) = false := by simpa using hb
    rw [hb', Bool.false_and, Bool.false_and, Bool.false_and]
    have hn' := mt (nodeB_iff next (l.getD i z64)).2 hb
    have hn'' : ¬ ((1 ≤ (l.getD i z64).f1 ∧ (l.getD i z64).f1 ≤ 8) ∧ (0 ≤ (l.getD i z64).f2 ∧ (l.getD i z64).f2 ≤ 99) ∧ (l.getD i z64).f3.size ≤ 20 ∧ (l.getD i z64).f4.length ≤ 12) := fun g => hn' ⟨h1, g⟩
    refine Ev.use (twithin_eq _ _ _) ?_
    by_cases g1 : 1 ≤ (l.getD i z64).f1 ∧ (l.getD i z64).f1 ≤ 8
    ·refine Ev.pos (decide_eq_true g1) (Ev.use (twithin_eq _ _ _) ?_)
     by_cases g2 : 0 ≤ (l.getD i z64).f2 ∧ (l.getD i z64).f2 ≤ 99
     ·refine Ev.pos (decide_eq_true g2) ?_
      by_cases g3 : (l.getD i z64).f3.size ≤ 20
      ·refine Ev.neg (by omega) ?_
       have h12 : ¬ (l.getD i z64).f4.length ≤ 12 := fun g4 => hn'' ⟨g1, g2, g3, g4⟩
       rw [decide_eq_true (by omega)]
       exact hT
      ·exact Ev.pos (by omega) hT
     ·exact Ev.neg (ndec g2) hT
    ·exact Ev.neg (ndec g1) hT
  by_cases h1 : 1 ≤ (l.getD i z64).f0 ∧ (l.getD i z64).f0 ≤ next - 1
  ·refine Ev.pos (decide_eq_true h1) ?_
   by_cases h2 : i = 0
   ·exact Ev.neg (by omega) (tail (decide_eq_true (.inl h2)) h1)
   ·have e : wrap64 ((i : Int) - 1) = ((i - 1 : Nat) : Int) := by rw [wrap_id _ (by omega) (by omega)]; omega
    simp only [e]
    refine Ev.pos (by omega) (Ev.pos (by omega) (Ev.pos (by omega) ?_))
    rw [rd_nat, rd_nat]
    by_cases h3 : (l.getD (i - 1) z64).f0 < (l.getD i z64).f0
    ·exact Ev.neg (by omega) (tail (decide_eq_true (.inr h3)) h1)
    ·refine Ev.pos (by omega) ?_
     rw [locG, show ordB l i = false from decide_eq_false (fun g => g.elim h2 h3), Bool.and_false, Bool.false_and, Bool.false_and]
     exact hT
  ·refine Ev.neg (ndec h1) ?_
   rw [locG, show nodeB next (l.getD i z64) = false from by
    have := mt (nodeB_iff next (l.getD i z64)).1 (fun g => h1 g.1)
    simpa using this, Bool.false_and, Bool.false_and, Bool.false_and]
   exact hT
 ·intro _ hI
  refine Ev.step (fun k => by rw [impl_DocOK.l0]) ?_
  refine Ev.neg (by omega) ?_
  rw [locG, Bool.true_and]
  exact hV (loc_of next l hn ((locG_iff next l l.length 0).2 (fun j _ hj => hI j (by omega))))
theorem impl_kids (hl : docSm l) (hL : Loc next l) (i : Nat) (hi : i < l.length) (x : S64) (hx : x.f4.length ≤ 1048576) (hxI : ∀ c ∈ x.f4, i64 c) (s : List Int) (c : List Int → Bool)
  (hc : ∀ s', kidsB root (ids l) x.f4 s = some s' → Ev (fun k => impl_DocOK.l1 k l l.length ((i : Int) + 1) root next l (mp s')) (c s')) :
  Ev (fun k => impl_DocOK.l2 k l l.length i x.f4 x.f4.length 0 root next l (mp s)) (match kidsB root (ids l) x.f4 s with | none => false | some s' => c s') := by
 have hl' := hl.1
 refine list_loop x.f4 0 (fun j s' => kidsB root (ids l) x.f4 s = kidsB root (ids l) (x.f4.drop j) s') (fun cs s' => match kidsB root (ids l) cs s' with | none => false | some s' => c s') (fun k j s' => impl_DocOK.l2 k l l.length i x.f4 x.f4.length j root next l (mp s')) ?_ ?_ s rfl
 ·intro j s' hj hs' hr
  have ed : x.f4.drop j = x.f4.getD j 0 :: x.f4.drop (j + 1) := by
   rw [List.getD_eq_getElem?_getD, List.getElem?_eq_getElem (by omega), Option.getD_some]
   exact List.drop_eq_getElem_cons (by omega)
  rw [ed] at hs'
  refine Ev.step (fun k => by rw [impl_DocOK.l2]) ?_
  refine Ev.pos (by omega) (Ev.pos (by omega) (Ev.pos (by omega) ?_))
  rw [get_mp]
  show Ev (fun k => if decide (x.f4.getD j 0 ∈ s') = true then _ else _) (match (if x.f4.getD j 0 = root ∨ x.f4.getD j 0 ∈ s' ∨ x.f4.getD j 0 ∉ ids l then none else kidsB root (ids l) (x.f4.drop (j + 1)) (s' ++ [x.f4.getD j 0])) with | none => false | some s' => c s')
  have hT : Ev (fun k => impl_DocOK.j5 k (x.f4.getD j 0) l l.length i x.f4 x.f4.length j true root next l (mp s')) false := Ev.step (fun k => by rw [impl_DocOK.j5]) (Ev.pos rfl (Ev.now _))
  by_cases h2 : x.f4.getD j 0 ∈ s'
  ·rw [if_pos (.inr (.inl h2))]
   exact Ev.pos (decide_eq_true h2) hT
  refine Ev.neg (ndec h2) ?_
  by_cases h1 : x.f4.getD j 0 = root
  ·rw [if_pos (.inl h1)]
   exact Ev.pos h1 hT
  refine Ev.neg h1 (Ev.bind (impl_has hl hL root next _ (hxI _ (getD_mem _ _ j hj))) ?_)
  by_cases h3 : x.f4.getD j 0 ∈ ids l
  ·rw [if_neg (fun h => h.elim h1 (fun h => h.elim h2 (fun h => h h3)))]
   refine Ev.step (fun k => by rw [impl_DocOK.j5]) ?_
   refine Ev.neg (by rw [show rd x.f4 (j : Int) = x.f4.getD j 0 from rfl, decide_eq_true h3]; decide) ?_
   simp only [wrap_suc j (by omega)]
   rw [show rd x.f4 (j : Int) = x.f4.getD j 0 from rfl, put_mp _ _ h2]
   refine hr _ ?_
   rw [hs', kidsB, if_neg (fun h => h.elim h1 (fun h => h.elim h2 (fun h => h h3)))]
  ·rw [if_pos (.inr (.inr h3))]
   rw [show decide (rd x.f4 (j : Int) ∈ ids l) = false from decide_eq_false h3]
   exact hT
 ·intro s' hs'
  rw [List.drop_length] at hs'
  refine Ev.step (fun k => by rw [impl_DocOK.l2]) ?_
  refine Ev.neg (by omega) ?_
  simp only [wrap_suc i (by omega)]
  exact hc s' hs'
theorem impl_second (hl : docSm l) (hI : docI l) (hr : i64 root) (hL : Loc next l) (h0 : 1 ≤ l.length ∧ l.length ≤ 40) : Ev (fun k => impl_DocOK.l1 k l l.length 0 root next l (mp [])) (secI root l) := by
 have hl' := hl.1
 refine idx_loop l.length (fun i s => ∀ m, i + m = l.length → kidsM root l l.length 0 [] = kidsM root l m i s) (fun m i s => match kidsM root l m i s with | none => false | some s => finI root l s) (fun k i s => impl_DocOK.l1 k l l.length i root next l (mp s)) ?_ ?_ [] (fun m hm => by rw [show m = l.length from by omega])
 ·intro m i s hi hs hr'
  refine Ev.step (fun k => by rw [impl_DocOK.l1]) ?_
  refine Ev.pos (by omega) (Ev.pos (by omega) (Ev.pos (by omega) ?_))
  have hm := getD_mem l z64 i (by omega)
  have hg := impl_kids (root := root) hl hL i (by omega) (l.getD i z64) (hl.2 _ hm) (hI _ hm).2 s (fun s' => match kidsM root l m (i + 1) s' with | none => false | some s => finI root l s) (fun s' hs' => hr' s' (fun m' hm' => by
   obtain rfl : m' = m := by omega
   rw [hs (m' + 1) (by omega), kidsM, hs']
   rfl))
  have e : (match kidsM root l (m + 1) i s with | none => false | some s => finI root l s) = (match kidsB root (ids l) (l.getD i z64).f4 s with | none => false | some s' => (match kidsM root l m (i + 1) s' with | none => false | some s => finI root l s)) := by
   rw [kidsM]
   cases kidsB root (ids l) (l.getD i z64).f4 s <;> rfl
  rw [e]
  exact hg
 ·intro s hs
  refine Ev.step (fun k => by rw [impl_DocOK.l1]) ?_
  refine Ev.neg (by omega) (Ev.bind (impl_has hl hL root next root hr) ?_)
  show Ev _ (finI root l s)
  have hJ : Ev (fun k => impl_DocOK.j6 k true root next l) false := Ev.step (fun k => by rw [impl_DocOK.j6]) (Ev.pos rfl (Ev.now _))
  unfold finI
  by_cases h1 : root ∈ ids l
  ·refine Ev.pos (decide_eq_true h1) ?_
   rw [len_mp, wrap_id _ (by omega) (by omega)]
   by_cases h2 : (s.length : Int) = (l.length : Int) - 1
   ·rw [if_pos ⟨h1, h2⟩]
    have hk := hs 0 (by omega)
    rw [kidsM_eq root l l.length 0 (by omega), List.drop_zero] at hk
    obtain ⟨_, g2, _⟩ := kidsB_some _ _ _ _ _ hk List.nodup_nil
    have hc : Clo l := fun x hx c hc => (g2 c (List.mem_flatMap.2 ⟨x, hx, hc⟩)).2
    refine Ev.pos h2 (Ev.bind (impl_deep root hl hL hI hc h1) ?_)
    by_cases h3 : dp l 6 root > 6
    ·rw [if_pos h3, decide_eq_true h3]
     exact hJ
    ·rw [if_neg h3, decide_eq_false h3]
     refine Ev.step (fun k => by rw [impl_DocOK.j6]) ?_
     refine Ev.neg (by decide) (Ev.bind (impl_order root hl hL hI hc 6 root h1 (by omega) [] (by decide)) ?_)
     rw [List.nil_append]
     rw [show (((ordF l 6 root).length : Int) == (l.length : Int)) = decide ((ordF l 6 root).length = l.length) from by
      rw [Bool.eq_iff_iff, beq_iff_eq, decide_eq_true_eq]; omega]
     exact Ev.now _
   ·rw [if_neg (fun g => h2 g.2)]
    exact Ev.neg h2 hJ
  ·rw [if_neg (fun g => h1 g.1)]
   exact Ev.neg (ndec h1) hJ
theorem impl_doc (hl : docSm l) (hI : docI l) (hr : i64 root) : Ev (fun k => impl_DocOK.f k root next l) (docB root next l) := by
 refine Ev.use (twithin_eq _ _ _) ?_
 have hJ : Ev (fun k => impl_DocOK.j0 k true root next l) false := Ev.step (fun k => by rw [impl_DocOK.j0]) (Ev.pos rfl (Ev.now _))
 unfold docB
 by_cases h1 : 1 ≤ l.length ∧ l.length ≤ 40
 ·refine Ev.pos (decide_eq_true (by omega)) (Ev.use (twithin_eq _ _ _) ?_)
  rw [decide_eq_true h1, Bool.true_and]
  by_cases h2 : 2 ≤ next ∧ next ≤ 999999
  ·rw [decide_eq_true h2, Bool.true_and]
   refine Ev.step (fun k => by rw [impl_DocOK.j0]) ?_
   refine Ev.neg (by decide) ?_
   have hg := impl_first (root := root) hl h2 (secI root l) (fun hL => impl_second hl hI hr hL h1)
   have e : (nodesG root next l l.length 0 [] && (decide (dp l 6 root ≤ 6) && l.all (fun x => cl l root (l.length + 1) x.f0))) = (locG next l l.length 0 && secI root l) := by
    cases hN : nodesG root next l l.length 0 []
    ·rw [nodesG_eq] at hN
     cases hG : locG next l l.length 0
     ·rfl
     ·rw [hG, Bool.true_and] at hN
      rw [Bool.false_and, Bool.true_and]
      unfold secI
      cases hk : kidsM root l l.length 0 [] with
      | none => rfl
      | some s =>
       rw [hk] at hN
       have hN := of_decide_eq_false hN
       show false = finI root l s
       unfold finI
       rw [if_neg (fun g => hN ⟨g.2, g.1⟩)]
    ·have D := doc0_of h2 h1 hN
     rw [nodesG_eq, Bool.and_eq_true] at hN
     rw [hN.1, Bool.true_and, Bool.true_and]
     unfold secI
     cases hk : kidsM root l l.length 0 [] with
     | none => rw [hk] at hN; exact absurd hN.2 (by simp)
     | some s =>
      rw [hk] at hN
      have hF := of_decide_eq_true hN.2
      show _ = finI root l s
      unfold finI
      rw [if_pos ⟨hF.2, hF.1⟩]
      by_cases h3 : dp l 6 root ≤ 6
      ·rw [decide_eq_true h3, Bool.true_and, if_neg (by omega), D.reach h3]
      ·rw [decide_eq_false h3, Bool.false_and, if_pos (by omega)]
   rw [e]
   exact hg
  ·rw [decide_eq_false h2, Bool.false_and]
   exact hJ
 ·rw [decide_eq_false h1, Bool.false_and]
  exact Ev.neg (ndec (by omega)) hJ
end
theorem i64_of {n : Int} (h : (Lit.int .i64 n).wf = true) : i64 n := by
 simp only [Lit.wf, Bool.and_eq_true] at h
 exact ⟨of_decide_eq_true h.1, of_decide_eq_true h.2⟩
theorem docSm_of (x : S24) (h : sm24 x) : docSm (x.f2.map cv144) := by
 obtain ⟨_, _, h1, h2⟩ := h
 refine ⟨by rw [List.length_map]; exact h1, fun y hy => ?_⟩
 obtain ⟨z, hz, rfl⟩ := List.mem_map.1 hy
 exact (h2 z hz).2.2.2.2
theorem docI_of (x : S24) (h : ok24 x) : docI (x.f2.map cv144) := by
 obtain ⟨_, _, _, h2⟩ := h
 intro y hy
 obtain ⟨z, hz, rfl⟩ := List.mem_map.1 hy
 obtain ⟨g0, _, _, _, _, g4⟩ := h2 z hz
 exact ⟨i64_of g0, fun c hc => i64_of (g4 c hc)⟩
end Go.Proofs.Ytocelbmpnjnnbaa.Pure
namespace Go.Proofs.Ytocelbmpnjnnbaa.Pure
set_option linter.unusedVariables false
set_option linter.unusedSimpArgs false
open Go.RowKit Go.Proofs.Ytocelbmpnjnnbaa.XA Go.Proofs.Ytocelbmpnjnnbaa.Pk Go.Proofs.YtocelbmpnjnnbaaW.PrintWords Go.Proofs.YtocelbmpnjnnbaaW.PrintLast Go.Proofs.YtocelbmpnjnnbaaW.PrintMore
def holdI (t : List S38) : Prop := ∀ h ∈ t, i64 h.f0 ∧ i64 h.f1 ∧ i64 h.f2
def holdB (l : List S64) (h : S38) : Bool := decide (1 ≤ h.f0 ∧ h.f0 ≤ 999) && (decide (1 ≤ h.f2 ∧ h.f2 ≤ 5) && decide (h.f1 ∈ ids l))
def lessB (a b : S38) : Bool := decide (a.f0 < b.f0 ∨ a.f0 = b.f0 ∧ a.f1 < b.f1)
def holdOrd (t : List S38) (i : Nat) : Bool := decide (i = 0) || lessB (t.getD (i - 1) z38) (t.getD i z38)
def holdsB (l : List S64) (t : List S38) : Bool := decide (t.length ≤ 30) && allN t.length (fun i => holdB l (t.getD i z38) && holdOrd t i)
def holdsOK (root next : Int) (l : List S64) (t : List S38) : Bool := docB root next l && holdsB l t
theorem spec_hold {l : List S64} (root n : Int) (hl : docSm l) (h : S38) : Ev (fun k => spec_l07Hold.f k root n l h.f0 h.f1 h.f2) (holdB l h) := by
 refine Ev.use (tin_eq _ _ _) ?_
 unfold holdB
 by_cases h1 : 1 ≤ h.f0 ∧ h.f0 ≤ 999
 ·refine Ev.pos (decide_eq_true h1) (Ev.use (x := decide (1 ≤ h.f2 ∧ h.f2 ≤ 5)) (by simp only [spec_l07Mode.f, tin_eq, Option.bind_some]) ?_)
  rw [decide_eq_true h1, Bool.true_and]
  by_cases h2 : 1 ≤ h.f2 ∧ h.f2 ≤ 5
  ·refine Ev.pos (decide_eq_true h2) ?_
   rw [decide_eq_true h2, Bool.true_and]
   refine (Ev.bind (spec_at l root n h.f1 hl.1) ?_)
   rw [show decide (h.f1 ∈ ids l) = decide (atF l h.f1 ≥ 0) from decide_eq_decide.2 ⟨fun g => by have := mt (at_neg l h.f1).1 (fun e => e g); omega, fun g => Classical.byContradiction fun e => by have := (at_neg l h.f1).2 e; omega⟩]
   exact Ev.now _
  ·refine Ev.neg (ndec h2) ?_
   rw [decide_eq_false h2, Bool.false_and]
   exact Ev.now _
 ·refine Ev.neg (ndec h1) ?_
  rw [decide_eq_false h1, Bool.false_and]
  exact Ev.now _
theorem spec_less (a b : S38) : spec_l07Less.f a.f0 a.f1 a.f2 b.f0 b.f1 b.f2 = some (lessB a b) := by
 unfold spec_l07Less.f lessB
 by_cases h1 : a.f0 < b.f0
 ·rw [if_pos h1, decide_eq_true (.inl h1)]
 ·rw [if_neg h1]
  by_cases h2 : a.f0 = b.f0
  ·rw [if_pos h2]
   exact congrArg some (decide_eq_decide.2 ⟨fun g => .inr ⟨h2, g⟩, fun g => (g.resolve_left h1).2⟩)
  ·rw [if_neg h2, decide_eq_false (fun g => g.elim h1 (fun g => h2 g.1))]
theorem spec_holds {l : List S64} (root n : Int) (hl : docSm l) (t : List S38) : Ev (fun k => spec_l07Holds.f k root n l t) (holdsB l t) := by
 unfold holdsB
 by_cases h30 : t.length ≤ 30
 ·rw [decide_eq_true h30, Bool.true_and]
  refine Ev.neg (by omega) ?_
  refine all_loop t.length _ (fun k i => spec_l07Holds.l0 k t i root n l) ?_ ?_ ?_
  ·intro i r hi hp hr
   obtain ⟨p1, p2⟩ := (Bool.and_eq_true _ _).mp hp
   refine Ev.step (fun k => by rw [spec_l07Holds.l0]) ?_
   refine Ev.pos (by omega) (Ev.pos (by omega) (Ev.bind (spec_hold root n hl (t.getD i z38)) (Ev.pos p1 ?_)))
   simp only [wrap_suc i (by omega)]
   by_cases h0 : i = 0
   ·exact Ev.neg (by omega) hr
   ·have e : wrap64 ((i : Int) - 1) = ((i - 1 : Nat) : Int) := by rw [wrap_id _ (by omega) (by omega)]; omega
    simp only [e]
    have p3 : lessB (t.getD (i - 1) z38) (t.getD i z38) = true := by
     unfold holdOrd at p2
     rwa [decide_eq_false h0, Bool.false_or] at p2
    exact Ev.pos (by omega) (Ev.pos (by omega) (Ev.pos (by omega) (Ev.use (spec_less (t.getD (i - 1) z38) (t.getD i z38)) (Ev.pos p3 hr))))
  ·intro i hi hp
   refine Ev.step (fun k => by rw [spec_l07Holds.l0]) ?_
   refine Ev.pos (by omega) (Ev.pos (by omega) (Ev.bind (spec_hold root n hl (t.getD i z38)) ?_))
   cases p1 : holdB l (t.getD i z38)
   ·exact Ev.neg (by decide) (Ev.now _)
   ·rw [p1, Bool.true_and] at hp
    have h0 : ¬ i = 0 := fun e => by unfold holdOrd at hp; rw [decide_eq_true e, Bool.true_or] at hp; cases hp
    have e : wrap64 ((i : Int) - 1) = ((i - 1 : Nat) : Int) := by rw [wrap_id _ (by omega) (by omega)]; omega
    simp only [e]
    have p3 : lessB (t.getD (i - 1) z38) (t.getD i z38) = false := by
     unfold holdOrd at hp
     rwa [decide_eq_false h0, Bool.false_or] at hp
    refine Ev.pos (by simp) (Ev.pos (by omega) (Ev.pos (by omega) (Ev.pos (by omega) (Ev.use (spec_less (t.getD (i - 1) z38) (t.getD i z38)) (Ev.neg ?_ (Ev.now _))))))
    rw [p3]; decide
  ·refine Ev.step (fun k => by rw [spec_l07Holds.l0]) ?_
   exact Ev.neg (by omega) (Ev.now _)
 ·rw [decide_eq_false h30, Bool.false_and]
  exact Ev.pos (by omega) (Ev.now _)
theorem spec_holdsOK {root next : Int} {l : List S64} (hl : docSm l) (t : List S38) : Ev (fun k => spec_HoldsOK.f k root next l t) (holdsOK root next l t) := by
 unfold holdsOK
 by_cases h : t.length ≤ 4096
 ·refine Ev.neg (by omega) (Ev.bind (spec_ok hl) ?_)
  cases docB root next l
  ·exact Ev.neg (by decide) (Ev.now _)
  ·rw [Bool.true_and]
   exact Ev.pos rfl (Ev.bind (spec_holds root next hl t) (Ev.now _))
 ·rw [show holdsB l t = false from by unfold holdsB; rw [decide_eq_false (by omega), Bool.false_and], Bool.and_false]
  exact Ev.pos (by omega) (Ev.now _)
theorem impl_hold {next : Int} {l : List S64} (root : Int) (hl : docSm l) (hL : Loc next l) (h : S38) (hi : i64 h.f1) : Ev (fun k => impl_Doc_isHold.f k root next l h.f0 h.f1 h.f2) (holdB l h) := by
 refine Ev.use (x := decide (1 ≤ h.f0 ∧ h.f0 ≤ 999)) (by simp only [impl_isSession.f, twithin_eq, Option.bind_some]) ?_
 unfold holdB
 by_cases h1 : 1 ≤ h.f0 ∧ h.f0 ≤ 999
 ·refine Ev.pos (decide_eq_true h1) (Ev.bind (impl_has hl hL root next h.f1 hi) ?_)
  rw [decide_eq_true h1, Bool.true_and]
  by_cases h3 : h.f1 ∈ ids l
  ·refine Ev.pos (decide_eq_true h3) ?_
   rw [decide_eq_true h3, Bool.and_true]
   exact (Ev.use (x := decide (1 ≤ h.f2 ∧ h.f2 ≤ 5)) (by simp only [impl_isMode.f, twithin_eq, Option.bind_some]) (Ev.now _))
  ·refine Ev.neg (ndec h3) ?_
   rw [decide_eq_false h3, Bool.and_false]
   exact Ev.now _
 ·refine Ev.neg (ndec h1) ?_
  rw [decide_eq_false h1, Bool.false_and]
  exact Ev.now _
def cmpI (a b : Int) : Int := if a < b then -1 else if a > b then 1 else 0
def cmpH (a b : S38) : Int := if cmpI a.f0 b.f0 = 0 then cmpI a.f1 b.f1 else cmpI a.f0 b.f0
theorem cmp_eq (a b : Int) : cmp_Compare_int.f a b = some (cmpI a b) := by
 simp only [cmp_Compare_int.f, cmp_isNaN_int.f, Option.bind_some, bne_self_eq_false, Bool.false_eq_true, if_false]
 unfold cmpI
 by_cases h : a < b
 ·rw [if_pos h, if_pos h]
 ·rw [if_neg h, if_neg h]
  by_cases g : a > b
  ·rw [if_pos g, if_pos g]
  ·rw [if_neg g, if_neg g]
theorem impl_cmp (a b : S38) : Ev (fun k => impl_compareHolds.f k a.f0 a.f1 a.f2 b.f0 b.f1 b.f2) (cmpH a b) := by
 refine Ev.use (cmp_eq _ _) (Ev.use (cmp_eq _ _) (Ev.bind (a := cmpH a b) ?_ (Ev.now _)))
 show Ev (fun k => cmp_Or_int.l0 k 0 [cmpI a.f0 b.f0, cmpI a.f1 b.f1] 2 0) (cmpH a b)
 unfold cmpH
 refine Ev.step (fun k => by rw [cmp_Or_int.l0]) ?_
 refine Ev.pos (by decide) (Ev.pos (by decide) (Ev.pos (by simp) ?_))
 by_cases h1 : cmpI a.f0 b.f0 = 0
 ·rw [if_pos h1]
  refine Ev.pos h1 ?_
  refine Ev.step (fun k => by rw [cmp_Or_int.l0]) ?_
  rw [show wrap64 (0 + 1) = 1 from (wrap_id (0 + 1) (by omega) (by omega)).trans rfl]
  refine Ev.pos (by decide) (Ev.pos (by decide) (Ev.pos (by simp) ?_))
  by_cases h2 : cmpI a.f1 b.f1 = 0
  ·refine Ev.pos h2 ?_
   refine Ev.step (fun k => by rw [cmp_Or_int.l0]) ?_
   rw [h2, show wrap64 (1 + 1) = 2 from (wrap_id (1 + 1) (by omega) (by omega)).trans rfl]
   exact Ev.neg (by decide) (Ev.now _)
  ·exact Ev.neg h2 (Ev.now _)
 ·rw [if_neg h1]
  exact Ev.neg h1 (Ev.now _)
theorem cmp_less (a b : S38) : decide (cmpH a b < 0) = lessB a b := by
 unfold lessB
 refine decide_eq_decide.2 ?_
 unfold cmpH cmpI
 split <;> split <;> (try split) <;> (try split) <;> omega
theorem impl_holdsOK {root next : Int} {l : List S64} (hl : docSm l) (hI : docI l) (hr : i64 root) (t : List S38) (ht : holdI t) (hs : t.length ≤ 1048576) : Ev (fun k => impl_HoldsOK.f k root next l t) (holdsOK root next l t) := by
 refine Ev.bind (impl_doc hl hI hr) ?_
 have hT : Ev (fun k => impl_HoldsOK.j0 k t true root next l) false := Ev.step (fun k => by rw [impl_HoldsOK.j0]) (Ev.pos rfl (Ev.now _))
 unfold holdsOK
 cases hd : docB root next l
 ·exact Ev.neg (by decide) hT
 ·refine Ev.pos rfl ?_
  have D := doc1_of hd
  have hL := D.loc
  rw [Bool.true_and]
  unfold holdsB
  by_cases h30 : t.length ≤ 30
  ·rw [decide_eq_true h30, Bool.true_and, decide_eq_false (by omega)]
   refine Ev.step (fun k => by rw [impl_HoldsOK.j0]) (Ev.neg (by decide) ?_)
   refine all_loop t.length _ (fun k i => impl_HoldsOK.l0 k t t t.length i root next l) ?_ ?_ ?_
   ·intro i r hi hp hr
    obtain ⟨p1, p2⟩ := (Bool.and_eq_true _ _).mp hp
    refine Ev.step (fun k => by rw [impl_HoldsOK.l0]) ?_
    refine Ev.pos (by omega) (Ev.pos (by omega) (Ev.pos (by omega) (Ev.bind (impl_hold root hl hL (t.getD i z38) (ht _ (getD_mem t _ i hi)).2.1) (Ev.pos p1 ?_))))
    simp only [wrap_suc i (by omega)]
    by_cases h0 : i = 0
    ·exact Ev.neg (by omega) hr
    ·have e : wrap64 ((i : Int) - 1) = ((i - 1 : Nat) : Int) := by rw [wrap_id _ (by omega) (by omega)]; omega
     simp only [e]
     have p3 : lessB (t.getD (i - 1) z38) (t.getD i z38) = true := by
      unfold holdOrd at p2
      rwa [decide_eq_false h0, Bool.false_or] at p2
     rw [← cmp_less, decide_eq_true_eq] at p3
     exact Ev.pos (by omega) (Ev.pos (by omega) (Ev.pos (by omega) (Ev.bind (impl_cmp (t.getD (i - 1) z38) (t.getD i z38)) (Ev.neg (by omega) hr))))
   ·intro i hi hp
    refine Ev.step (fun k => by rw [impl_HoldsOK.l0]) ?_
    refine Ev.pos (by omega) (Ev.pos (by omega) (Ev.pos (by omega) (Ev.bind (impl_hold root hl hL (t.getD i z38) (ht _ (getD_mem t _ i hi)).2.1) ?_)))
    cases p1 : holdB l (t.getD i z38)
    ·exact Ev.neg (by decide) (Ev.now _)
    ·rw [p1, Bool.true_and] at hp
     have h0 : ¬ i = 0 := fun e => by unfold holdOrd at hp; rw [decide_eq_true e, Bool.true_or] at hp; cases hp
     have e : wrap64 ((i : Int) - 1) = ((i - 1 : Nat) : Int) := by rw [wrap_id _ (by omega) (by omega)]; omega
     simp only [e]
     have p3 : lessB (t.getD (i - 1) z38) (t.getD i z38) = false := by
      unfold holdOrd at hp
      rwa [decide_eq_false h0, Bool.false_or] at hp
     rw [← cmp_less, decide_eq_false_iff_not] at p3
     exact Ev.pos (by simp) (Ev.pos (by omega) (Ev.pos (by omega) (Ev.pos (by omega) (Ev.bind (impl_cmp (t.getD (i - 1) z38) (t.getD i z38)) (Ev.pos (by omega) (Ev.now _))))))
   ·refine Ev.step (fun k => by rw [impl_HoldsOK.l0]) ?_
    exact Ev.neg (by omega) (Ev.now _)
  ·rw [decide_eq_false h30, Bool.false_and, decide_eq_true (by omega)]
   exact hT
theorem holdI_of (x : List S27) (h : x.length ≤ maxLen ∧ ∀ y ∈ x, ok27 y) : holdI (x.map cv27) := by
 intro y hy
 obtain ⟨z, hz, rfl⟩ := List.mem_map.1 hy
 obtain ⟨g0, g1, g2⟩ := h.2 z hz
 exact ⟨i64_of g0, i64_of g1, i64_of g2⟩
end Go.Proofs.Ytocelbmpnjnnbaa.Pure
namespace Go.Proofs.Ytocelbmpnjnnbaa.Pure
set_option linter.unusedVariables false
set_option linter.unusedSimpArgs false
open Go.RowKit Go.Proofs.Ytocelbmpnjnnbaa.XA Go.Proofs.Ytocelbmpnjnnbaa.Pk Go.Proofs.YtocelbmpnjnnbaaW.PrintWords Go.Proofs.YtocelbmpnjnnbaaW.PrintLast Go.Proofs.YtocelbmpnjnnbaaW.PrintMore
def ownF (s node : Int) : List S38 → Int
 | [] => 0
 | h :: t => if h.f0 = s then (if h.f1 = node then h.f2 else ownF s node t) else ownF s node t
theorem spec_own7 (t : List S38) (hs : t.length ≤ 1048576) (s node : Int) : Ev (fun k => spec_l07Own.f k t s node) (ownF s node t) := by
 refine list_loop0 t z38 (fun t => ownF s node t) (fun k i => spec_l07Own.l0 k t s node i) ?_ ?_
 ·intro i hi hr
  refine Ev.step (fun k => by rw [spec_l07Own.l0]) ?_
  refine Ev.pos (by omega) (Ev.pos (by omega) ?_)
  simp only [wrap_suc i (by omega)]
  show Ev (fun k => if (t.getD i z38).f0 = s then (if (t.getD i z38).f1 = node then some (t.getD i z38).f2 else _) else _) (if (t.getD i z38).f0 = s then (if (t.getD i z38).f1 = node then (t.getD i z38).f2 else ownF s node (t.drop (i + 1))) else ownF s node (t.drop (i + 1)))
  by_cases c : (t.getD i z38).f0 = s
  ·rw [if_pos c]
   refine Ev.pos c ?_
   by_cases d : (t.getD i z38).f1 = node
   ·rw [if_pos d]
    exact Ev.pos d (Ev.now _)
   ·rw [if_neg d]
    exact Ev.neg d hr
  ·rw [if_neg c]
   exact Ev.neg c hr
 ·refine Ev.step (fun k => by rw [spec_l07Own.l0]) ?_
  exact Ev.neg (by omega) (Ev.now _)
end Go.Proofs.Ytocelbmpnjnnbaa.Pure
namespace Go.Proofs.Ytocelbmpnjnnbaa.Pure
set_option linter.unusedVariables false
set_option linter.unusedSimpArgs false
open Go.RowKit Go.Proofs.Ytocelbmpnjnnbaa.XA Go.Proofs.Ytocelbmpnjnnbaa.Pk Go.Proofs.YtocelbmpnjnnbaaW.PrintWords Go.Proofs.YtocelbmpnjnnbaaW.PrintLast Go.Proofs.YtocelbmpnjnnbaaW.PrintMore
def joinF (a b : Int) : Int := if a > b then (if b = 2 then (if a = 3 then 4 else a) else a) else (if a = 2 then (if b = 3 then 4 else b) else b)
theorem spec_join (a b : Int) : Ev (fun k => spec_l07Join.f k a b) (joinF a b) := by
 have two : ∀ a b : Int, ¬ a > b → Ev (fun k => spec_l07Join.f k a b) (if a = 2 then (if b = 3 then 4 else b) else b) := fun a b h => by
  refine Ev.step (fun k => by rw [spec_l07Join.f]) (Ev.neg h (Ev.const ?_))
  by_cases c : a = 2 <;> by_cases d : b = 3 <;> simp [c, d]
 unfold joinF
 by_cases h : a > b
 ·rw [if_pos h]
  exact Ev.step (fun k => by rw [spec_l07Join.f]) (Ev.pos h (Ev.bind (two b a (by omega)) (Ev.now _)))
 ·rw [if_neg h]
  exact two a b h
theorem joinF_zero {a : Int} (h : 0 ≤ a) : joinF a 0 = a := by
 unfold joinF
 split <;> split <;> (try split) <;> omega
end Go.Proofs.Ytocelbmpnjnnbaa.Pure
namespace Go.Proofs.Ytocelbmpnjnnbaa.Pure
set_option linter.unusedVariables false
set_option linter.unusedSimpArgs false
open Go.RowKit Go.Proofs.Ytocelbmpnjnnbaa.XA Go.Proofs.Ytocelbmpnjnnbaa.Pk Go.Proofs.YtocelbmpnjnnbaaW.PrintWords Go.Proofs.YtocelbmpnjnnbaaW.PrintLast Go.Proofs.YtocelbmpnjnnbaaW.PrintMore
theorem impl_join (a b : Int) : impl_joined.f a b = some (joinF a b) := by
 unfold impl_joined.f joinF
 by_cases h : a > b
 ·have e1 : mn a b = b := by unfold mn; rw [if_pos (by omega)]
  have e2 : mx a b = a := by unfold mx; rw [if_neg (by omega)]
  rw [e1, e2, if_pos h]
  by_cases c : b = 2
  ·rw [if_pos c, if_pos c]
   by_cases d : a = 3
   ·rw [if_pos d, if_pos d]
   ·rw [if_neg d, if_neg d]
  ·rw [if_neg c, if_neg c]
 ·have e1 : mn a b = a := by unfold mn; rw [if_neg (by omega)]
  have e2 : mx a b = b := by unfold mx; split <;> omega
  rw [e1, e2, if_neg h]
  by_cases c : a = 2
  ·rw [if_pos c, if_pos c]
   by_cases d : b = 3
   ·rw [if_pos d, if_pos d]
   ·rw [if_neg d, if_neg d]
  ·rw [if_neg c, if_neg c]
end Go.Proofs.Ytocelbmpnjnnbaa.Pure
namespace Go.Proofs.Ytocelbmpnjnnbaa.Pure
set_option linter.unusedVariables false
set_option linter.unusedSimpArgs false
open Go.RowKit Go.Proofs.Ytocelbmpnjnnbaa.XA Go.Proofs.Ytocelbmpnjnnbaa.Pk Go.Proofs.YtocelbmpnjnnbaaW.PrintWords Go.Proofs.YtocelbmpnjnnbaaW.PrintLast Go.Proofs.YtocelbmpnjnnbaaW.PrintMore
def RiseH (t : List S38) : Prop := ∀ i j : Nat, i < j → j < t.length → lessB (t.getD i z38) (t.getD j z38) = true
theorem less_iff (a b : S38) : lessB a b = true ↔ (a.f0 < b.f0 ∨ a.f0 = b.f0 ∧ a.f1 < b.f1) := decide_eq_true_iff
theorem riseH_of {l : List S64} {t : List S38} (h : holdsB l t = true) : RiseH t := by
 unfold holdsB at h
 rw [Bool.and_eq_true, allN_iff] at h
 have step : ∀ j : Nat, j + 1 < t.length → lessB (t.getD j z38) (t.getD (j + 1) z38) = true := by
  intro j hj
  have := h.2 (j + 1) hj
  rw [Bool.and_eq_true] at this
  have g := this.2
  unfold holdOrd at g
  rw [Bool.or_eq_true] at g
  rcases g with g | g
  ·exact absurd (of_decide_eq_true g) (by omega)
  ·exact g
 intro i j hij
 induction j with
 | zero => omega
 | succ j ih =>
  intro hj
  by_cases e : i = j
  ·subst e; exact step i hj
  ·have g1 := (less_iff _ _).1 (ih (by omega) (by omega))
   have g2 := (less_iff _ _).1 (step j hj)
   refine (less_iff _ _).2 ?_
   omega
theorem place_of {t : List S38} (hR : RiseH t) (h : S38) : ∀ n, n ≤ t.length → ∃ p, p ≤ n ∧ (∀ i, i < p → lessB (t.getD i z38) h = true) ∧ ∀ i, p ≤ i → i < n → lessB (t.getD i z38) h = false
 | 0, _ => ⟨0, Nat.le_refl _, fun i hi => by omega, fun i h1 h2 => by omega⟩
 | n + 1, hn => by
  obtain ⟨p, h1, h2, h3⟩ := place_of hR h n (by omega)
  cases c : lessB (t.getD n z38) h
  ·refine ⟨p, by omega, h2, fun i hi hi2 => ?_⟩
   by_cases e : i = n
   ·rw [e]; exact c
   ·exact h3 i hi (by omega)
  ·refine ⟨n + 1, Nat.le_refl _, fun i hi => ?_, fun i g1 g2 => by omega⟩
   by_cases e : i = n
   ·rw [e]; exact c
   ·have g1 := (less_iff _ _).1 (hR i n (by omega) (by omega))
    have g2 := (less_iff _ _).1 c
    refine (less_iff _ _).2 ?_
    omega
def sameH (a b : S38) : Prop := a.f0 = b.f0 ∧ a.f1 = b.f1
instance (a b : S38) : Decidable (sameH a b) := inferInstanceAs (Decidable (_ ∧ _))
theorem cmp_zero (a b : S38) : (cmpH a b == 0) = decide (sameH a b) := by
 rw [show (cmpH a b == 0) = decide (cmpH a b = 0) from rfl]
 refine decide_eq_decide.2 ?_
 unfold cmpH cmpI sameH
 split <;> split <;> (try split) <;> (try split) <;> omega
section
variable {t : List S38} (hs : t.length ≤ 1048576) (h : S38) {p : Nat} (hp : p ≤ t.length) (hlt : ∀ i, i < p → lessB (t.getD i z38) h = true) (hge : ∀ i, p ≤ i → i < t.length → lessB (t.getD i z38) h = false)
include hs hp hlt hge in
theorem bs_put : ∀ (d i j : Nat), j - i ≤ d → i ≤ p → p ≤ j → j ≤ t.length → Ev (fun k => slices_BinarySearchFunc_impl_Hold_impl_Hold_impl_Hold_at_impl_compareHolds.l0 k t (t.length : Int) (i : Int) (j : Int) h.f0 h.f1 h.f2) ((p : Int), decide (p < t.length ∧ sameH (t.getD p z38) h)) := by
 intro d
 induction d with
 | zero =>
  intro i j h1 h2 h3 h4
  obtain rfl : i = p := by omega
  refine Ev.step (fun k => by rw [slices_BinarySearchFunc_impl_Hold_impl_Hold_impl_Hold_at_impl_compareHolds.l0]) (Ev.neg (by omega) ?_)
  by_cases g : i < t.length
  ·refine Ev.pos (by omega) (Ev.pos (by omega) (Ev.pos (by omega) (Ev.bind (impl_cmp (t.getD i z38) h) ?_)))
   rw [cmp_zero, show decide (i < t.length ∧ sameH (t.getD i z38) h) = decide (sameH (t.getD i z38) h) from decide_eq_decide.2 ⟨fun q => q.2, fun q => ⟨g, q⟩⟩]
   exact Ev.now _
  ·refine Ev.neg (by omega) ?_
   rw [decide_eq_false (fun q => g q.1)]
   exact Ev.now _
 | succ d ih =>
  intro i j h1 h2 h3 h4
  by_cases g : i < j
  ·have w0 : wrap64 ((i : Int) + (j : Int)) = ((i + j : Nat) : Int) := by rw [wrap_id _ (by omega) (by omega)]; omega
   have w1 : IntKind.u64.wrap (wrap64 ((i : Int) + (j : Int))) = ((i + j : Nat) : Int) := by rw [w0]; exact Go.IntWalk.u64_in _ (by omega)
   have w2 := Aside0.mk (show wrap64 ((IntKind.u64.wrap (wrap64 ((i : Int) + (j : Int)))) / 2) = (((i + j) / 2 : Nat) : Int) by rw [w1, wrap_id _ (by omega) (by omega)]; omega)
   clear w0 w1
   have hh : (i + j) / 2 < t.length := by omega
   have hc := cmp_less (t.getD ((i + j) / 2) z38) h
   by_cases c : cmpH (t.getD ((i + j) / 2) z38) h < 0
   ·have hm : (i + j) / 2 < p := by
     rcases Nat.lt_or_ge ((i + j) / 2) p with q | q
     ·exact q
     ·rw [decide_eq_true c, hge _ q hh] at hc; cases hc
    refine Ev.step (fun k => by rw [slices_BinarySearchFunc_impl_Hold_impl_Hold_impl_Hold_at_impl_compareHolds.l0]) ?_
    simp only [w2.out]
    refine Ev.pos (by omega) (Ev.pos (by omega) (Ev.pos (by omega) (Ev.bind (impl_cmp (t.getD ((i + j) / 2) z38) h) (Ev.pos c ?_))))
    simp only [wrap_suc ((i + j) / 2) (by omega)]
    exact ih ((i + j) / 2 + 1) j (by omega) (by omega) h3 h4
   ·have hm : p ≤ (i + j) / 2 := by
     rcases Nat.lt_or_ge ((i + j) / 2) p with q | q
     ·rw [decide_eq_false c, hlt _ q] at hc; cases hc
     ·exact q
    refine Ev.step (fun k => by rw [slices_BinarySearchFunc_impl_Hold_impl_Hold_impl_Hold_at_impl_compareHolds.l0]) ?_
    simp only [w2.out]
    refine Ev.pos (by omega) (Ev.pos (by omega) (Ev.pos (by omega) (Ev.bind (impl_cmp (t.getD ((i + j) / 2) z38) h) (Ev.neg c ?_))))
    exact ih i ((i + j) / 2) (by omega) h2 hm (by omega)
  ·have := ih i j (by omega) h2 h3 h4
   exact this
def putL (t : List S38) (p : Nat) (h g : S38) : List S38 := t.take p ++ g :: (if p < t.length ∧ sameH (t.getD p z38) h then t.drop (p + 1) else t.drop p)
theorem take_suc (t : List S38) (i : Nat) (hi : i < t.length) : t.take i ++ [t.getD i z38] = t.take (i + 1) := by
 rw [List.take_succ_eq_append_getElem hi, List.getD_eq_getElem?_getD, List.getElem?_eq_getElem hi]; rfl
theorem drop_at (t : List S38) (i : Nat) (hi : i < t.length) : t.drop i = t.getD i z38 :: t.drop (i + 1) := by
 rw [List.drop_eq_getElem_cons hi, List.getD_eq_getElem?_getD, List.getElem?_eq_getElem hi]; rfl
theorem not_same_of_less {a b : S38} (q : lessB a b = true) : ¬ sameH a b := fun e => by
 have := (less_iff _ _).1 q
 obtain ⟨e1, e2⟩ := e
 omega
variable (m : Int)
include hs in
theorem put_rest (hns : ∀ i, p < i → i < t.length → ¬ sameH (t.getD i z38) h) : ∀ (d i : Nat) (o : List S38), i + d = t.length → p < i → o.length ≤ i + 1 → Ev (fun k => spec_l07Put.l0 k t o true (i : Int) h.f0 h.f1 m) (o ++ t.drop i)
 | 0, i, o, hi, hpi, ho => by
  rw [List.drop_of_length_le (by omega), List.append_nil]
  exact Ev.step (fun k => by rw [spec_l07Put.l0]) (Ev.neg (by omega) (Ev.pos rfl (Ev.now _)))
 | d + 1, i, o, hi, hpi, ho => by
  have ih := put_rest hns d (i + 1) (o ++ [t.getD i z38]) (by omega) (by omega) (by simp; omega)
  rw [List.append_assoc, show [t.getD i z38] ++ t.drop (i + 1) = t.drop i from (drop_at t i (by omega)).symm] at ih
  refine Ev.step (fun k => by rw [spec_l07Put.l0]) (Ev.pos (by omega) (Ev.pos rfl ?_))
  refine Ev.step (fun k => by rw [spec_l07Put.j1]) (Ev.neg (by decide) (Ev.pos (by omega) (Ev.pos (by omega) ?_)))
  simp only [wrap_suc i (by omega)]
  by_cases c : (t.getD i z38).f0 = h.f0
  ·exact Ev.pos c (Ev.neg (fun e => hns i hpi (by omega) ⟨c, e⟩) (Ev.pos (by omega) ih))
  ·exact Ev.neg c (Ev.pos (by omega) ih)
include hs hp hlt hge in
theorem put_spec (hns : ∀ i, p < i → i < t.length → ¬ sameH (t.getD i z38) h) : ∀ (d i : Nat), i + d = p → Ev (fun k => spec_l07Put.l0 k t (t.take i) false (i : Int) h.f0 h.f1 m) (putL t p h ⟨h.f0, h.f1, m⟩)
 | 0, i, hi => by
  obtain rfl : i = p := by omega
  have hl : (t.take i).length ≤ i := List.length_take_le _ _
  by_cases g : i < t.length
  ·refine Ev.step (fun k => by rw [spec_l07Put.l0]) (Ev.pos (by omega) (Ev.neg (by decide) (Ev.pos (by omega) ?_)))
   refine Ev.use (x := false) (by
    have := spec_less (t.getD i z38) ⟨h.f0, h.f1, m⟩
    rw [show lessB (t.getD i z38) ⟨h.f0, h.f1, m⟩ = lessB (t.getD i z38) h from rfl, hge i (Nat.le_refl _) g] at this
    exact this) ?_
   refine Ev.step (fun k => by rw [spec_l07Put.j1]) (Ev.pos (by decide) (Ev.pos (by omega) ?_))
   simp only [Option.bind_some, wrap_suc i (by omega)]
   refine Ev.pos (by omega) (Ev.pos (by omega) ?_)
   unfold putL
   by_cases c : (t.getD i z38).f0 = h.f0
   ·refine Ev.pos c ?_
    by_cases e : (t.getD i z38).f1 = h.f1
    ·refine Ev.pos e ?_
     rw [if_pos ⟨g, c, e⟩]
     have := put_rest hs h m hns (t.length - (i + 1)) (i + 1) (t.take i ++ [⟨h.f0, h.f1, m⟩]) (by omega) (by omega) (by simp; omega)
     rw [List.append_assoc] at this
     exact this
    ·refine Ev.neg e (Ev.pos (by simp; omega) ?_)
     rw [if_neg (fun q => e q.2.2), drop_at t i g]
     have := put_rest hs h m hns (t.length - (i + 1)) (i + 1) (t.take i ++ [⟨h.f0, h.f1, m⟩] ++ [t.getD i z38]) (by omega) (by omega) (by simp; omega)
     have e3 : (t.take i ++ [(⟨h.f0, h.f1, m⟩ : S38)] ++ [t.getD i z38]) ++ t.drop (i + 1) = t.take i ++ (⟨h.f0, h.f1, m⟩ : S38) :: t.getD i z38 :: t.drop (i + 1) := by simp only [List.append_assoc, List.cons_append, List.nil_append]
     rw [← e3]
     exact this
   ·refine Ev.neg c (Ev.pos (by simp; omega) ?_)
    rw [if_neg (fun q => c q.2.1), drop_at t i g]
    have := put_rest hs h m hns (t.length - (i + 1)) (i + 1) (t.take i ++ [⟨h.f0, h.f1, m⟩] ++ [t.getD i z38]) (by omega) (by omega) (by simp; omega)
    have e3 : (t.take i ++ [(⟨h.f0, h.f1, m⟩ : S38)] ++ [t.getD i z38]) ++ t.drop (i + 1) = t.take i ++ (⟨h.f0, h.f1, m⟩ : S38) :: t.getD i z38 :: t.drop (i + 1) := by simp only [List.append_assoc, List.cons_append, List.nil_append]
    rw [← e3]
    exact this
  ·refine Ev.step (fun k => by rw [spec_l07Put.l0]) (Ev.neg (by omega) (Ev.neg (by decide) (Ev.pos (by omega) ?_)))
   unfold putL
   rw [if_neg (fun q => g q.1), List.drop_of_length_le (by omega)]
   exact Ev.now _
 | d + 1, i, hi => by
  have hl : (t.take i).length ≤ i := List.length_take_le _ _
  have ih := put_spec hns d (i + 1) (by omega)
  rw [← take_suc t i (by omega)] at ih
  have hq := not_same_of_less (hlt i (by omega))
  refine Ev.step (fun k => by rw [spec_l07Put.l0]) (Ev.pos (by omega) (Ev.neg (by decide) (Ev.pos (by omega) ?_)))
  refine Ev.use (x := true) (by
   have := spec_less (t.getD i z38) ⟨h.f0, h.f1, m⟩
   rw [show lessB (t.getD i z38) ⟨h.f0, h.f1, m⟩ = lessB (t.getD i z38) h from rfl, hlt i (by omega)] at this
   exact this) ?_
  refine Ev.step (fun k => by rw [spec_l07Put.j1]) (Ev.neg (by decide) (Ev.pos (by omega) (Ev.pos (by omega) ?_)))
  simp only [wrap_suc i (by omega)]
  by_cases c : (t.getD i z38).f0 = h.f0
  ·exact Ev.pos c (Ev.neg (fun e => hq ⟨c, e⟩) (Ev.pos (by omega) ih))
  ·exact Ev.neg c (Ev.pos (by omega) ih)
end
end Go.Proofs.Ytocelbmpnjnnbaa.Pure
namespace Go.Proofs.Ytocelbmpnjnnbaa.Pure
set_option linter.unusedVariables false
set_option linter.unusedSimpArgs false
open Go.RowKit Go.Proofs.Ytocelbmpnjnnbaa.XA Go.Proofs.Ytocelbmpnjnnbaa.Pk Go.Proofs.YtocelbmpnjnnbaaW.PrintWords Go.Proofs.YtocelbmpnjnnbaaW.PrintLast Go.Proofs.YtocelbmpnjnnbaaW.PrintMore
def holdsN (l : List S64) (t : List S38) : Prop := ∀ h ∈ t, 1 ≤ h.f0 ∧ h.f0 ≤ 999 ∧ 1 ≤ h.f2 ∧ h.f2 ≤ 5 ∧ h.f1 ∈ ids l
theorem holdB_iff {l : List S64} {h : S38} (g : holdB l h = true) : 1 ≤ h.f0 ∧ h.f0 ≤ 999 ∧ 1 ≤ h.f2 ∧ h.f2 ≤ 5 ∧ h.f1 ∈ ids l := by
 unfold holdB at g
 simp only [Bool.and_eq_true, decide_eq_true_eq] at g
 exact ⟨g.1.1, g.1.2, g.2.1.1, g.2.1.2, g.2.2⟩
def lockC (root next : Int) (l : List S64) (t : List S38) (s node : Int) : Int :=
 if 4096 < t.length then 2 else if holdsOK root next l t = true then (if 1 ≤ s ∧ s ≤ 999 then (if node ∈ ids l then 0 else 5) else 4) else 1
theorem lock_zero {root next : Int} {l : List S64} {t : List S38} {s node : Int} (h : lockC root next l t s node = 0) : ¬ 4096 < t.length ∧ Doc1 root next l ∧ holdsN l t ∧ t.length ≤ 30 ∧ (1 ≤ s ∧ s ≤ 999) ∧ node ∈ ids l := by
 unfold lockC at h
 by_cases c1 : 4096 < t.length
 ·rw [if_pos c1] at h; omega
 ·rw [if_neg c1] at h
  by_cases c2 : holdsOK root next l t = true
  ·rw [if_pos c2] at h
   by_cases c3 : 1 ≤ s ∧ s ≤ 999
   ·rw [if_pos c3] at h
    by_cases c4 : node ∈ ids l
    ·have c2' := c2
     unfold holdsOK holdsB at c2'
     simp only [Bool.and_eq_true, decide_eq_true_eq] at c2'
     refine ⟨c1, doc1_of c2'.1, ?_, c2'.2.1, c3, c4⟩
     intro x hx
     obtain ⟨j, hj, e⟩ := List.getElem_of_mem hx
     have := (allN_iff _ _).1 c2'.2.2 j hj
     rw [Bool.and_eq_true] at this
     have g := holdB_iff this.1
     rw [List.getD_eq_getElem?_getD, List.getElem?_eq_getElem hj] at g
     rw [← e]
     exact g
    ·rw [if_neg c4] at h; omega
   ·rw [if_neg c3] at h; omega
  ·rw [if_neg c2] at h; omega
theorem holdLen {α β : Type} (f : α → β) {x : List α} (h : x.length ≤ 1048576) : (x.map f).length ≤ 1048576 := by rw [List.length_map]; exact h
end Go.Proofs.Ytocelbmpnjnnbaa.Pure
namespace Go.Proofs.Ytocelbmpnjnnbaa.Pure
set_option linter.unusedVariables false
set_option linter.unusedSimpArgs false
open Go.RowKit Go.Proofs.Ytocelbmpnjnnbaa.XA Go.Proofs.Ytocelbmpnjnnbaa.Pk Go.Proofs.YtocelbmpnjnnbaaW.PrintWords Go.Proofs.YtocelbmpnjnnbaaW.PrintLast Go.Proofs.YtocelbmpnjnnbaaW.PrintMore
theorem spec_lock {root next : Int} {l : List S64} (hl : docSm l) (t : List S38) (s node : Int) : Ev (fun k => spec_l07Ask.f k root next l t s node) (lockC root next l t s node) := by
 unfold lockC
 by_cases c1 : 4096 < t.length
 ·rw [if_pos c1]
  exact Ev.pos (by omega) (Ev.now _)
 ·rw [if_neg c1]
  refine Ev.neg (by omega) (Ev.bind (spec_holdsOK hl t) ?_)
  by_cases c2 : holdsOK root next l t = true
  ·rw [if_pos c2]
   refine Ev.pos c2 (Ev.use (tin_eq _ _ _) ?_)
   by_cases c3 : 1 ≤ s ∧ s ≤ 999
   ·rw [if_pos c3]
    refine Ev.pos (decide_eq_true c3) (Ev.bind (spec_at l root next node hl.1) ?_)
    by_cases c4 : node ∈ ids l
    ·rw [if_pos c4]
     exact Ev.neg (fun e => (at_neg l node).1 e c4) (Ev.now _)
    ·rw [if_neg c4]
     exact Ev.pos ((at_neg l node).2 c4) (Ev.now _)
   ·rw [if_neg c3]
    exact Ev.neg (ndec c3) (Ev.now _)
  ·rw [if_neg c2]
   exact Ev.neg c2 (Ev.now _)
theorem impl_lock {root next : Int} {l : List S64} (hl : docSm l) (hI : docI l) (hr : i64 root) (t : List S38) (ht : holdI t) (hs : t.length ≤ 1048576) (s node : Int) (hn : i64 node) : Ev (fun k => impl_locksCode.f k root next l t s node) (lockC root next l t s node) := by
 unfold lockC
 refine Ev.use (x := decide ((t.length : Int) > 4096)) rfl ?_
 by_cases c1 : 4096 < t.length
 ·rw [if_pos c1]
  exact Ev.pos (decide_eq_true (by omega)) (Ev.now _)
 ·rw [if_neg c1]
  refine Ev.neg (ndec (by omega)) (Ev.bind (impl_holdsOK hl hI hr t ht hs) ?_)
  by_cases c2 : holdsOK root next l t = true
  ·rw [if_pos c2]
   refine Ev.pos c2 (Ev.use (x := decide (1 ≤ s ∧ s ≤ 999)) (by simp only [impl_isSession.f, twithin_eq, Option.bind_some]) ?_)
   by_cases c3 : 1 ≤ s ∧ s ≤ 999
   ·rw [if_pos c3]
    have hd : docB root next l = true := by
     unfold holdsOK at c2
     rw [Bool.and_eq_true] at c2
     exact c2.1
    have D := doc1_of hd
    refine Ev.pos (decide_eq_true c3) (Ev.bind (impl_has hl D.loc root next node hn) ?_)
    by_cases c4 : node ∈ ids l
    ·rw [if_pos c4]
     exact Ev.pos (decide_eq_true c4) (Ev.now _)
    ·rw [if_neg c4]
     exact Ev.neg (ndec c4) (Ev.now _)
   ·rw [if_neg c3]
    exact Ev.neg (ndec c3) (Ev.now _)
  ·rw [if_neg c2]
   exact Ev.neg c2 (Ev.now _)
end Go.Proofs.Ytocelbmpnjnnbaa.Pure
namespace Go.Proofs.Ytocelbmpnjnnbaa.Pure
set_option linter.unusedVariables false
set_option linter.unusedSimpArgs false
open Go.RowKit Go.Proofs.Ytocelbmpnjnnbaa.XA Go.Proofs.Ytocelbmpnjnnbaa.Pk Go.Proofs.YtocelbmpnjnnbaaW.PrintWords Go.Proofs.YtocelbmpnjnnbaaW.PrintLast Go.Proofs.YtocelbmpnjnnbaaW.PrintMore
def holdC (root next : Int) (l : List S64) (t : List S38) (h : S38) : Int :=
 if lockC root next l t h.f0 h.f1 = 0 then (if 1 ≤ h.f2 ∧ h.f2 ≤ 5 then 0 else 19) else lockC root next l t h.f0 h.f1
theorem impl_holdC {root next : Int} {l : List S64} (hl : docSm l) (hI : docI l) (hr : i64 root) (t : List S38) (ht : holdI t) (hs : t.length ≤ 1048576) (h : S38) (hn : i64 h.f1) : Ev (fun k => impl_holdCode.f k root next l t h.f0 h.f1 h.f2) (holdC root next l t h) := by
 refine Ev.bind (impl_lock hl hI hr t ht hs h.f0 h.f1 hn) ?_
 by_cases c : lockC root next l t h.f0 h.f1 = 0
 ·rw [show holdC root next l t h = _ from if_pos c]
  refine Ev.pos c (Ev.use (x := decide (1 ≤ h.f2 ∧ h.f2 ≤ 5)) (by simp only [impl_isMode.f, twithin_eq, Option.bind_some]) ?_)
  by_cases d : 1 ≤ h.f2 ∧ h.f2 ≤ 5
  ·rw [if_pos d]; exact Ev.pos (decide_eq_true d) (Ev.now _)
  ·rw [if_neg d]; exact Ev.neg (ndec d) (Ev.now _)
 ·rw [show holdC root next l t h = _ from if_neg c]
  exact Ev.neg c (Ev.now _)
end Go.Proofs.Ytocelbmpnjnnbaa.Pure
namespace Go.Proofs.Ytocelbmpnjnnbaa.Pure
set_option linter.unusedVariables false
set_option linter.unusedSimpArgs false
open Go.RowKit Go.Proofs.Ytocelbmpnjnnbaa.XA Go.Proofs.Ytocelbmpnjnnbaa.Pk Go.Proofs.YtocelbmpnjnnbaaW.PrintWords
theorem lock_holds0 {root next : Int} {l : List S64} {t : List S38} {s node : Int} (h : lockC root next l t s node = 0) : holdsB l t = true := by
 unfold lockC at h
 by_cases c1 : 4096 < t.length
 ·rw [if_pos c1] at h; omega
 ·rw [if_neg c1] at h
  by_cases c2 : holdsOK root next l t = true
  ·unfold holdsOK at c2
   rw [Bool.and_eq_true] at c2
   exact c2.2
  ·rw [if_neg c2] at h; omega
theorem own_none (h : S38) : ∀ (t : List S38), (∀ i, i < t.length → ¬ sameH (t.getD i z38) h) → ownF h.f0 h.f1 t = 0
 | [], _ => rfl
 | x :: t, q => by
  have ih := own_none h t (fun i hi => by have := q (i + 1) (by simpa using hi); simpa using this)
  have q0 : ¬ sameH x h := by have := q 0 (by simp); simpa using this
  show (if x.f0 = h.f0 then (if x.f1 = h.f1 then x.f2 else ownF h.f0 h.f1 t) else ownF h.f0 h.f1 t) = 0
  rw [ih]
  by_cases c : x.f0 = h.f0
  ·rw [if_pos c, if_neg (fun e => q0 ⟨c, e⟩)]
  ·rw [if_neg c]
theorem own_there (h : S38) : ∀ (t : List S38) (p : Nat), p < t.length → (∀ i, i < p → ¬ sameH (t.getD i z38) h) → sameH (t.getD p z38) h → ownF h.f0 h.f1 t = (t.getD p z38).f2
 | [], p, hp, _, _ => by simp at hp
 | x :: t, 0, _, _, e => by
  show (if x.f0 = h.f0 then (if x.f1 = h.f1 then x.f2 else ownF h.f0 h.f1 t) else ownF h.f0 h.f1 t) = x.f2
  have e' : sameH x h := by simpa using e
  rw [if_pos e'.1, if_pos e'.2]
 | x :: t, p + 1, hp, q, e => by
  have ih := own_there h t p (by simpa using hp) (fun i hi => by have := q (i + 1) (by omega); simpa using this) (by simpa using e)
  have q0 : ¬ sameH x h := by have := q 0 (by omega); simpa using this
  show (if x.f0 = h.f0 then (if x.f1 = h.f1 then x.f2 else ownF h.f0 h.f1 t) else ownF h.f0 h.f1 t) = ((x :: t).getD (p + 1) z38).f2
  rw [ih, show (x :: t).getD (p + 1) z38 = t.getD p z38 by simp]
  by_cases c : x.f0 = h.f0
  ·rw [if_pos c, if_neg (fun e => q0 ⟨c, e⟩)]
  ·rw [if_neg c]
theorem join_comm (a b : Int) : joinF a b = joinF b a := by
 unfold joinF
 split <;> split <;> (try split) <;> (try split) <;> (try split) <;> omega
theorem put_len (t : List S38) (p : Nat) (h g : S38) : (putL t p h g).length ≤ t.length + 1 := by
 unfold putL
 split <;> simp <;> omega
theorem put_both {t : List S38} (hs : t.length ≤ 30) (hR : RiseH t) (h : S38) (hm : 0 ≤ h.f2) :
  ∃ r : List S38, r.length ≤ 31 ∧ Ev (fun k => spec_l07Put.f k t h.f0 h.f1 h.f2) r ∧ Ev (fun k => impl_put.f k t h.f0 h.f1 h.f2) r := by
 obtain ⟨p, hp, hlt, hge⟩ := place_of hR h t.length (Nat.le_refl _)
 have hns : ∀ i, p < i → i < t.length → ¬ sameH (t.getD i z38) h := by
  intro i h1 h2 e
  have g1 := (less_iff _ _).1 (hR p i h1 h2)
  have g2 : ¬ ((t.getD p z38).f0 < h.f0 ∨ (t.getD p z38).f0 = h.f0 ∧ (t.getD p z38).f1 < h.f1) := fun q => (Bool.eq_false_iff.1 (hge p (Nat.le_refl _) (by omega))) ((less_iff _ _).2 q)
  obtain ⟨e1, e2⟩ := e
  omega
 have hnl : ∀ i, i < p → ¬ sameH (t.getD i z38) h := fun i hi => not_same_of_less (hlt i hi)
 refine ⟨putL t p h ⟨h.f0, h.f1, joinF h.f2 (ownF h.f0 h.f1 t)⟩, Nat.le_trans (put_len _ _ _ _) (by omega), ?_, ?_⟩
 ·refine Ev.bind (spec_own7 t (by omega) h.f0 h.f1) (Ev.bind (spec_join _ _) ?_)
  have := put_spec (by omega) h hp hlt hge (joinF h.f2 (ownF h.f0 h.f1 t)) hns p 0 (by omega)
  rw [List.take_zero] at this
  exact this
 ·refine Ev.bind (bs_put (by omega) h hp hlt hge t.length 0 t.length (by omega) (by omega) hp (Nat.le_refl _)) ?_
  refine Ev.use (x := t) (by simp only [slices_Clone_Hold.f]; rw [if_pos (by omega)]) ?_
  by_cases c : p < t.length ∧ sameH (t.getD p z38) h
  ·refine Ev.pos (decide_eq_true c) (Ev.pos (by omega) (Ev.pos (by omega) (Ev.use (impl_join _ _) ?_)))
   have e1 : ownF h.f0 h.f1 t = (t.getD p z38).f2 := own_there h t p c.1 hnl c.2
   rw [e1, join_comm h.f2]
   have e2 : t.set p (⟨(t.getD p z38).f0, (t.getD p z38).f1, joinF ((t.getD p z38).f2) h.f2⟩ : S38) = putL t p h ⟨h.f0, h.f1, joinF ((t.getD p z38).f2) h.f2⟩ := by
    unfold putL
    rw [if_pos c, List.set_eq_take_append_cons_drop, if_pos c.1, c.2.1, c.2.2]
   rw [← e2]
   exact Ev.now _
  ·refine Ev.neg (fun e => c (of_decide_eq_true e)) (Ev.use (x := t.take p ++ [h] ++ t.drop p) ?_ ?_)
   ·unfold slices_Insert_Hold.f
    rw [if_pos ⟨by omega, by omega, rfl, by omega⟩]
    rfl
   ·have e1 : ownF h.f0 h.f1 t = 0 := own_none h t (fun i hi e => by
     rcases Nat.lt_trichotomy i p with q | q | q
     ·exact hnl i q e
     ·subst q; exact c ⟨hi, e⟩
     ·exact hns i q hi e)
    rw [e1, joinF_zero hm]
    have e2 : t.take p ++ [h] ++ t.drop p = putL t p h h := by
     unfold putL
     rw [if_neg c, List.append_assoc]
     rfl
    rw [show (⟨h.f0, h.f1, h.f2⟩ : S38) = h from rfl, ← e2]
    exact Ev.now _
theorem putHold_both {root next : Int} {l : List S64} (hl : docSm l) (hI : docI l) (hr : i64 root) (t : List S38) (ht : holdI t) (hs : t.length ≤ 1048576) (h : S38) (hn : i64 h.f1) :
  ∃ (r0 : List S38) (r1 : Int), r0.length ≤ 1048576 ∧ Ev (fun k => spec_PutHold.f k root next l t h.f0 h.f1 h.f2) (r0, r1) ∧ Ev (fun k => impl_PutHold.f k root next l t h.f0 h.f1 h.f2) (r0, r1) := by
 have a1 := spec_lock (root := root) (next := next) hl t h.f0 h.f1
 have a2 := impl_holdC (root := root) (next := next) hl hI hr t ht hs h hn
 unfold holdC at a2
 have hm : spec_l07Mode.f h.f2 = some (decide (1 ≤ h.f2 ∧ h.f2 ≤ 5)) := by simp only [spec_l07Mode.f, tin_eq, Option.bind_some]
 by_cases c : lockC root next l t h.f0 h.f1 = 0
 ·rw [if_pos c] at a2
  obtain ⟨h1, D, hN, h30, _, hid⟩ := lock_zero c
  by_cases d : 1 ≤ h.f2 ∧ h.f2 ≤ 5
  ·rw [if_pos d] at a2
   obtain ⟨r, hr31, b1, b2⟩ := put_both h30 (riseH_of (lock_holds0 c)) h (by omega)
   by_cases e : 30 < r.length
   ·exact ⟨[], 7, Nat.zero_le _, Ev.neg (by omega) (Ev.bind a1 (Ev.pos c (Ev.use hm (Ev.pos (decide_eq_true d) (Ev.bind b1 (Ev.pos (by omega) (Ev.now _))))))), Ev.bind a2 (Ev.pos rfl (Ev.bind b2 (Ev.pos (by omega) (Ev.now _))))⟩
   ·exact ⟨r, 0, by omega, Ev.neg (by omega) (Ev.bind a1 (Ev.pos c (Ev.use hm (Ev.pos (decide_eq_true d) (Ev.bind b1 (Ev.neg (by omega) (Ev.now _))))))), Ev.bind a2 (Ev.pos rfl (Ev.bind b2 (Ev.neg (by omega) (Ev.now _))))⟩
  ·rw [if_neg d] at a2
   exact ⟨[], 19, Nat.zero_le _, Ev.neg (by omega) (Ev.bind a1 (Ev.pos c (Ev.use hm (Ev.neg (ndec d) (Ev.now _))))), Ev.bind a2 (Ev.neg (by decide) (Ev.now _))⟩
 ·rw [if_neg c] at a2
  refine ⟨[], lockC root next l t h.f0 h.f1, Nat.zero_le _, ?_, Ev.bind a2 (Ev.neg c (Ev.now _))⟩
  by_cases d : 4096 < t.length
  ·have e : lockC root next l t h.f0 h.f1 = 2 := if_pos d
   rw [e]
   exact Ev.pos (by omega) (Ev.now _)
  ·exact Ev.neg (by omega) (Ev.bind a1 (Ev.neg c (Ev.now _)))
theorem FnExactPutHold : laws_FnExactPutHold.Pure := core_FnExactPutHold (fun x0 x1 x2 o0 o1 o2 s0 s1 s2 => putHold_both (docSm_of _ s0) (docI_of _ o0) (i64_of o0.1) (x1.map cv27) (holdI_of x1 o1) (holdLen _ s1.1) (cv27 x2) (i64_of o2.2.1))
end Go.Proofs.Ytocelbmpnjnnbaa.Pure
