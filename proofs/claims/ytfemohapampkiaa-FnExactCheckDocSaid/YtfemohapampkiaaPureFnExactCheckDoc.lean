/- The program's CheckDoc answers what the reference's answers, for each schema and document: the pure statement of FnExactCheckDoc. Conditions: none. -/
import Derived.Test.YtfemohapampkiaaYCheckDocK
namespace Go.Proofs.Ytfemohapampkiaa.Pure
set_option linter.unusedVariables false
set_option linter.unusedSimpArgs false
open Go.RowKit Go.Proofs.Ytfemohapampkiaa.XA Go.Proofs.Ytfemohapampkiaa.Pk Go.Proofs.YtfemohapampkiaaW.PrintWords Go.Proofs.YtfemohapampkiaaW.PrintLast Go.Proofs.YtfemohapampkiaaW.PrintMore
theorem list_loop {α σ ρ : Type} (l : List α) (z : α) (I : Nat → σ → Prop) (G : List α → σ → ρ) (F : Nat → Int → σ → Option ρ)
  (hs : ∀ (i : Nat) (s : σ), i < l.length → I i s → (∀ s', I (i + 1) s' → Ev (fun k => F k ((i : Int) + 1) s') (G (l.drop (i + 1)) s')) → Ev (fun k => F k (i : Int) s) (G (l.getD i z :: l.drop (i + 1)) s))
  (he : ∀ s, I l.length s → Ev (fun k => F k (l.length : Int) s) (G [] s)) : ∀ s, I 0 s → Ev (fun k => F k 0 s) (G l s) := by
 have key : ∀ (m i : Nat) (s : σ), i + m = l.length → I i s → Ev (fun k => F k (i : Int) s) (G (l.drop i) s) := by
  intro m
  induction m with
  | zero =>
   intro i s hi h
   have e : i = l.length := by omega
   subst e
   rw [List.drop_length]
   exact he s h
  | succ m ih =>
   intro i s hi h
   have e : l.drop i = l.getD i z :: l.drop (i + 1) := by
    rw [List.getD_eq_getElem?_getD, List.getElem?_eq_getElem (by omega), Option.getD_some]
    exact List.drop_eq_getElem_cons (by omega)
   rw [e]
   exact hs i s (by omega) h (fun s' h' => ih (i + 1) s' (by omega) h')
 intro s h
 exact key l.length 0 s (by omega) h
theorem list_loop0 {α ρ : Type} (l : List α) (z : α) (G : List α → ρ) (F : Nat → Int → Option ρ)
  (hs : ∀ i : Nat, i < l.length → Ev (fun k => F k ((i : Int) + 1)) (G (l.drop (i + 1))) → Ev (fun k => F k (i : Int)) (G (l.getD i z :: l.drop (i + 1))))
  (he : Ev (fun k => F k (l.length : Int)) (G [])) : Ev (fun k => F k 0) (G l) :=
 list_loop (σ := Unit) l z (fun _ _ => True) (fun l _ => G l) (fun k i _ => F k i) (fun i _ hi _ h => hs i hi (h () trivial)) (fun _ _ => he) () trivial
theorem idx_loop {σ ρ : Type} (n : Nat) (I : Nat → σ → Prop) (G : Nat → Nat → σ → ρ) (F : Nat → Int → σ → Option ρ)
  (hs : ∀ (m i : Nat) (s : σ), i + (m + 1) = n → I i s → (∀ s', I (i + 1) s' → Ev (fun k => F k ((i : Int) + 1) s') (G m (i + 1) s')) → Ev (fun k => F k (i : Int) s) (G (m + 1) i s))
  (he : ∀ s, I n s → Ev (fun k => F k (n : Int) s) (G 0 n s)) : ∀ s, I 0 s → Ev (fun k => F k 0 s) (G n 0 s) := by
 have key : ∀ (m i : Nat) (s : σ), i + m = n → I i s → Ev (fun k => F k (i : Int) s) (G m i s) := by
  intro m
  induction m with
  | zero =>
   intro i s hi h
   have e : i = n := by omega
   subst e
   exact he s h
  | succ m ih =>
   intro i s hi h
   exact hs m i s hi h (fun s' h' => ih (i + 1) s' (by omega) h')
 intro s h
 exact key n 0 s (by omega) h
theorem wrap_suc (i : Nat) (h : i < 4611686018427387904) : wrap64 ((i : Int) + 1) = (i : Int) + 1 := wrap_id _ (by omega) (by omega)
theorem Ev.use {α β : Type} {a : Option α} {x : α} {f : Nat → α → Option β} {r : β} (h : a = some x) (k : Ev (fun n => f n x) r) : Ev (fun n => a.bind (f n)) r := by
 subst h
 exact k
theorem tin_eq (x lo hi : Int) : spec_l01In.f x lo hi = some (decide (lo ≤ x ∧ x ≤ hi)) := by
 unfold spec_l01In.f
 by_cases h : x ≥ lo
 ·rw [if_pos h]; exact congrArg some (decide_eq_decide.2 ⟨fun g => ⟨h, g⟩, fun g => g.2⟩)
 ·rw [if_neg h]; exact congrArg some (decide_eq_false fun g => h g.1).symm
theorem twithin_eq (x lo hi : Int) : impl_within.f x lo hi = some (decide (lo ≤ x ∧ x ≤ hi)) := tin_eq x lo hi
def ids (l : List S88) : List Int := l.map (fun x => x.f0)
def atF (l : List S88) (id : Int) : Int := findN l.length (fun i => decide ((l.getD i z88).f0 = id))
def nd (l : List S88) (id : Int) : S88 := rd_T88 l (atF l id)
def kd (l : List S88) (id : Int) : List Int := (nd l id).f4
def par : List S88 → Int → Int
 | [], _ => 0
 | x :: l, id => if id ∈ x.f4 then x.f0 else par l id
theorem findN_spec (n : Nat) (p : Nat → Bool) : (findN n p = -1 ∧ ∀ i, i < n → p i = false) ∨ ∃ i, i < n ∧ findN n p = (i : Int) ∧ p i = true ∧ ∀ j, j < i → p j = false := by
 induction n generalizing p with
 | zero => exact .inl ⟨rfl, fun i hi => by omega⟩
 | succ n ih =>
  rw [findN]
  cases h0 : p 0
  ·rw [if_neg (by decide)]
   rcases ih (fun i => p (i + 1)) with ⟨h1, h2⟩ | ⟨i, hi, h1, h2, h3⟩
   ·rw [if_pos (by omega)]
    refine .inl ⟨rfl, fun i hi => ?_⟩
    cases i with
    | zero => exact h0
    | succ i => exact h2 i (by omega)
   ·rw [if_neg (by omega)]
    refine .inr ⟨i + 1, by omega, by omega, h2, fun j hj => ?_⟩
    cases j with
    | zero => exact h0
    | succ j => exact h3 j (by omega)
  ·rw [if_pos rfl]
   exact .inr ⟨0, by omega, rfl, h0, fun j hj => by omega⟩
theorem rd_nat (l : List S88) (i : Nat) : rd_T88 l (i : Int) = l.getD i z88 := rfl
theorem at_spec (l : List S88) (id : Int) : (atF l id = -1 ∧ id ∉ ids l) ∨ ∃ i, i < l.length ∧ atF l id = (i : Int) ∧ (nd l id).f0 = id ∧ nd l id ∈ l ∧ id ∈ ids l ∧ nd l id = l.getD i z88 := by
 rcases findN_spec l.length (fun i => decide ((l.getD i z88).f0 = id)) with ⟨h1, h2⟩ | ⟨i, hi, h1, h2, h3⟩
 ·refine .inl ⟨h1, fun hm => ?_⟩
  obtain ⟨x, hx, e⟩ := List.mem_map.1 hm
  obtain ⟨i, hi, rfl⟩ := List.getElem_of_mem hx
  have := of_decide_eq_false (h2 i hi)
  rw [List.getD_eq_getElem?_getD, List.getElem?_eq_getElem hi] at this
  exact this e
 ·have e : atF l id = (i : Int) := h1
  have e2 : nd l id = l.getD i z88 := by unfold nd; rw [e]; rfl
  have e3 : (l.getD i z88).f0 = id := of_decide_eq_true h2
  have e4 : l.getD i z88 ∈ l := getD_mem l _ i hi
  exact .inr ⟨i, hi, e, by rw [e2]; exact e3, by rw [e2]; exact e4, List.mem_map.2 ⟨_, e4, e3⟩, e2⟩
theorem at_neg (l : List S88) (id : Int) : atF l id < 0 ↔ id ∉ ids l := by
 rcases at_spec l id with ⟨h1, h2⟩ | ⟨i, hi, h1, _, _, h2, _⟩
 ·exact ⟨fun _ => h2, fun _ => by omega⟩
 ·exact ⟨fun h => by omega, fun h => absurd h2 h⟩
theorem spec_at (l : List S88) (r n id : Int) (h : l.length ≤ 1048576) : Ev (fun k => spec_l02At.f k r n l id) (atF l id) := by
 refine find_loop l.length _ (fun k i => spec_l02At.l0 k id i r n l) ?_ ?_ ?_
 ·intro i q hi hp hq
  refine Ev.step (fun k => by rw [spec_l02At.l0]) ?_
  refine Ev.pos (by omega) (Ev.pos (by omega) (Ev.neg (of_decide_eq_false hp) ?_))
  simp only [wrap_suc i (by omega)]
  exact hq
 ·intro i hi hp
  refine Ev.step (fun k => by rw [spec_l02At.l0]) ?_
  exact Ev.pos (by omega) (Ev.pos (by omega) (Ev.pos (of_decide_eq_true hp) (Ev.now _)))
 ·refine Ev.step (fun k => by rw [spec_l02At.l0]) ?_
  exact Ev.neg (by omega) (Ev.now _)
theorem ndec {p : Prop} [Decidable p] (h : ¬ p) : ¬ decide p = true := fun g => h (of_decide_eq_true g)
theorem spec_has (l : List Int) (v : Int) (h : l.length ≤ 4611686018427387903) : Ev (fun k => spec_l02Has.f k l v) (decide (v ∈ l)) := by
 refine list_loop0 l 0 (fun l => decide (v ∈ l)) (fun k i => spec_l02Has.l0 k l v i) ?_ ?_
 ·intro i hi hr
  refine Ev.step (fun k => by rw [spec_l02Has.l0]) ?_
  refine Ev.pos (by omega) (Ev.pos (by omega) ?_)
  by_cases e : rd l (i : Int) = v
  ·refine Ev.pos e ?_
   rw [decide_eq_true (by rw [List.mem_cons]; exact .inl e.symm)]
   exact Ev.now _
  ·refine Ev.neg e ?_
   simp only [wrap_suc i (by omega)]
   have : (v ∈ l.getD i 0 :: l.drop (i + 1)) ↔ v ∈ l.drop (i + 1) := by
    rw [List.mem_cons]
    exact ⟨fun g => g.resolve_left (fun g => e g.symm), .inr⟩
   rw [decide_eq_decide.2 this]
   exact hr
 ·refine Ev.step (fun k => by rw [spec_l02Has.l0]) ?_
  exact Ev.neg (by omega) (Ev.now _)
theorem spec_parent (l : List S88) (r n id : Int) (h : l.length ≤ 1048576) (hk : ∀ x ∈ l, x.f4.length ≤ 1048576) : Ev (fun k => spec_l02Parent.f k r n l id) (par l id) := by
 refine list_loop0 l z88 (fun l => par l id) (fun k i => spec_l02Parent.l0 k id i r n l) ?_ ?_
 ·intro i hi hr
  refine Ev.step (fun k => by rw [spec_l02Parent.l0]) ?_
  refine Ev.pos (by omega) (Ev.pos (by omega) ?_)
  refine Ev.bind (spec_has _ _ (Nat.le_trans (hk _ (getD_mem l _ i hi)) (by omega))) ?_
  show Ev (fun k => if decide (id ∈ (l.getD i z88).f4) = true then _ else _) (if id ∈ (l.getD i z88).f4 then (l.getD i z88).f0 else par (l.drop (i + 1)) id)
  by_cases e : id ∈ (l.getD i z88).f4
  ·rw [if_pos e]
   exact Ev.pos (decide_eq_true e) (Ev.now _)
  ·rw [if_neg e]
   refine Ev.neg (by simpa using e) ?_
   simp only [wrap_suc i (by omega)]
   exact hr
 ·refine Ev.step (fun k => by rw [spec_l02Parent.l0]) ?_
  exact Ev.neg (by omega) (Ev.now _)
def i64 (n : Int) : Prop := -9223372036854775808 ≤ n ∧ n ≤ 9223372036854775807
def docSm (l : List S88) : Prop := l.length ≤ 1048576 ∧ ∀ x ∈ l, x.f4.length ≤ 1048576
def docI (l : List S88) : Prop := ∀ x ∈ l, i64 x.f0 ∧ ∀ c ∈ x.f4, i64 c
def nodeB (next : Int) (x : S88) : Bool := decide (1 ≤ x.f0 ∧ x.f0 ≤ next - 1) && (decide (1 ≤ x.f1 ∧ x.f1 ≤ 8) && (decide (0 ≤ x.f2 ∧ x.f2 ≤ 99) && (decide (x.f3.size ≤ 20) && decide (x.f4.length ≤ 12))))
def ordB (l : List S88) (i : Nat) : Bool := decide (i = 0 ∨ (l.getD (i - 1) z88).f0 < (l.getD i z88).f0)
def kidsB (root : Int) (I : List Int) : List Int → List Int → Option (List Int)
 | [], s => some s
 | c :: cs, s => if c = root ∨ c ∈ s ∨ c ∉ I then none else kidsB root I cs (s ++ [c])
def finB (root : Int) (l : List S88) (s : List Int) : Bool := decide ((s.length : Int) = (l.length : Int) - 1 ∧ root ∈ ids l)
def nodesG (root next : Int) (l : List S88) : Nat → Nat → List Int → Bool
 | 0, _, s => finB root l s
 | m + 1, i, s => if nodeB next (l.getD i z88) = true ∧ ordB l i = true then (match kidsB root (ids l) (l.getD i z88).f4 s with | none => false | some s' => nodesG root next l m (i + 1) s') else false
theorem spec_node (x : S88) (next : Int) (hn : 2 ≤ next ∧ next ≤ 999999) : spec_l02Node.f x.f0 x.f1 x.f2 x.f3 x.f4 next = some (nodeB next x) := by
 have w1 : wrap64 (next - 1) = next - 1 := wrap_id _ (by omega) (by omega)
 simp only [spec_l02Node.f, spec_l02Kind.f, tin_eq, w1, Option.bind_some, nodeB]
 by_cases h1 : 1 ≤ x.f0 ∧ x.f0 ≤ next - 1
 ·by_cases h2 : 1 ≤ x.f1 ∧ x.f1 ≤ 8
  ·by_cases h3 : 0 ≤ x.f2 ∧ x.f2 ≤ 99
   ·by_cases h4 : x.f3.size ≤ 20
    ·have h4' : (x.f3.size : Int) ≤ 20 := by omega
     have h5 : (decide ((x.f4.length : Int) ≤ 12)) = decide (x.f4.length ≤ 12) := decide_eq_decide.2 (by omega)
     simp [h1, h2, h3, h4, h4', h5]
    ·have h4' : ¬ (x.f3.size : Int) ≤ 20 := by omega
     simp [h1, h2, h3, h4, h4']
   ·simp [h1, h2, h3]
  ·simp [h1, h2]
 ·simp [h1]
theorem spec_kids (l : List S88) (root n : Int) (i : Nat) (s : List Int) (x : S88) (hl : docSm l) (hi : i < l.length) (hx : x.f4.length ≤ 1048576) (hs : s.length ≤ 1048576 * i) (c : List Int → Bool)
  (hc : ∀ s', s'.length ≤ 1048576 * (i + 1) → Ev (fun k => spec_l02Nodes.l0 k s' ((i : Int) + 1) root n l) (c s')) :
  Ev (fun k => spec_l02Nodes.l1 k s i 0 root n l x.f0 x.f1 x.f2 x.f3 x.f4) (match kidsB root (ids l) x.f4 s with | none => false | some s' => c s') := by
 have hl' := hl.1
 refine list_loop x.f4 0 (fun j s' => s'.length ≤ 1048576 * i + j) (fun cs s' => match kidsB root (ids l) cs s' with | none => false | some s' => c s') (fun k j s' => spec_l02Nodes.l1 k s' i j root n l x.f0 x.f1 x.f2 x.f3 x.f4) ?_ ?_ s (by simpa using hs)
 ·intro j s' hj hs' hr
  refine Ev.step (fun k => by rw [spec_l02Nodes.l1]) ?_
  refine Ev.pos (by omega) (Ev.pos (by omega) ?_)
  show Ev (fun k => if x.f4.getD j 0 = root then _ else _) (match (if x.f4.getD j 0 = root ∨ x.f4.getD j 0 ∈ s' ∨ x.f4.getD j 0 ∉ ids l then none else kidsB root (ids l) (x.f4.drop (j + 1)) (s' ++ [x.f4.getD j 0])) with | none => false | some s' => c s')
  by_cases h1 : x.f4.getD j 0 = root
  ·rw [if_pos (.inl h1)]
   exact Ev.pos h1 (Ev.now _)
  refine Ev.neg h1 (Ev.bind (spec_has s' _ (by omega)) ?_)
  by_cases h2 : x.f4.getD j 0 ∈ s'
  ·rw [if_pos (.inr (.inl h2))]
   exact Ev.pos (decide_eq_true h2) (Ev.now _)
  refine Ev.neg (ndec h2) (Ev.bind (spec_at l root n _ hl') ?_)
  by_cases h3 : x.f4.getD j 0 ∈ ids l
  ·rw [if_neg (fun h => h.elim h1 (fun h => h.elim h2 (fun h => h h3)))]
   refine Ev.neg (fun h => (at_neg l _).1 h h3) (Ev.pos (by omega) ?_)
   simp only [wrap_suc j (by omega)]
   exact hr _ (by simp; omega)
  ·rw [if_pos (.inr (.inr h3))]
   exact Ev.pos ((at_neg l _).2 h3) (Ev.now _)
 ·intro s' hs'
  refine Ev.step (fun k => by rw [spec_l02Nodes.l1]) ?_
  refine Ev.neg (by omega) ?_
  simp only [wrap_suc i (by omega)]
  exact hc s' (by omega)
theorem spec_nodes (l : List S88) (root next : Int) (hn : 2 ≤ next ∧ next ≤ 999999) (hl : docSm l) (h0 : 1 ≤ l.length) : Ev (fun k => spec_l02Nodes.f k root next l) (nodesG root next l l.length 0 []) := by
 have hl' := hl.1
 refine idx_loop l.length (fun i s => s.length ≤ 1048576 * i) (fun m i s => nodesG root next l m i s) (fun k i s => spec_l02Nodes.l0 k s i root next l) ?_ ?_ [] (by simp)
 ·intro m i s hi hs hr
  refine Ev.step (fun k => by rw [spec_l02Nodes.l0]) ?_
  refine Ev.pos (by omega) (Ev.pos (by omega) (Ev.use (spec_node (l.getD i z88) next hn) ?_))
  show Ev _ (if nodeB next (l.getD i z88) = true ∧ ordB l i = true then (match kidsB root (ids l) (l.getD i z88).f4 s with | none => false | some s' => nodesG root next l m (i + 1) s') else false)
  have hk := spec_kids l root next i s (l.getD i z88) hl (by omega) (hl.2 _ (getD_mem l _ i (by omega))) hs (fun s' => nodesG root next l m (i + 1) s') hr
  by_cases h1 : nodeB next (l.getD i z88) = true
  ·refine Ev.pos h1 ?_
   by_cases h2 : i = 0
   ·rw [if_pos ⟨h1, decide_eq_true (.inl h2)⟩]
    refine Ev.neg (by omega) ?_
    refine Ev.step (fun k => by rw [spec_l02Nodes.j1]) ?_
    exact Ev.neg (by decide) hk
   ·have e : wrap64 ((i : Int) - 1) = ((i - 1 : Nat) : Int) := by rw [wrap_id _ (by omega) (by omega)]; omega
    simp only [e]
    refine Ev.pos (by omega) (Ev.pos (by omega) (Ev.pos (by omega) ?_))
    by_cases h3 : (l.getD (i - 1) z88).f0 < (l.getD i z88).f0
    ·rw [if_pos ⟨h1, decide_eq_true (.inr h3)⟩]
     refine Ev.step (fun k => by rw [spec_l02Nodes.j1]) ?_
     refine Ev.neg ?_ hk
     rw [rd_nat, rd_nat, decide_eq_true_eq]
     omega
    ·rw [if_neg (fun h => (of_decide_eq_true h.2).elim h2 h3)]
     refine Ev.step (fun k => by rw [spec_l02Nodes.j1]) ?_
     refine Ev.pos ?_ (Ev.now _)
     rw [rd_nat, rd_nat, decide_eq_true_eq]
     omega
  ·rw [if_neg (fun h => h1 h.1)]
   refine Ev.neg h1 ?_
   refine Ev.step (fun k => by rw [spec_l02Nodes.j1]) ?_
   exact Ev.pos rfl (Ev.now _)
 ·intro s hs
  refine Ev.step (fun k => by rw [spec_l02Nodes.l0]) ?_
  refine Ev.neg (by omega) ?_
  rw [wrap_id _ (by omega) (by omega)]
  show Ev _ (finB root l s)
  unfold finB
  by_cases h1 : (s.length : Int) = (l.length : Int) - 1
  ·refine Ev.pos h1 (Ev.bind (spec_at l root next root hl') ?_)
   have e : decide (atF l root ≥ 0) = decide ((s.length : Int) = (l.length : Int) - 1 ∧ root ∈ ids l) := by
    refine decide_eq_decide.2 ⟨fun h => ⟨h1, ?_⟩, fun h => ?_⟩
    ·apply Classical.byContradiction
     intro g
     have := (at_neg l root).2 g
     omega
    ·have := mt (at_neg l root).1 (fun g => g h.2)
     omega
   rw [e]
   exact Ev.now _
  ·refine Ev.neg h1 ?_
   rw [decide_eq_false (fun h => h1 h.1)]
   exact Ev.now _
def locG (next : Int) (l : List S88) : Nat → Nat → Bool
 | 0, _ => true
 | m + 1, i => (nodeB next (l.getD i z88) && ordB l i) && locG next l m (i + 1)
def kidsM (root : Int) (l : List S88) : Nat → Nat → List Int → Option (List Int)
 | 0, _, s => some s
 | m + 1, i, s => (kidsB root (ids l) (l.getD i z88).f4 s).bind (kidsM root l m (i + 1))
theorem nodesG_eq (root next : Int) (l : List S88) (m i : Nat) (s : List Int) : nodesG root next l m i s = (locG next l m i && match kidsM root l m i s with | none => false | some s' => finB root l s') := by
 induction m generalizing i s with
 | zero => simp [nodesG, locG, kidsM]
 | succ m ih =>
  rw [nodesG, locG, kidsM]
  by_cases h : nodeB next (l.getD i z88) = true ∧ ordB l i = true
  ·rw [if_pos h, h.1, h.2]
   cases hk : kidsB root (ids l) (l.getD i z88).f4 s with
   | none => simp
   | some s' => simp only [Option.bind_some, ih, Bool.and_self, Bool.true_and]
  ·rw [if_neg h]
   have : (nodeB next (l.getD i z88) && ordB l i) = false := by
    cases h1 : nodeB next (l.getD i z88) <;> cases h2 : ordB l i <;> simp_all
   rw [this]
   simp
theorem kidsB_append (root : Int) (I a b s : List Int) : kidsB root I (a ++ b) s = (kidsB root I a s).bind (kidsB root I b) := by
 induction a generalizing s with
 | nil => rfl
 | cons c a ih =>
  rw [List.cons_append, kidsB, kidsB]
  split
  ·rfl
  ·exact ih _
theorem kidsM_eq (root : Int) (l : List S88) (m i : Nat) (h : i + m = l.length) (s : List Int) : kidsM root l m i s = kidsB root (ids l) ((l.drop i).flatMap (fun x => x.f4)) s := by
 induction m generalizing i s with
 | zero =>
  have e : i = l.length := by omega
  subst e
  rw [List.drop_length]
  rfl
 | succ m ih =>
  have e : l.drop i = l.getD i z88 :: l.drop (i + 1) := by
   rw [List.getD_eq_getElem?_getD, List.getElem?_eq_getElem (by omega), Option.getD_some]
   exact List.drop_eq_getElem_cons (by omega)
  rw [e, List.flatMap_cons, kidsB_append, kidsM]
  congr 1
  funext s'
  exact ih (i + 1) (by omega) s'
theorem kidsB_some (root : Int) (I cs s s' : List Int) (h : kidsB root I cs s = some s') (hn : s.Nodup) : s' = s ++ cs ∧ (∀ c ∈ cs, c ≠ root ∧ c ∈ I) ∧ (s ++ cs).Nodup := by
 induction cs generalizing s with
 | nil => cases h; simp [hn]
 | cons c cs ih =>
  rw [kidsB] at h
  split at h
  ·cases h
  ·rename_i g
   have g1 : c ≠ root := fun e => g (.inl e)
   have g2 : c ∉ s := fun e => g (.inr (.inl e))
   have g3 : c ∈ I := Classical.byContradiction fun e => g (.inr (.inr e))
   obtain ⟨h1, h2, h3⟩ := ih (s ++ [c]) h (by
    rw [List.nodup_append]
    refine ⟨hn, by simp, fun a ha b hb => ?_⟩
    simp only [List.mem_singleton] at hb
    subst hb
    exact fun e => g2 (e ▸ ha))
   rw [List.append_assoc] at h1 h3
   refine ⟨h1, fun d hd => ?_, h3⟩
   rcases List.mem_cons.1 hd with e | hd
   ·subst e; exact ⟨g1, g3⟩
   ·exact h2 d hd
theorem locG_iff (next : Int) (l : List S88) (m i : Nat) : locG next l m i = true ↔ ∀ j, i ≤ j → j < i + m → nodeB next (l.getD j z88) = true ∧ ordB l j = true := by
 induction m generalizing i with
 | zero => exact ⟨fun _ j h1 h2 => by omega, fun _ => rfl⟩
 | succ m ih =>
  rw [locG, Bool.and_eq_true, Bool.and_eq_true, ih]
  constructor
  ·rintro ⟨h1, h2⟩ j hj hj'
   by_cases e : j = i
   ·subst e; exact h1
   ·exact h2 j (by omega) (by omega)
  ·intro h
   exact ⟨h i (by omega) (by omega), fun j hj hj' => h j (by omega) (by omega)⟩
structure Loc (next : Int) (l : List S88) : Prop where
 nx : 2 ≤ next ∧ next ≤ 999999
 id : ∀ x ∈ l, 1 ≤ x.f0 ∧ x.f0 ≤ next - 1
 kind : ∀ x ∈ l, 1 ≤ x.f1 ∧ x.f1 ≤ 8
 attr : ∀ x ∈ l, 0 ≤ x.f2 ∧ x.f2 ≤ 99
 text : ∀ x ∈ l, x.f3.size ≤ 20
 kids : ∀ x ∈ l, x.f4.length ≤ 12
 rise : ∀ i j, i < j → j < l.length → (l.getD i z88).f0 < (l.getD j z88).f0
theorem nodeB_iff (next : Int) (x : S88) : nodeB next x = true ↔ (1 ≤ x.f0 ∧ x.f0 ≤ next - 1) ∧ (1 ≤ x.f1 ∧ x.f1 ≤ 8) ∧ (0 ≤ x.f2 ∧ x.f2 ≤ 99) ∧ x.f3.size ≤ 20 ∧ x.f4.length ≤ 12 := by
 simp only [nodeB, Bool.and_eq_true, decide_eq_true_eq]
theorem loc_of (next : Int) (l : List S88) (hn : 2 ≤ next ∧ next ≤ 999999) (h : locG next l l.length 0 = true) : Loc next l := by
 have h := (locG_iff next l l.length 0).1 h
 have h1 : ∀ x ∈ l, nodeB next x = true := fun x hx => by
  obtain ⟨i, hi, rfl⟩ := List.getElem_of_mem hx
  have := (h i (by omega) (by omega)).1
  rwa [List.getD_eq_getElem?_getD, List.getElem?_eq_getElem hi] at this
 have h1 := fun x hx => (nodeB_iff next x).1 (h1 x hx)
 refine ⟨hn, fun x hx => (h1 x hx).1, fun x hx => (h1 x hx).2.1, fun x hx => (h1 x hx).2.2.1, fun x hx => (h1 x hx).2.2.2.1, fun x hx => (h1 x hx).2.2.2.2, fun i j hij hj => ?_⟩
 induction j with
 | zero => omega
 | succ j ih =>
  have g := (of_decide_eq_true (h (j + 1) (by omega) (by omega)).2).resolve_left (by omega)
  simp only [Nat.add_sub_cancel] at g
  by_cases e : i = j
  ·subst e; exact g
  ·have := ih (by omega) (by omega)
   omega
theorem loc_inj {next : Int} {l : List S88} (h : Loc next l) {i j : Nat} (hi : i < l.length) (hj : j < l.length) (e : (l.getD i z88).f0 = (l.getD j z88).f0) : i = j := by
 rcases Nat.lt_trichotomy i j with g | g | g
 ·have := h.rise i j g hj; omega
 ·exact g
 ·have := h.rise j i g hi; omega
theorem wrap_ne (a b : Int) (ha : 1 ≤ a ∧ a ≤ 999998) (hb : i64 b) : (wrap64 (a - b) == 0) = decide (a = b) := by
 unfold i64 at hb
 by_cases h : a = b
 ·subst h; simp [wrap64]
 ·rw [decide_eq_false h]
  refine beq_eq_false_iff_ne.2 ?_
  unfold wrap64
  omega
theorem impl_search {next : Int} {l : List S88} (hl : docSm l) (hL : Loc next l) (id : Int) (hI : i64 id) (d : Nat) : ∀ i j : Nat, j - i ≤ d → i ≤ j → j ≤ l.length → (∀ p, p < l.length → (l.getD p z88).f0 = id → i ≤ p ∧ p ≤ j) →
  ∃ q, q ≤ l.length ∧ Ev (fun k => slices_BinarySearchFunc_impl_Node_impl_Node_int_at_impl_Doc_find_1.l0 k l id l.length i j) ((q : Int), decide (q < l.length ∧ (l.getD q z88).f0 = id)) ∧ ∀ p, p < l.length → (l.getD p z88).f0 = id → q = p := by
 have hl' := hl.1
 have hnx := hL.nx
 have done : ∀ i : Nat, i ≤ l.length → (∀ p, p < l.length → (l.getD p z88).f0 = id → i ≤ p ∧ p ≤ i) → ∃ q, q ≤ l.length ∧ Ev (fun k => slices_BinarySearchFunc_impl_Node_impl_Node_int_at_impl_Doc_find_1.l0 k l id l.length i i) ((q : Int), decide (q < l.length ∧ (l.getD q z88).f0 = id)) ∧ ∀ p, p < l.length → (l.getD p z88).f0 = id → q = p := by
  intro i hi hp
  refine ⟨i, hi, ?_, fun p h1 h2 => by have := hp p h1 h2; omega⟩
  refine Ev.step (fun k => by rw [slices_BinarySearchFunc_impl_Node_impl_Node_int_at_impl_Doc_find_1.l0]) ?_
  refine Ev.neg (by omega) ?_
  by_cases g : i < l.length
  ·refine Ev.pos (by omega) (Ev.pos (by omega) (Ev.pos (by omega) (Ev.use rfl ?_)))
   have hx := hL.id _ (getD_mem l z88 i g)
   have e := wrap_ne (l.getD i z88).f0 id (by omega) hI
   rw [show decide (i < l.length ∧ (l.getD i z88).f0 = id) = (wrap64 ((l.getD i z88).f0 - id) == 0) from by rw [e]; exact decide_eq_decide.2 ⟨fun h => h.2, fun h => ⟨g, h⟩⟩]
   exact Ev.now _
  ·refine Ev.neg (by omega) ?_
   rw [decide_eq_false (fun h => g h.1)]
   exact Ev.now _
 induction d with
 | zero =>
  intro i j h1 h2 h3 hp
  have e : i = j := by omega
  subst e
  exact done i h3 hp
 | succ d ih =>
  intro i j h1 h2 h3 hp
  by_cases g : i < j
  ·have w0 : wrap64 ((i : Int) + (j : Int)) = ((i + j : Nat) : Int) := by rw [wrap_id _ (by omega) (by omega)]; omega
   have w1 : IntKind.u64.wrap (wrap64 ((i : Int) + (j : Int))) = ((i + j : Nat) : Int) := by rw [w0]; exact Go.IntWalk.u64_in _ (by omega)
   have w2 : wrap64 ((IntKind.u64.wrap (wrap64 ((i : Int) + (j : Int)))) / 2) = (((i + j) / 2 : Nat) : Int) := by rw [w1, wrap_id _ (by omega) (by omega)]; omega
   have hh : (i + j) / 2 < l.length := by omega
   have hx := hL.id _ (getD_mem l z88 _ hh)
   by_cases c : wrap64 ((l.getD ((i + j) / 2) z88).f0 - id) < 0
   ·obtain ⟨q, hq, he, hu⟩ := ih ((i + j) / 2 + 1) j (by omega) (by omega) h3 (fun p hp1 hp2 => by
     have g1 := hp p hp1 hp2
     refine ⟨?_, g1.2⟩
     have hy := hL.id _ (getD_mem l z88 p hp1)
     have : (l.getD ((i + j) / 2) z88).f0 < (l.getD p z88).f0 := by
      rw [← hp2] at c
      rw [wrap_id _ (by omega) (by omega)] at c
      omega
     rcases Nat.lt_trichotomy ((i + j) / 2) p with z | z | z
     ·omega
     ·rw [z] at this; omega
     ·have := hL.rise _ _ z hh; omega)
    refine ⟨q, hq, ?_, hu⟩
    refine Ev.step (fun k => by rw [slices_BinarySearchFunc_impl_Node_impl_Node_int_at_impl_Doc_find_1.l0]) ?_
    simp only [w2]
    refine Ev.pos (by omega) (Ev.pos (by omega) (Ev.pos (by omega) (Ev.use rfl (Ev.pos c ?_))))
    simp only [wrap_suc ((i + j) / 2) (by omega)]
    exact he
   ·obtain ⟨q, hq, he, hu⟩ := ih i ((i + j) / 2) (by omega) (by omega) (by omega) (fun p hp1 hp2 => by
     have g1 := hp p hp1 hp2
     refine ⟨g1.1, ?_⟩
     have hy := hL.id _ (getD_mem l z88 p hp1)
     have : ¬ (l.getD ((i + j) / 2) z88).f0 < (l.getD p z88).f0 := by
      rw [← hp2] at c
      rw [wrap_id _ (by omega) (by omega)] at c
      omega
     rcases Nat.lt_trichotomy ((i + j) / 2) p with z | z | z
     ·have := hL.rise _ _ z hp1; omega
     ·omega
     ·omega)
    refine ⟨q, hq, ?_, hu⟩
    refine Ev.step (fun k => by rw [slices_BinarySearchFunc_impl_Node_impl_Node_int_at_impl_Doc_find_1.l0]) ?_
    simp only [w2]
    exact Ev.pos (by omega) (Ev.pos (by omega) (Ev.pos (by omega) (Ev.use rfl (Ev.neg c he))))
  ·have e : i = j := by omega
   subst e
   exact done i h3 hp
theorem impl_find {next : Int} {l : List S88} (hl : docSm l) (hL : Loc next l) (r n id : Int) (hI : i64 id) : Ev (fun k => impl_Doc_find.f k r n l id) (atF l id) := by
 obtain ⟨q, hq, he, hu⟩ := impl_search hl hL id hI l.length 0 l.length (by omega) (by omega) (by omega) (fun p h1 _ => ⟨by omega, by omega⟩)
 refine Ev.bind he ?_
 show Ev (fun k => if decide (q < l.length ∧ (l.getD q z88).f0 = id) = true then _ else _) _
 rcases at_spec l id with ⟨h1, h2⟩ | ⟨i, hi, h1, h2, h3, h4, h5⟩
 ·rw [h1]
  refine Ev.neg (ndec fun h => h2 (List.mem_map.2 ⟨_, getD_mem l z88 q h.1, h.2⟩)) (Ev.now _)
 ·rw [h5] at h2
  obtain rfl := hu i hi h2
  rw [h1]
  exact Ev.pos (decide_eq_true ⟨hi, h2⟩) (Ev.pos (by omega) (Ev.pos (by omega) (Ev.now _)))
theorem impl_has {next : Int} {l : List S88} (hl : docSm l) (hL : Loc next l) (r n id : Int) (hI : i64 id) : Ev (fun k => impl_Doc_has.f k r n l id) (decide (id ∈ ids l)) := by
 refine Ev.bind (impl_find hl hL r n id hI) ?_
 by_cases h : id ∈ ids l
 ·rw [decide_eq_true h]
  exact Ev.neg (fun g => (at_neg l id).1 g h) (Ev.now _)
 ·rw [decide_eq_false h]
  exact Ev.pos ((at_neg l id).2 h) (Ev.now _)
def Clo (l : List S88) : Prop := ∀ x ∈ l, ∀ c ∈ x.f4, c ∈ ids l
theorem nd_mem {l : List S88} {id : Int} (h : id ∈ ids l) : ∃ i, i < l.length ∧ atF l id = (i : Int) ∧ nd l id ∈ l ∧ (nd l id).f0 = id ∧ nd l id = l.getD i z88 := by
 rcases at_spec l id with ⟨_, h2⟩ | ⟨i, hi, h1, h2, h3, _, h5⟩
 ·exact absurd h h2
 ·exact ⟨i, hi, h1, h3, h2, h5⟩
theorem kd_ids {l : List S88} (hc : Clo l) {id c : Int} (h : id ∈ ids l) (h2 : c ∈ kd l id) : c ∈ ids l := by
 obtain ⟨_, _, _, hm, _⟩ := nd_mem h
 exact hc _ hm c h2
def dp (l : List S88) : Nat → Int → Int
 | 0, _ => 1
 | n + 1, id => (kd l id).foldl (fun a c => mx a (dp l n c)) 0 + 1
theorem mx_le {a b B : Int} : mx a b ≤ B ↔ a ≤ B ∧ b ≤ B := by unfold mx; split <;> omega
theorem le_mx {a b : Int} : a ≤ mx a b := by unfold mx; split <;> omega
theorem fold_mx (f : Int → Int) (cs : List Int) (a B : Int) : cs.foldl (fun a c => mx a (f c)) a ≤ B ↔ a ≤ B ∧ ∀ c ∈ cs, f c ≤ B := by
 induction cs generalizing a with
 | nil => simp
 | cons c cs ih =>
  rw [List.foldl_cons, ih, mx_le]
  simp only [List.mem_cons, forall_eq_or_imp, and_assoc]
theorem fold_mx_ge (f : Int → Int) (cs : List Int) (a : Int) : a ≤ cs.foldl (fun a c => mx a (f c)) a := ((fold_mx f cs a _).1 (Int.le_refl _)).1
theorem dp_bound (l : List S88) (n : Nat) (id : Int) : 1 ≤ dp l n id ∧ dp l n id ≤ n + 1 := by
 induction n generalizing id with
 | zero => simp [dp]
 | succ n ih =>
  rw [dp]
  have h1 := fold_mx_ge (dp l n) (kd l id) 0
  have h2 := (fold_mx (dp l n) (kd l id) 0 (n + 1)).2 ⟨by omega, fun c _ => (ih c).2⟩
  omega
theorem dp_kid {l : List S88} {n : Nat} {id : Int} (h : dp l (n + 1) id ≤ (n : Int) + 1) : ∀ c ∈ kd l id, dp l n c ≤ n := by
 rw [dp] at h
 exact ((fold_mx (dp l n) (kd l id) 0 n).1 (by omega)).2
theorem spec_deep {l : List S88} (root nx : Int) (hl : docSm l) (hc : Clo l) (n : Nat) (hn : n ≤ 1000000) (id : Int) (h : id ∈ ids l) : Ev (fun k => spec_l02Deep.f k root nx l id (n : Int)) (dp l n id) := by
 have hl' := hl.1
 induction n generalizing id with
 | zero =>
  refine Ev.step (fun k => by rw [spec_l02Deep.f]) ?_
  exact Ev.pos rfl (Ev.now _)
 | succ n ih =>
  refine Ev.step (fun k => by rw [spec_l02Deep.f]) ?_
  obtain ⟨i, hi, e1, hm, _, e2⟩ := nd_mem h
  refine Ev.neg (by omega) (Ev.bind (spec_at l root nx id hl') ?_)
  simp only [e1]
  refine Ev.pos (by omega) (Ev.pos (by omega) ?_)
  show Ev (fun k => spec_l02Deep.l0 k ((n + 1 : Nat) : Int) 0 (l.getD i z88).f4 0 root nx l) (dp l (n + 1) id)
  have e3 : kd l id = (l.getD i z88).f4 := by unfold kd; rw [e2]
  rw [dp, e3]
  have hx := hl.2 _ (getD_mem l z88 i hi)
  refine list_loop (l.getD i z88).f4 0 (fun _ acc => 0 ≤ acc ∧ acc ≤ (n : Int) + 1) (fun cs acc => cs.foldl (fun a c => mx a (dp l n c)) acc + 1) (fun k j acc => spec_l02Deep.l0 k ((n + 1 : Nat) : Int) acc (l.getD i z88).f4 j root nx l) ?_ ?_ 0 (by omega)
  ·intro j acc hj ha hr
   refine Ev.step (fun k => by rw [spec_l02Deep.l0]) ?_
   have hk : (l.getD i z88).f4.getD j 0 ∈ ids l := hc _ (getD_mem l z88 i hi) _ (getD_mem _ _ j hj)
   refine Ev.pos (by omega) (Ev.pos (by omega) ?_)
   have w : wrap64 (((n + 1 : Nat) : Int) - 1) = (n : Int) := by rw [wrap_id _ (by omega) (by omega)]; omega
   simp only [w]
   refine Ev.bind (ih (by omega) _ hk) ?_
   simp only [wrap_suc j (by omega)]
   have hb := dp_bound l n ((l.getD i z88).f4.getD j 0)
   exact hr _ ⟨Int.le_trans ha.1 le_mx, mx_le.2 ⟨ha.2, hb.2⟩⟩
  ·intro acc ha
   refine Ev.step (fun k => by rw [spec_l02Deep.l0]) ?_
   refine Ev.neg (by omega) ?_
   rw [wrap_id _ (by omega) (by omega)]
   exact Ev.now _
theorem impl_depth {next : Int} {l : List S88} (root : Int) (hl : docSm l) (hL : Loc next l) (hI : docI l) (hc : Clo l) (n : Nat) (hn : n ≤ 6) (id : Int) (h : id ∈ ids l) : Ev (fun k => impl_Doc_depth.f k root next l id (6 - (n : Int))) (dp l n id) := by
 have hl' := hl.1
 have idI : ∀ id, id ∈ ids l → i64 id := fun id h => by
  obtain ⟨x, hx, rfl⟩ := List.mem_map.1 h
  exact (hI x hx).1
 induction n generalizing id with
 | zero =>
  refine Ev.step (fun k => by rw [impl_Doc_depth.f]) ?_
  obtain ⟨i, hi, e1, hm, _, e2⟩ := nd_mem h
  refine Ev.neg (by omega) (Ev.bind (impl_find hl hL root next id (idI id h)) ?_)
  simp only [e1]
  refine Ev.neg (by omega) (Ev.pos (by omega) (Ev.pos (by omega) ?_))
  show Ev (fun k => impl_Doc_depth.l0 k (6 - (0 : Nat) : Int) 0 (l.getD i z88).f4 (l.getD i z88).f4.length 0 root next l) 1
  have hx := hl.2 _ (getD_mem l z88 i hi)
  refine list_loop0 (l.getD i z88).f4 0 (fun _ => (1 : Int)) (fun k j => impl_Doc_depth.l0 k (6 - (0 : Nat) : Int) 0 (l.getD i z88).f4 (l.getD i z88).f4.length j root next l) ?_ ?_
  ·intro j hj hr
   refine Ev.step (fun k => by rw [impl_Doc_depth.l0]) ?_
   refine Ev.pos (by omega) (Ev.pos (by omega) (Ev.pos (by omega) ?_))
   refine Ev.bind (a := 0) ?_ ?_
   ·refine Ev.step (fun k => by rw [impl_Doc_depth.f]) ?_
    exact Ev.pos (by rw [wrap_id _ (by omega) (by omega)]; omega) (Ev.now _)
   ·simp only [wrap_suc j (by omega)]
    exact hr
  ·refine Ev.step (fun k => by rw [impl_Doc_depth.l0]) ?_
   exact Ev.neg (by omega) (Ev.const (by rw [wrap_id _ (by omega) (by omega)]; rfl))
 | succ n ih =>
  refine Ev.step (fun k => by rw [impl_Doc_depth.f]) ?_
  obtain ⟨i, hi, e1, hm, _, e2⟩ := nd_mem h
  refine Ev.neg (by omega) (Ev.bind (impl_find hl hL root next id (idI id h)) ?_)
  simp only [e1]
  refine Ev.neg (by omega) (Ev.pos (by omega) (Ev.pos (by omega) ?_))
  show Ev (fun k => impl_Doc_depth.l0 k (6 - ((n + 1 : Nat) : Int)) 0 (l.getD i z88).f4 (l.getD i z88).f4.length 0 root next l) (dp l (n + 1) id)
  have e3 : kd l id = (l.getD i z88).f4 := by unfold kd; rw [e2]
  rw [dp, e3]
  have hx := hl.2 _ (getD_mem l z88 i hi)
  refine list_loop (l.getD i z88).f4 0 (fun _ acc => 0 ≤ acc ∧ acc ≤ (n : Int) + 1) (fun cs acc => cs.foldl (fun a c => mx a (dp l n c)) acc + 1) (fun k j acc => impl_Doc_depth.l0 k (6 - ((n + 1 : Nat) : Int)) acc (l.getD i z88).f4 (l.getD i z88).f4.length j root next l) ?_ ?_ 0 (by omega)
  ·intro j acc hj ha hr
   refine Ev.step (fun k => by rw [impl_Doc_depth.l0]) ?_
   have hk : (l.getD i z88).f4.getD j 0 ∈ ids l := hc _ (getD_mem l z88 i hi) _ (getD_mem _ _ j hj)
   refine Ev.pos (by omega) (Ev.pos (by omega) (Ev.pos (by omega) ?_))
   have w : wrap64 (6 - ((n + 1 : Nat) : Int) + 1) = 6 - (n : Int) := by rw [wrap_id _ (by omega) (by omega)]; omega
   simp only [w]
   refine Ev.bind (ih (by omega) _ hk) ?_
   simp only [wrap_suc j (by omega)]
   have hb := dp_bound l n ((l.getD i z88).f4.getD j 0)
   exact hr _ ⟨Int.le_trans ha.1 le_mx, mx_le.2 ⟨ha.2, hb.2⟩⟩
  ·intro acc ha
   refine Ev.step (fun k => by rw [impl_Doc_depth.l0]) ?_
   refine Ev.neg (by omega) ?_
   rw [wrap_id _ (by omega) (by omega)]
   exact Ev.now _
theorem impl_deep {next : Int} {l : List S88} (root : Int) (hl : docSm l) (hL : Loc next l) (hI : docI l) (hc : Clo l) (h : root ∈ ids l) : Ev (fun k => impl_Doc_isDeep.f k root next l) (decide (dp l 6 root > 6)) :=
 Ev.bind (impl_depth root hl hL hI hc 6 (by omega) root h) (Ev.now _)
def ordF (l : List S88) : Nat → Int → List Int
 | 0, _ => []
 | n + 1, id => id :: (kd l id).flatMap (ordF l n)
theorem flat_len (f : Int → List Int) (cs : List Int) (m b : Nat) (hl : cs.length ≤ m) (h : ∀ c ∈ cs, (f c).length ≤ b) : (cs.flatMap f).length ≤ m * b := by
 induction cs generalizing m with
 | nil => simp
 | cons c cs ih =>
  obtain ⟨m, rfl⟩ : ∃ k, m = k + 1 := ⟨m - 1, by simp at hl; omega⟩
  rw [List.flatMap_cons, List.length_append, Nat.succ_mul]
  have h1 := ih m (by simpa using hl) (fun d hd => h d (List.mem_cons_of_mem _ hd))
  have h2 := h c List.mem_cons_self
  omega
theorem ordF_len {l : List S88} (hk : ∀ x ∈ l, x.f4.length ≤ 12) (hc : Clo l) (n : Nat) (id : Int) (h : id ∈ ids l) : (ordF l n id).length ≤ 13 ^ n := by
 induction n generalizing id with
 | zero => simp [ordF]
 | succ n ih =>
  obtain ⟨i, hi, e1, hm, _, e2⟩ := nd_mem h
  have h1 := flat_len (ordF l n) (kd l id) 12 (13 ^ n) (hk _ hm) (fun c hc' => ih c (kd_ids hc h hc'))
  have h2 : 1 ≤ 13 ^ n := Nat.one_le_pow _ _ (by omega)
  rw [ordF, List.length_cons, Nat.pow_succ]
  omega
theorem impl_order {next : Int} {l : List S88} (root : Int) (hl : docSm l) (hL : Loc next l) (hI : docI l) (hc : Clo l) (n : Nat) (id : Int) (h : id ∈ ids l) (hd : dp l n id ≤ n) (out : List Int) (ho : out.length + 13 ^ n ≤ 1000000000000) :
  Ev (fun k => impl_Doc_order.f k root next l out id) (out ++ ordF l n id) := by
 have hl' := hl.1
 have idI : ∀ id, id ∈ ids l → i64 id := fun id h => by
  obtain ⟨x, hx, rfl⟩ := List.mem_map.1 h
  exact (hI x hx).1
 induction n generalizing id out with
 | zero => have := (dp_bound l 0 id).1; omega
 | succ n ih =>
  refine Ev.step (fun k => by rw [impl_Doc_order.f]) ?_
  obtain ⟨i, hi, e1, hm, _, e2⟩ := nd_mem h
  have h13 : 13 ^ (n + 1) = 13 * 13 ^ n := by rw [Nat.pow_succ, Nat.mul_comm]
  have hp : 1 ≤ 13 ^ n := Nat.one_le_pow _ _ (by omega)
  refine Ev.pos (by omega) (Ev.bind (impl_find hl hL root next id (idI id h)) ?_)
  simp only [e1]
  refine Ev.neg (by omega) (Ev.pos (by omega) (Ev.pos (by omega) ?_))
  show Ev (fun k => impl_Doc_order.l0 k (out ++ [id]) (l.getD i z88).f4 (l.getD i z88).f4.length 0 root next l) (out ++ ordF l (n + 1) id)
  have e3 : kd l id = (l.getD i z88).f4 := by unfold kd; rw [e2]
  rw [ordF, e3, show out ++ id :: List.flatMap (ordF l n) (l.getD i z88).f4 = (out ++ [id]) ++ List.flatMap (ordF l n) (l.getD i z88).f4 from by simp]
  have hx := hL.kids _ (getD_mem l z88 i hi)
  have hdk := dp_kid hd
  rw [e3] at hdk
  refine list_loop (l.getD i z88).f4 0 (fun j o => o.length + (12 - j) * 13 ^ n ≤ 1000000000000) (fun cs o => o ++ cs.flatMap (ordF l n)) (fun k j o => impl_Doc_order.l0 k o (l.getD i z88).f4 (l.getD i z88).f4.length j root next l) ?_ ?_ (out ++ [id]) (by simp; omega)
  ·intro j o hj ho' hr
   refine Ev.step (fun k => by rw [impl_Doc_order.l0]) ?_
   have hmj := getD_mem (l.getD i z88).f4 0 j hj
   have hk : (l.getD i z88).f4.getD j 0 ∈ ids l := hc _ (getD_mem l z88 i hi) _ hmj
   have e12 : 12 - j = (12 - (j + 1)) + 1 := by omega
   rw [e12, Nat.succ_mul] at ho'
   refine Ev.pos (by omega) (Ev.pos (by omega) (Ev.pos (by omega) ?_))
   refine Ev.bind (ih _ hk (hdk _ hmj) o (by omega)) ?_
   simp only [wrap_suc j (by omega)]
   rw [List.flatMap_cons, ← List.append_assoc]
   refine hr _ ?_
   have := ordF_len hL.kids hc n _ hk
   rw [List.length_append]
   omega
  ·intro o ho'
   refine Ev.step (fun k => by rw [impl_Doc_order.l0]) ?_
   refine Ev.neg (by omega) ?_
   simp only [List.flatMap_nil, List.append_nil]
   exact Ev.now _
def up (l : List S88) : Nat → Int → Int
 | 0, id => id
 | m + 1, id => up l m (par l id)
def cl (l : List S88) (root : Int) : Nat → Int → Bool
 | 0, id => decide (id = root)
 | m + 1, id => if id = root then true else if 0 < id then cl l root m (par l id) else false
theorem spec_climb {l : List S88} (root n : Int) (hl : docSm l) (i : Nat) (hi : i < l.length) (C : Bool) (hC : Ev (fun k => spec_l02Reach.l0 k ((i : Int) + 1) root n l) C) (m : Nat) : ∀ (s : Nat) (id : Int), s + m = l.length + 1 →
  Ev (fun k => spec_l02Reach.l1 k i id s root n l) (cl l root m id && C) := by
 have hl' := hl.1
 induction m with
 | zero =>
  intro s id hs
  refine Ev.step (fun k => by rw [spec_l02Reach.l1]) ?_
  rw [cl]
  by_cases h : id = root
  ·refine Ev.pos h ?_
   rw [decide_eq_true h, Bool.true_and]
   simp only [wrap_suc i (by omega)]
   exact hC
  ·refine Ev.neg h ?_
   rw [decide_eq_false h, Bool.false_and]
   by_cases g : id > 0
   ·exact Ev.pos g (Ev.neg (by omega) (Ev.now _))
   ·exact Ev.neg g (Ev.now _)
 | succ m ih =>
  intro s id hs
  refine Ev.step (fun k => by rw [spec_l02Reach.l1]) ?_
  rw [cl]
  by_cases h : id = root
  ·refine Ev.pos h ?_
   rw [if_pos h, Bool.true_and]
   simp only [wrap_suc i (by omega)]
   exact hC
  ·refine Ev.neg h ?_
   rw [if_neg h]
   by_cases g : id > 0
   ·rw [if_pos g]
    refine Ev.pos g (Ev.pos (by omega) (Ev.bind (spec_parent l root n id hl' hl.2) ?_))
    simp only [wrap_suc s (by omega)]
    exact ih (s + 1) _ (by omega)
   ·rw [if_neg g]
    exact Ev.neg g (Ev.now _)
theorem spec_reach {l : List S88} (root n : Int) (hl : docSm l) : Ev (fun k => spec_l02Reach.f k root n l) (l.all (fun x => cl l root (l.length + 1) x.f0)) := by
 have hl' := hl.1
 refine list_loop0 l z88 (fun l' => l'.all (fun x => cl l root (l.length + 1) x.f0)) (fun k i => spec_l02Reach.l0 k i root n l) ?_ ?_
 ·intro i hi hr
  refine Ev.step (fun k => by rw [spec_l02Reach.l0]) ?_
  rw [List.all_cons]
  exact Ev.pos (by omega) (Ev.pos (by omega) (spec_climb root n hl i hi _ hr (l.length + 1) 0 _ (by omega)))
 ·refine Ev.step (fun k => by rw [spec_l02Reach.l0]) ?_
  exact Ev.neg (by omega) (Ev.now _)
def flat (l : List S88) : List Int := l.flatMap (fun x => x.f4)
structure Doc0 (root next : Int) (l : List S88) : Prop where
 loc : Loc next l
 clo : Clo l
 rin : root ∈ ids l
 free : root ∉ flat l
 once : (flat l).Nodup
 cnt : (flat l).length + 1 = l.length
 len : 1 ≤ l.length ∧ l.length ≤ 40
def sumN : Nat → (Nat → Nat) → Nat
 | 0, _ => 0
 | n + 1, f => f 0 + sumN n (fun m => f (m + 1))
theorem sumN_congr {n : Nat} {f g : Nat → Nat} (h : ∀ m, m < n → f m = g m) : sumN n f = sumN n g := by
 induction n generalizing f g with
 | zero => rfl
 | succ n ih => rw [sumN, sumN, h 0 (by omega), ih (fun m hm => h (m + 1) (by omega))]
theorem sumN_add (n : Nat) (f g : Nat → Nat) : sumN n (fun m => f m + g m) = sumN n f + sumN n g := by
 induction n generalizing f g with
 | zero => rfl
 | succ n ih => simp only [sumN, ih]; omega
theorem sumN_zero (n : Nat) : sumN n (fun _ => 0) = 0 := by
 induction n with
 | zero => rfl
 | succ n ih => simp [sumN, ih]
theorem sumN_list (n : Nat) (cs : List Int) (g : Int → Nat → Nat) : (cs.map (fun c => sumN n (g c))).sum = sumN n (fun m => (cs.map (fun c => g c m)).sum) := by
 induction cs with
 | nil => simp [sumN_zero]
 | cons c cs ih => simp only [List.map_cons, List.sum_cons, ih, sumN_add]
theorem sumN_ge (n m : Nat) (f : Nat → Nat) (h : ∀ j, j ≤ m → 1 ≤ f j) (hm : m < n) : m + 1 ≤ sumN n f := by
 induction n generalizing m f with
 | zero => omega
 | succ n ih =>
  rw [sumN]
  have h0 := h 0 (by omega)
  cases m with
  | zero => omega
  | succ m =>
   have := ih m (fun j => f (j + 1)) (fun j hj => h (j + 1) (by omega)) (by omega)
   omega
theorem sumN_one (n : Nat) (p : Nat → Prop) [∀ m, Decidable (p m)] (h : ∀ a b, p a → p b → a = b) : sumN n (fun m => if p m then 1 else 0) = if ∃ m, m < n ∧ p m then 1 else 0 := by
 induction n generalizing p with
 | zero => simp [sumN]
 | succ n ih =>
  have e := ih (fun m => p (m + 1)) (fun a b ha hb => by have := h _ _ ha hb; omega)
  rw [sumN, e]
  by_cases h0 : p 0
  ·have : ¬ ∃ m, m < n ∧ p (m + 1) := fun ⟨m, _, hp⟩ => by have := h _ _ h0 hp; omega
   rw [if_pos h0, if_neg this, if_pos ⟨0, by omega, h0⟩]
  ·rw [if_neg h0, Nat.zero_add]
   by_cases g : ∃ m, m < n ∧ p (m + 1)
   ·obtain ⟨m, hm, hp⟩ := g
    rw [if_pos ⟨m, hm, hp⟩, if_pos ⟨m + 1, by omega, hp⟩]
   ·rw [if_neg g, if_neg (fun ⟨m, hm, hp⟩ => by
     cases m with
     | zero => exact h0 hp
     | succ m => exact g ⟨m, by omega, hp⟩)]
theorem count_flat (f : Int → List Int) (cs : List Int) (a : Int) : (cs.flatMap f).count a = (cs.map (fun c => (f c).count a)).sum := by
 induction cs with
 | nil => rfl
 | cons c cs ih => rw [List.flatMap_cons, List.count_append, List.map_cons, List.sum_cons, ih]
theorem sum_eq_count (cs : List Int) (a : Int) : (cs.map (fun c => if a = c then 1 else 0)).sum = cs.count a := by
 induction cs with
 | nil => rfl
 | cons c cs ih =>
  rw [List.map_cons, List.sum_cons, ih, List.count_cons]
  by_cases h : a = c
  ·subst h; simp; omega
  ·rw [if_neg h, if_neg (by simpa using fun e => h e.symm)]; omega
theorem par_of {l : List S88} (hn : (flat l).Nodup) {x : S88} (hx : x ∈ l) {id : Int} (h : id ∈ x.f4) : par l id = x.f0 := by
 induction l with
 | nil => cases hx
 | cons y l ih =>
  unfold flat at hn
  rw [List.flatMap_cons, List.nodup_append] at hn
  rw [par]
  rcases List.mem_cons.1 hx with e | hx
  ·subst e; rw [if_pos h]
  ·rw [if_neg (fun g => hn.2.2 _ g _ (List.mem_flatMap.2 ⟨x, hx, h⟩) rfl)]
   exact ih hn.2.1 hx
theorem kids_nodup {l : List S88} (hn : (flat l).Nodup) {x : S88} (hx : x ∈ l) : x.f4.Nodup := by
 obtain ⟨s, t, rfl⟩ := List.append_of_mem hx
 unfold flat at hn
 rw [List.flatMap_append, List.flatMap_cons, List.nodup_append] at hn
 exact (List.nodup_append.1 hn.2.1).1
theorem par_none {l : List S88} {id : Int} (h : id ∉ flat l) : par l id = 0 := by
 induction l with
 | nil => rfl
 | cons y l ih =>
  unfold flat at h
  rw [List.flatMap_cons, List.mem_append] at h
  rw [par, if_neg (fun g => h (.inl g))]
  exact ih (fun g => h (.inr g))
theorem par_cases (l : List S88) (id : Int) : (par l id = 0 ∧ id ∉ flat l) ∨ ∃ x, x ∈ l ∧ id ∈ x.f4 ∧ par l id = x.f0 := by
 induction l with
 | nil => exact .inl ⟨rfl, by simp [flat]⟩
 | cons y l ih =>
  rw [par]
  by_cases h : id ∈ y.f4
  ·exact .inr ⟨y, List.mem_cons_self, h, by rw [if_pos h]⟩
  ·rw [if_neg h]
   rcases ih with ⟨h1, h2⟩ | ⟨x, hx, h1, h2⟩
   ·refine .inl ⟨h1, ?_⟩
    unfold flat at h2 ⊢
    rw [List.flatMap_cons, List.mem_append]
    exact fun g => g.elim h h2
   ·exact .inr ⟨x, List.mem_cons_of_mem _ hx, h1, h2⟩
section
variable {root next : Int} {l : List S88}
theorem Doc0.pos (D : Doc0 root next l) {id : Int} (h : id ∈ ids l) : 1 ≤ id ∧ id ≤ next - 1 := by
 obtain ⟨x, hx, rfl⟩ := List.mem_map.1 h
 exact D.loc.id x hx
theorem Doc0.inj (D : Doc0 root next l) {x y : S88} (hx : x ∈ l) (hy : y ∈ l) (h : x.f0 = y.f0) : x = y := by
 obtain ⟨i, hi, rfl⟩ := List.getElem_of_mem hx
 obtain ⟨j, hj, rfl⟩ := List.getElem_of_mem hy
 have e := loc_inj D.loc hi hj (by rw [List.getD_eq_getElem?_getD, List.getD_eq_getElem?_getD, List.getElem?_eq_getElem hi, List.getElem?_eq_getElem hj]; exact h)
 subst e
 rfl
theorem Doc0.flat_ids (D : Doc0 root next l) {c : Int} (h : c ∈ flat l) : c ∈ ids l := by
 obtain ⟨x, hx, hc⟩ := List.mem_flatMap.1 h
 exact D.clo x hx c hc
theorem Doc0.par_ids (D : Doc0 root next l) (id : Int) : (par l id = 0 ∧ id ∉ flat l) ∨ par l id ∈ ids l := by
 rcases par_cases l id with h | ⟨x, hx, _, h⟩
 ·exact .inl h
 ·exact .inr (h ▸ List.mem_map.2 ⟨x, hx, rfl⟩)
theorem Doc0.par_root (D : Doc0 root next l) : par l root = 0 := par_none D.free
theorem Doc0.par_zero (D : Doc0 root next l) : par l 0 = 0 := par_none (fun h => by have := D.pos (D.flat_ids h); omega)
theorem Doc0.up_zero (D : Doc0 root next l) (m : Nat) : up l m 0 = 0 := by
 induction m with
 | zero => rfl
 | succ m ih => rw [up, D.par_zero, ih]
theorem up_add (l : List S88) (a b : Nat) (id : Int) : up l (a + b) id = up l b (up l a id) := by
 induction a generalizing id with
 | zero => rw [Nat.zero_add]; rfl
 | succ a ih => rw [Nat.succ_add, up, up, ih]
theorem Doc0.kid_count (D : Doc0 root next l) {p : Int} (hp : p ∈ ids l) (a : Int) : (kd l p).count a = if par l a = p then 1 else 0 := by
 obtain ⟨i, hi, e1, hm, e2, _⟩ := nd_mem hp
 by_cases h : a ∈ kd l p
 ·have e := par_of D.once hm h
  rw [e2] at e
  rw [if_pos e]
  have hn : (kd l p).Nodup := kids_nodup D.once hm
  exact (List.Nodup.count hn).trans (if_pos h)
 ·rw [List.count_eq_zero_of_not_mem h]
  rw [if_neg]
  intro e
  rcases par_cases l a with ⟨h1, _⟩ | ⟨x, hx, h1, h2⟩
  ·have := D.pos hp; omega
  ·have := D.inj hx hm (by rw [← h2, e, e2])
   subst this
   exact h h1
def Lv (l : List S88) : Nat → Int → List Int
 | 0, id => [id]
 | m + 1, id => (Lv l m id).flatMap (kd l)
theorem Lv_top (l : List S88) (m : Nat) (id : Int) : Lv l (m + 1) id = (kd l id).flatMap (Lv l m) := by
 induction m with
 | zero =>
  rw [Lv, Lv, List.flatMap_cons, List.flatMap_nil, List.append_nil]
  have : ∀ cs : List Int, cs.flatMap (Lv l 0) = cs := fun cs => by
   induction cs with
   | nil => rfl
   | cons c cs ih => rw [List.flatMap_cons, ih]; rfl
  exact (this _).symm
 | succ m ih =>
  rw [Lv, ih, List.flatMap_assoc]
  rfl
theorem Lv_ids (hc : Clo l) {m : Nat} {id : Int} (h : id ∈ ids l) : ∀ c ∈ Lv l m id, c ∈ ids l := by
 induction m with
 | zero =>
  intro c hc'
  rw [List.mem_singleton.1 hc']
  exact h
 | succ m ih =>
  intro c hc'
  obtain ⟨p, hp, hc'⟩ := List.mem_flatMap.1 hc'
  exact kd_ids hc (ih p hp) hc'
theorem Doc0.Lv_count (D : Doc0 root next l) (m : Nat) (a : Int) : (Lv l m root).count a = if up l m a = root then 1 else 0 := by
 induction m generalizing a with
 | zero =>
  rw [Lv, up, List.count_cons, List.count_nil]
  by_cases h : a = root
  ·subst h; simp
  ·rw [if_neg h, if_neg (by simpa using fun e => h e.symm)]
 | succ m ih =>
  rw [Lv, count_flat]
  have : (Lv l m root).map (fun c => (kd l c).count a) = (Lv l m root).map (fun c => if par l a = c then 1 else 0) :=
   List.map_congr_left (fun c hc => D.kid_count (Lv_ids D.clo D.rin c hc) a)
  rw [this, sum_eq_count, ih]
  rfl
theorem Doc0.up_once (D : Doc0 root next l) {id : Int} : ∀ a b, up l a id = root → up l b id = root → a = b := by
 have hr := D.pos D.rin
 have key : ∀ a d, up l a id = root → up l (a + (d + 1)) id = root → False := by
  intro a d h1 h2
  rw [up_add, h1, up, D.par_root, D.up_zero] at h2
  omega
 intro a b h1 h2
 rcases Nat.lt_trichotomy a b with h | h | h
 ·exact (key a (b - a - 1) h1 (by rw [show a + (b - a - 1 + 1) = b from by omega]; exact h2)).elim
 ·exact h
 ·exact (key b (a - b - 1) h2 (by rw [show b + (a - b - 1 + 1) = a from by omega]; exact h1)).elim
theorem ord_count (l : List S88) (n : Nat) (x a : Int) : (ordF l n x).count a = sumN n (fun m => (Lv l m x).count a) := by
 induction n generalizing x with
 | zero => rfl
 | succ n ih =>
  rw [ordF, sumN, List.count_cons, count_flat]
  have : (kd l x).map (fun c => (ordF l n c).count a) = (kd l x).map (fun c => sumN n (fun m => (Lv l m c).count a)) := List.map_congr_left (fun c _ => ih c)
  rw [this, sumN_list]
  have e : sumN n (fun m => ((kd l x).map (fun c => (Lv l m c).count a)).sum) = sumN n (fun m => (Lv l (m + 1) x).count a) := sumN_congr (fun m _ => by rw [Lv_top, count_flat])
  rw [e, Lv, List.count_cons, List.count_nil]
  omega
theorem len_flat (f : Int → List Int) (cs : List Int) : (cs.flatMap f).length = (cs.map (fun c => (f c).length)).sum := by
 induction cs with
 | nil => rfl
 | cons c cs ih => rw [List.flatMap_cons, List.length_append, List.map_cons, List.sum_cons, ih]
theorem ord_length (l : List S88) (n : Nat) (x : Int) : (ordF l n x).length = sumN n (fun m => (Lv l m x).length) := by
 induction n generalizing x with
 | zero => rfl
 | succ n ih =>
  rw [ordF, sumN, List.length_cons, len_flat]
  have : (kd l x).map (fun c => (ordF l n c).length) = (kd l x).map (fun c => sumN n (fun m => (Lv l m c).length)) := List.map_congr_left (fun c _ => ih c)
  rw [this, sumN_list]
  have e : sumN n (fun m => ((kd l x).map (fun c => (Lv l m c).length)).sum) = sumN n (fun m => (Lv l (m + 1) x).length) := sumN_congr (fun m _ => by rw [Lv_top, len_flat])
  rw [e, Lv, List.length_singleton]
  omega
theorem Doc0.ord_at (D : Doc0 root next l) (n : Nat) (a : Int) : (ordF l n root).count a = if ∃ m, m < n ∧ up l m a = root then 1 else 0 := by
 rw [ord_count]
 rw [sumN_congr (fun m _ => D.Lv_count m a)]
 exact sumN_one n (fun m => up l m a = root) D.up_once
theorem Doc0.ord_mem (D : Doc0 root next l) (n : Nat) (a : Int) : a ∈ ordF l n root ↔ ∃ m, m < n ∧ up l m a = root := by
 rw [← List.count_pos_iff, D.ord_at]
 split
 ·rename_i h; exact ⟨fun _ => h, fun _ => by omega⟩
 ·rename_i h; exact ⟨fun g => by omega, fun g => absurd g h⟩
theorem Doc0.ord_nodup (D : Doc0 root next l) (n : Nat) : (ordF l n root).Nodup := by
 rw [List.nodup_iff_count]
 intro a
 rw [D.ord_at]
 split <;> omega
theorem Doc0.ids_nodup (D : Doc0 root next l) : (ids l).Nodup := by
 unfold ids
 rw [List.nodup_iff_pairwise_ne, List.pairwise_map, List.pairwise_iff_getElem]
 intro i j hi hj hij
 have := D.loc.rise i j hij hj
 rw [List.getD_eq_getElem?_getD, List.getD_eq_getElem?_getD, List.getElem?_eq_getElem hi, List.getElem?_eq_getElem hj] at this
 simp only [Option.getD_some] at this
 omega
theorem ordF_ids (hc : Clo l) {n : Nat} {id : Int} (h : id ∈ ids l) : ∀ c ∈ ordF l n id, c ∈ ids l := by
 induction n generalizing id with
 | zero => intro c hc'; cases hc'
 | succ n ih =>
  intro c hc'
  rcases List.mem_cons.1 hc' with e | hc'
  ·subst e; exact h
  ·obtain ⟨p, hp, hc'⟩ := List.mem_flatMap.1 hc'
   exact ih (kd_ids hc h hp) c hc'
theorem nodup_len {A B : List Int} (hA : A.Nodup) (h : ∀ a ∈ A, a ∈ B) : A.length ≤ B.length := by
 induction A generalizing B with
 | nil => simp
 | cons a A ih =>
  obtain ⟨hna, hA⟩ := List.nodup_cons.1 hA
  have hb := h a List.mem_cons_self
  have := ih hA (B := B.erase a) (fun c hc => by
   have hne : c ≠ a := fun e => hna (e ▸ hc)
   exact (List.mem_erase_of_ne hne).2 (h c (List.mem_cons_of_mem _ hc)))
  rw [List.length_erase_of_mem hb] at this
  have := List.length_pos_of_mem hb
  simp only [List.length_cons]
  omega
theorem nodup_all {A B : List Int} (hA : A.Nodup) (h : ∀ a ∈ A, a ∈ B) (hl : B.length ≤ A.length) : ∀ b ∈ B, b ∈ A := by
 intro b hb
 apply Classical.byContradiction
 intro hn
 have := nodup_len hA (B := B.erase b) (fun c hc => (List.mem_erase_of_ne (fun e : c = b => hn (e ▸ hc))).2 (h c hc))
 rw [List.length_erase_of_mem hb] at this
 have := List.length_pos_of_mem hb
 omega
theorem Lv_nil {n : Nat} {x : Int} (h : dp l n x ≤ n) : Lv l n x = [] := by
 induction n generalizing x with
 | zero => have := (dp_bound l 0 x).1; omega
 | succ n ih =>
  rw [Lv_top]
  have hk := dp_kid h
  have : ∀ cs : List Int, (∀ c ∈ cs, dp l n c ≤ n) → cs.flatMap (Lv l n) = [] := fun cs => by
   induction cs with
   | nil => intro _; rfl
   | cons c cs ih2 =>
    intro h2
    rw [List.flatMap_cons, ih (h2 c List.mem_cons_self), ih2 (fun d hd => h2 d (List.mem_cons_of_mem _ hd))]
    rfl
  exact this _ hk
theorem Lv_nil_more {n : Nat} {x : Int} (h : Lv l n x = []) (d : Nat) : Lv l (n + d) x = [] := by
 induction d with
 | zero => exact h
 | succ d ih => rw [← Nat.add_assoc, Lv, ih]; rfl
theorem Doc0.up_lt (D : Doc0 root next l) {n : Nat} (h : dp l n root ≤ n) {m : Nat} {a : Int} (hu : up l m a = root) : m < n := by
 apply Classical.byContradiction
 intro g
 have e := Lv_nil_more (Lv_nil h) (m - n)
 rw [show n + (m - n) = m from by omega] at e
 have := D.Lv_count m a
 rw [e, if_pos hu] at this
 simp at this
theorem Doc0.cl_iff (D : Doc0 root next l) (M : Nat) (id : Int) (h : 1 ≤ id) : cl l root M id = true ↔ ∃ m, m ≤ M ∧ up l m id = root := by
 have hr := D.pos D.rin
 induction M generalizing id with
 | zero =>
  rw [cl, decide_eq_true_eq]
  constructor
  ·intro e; exact ⟨0, by omega, e⟩
  ·rintro ⟨m, hm, e⟩
   obtain rfl : m = 0 := by omega
   exact e
 | succ M ih =>
  rw [cl]
  by_cases e : id = root
  ·rw [if_pos e]
   exact ⟨fun _ => ⟨0, by omega, e⟩, fun _ => rfl⟩
  ·rw [if_neg e, if_pos (by omega)]
   rcases D.par_ids id with ⟨h0, _⟩ | h0
   ·rw [h0]
    constructor
    ·intro hcl
     cases M with
     | zero => rw [cl, decide_eq_true_eq] at hcl; omega
     | succ M => rw [cl, if_neg (by omega), if_neg (by omega)] at hcl; cases hcl
    ·rintro ⟨m, hm, hu⟩
     cases m with
     | zero => exact absurd hu e
     | succ m => rw [up, h0, D.up_zero] at hu; omega
   ·refine (ih _ (D.pos h0).1).trans ?_
    constructor
    ·rintro ⟨m, hm, hu⟩; exact ⟨m + 1, by omega, hu⟩
    ·rintro ⟨m, hm, hu⟩
     cases m with
     | zero => exact absurd hu e
     | succ m => exact ⟨m, by omega, hu⟩
theorem Doc0.reach (D : Doc0 root next l) (hd : dp l 6 root ≤ 6) : l.all (fun x => cl l root (l.length + 1) x.f0) = decide ((ordF l 6 root).length = l.length) := by
 have hlen : (ids l).length = l.length := by unfold ids; rw [List.length_map]
 apply Bool.eq_iff_iff.2
 rw [List.all_eq_true, decide_eq_true_eq]
 constructor
 ·intro h
  have h1 : ∀ a ∈ ids l, a ∈ ordF l 6 root := by
   intro a ha
   obtain ⟨x, hx, rfl⟩ := List.mem_map.1 ha
   obtain ⟨m, _, hu⟩ := (D.cl_iff _ _ (D.pos ha).1).1 (h x hx)
   exact (D.ord_mem 6 _).2 ⟨m, D.up_lt hd hu, hu⟩
  have h2 := nodup_len D.ids_nodup h1
  have h3 := nodup_len (D.ord_nodup 6) (ordF_ids D.clo D.rin)
  omega
 ·intro h x hx
  have hx' : x.f0 ∈ ids l := List.mem_map.2 ⟨x, hx, rfl⟩
  have hm := nodup_all (D.ord_nodup 6) (ordF_ids D.clo D.rin) (by omega) _ hx'
  obtain ⟨m, hm6, hu⟩ := (D.ord_mem 6 _).1 hm
  refine (D.cl_iff _ _ (D.pos hx').1).2 ⟨m, ?_, hu⟩
  have h1 := sumN_ge 6 m (fun j => (Lv l j root).length) (fun j hj => by
   have hc := D.Lv_count j (up l (m - j) x.f0)
   rw [← up_add, show m - j + j = m from by omega, if_pos hu] at hc
   exact List.length_pos_of_mem (List.count_pos_iff.1 (by omega : 0 < (Lv l j root).count (up l (m - j) x.f0)))) hm6
  rw [← ord_length] at h1
  omega
end
end Go.Proofs.Ytfemohapampkiaa.Pure
namespace Go.Proofs.Ytfemohapampkiaa.Pure
set_option linter.unusedVariables false
set_option linter.unusedSimpArgs false
open Go.RowKit Go.Proofs.Ytfemohapampkiaa.XA Go.Proofs.Ytfemohapampkiaa.Pk Go.Proofs.YtfemohapampkiaaW.PrintWords Go.Proofs.YtfemohapampkiaaW.PrintLast Go.Proofs.YtfemohapampkiaaW.PrintMore
def docB (root next : Int) (l : List S88) : Bool :=
 decide (1 ≤ l.length ∧ l.length ≤ 40) && (decide (2 ≤ next ∧ next ≤ 999999) && (nodesG root next l l.length 0 [] && (decide (dp l 6 root ≤ 6) && l.all (fun x => cl l root (l.length + 1) x.f0))))
theorem doc0_of {root next : Int} {l : List S88} (hn : 2 ≤ next ∧ next ≤ 999999) (hl : 1 ≤ l.length ∧ l.length ≤ 40) (h : nodesG root next l l.length 0 [] = true) : Doc0 root next l := by
 rw [nodesG_eq, Bool.and_eq_true] at h
 obtain ⟨h1, h2⟩ := h
 rw [kidsM_eq root l l.length 0 (by omega), List.drop_zero] at h2
 cases hk : kidsB root (ids l) (l.flatMap fun x => x.f4) [] with
 | none => rw [hk] at h2; cases h2
 | some s =>
  rw [hk] at h2
  obtain ⟨g1, g2, g3⟩ := kidsB_some _ _ _ _ _ hk List.nodup_nil
  rw [List.nil_append] at g1 g3
  subst g1
  have h2 := of_decide_eq_true h2
  refine ⟨loc_of next l hn h1, fun x hx c hc => (g2 c (List.mem_flatMap.2 ⟨x, hx, hc⟩)).2, h2.2, fun g => (g2 root g).1 rfl, g3, ?_, hl⟩
  have := h2.1
  unfold flat
  omega
structure Doc1 (root next : Int) (l : List S88) : Prop extends Doc0 root next l where
 deep : dp l 6 root ≤ 6
 all : (ordF l 6 root).length = l.length
theorem doc1_of {root next : Int} {l : List S88} (h : docB root next l = true) : Doc1 root next l := by
 simp only [docB, Bool.and_eq_true, decide_eq_true_eq] at h
 obtain ⟨h1, h2, h3, h4, h5⟩ := h
 have D := doc0_of h2 h1 h3
 rw [D.reach h4, decide_eq_true_eq] at h5
 exact ⟨D, h4, h5⟩
theorem spec_ok {root next : Int} {l : List S88} (hl : docSm l) : Ev (fun k => spec_l02OK.f k root next l) (docB root next l) := by
 refine Ev.use (tin_eq _ _ _) ?_
 unfold docB
 by_cases h1 : 1 ≤ l.length ∧ l.length ≤ 40
 ·refine Ev.pos (decide_eq_true (by omega)) (Ev.use (tin_eq _ _ _) ?_)
  rw [decide_eq_true h1, Bool.true_and]
  by_cases h2 : 2 ≤ next ∧ next ≤ 999999
  ·refine Ev.pos (decide_eq_true h2) (Ev.bind (spec_nodes l root next h2 hl (by omega)) ?_)
   rw [decide_eq_true h2, Bool.true_and]
   cases h3 : nodesG root next l l.length 0 []
   ·exact Ev.neg (by decide) (Ev.now _)
   ·have D := doc0_of h2 h1 h3
    refine Ev.pos rfl (Ev.bind (spec_reach root next hl) ?_)
    rw [Bool.true_and]
    cases h4 : l.all (fun x => cl l root (l.length + 1) x.f0)
    ·refine Ev.neg (by decide) ?_
     rw [Bool.and_false]
     exact Ev.now _
    ·refine Ev.pos rfl (Ev.bind (spec_deep root next hl D.clo 6 (by omega) root D.rin) ?_)
     rw [Bool.and_true]
     exact Ev.now _
  ·refine Ev.neg (ndec h2) ?_
   rw [decide_eq_false h2, Bool.false_and]
   exact Ev.now _
 ·refine Ev.neg (ndec (by omega)) ?_
  rw [decide_eq_false h1, Bool.false_and]
  exact Ev.now _
def mp (s : List Int) : List (Int × Bool) := s.map (fun c => (c, true))
theorem get_mp (s : List Int) (c : Int) : XM.get false (mp s) c = decide (c ∈ s) := by
 induction s with
 | nil => rfl
 | cons a s ih =>
  rw [show mp (a :: s) = (a, true) :: mp s from rfl, XM.get]
  by_cases h : c = a
  ·rw [if_pos h, decide_eq_true (by rw [h]; exact List.mem_cons_self)]
  ·rw [if_neg h, ih]
   exact decide_eq_decide.2 ⟨fun g => List.mem_cons_of_mem _ g, fun g => (List.mem_cons.1 g).resolve_left h⟩
theorem put_mp (s : List Int) (c : Int) (h : c ∉ s) : XM.put (mp s) c true = mp (s ++ [c]) := by
 induction s with
 | nil => rfl
 | cons a s ih =>
  rw [show mp (a :: s) = (a, true) :: mp s from rfl, XM.put, if_neg (fun e => h (by rw [e]; exact List.mem_cons_self)), ih (fun g => h (List.mem_cons_of_mem _ g))]
  rfl
theorem len_mp (s : List Int) : (mp s).length = s.length := List.length_map _
section
variable {root next : Int} {l : List S88}
def finI (root : Int) (l : List S88) (s : List Int) : Bool := if root ∈ ids l ∧ (s.length : Int) = (l.length : Int) - 1 then (if dp l 6 root > 6 then false else decide ((ordF l 6 root).length = l.length)) else false
def secI (root : Int) (l : List S88) : Bool := match kidsM root l l.length 0 [] with | none => false | some s => finI root l s
theorem impl_tail (x : S88) (J : Nat → Bool → Option Bool) (V : Bool) (hT : Ev (fun k => J k true) false) (hF : Ev (fun k => J k false) V) :
  Ev (fun k => (impl_within.f x.f1 1 8).bind fun t => (if t = true then ((impl_within.f x.f2 0 99).bind fun u => (if u = true then (if (x.f3.size : Int) > 20 then (J k true) else (J k (decide ((x.f4.length : Int) > 12)))) else (J k true))) else (J k true)))
   (if (1 ≤ x.f1 ∧ x.f1 ≤ 8) ∧ (0 ≤ x.f2 ∧ x.f2 ≤ 99) ∧ x.f3.size ≤ 20 ∧ x.f4.length ≤ 12 then V else false) := by
 refine Ev.use (twithin_eq _ _ _) ?_
 by_cases h1 : 1 ≤ x.f1 ∧ x.f1 ≤ 8
 ·refine Ev.pos (decide_eq_true h1) (Ev.use (twithin_eq _ _ _) ?_)
  by_cases h2 : 0 ≤ x.f2 ∧ x.f2 ≤ 99
  ·refine Ev.pos (decide_eq_true h2) ?_
   by_cases h3 : x.f3.size ≤ 20
   ·refine Ev.neg (by omega) ?_
    by_cases h4 : x.f4.length ≤ 12
    ·rw [if_pos ⟨h1, h2, h3, h4⟩, decide_eq_false (by omega)]
     exact hF
    ·rw [if_neg (fun g => h4 g.2.2.2), decide_eq_true (by omega)]
     exact hT
   ·rw [if_neg (fun g => h3 g.2.2.1)]
    exact Ev.pos (by omega) hT
  ·rw [if_neg (fun g => h2 g.2.1)]
   exact Ev.neg (ndec h2) hT
 ·rw [if_neg (fun g => h1 g.1)]
  exact Ev.neg (ndec h1) hT
theorem impl_first (hl : docSm l) (hn : 2 ≤ next ∧ next ≤ 999999) (V : Bool) (hV : Loc next l → Ev (fun k => impl_DocOK.l1 k l l.length 0 root next l ([] : List (Int × Bool))) V) :
  Ev (fun k => impl_DocOK.l0 k l l.length 0 root next l) (locG next l l.length 0 && V) := by
 have hl' := hl.1
 have w1 : wrap64 (next - 1) = next - 1 := wrap_id _ (by omega) (by omega)
 refine idx_loop l.length (fun i (_ : Unit) => ∀ j, j < i → nodeB next (l.getD j z88) = true ∧ ordB l j = true) (fun m i _ => locG next l m i && V) (fun k i _ => impl_DocOK.l0 k l l.length i root next l) ?_ ?_ () (fun j hj => by omega)
 ·intro m i _ hi hI hr
  refine Ev.step (fun k => by rw [impl_DocOK.l0]) ?_
  refine Ev.pos (by omega) (Ev.pos (by omega) (Ev.pos (by omega) (Ev.use (twithin_eq _ _ _) ?_)))
  rw [w1]
  have hT : Ev (fun k => impl_DocOK.j2 k l l.length i true root next l) false := Ev.step (fun k => by rw [impl_DocOK.j2]) (Ev.pos rfl (Ev.now _))
  have hF : ∀ W : Bool, Ev (fun k => impl_DocOK.l0 k l l.length ((i : Int) + 1) root next l) W → Ev (fun k => impl_DocOK.j2 k l l.length i false root next l) W := fun W hW =>
   Ev.step (fun k => by rw [impl_DocOK.j2]) (Ev.neg (by decide) (by simp only [wrap_suc i (by omega)]; exact hW))
  have tail : ordB l i = true → (1 ≤ (l.getD i z88).f0 ∧ (l.getD i z88).f0 ≤ next - 1) → Ev (fun k => (impl_within.f (l.getD i z88).f1 1 8).bind fun t => (if t = true then ((impl_within.f (l.getD i z88).f2 0 99).bind fun u => (if u = true then (if ((l.getD i z88).f3.size : Int) > 20 then (impl_DocOK.j2 k l l.length i true root next l) else (impl_DocOK.j2 k l l.length i (decide (((l.getD i z88).f4.length : Int) > 12)) root next l)) else (impl_DocOK.j2 k l l.length i true root next l))) else (impl_DocOK.j2 k l l.length i true root next l))) (locG next l (m + 1) i && V) := by
   intro h0 h1
   rw [locG, h0]
   by_cases hb : nodeB next (l.getD i z88) = true
   ·have hg := impl_tail (l.getD i z88) (fun k b => impl_DocOK.j2 k l l.length i b root next l) (locG next l m (i + 1) && V) hT (hF _ (hr () (fun j hj => by
     by_cases e : j = i
     ·subst e; exact ⟨hb, h0⟩
     ·exact hI j (by omega))))
    have hb' := (nodeB_iff _ _).1 hb
    rw [if_pos hb'.2] at hg
    rw [hb, Bool.true_and, Bool.true_and]
    exact hg
   ·have hg := impl_tail (l.getD i z88) (fun k b => impl_DocOK.j2 k l l.length i b root next l) true hT
    have hb' : nodeB next (l.getD i z88) = false := by simpa using hb
    rw [hb', Bool.false_and, Bool.false_and, Bool.false_and]
    have hn' := mt (nodeB_iff next (l.getD i z88)).2 hb
    have hn'' : ¬ ((1 ≤ (l.getD i z88).f1 ∧ (l.getD i z88).f1 ≤ 8) ∧ (0 ≤ (l.getD i z88).f2 ∧ (l.getD i z88).f2 ≤ 99) ∧ (l.getD i z88).f3.size ≤ 20 ∧ (l.getD i z88).f4.length ≤ 12) := fun g => hn' ⟨h1, g⟩
    refine Ev.use (twithin_eq _ _ _) ?_
    by_cases g1 : 1 ≤ (l.getD i z88).f1 ∧ (l.getD i z88).f1 ≤ 8
    ·refine Ev.pos (decide_eq_true g1) (Ev.use (twithin_eq _ _ _) ?_)
     by_cases g2 : 0 ≤ (l.getD i z88).f2 ∧ (l.getD i z88).f2 ≤ 99
     ·refine Ev.pos (decide_eq_true g2) ?_
      by_cases g3 : (l.getD i z88).f3.size ≤ 20
      ·refine Ev.neg (by omega) ?_
       have h12 : ¬ (l.getD i z88).f4.length ≤ 12 := fun g4 => hn'' ⟨g1, g2, g3, g4⟩
       rw [decide_eq_true (by omega)]
       exact hT
      ·exact Ev.pos (by omega) hT
     ·exact Ev.neg (ndec g2) hT
    ·exact Ev.neg (ndec g1) hT
  by_cases h1 : 1 ≤ (l.getD i z88).f0 ∧ (l.getD i z88).f0 ≤ next - 1
  ·refine Ev.pos (decide_eq_true h1) ?_
   by_cases h2 : i = 0
   ·exact Ev.neg (by omega) (tail (decide_eq_true (.inl h2)) h1)
   ·have e : wrap64 ((i : Int) - 1) = ((i - 1 : Nat) : Int) := by rw [wrap_id _ (by omega) (by omega)]; omega
    simp only [e]
    refine Ev.pos (by omega) (Ev.pos (by omega) (Ev.pos (by omega) ?_))
    rw [rd_nat, rd_nat]
    by_cases h3 : (l.getD (i - 1) z88).f0 < (l.getD i z88).f0
    ·exact Ev.neg (by omega) (tail (decide_eq_true (.inr h3)) h1)
    ·refine Ev.pos (by omega) ?_
     rw [locG, show ordB l i = false from decide_eq_false (fun g => g.elim h2 h3), Bool.and_false, Bool.false_and, Bool.false_and]
     exact hT
  ·refine Ev.neg (ndec h1) ?_
   rw [locG, show nodeB next (l.getD i z88) = false from by
    have := mt (nodeB_iff next (l.getD i z88)).1 (fun g => h1 g.1)
    simpa using this, Bool.false_and, Bool.false_and, Bool.false_and]
   exact hT
 ·intro _ hI
  refine Ev.step (fun k => by rw [impl_DocOK.l0]) ?_
  refine Ev.neg (by omega) ?_
  rw [locG, Bool.true_and]
  exact hV (loc_of next l hn ((locG_iff next l l.length 0).2 (fun j _ hj => hI j (by omega))))
theorem impl_kids (hl : docSm l) (hL : Loc next l) (i : Nat) (hi : i < l.length) (x : S88) (hx : x.f4.length ≤ 1048576) (hxI : ∀ c ∈ x.f4, i64 c) (s : List Int) (c : List Int → Bool)
  (hc : ∀ s', kidsB root (ids l) x.f4 s = some s' → Ev (fun k => impl_DocOK.l1 k l l.length ((i : Int) + 1) root next l (mp s')) (c s')) :
  Ev (fun k => impl_DocOK.l2 k l l.length i x.f4 x.f4.length 0 root next l (mp s)) (match kidsB root (ids l) x.f4 s with | none => false | some s' => c s') := by
 have hl' := hl.1
 refine list_loop x.f4 0 (fun j s' => kidsB root (ids l) x.f4 s = kidsB root (ids l) (x.f4.drop j) s') (fun cs s' => match kidsB root (ids l) cs s' with | none => false | some s' => c s') (fun k j s' => impl_DocOK.l2 k l l.length i x.f4 x.f4.length j root next l (mp s')) ?_ ?_ s rfl
 ·intro j s' hj hs' hr
  have ed : x.f4.drop j = x.f4.getD j 0 :: x.f4.drop (j + 1) := by
   rw [List.getD_eq_getElem?_getD, List.getElem?_eq_getElem (by omega), Option.getD_some]
   exact List.drop_eq_getElem_cons (by omega)
  rw [ed] at hs'
  refine Ev.step (fun k => by rw [impl_DocOK.l2]) ?_
  refine Ev.pos (by omega) (Ev.pos (by omega) (Ev.pos (by omega) ?_))
  rw [get_mp]
  show Ev (fun k => if decide (x.f4.getD j 0 ∈ s') = true then _ else _) (match (if x.f4.getD j 0 = root ∨ x.f4.getD j 0 ∈ s' ∨ x.f4.getD j 0 ∉ ids l then none else kidsB root (ids l) (x.f4.drop (j + 1)) (s' ++ [x.f4.getD j 0])) with | none => false | some s' => c s')
  have hT : Ev (fun k => impl_DocOK.j5 k (x.f4.getD j 0) l l.length i x.f4 x.f4.length j true root next l (mp s')) false := Ev.step (fun k => by rw [impl_DocOK.j5]) (Ev.pos rfl (Ev.now _))
  by_cases h2 : x.f4.getD j 0 ∈ s'
  ·rw [if_pos (.inr (.inl h2))]
   exact Ev.pos (decide_eq_true h2) hT
  refine Ev.neg (ndec h2) ?_
  by_cases h1 : x.f4.getD j 0 = root
  ·rw [if_pos (.inl h1)]
   exact Ev.pos h1 hT
  refine Ev.neg h1 (Ev.bind (impl_has hl hL root next _ (hxI _ (getD_mem _ _ j hj))) ?_)
  by_cases h3 : x.f4.getD j 0 ∈ ids l
  ·rw [if_neg (fun h => h.elim h1 (fun h => h.elim h2 (fun h => h h3)))]
   refine Ev.step (fun k => by rw [impl_DocOK.j5]) ?_
   refine Ev.neg (by rw [show rd x.f4 (j : Int) = x.f4.getD j 0 from rfl, decide_eq_true h3]; decide) ?_
   simp only [wrap_suc j (by omega)]
   rw [show rd x.f4 (j : Int) = x.f4.getD j 0 from rfl, put_mp _ _ h2]
   refine hr _ ?_
   rw [hs', kidsB, if_neg (fun h => h.elim h1 (fun h => h.elim h2 (fun h => h h3)))]
  ·rw [if_pos (.inr (.inr h3))]
   rw [show decide (rd x.f4 (j : Int) ∈ ids l) = false from decide_eq_false h3]
   exact hT
 ·intro s' hs'
  rw [List.drop_length] at hs'
  refine Ev.step (fun k => by rw [impl_DocOK.l2]) ?_
  refine Ev.neg (by omega) ?_
  simp only [wrap_suc i (by omega)]
  exact hc s' hs'
theorem impl_second (hl : docSm l) (hI : docI l) (hr : i64 root) (hL : Loc next l) (h0 : 1 ≤ l.length ∧ l.length ≤ 40) : Ev (fun k => impl_DocOK.l1 k l l.length 0 root next l (mp [])) (secI root l) := by
 have hl' := hl.1
 refine idx_loop l.length (fun i s => ∀ m, i + m = l.length → kidsM root l l.length 0 [] = kidsM root l m i s) (fun m i s => match kidsM root l m i s with | none => false | some s => finI root l s) (fun k i s => impl_DocOK.l1 k l l.length i root next l (mp s)) ?_ ?_ [] (fun m hm => by rw [show m = l.length from by omega])
 ·intro m i s hi hs hr'
  refine Ev.step (fun k => by rw [impl_DocOK.l1]) ?_
  refine Ev.pos (by omega) (Ev.pos (by omega) (Ev.pos (by omega) ?_))
  have hm := getD_mem l z88 i (by omega)
  have hg := impl_kids (root := root) hl hL i (by omega) (l.getD i z88) (hl.2 _ hm) (hI _ hm).2 s (fun s' => match kidsM root l m (i + 1) s' with | none => false | some s => finI root l s) (fun s' hs' => hr' s' (fun m' hm' => by
   obtain rfl : m' = m := by omega
   rw [hs (m' + 1) (by omega), kidsM, hs']
   rfl))
  have e : (match kidsM root l (m + 1) i s with | none => false | some s => finI root l s) = (match kidsB root (ids l) (l.getD i z88).f4 s with | none => false | some s' => (match kidsM root l m (i + 1) s' with | none => false | some s => finI root l s)) := by
   rw [kidsM]
   cases kidsB root (ids l) (l.getD i z88).f4 s <;> rfl
  rw [e]
  exact hg
 ·intro s hs
  refine Ev.step (fun k => by rw [impl_DocOK.l1]) ?_
  refine Ev.neg (by omega) (Ev.bind (impl_has hl hL root next root hr) ?_)
  show Ev _ (finI root l s)
  have hJ : Ev (fun k => impl_DocOK.j6 k true root next l) false := Ev.step (fun k => by rw [impl_DocOK.j6]) (Ev.pos rfl (Ev.now _))
  unfold finI
  by_cases h1 : root ∈ ids l
  ·refine Ev.pos (decide_eq_true h1) ?_
   rw [len_mp, wrap_id _ (by omega) (by omega)]
   by_cases h2 : (s.length : Int) = (l.length : Int) - 1
   ·rw [if_pos ⟨h1, h2⟩]
    have hk := hs 0 (by omega)
    rw [kidsM_eq root l l.length 0 (by omega), List.drop_zero] at hk
    obtain ⟨_, g2, _⟩ := kidsB_some _ _ _ _ _ hk List.nodup_nil
    have hc : Clo l := fun x hx c hc => (g2 c (List.mem_flatMap.2 ⟨x, hx, hc⟩)).2
    refine Ev.pos h2 (Ev.bind (impl_deep root hl hL hI hc h1) ?_)
    by_cases h3 : dp l 6 root > 6
    ·rw [if_pos h3, decide_eq_true h3]
     exact hJ
    ·rw [if_neg h3, decide_eq_false h3]
     refine Ev.step (fun k => by rw [impl_DocOK.j6]) ?_
     refine Ev.neg (by decide) (Ev.bind (impl_order root hl hL hI hc 6 root h1 (by omega) [] (by decide)) ?_)
     rw [List.nil_append]
     rw [show (((ordF l 6 root).length : Int) == (l.length : Int)) = decide ((ordF l 6 root).length = l.length) from by
      rw [Bool.eq_iff_iff, beq_iff_eq, decide_eq_true_eq]; omega]
     exact Ev.now _
   ·rw [if_neg (fun g => h2 g.2)]
    exact Ev.neg h2 hJ
  ·rw [if_neg (fun g => h1 g.1)]
   exact Ev.neg (ndec h1) hJ
theorem impl_doc (hl : docSm l) (hI : docI l) (hr : i64 root) : Ev (fun k => impl_DocOK.f k root next l) (docB root next l) := by
 refine Ev.use (twithin_eq _ _ _) ?_
 have hJ : Ev (fun k => impl_DocOK.j0 k true root next l) false := Ev.step (fun k => by rw [impl_DocOK.j0]) (Ev.pos rfl (Ev.now _))
 unfold docB
 by_cases h1 : 1 ≤ l.length ∧ l.length ≤ 40
 ·refine Ev.pos (decide_eq_true (by omega)) (Ev.use (twithin_eq _ _ _) ?_)
  rw [decide_eq_true h1, Bool.true_and]
  by_cases h2 : 2 ≤ next ∧ next ≤ 999999
  ·rw [decide_eq_true h2, Bool.true_and]
   refine Ev.step (fun k => by rw [impl_DocOK.j0]) ?_
   refine Ev.neg (by decide) ?_
   have hg := impl_first (root := root) hl h2 (secI root l) (fun hL => impl_second hl hI hr hL h1)
   have e : (nodesG root next l l.length 0 [] && (decide (dp l 6 root ≤ 6) && l.all (fun x => cl l root (l.length + 1) x.f0))) = (locG next l l.length 0 && secI root l) := by
    cases hN : nodesG root next l l.length 0 []
    ·rw [nodesG_eq] at hN
     cases hG : locG next l l.length 0
     ·rfl
     ·rw [hG, Bool.true_and] at hN
      rw [Bool.false_and, Bool.true_and]
      unfold secI
      cases hk : kidsM root l l.length 0 [] with
      | none => rfl
      | some s =>
       rw [hk] at hN
       have hN := of_decide_eq_false hN
       show false = finI root l s
       unfold finI
       rw [if_neg (fun g => hN ⟨g.2, g.1⟩)]
    ·have D := doc0_of h2 h1 hN
     rw [nodesG_eq, Bool.and_eq_true] at hN
     rw [hN.1, Bool.true_and, Bool.true_and]
     unfold secI
     cases hk : kidsM root l l.length 0 [] with
     | none => rw [hk] at hN; exact absurd hN.2 (by simp)
     | some s =>
      rw [hk] at hN
      have hF := of_decide_eq_true hN.2
      show _ = finI root l s
      unfold finI
      rw [if_pos ⟨hF.2, hF.1⟩]
      by_cases h3 : dp l 6 root ≤ 6
      ·rw [decide_eq_true h3, Bool.true_and, if_neg (by omega), D.reach h3]
      ·rw [decide_eq_false h3, Bool.false_and, if_pos (by omega)]
   rw [e]
   exact hg
  ·rw [decide_eq_false h2, Bool.false_and]
   exact hJ
 ·rw [decide_eq_false h1, Bool.false_and]
  exact Ev.neg (ndec (by omega)) hJ
end
theorem i64_of {n : Int} (h : (Lit.int .i64 n).wf = true) : i64 n := by
 simp only [Lit.wf, Bool.and_eq_true] at h
 exact ⟨of_decide_eq_true h.1, of_decide_eq_true h.2⟩
theorem docSm_of (x : S24) (h : sm24 x) : docSm (x.f2.map cv138) := by
 obtain ⟨_, _, h1, h2⟩ := h
 refine ⟨by rw [List.length_map]; exact h1, fun y hy => ?_⟩
 obtain ⟨z, hz, rfl⟩ := List.mem_map.1 hy
 exact (h2 z hz).2.2.2.2
theorem docI_of (x : S24) (h : ok24 x) : docI (x.f2.map cv138) := by
 obtain ⟨_, _, _, h2⟩ := h
 intro y hy
 obtain ⟨z, hz, rfl⟩ := List.mem_map.1 hy
 obtain ⟨g0, _, _, _, _, g4⟩ := h2 z hz
 exact ⟨i64_of g0, fun c hc => i64_of (g4 c hc)⟩
end Go.Proofs.Ytfemohapampkiaa.Pure
namespace Go.Proofs.Ytfemohapampkiaa.Pure
set_option linter.unusedVariables false
open Go.RowKit Go.Proofs.Ytfemohapampkiaa.XA Go.Proofs.Ytfemohapampkiaa.Pk Go.Proofs.YtfemohapampkiaaW.PrintWords Go.Proofs.YtfemohapampkiaaW.PrintLast Go.Proofs.YtfemohapampkiaaW.PrintMore
theorem rin_eq (x lo hi : Int) : spec_l01In.f x lo hi = some (decide (lo ≤ x ∧ x ≤ hi)) := by
 unfold spec_l01In.f
 by_cases h : x ≥ lo
 ·rw [if_pos h]; exact congrArg some (decide_eq_decide.2 ⟨fun g => ⟨h, g⟩, fun g => g.2⟩)
 ·rw [if_neg h]; exact congrArg some (decide_eq_false fun g => h g.1).symm
theorem rwithin_eq (x lo hi : Int) : impl_within.f x lo hi = some (decide (lo ≤ x ∧ x ≤ hi)) := rin_eq x lo hi
def kindAt (n : Int) (l : List Int) (i : Nat) : Bool := decide (1 ≤ rd l i ∧ rd l i ≤ n) && (decide (i = 0) || decide (rd l ((i : Int) - 1) < rd l i))
def tOk (n : Int) (l : List Int) (m : Int) : Bool := decide (0 < l.length) && (decide (0 ≤ m ∧ m ≤ 3) && allN l.length (kindAt n l))
theorem rising (n : Int) (l : List Int) (h : allN l.length (kindAt n l) = true) : ∀ i : Nat, i < l.length → (i : Int) + 1 ≤ rd l i := by
 rw [allN_iff] at h
 intro i
 induction i with
 | zero =>
  intro hi
  have := h 0 hi
  unfold kindAt at this
  rw [Bool.and_eq_true, decide_eq_true_eq] at this
  have := this.1.1
  omega
 | succ i ih =>
  intro hi
  have h1 := ih (by omega)
  have := h (i + 1) hi
  unfold kindAt at this
  rw [Bool.and_eq_true, Bool.or_eq_true, decide_eq_true_eq, decide_eq_true_eq] at this
  rcases this.2 with h2 | h2
  ·omega
  ·have h2 := of_decide_eq_true h2
   rw [show ((i + 1 : Nat) : Int) - 1 = (i : Int) by omega] at h2
   omega
theorem rising_len (n : Int) (l : List Int) (h : allN l.length (kindAt n l) = true) (h0 : 0 < l.length) : (l.length : Int) ≤ n := by
 have h1 := rising n l h (l.length - 1) (by omega)
 rw [allN_iff] at h
 have := h (l.length - 1) (by omega)
 unfold kindAt at this
 rw [Bool.and_eq_true, decide_eq_true_eq] at this
 have := this.1.2
 omega
theorem term_spec (n : Int) (l : List Int) (m : Int) (hl : l.length ≤ 1048576) : Ev (fun k => spec_l03Term.f k l m n) (tOk n l m) := by
 have key : Ev (fun k => spec_l03Term.l0 k n 0 l m) (allN l.length (kindAt n l)) := by
  refine all_loop l.length _ (fun k i => spec_l03Term.l0 k n i l m) ?_ ?_ ?_
  ·intro i r hi hp hr
   unfold kindAt at hp
   rw [Bool.and_eq_true, Bool.or_eq_true, decide_eq_true_eq, decide_eq_true_eq] at hp
   obtain ⟨hin, hup⟩ := hp
   exact Ev.step (fun k => by
    show spec_l03Term.l0 (k + 1) n i l m = spec_l03Term.l0 k n ((i : Int) + 1) l m
    rw [spec_l03Term.l0, if_pos (by omega), if_pos (by omega), rin_eq, wrap_id ((i : Int) + 1) (by omega) (by omega)]
    simp only [Option.bind_some]
    rw [if_pos (decide_eq_true hin)]
    by_cases h0 : (i : Int) > 0
    ·rw [if_pos h0, wrap_id ((i : Int) - 1) (by omega) (by omega), if_pos (by omega), if_pos (by omega), if_neg (by
      rcases hup with h | h
      ·omega
      ·have := of_decide_eq_true h; omega)]
    ·rw [if_neg h0]) hr
  ·intro i hi hp
   exact Ev.step (fun k => by
    show spec_l03Term.l0 (k + 1) n i l m = some false
    rw [spec_l03Term.l0, if_pos (by omega), if_pos (by omega), rin_eq]
    simp only [Option.bind_some]
    unfold kindAt at hp
    by_cases hin : 1 ≤ rd l i ∧ rd l i ≤ n
    ·rw [decide_eq_true hin, Bool.true_and, Bool.or_eq_false_iff] at hp
     have h0 := of_decide_eq_false hp.1
     have h1 := of_decide_eq_false hp.2
     rw [if_pos (decide_eq_true hin), if_pos (by omega), wrap_id ((i : Int) - 1) (by omega) (by omega), if_pos (by omega), if_pos (by omega), if_pos (by omega)]
    ·rw [if_neg (by rw [decide_eq_false hin]; decide)]) (Ev.now false)
  ·exact Ev.step (fun k => by
    show spec_l03Term.l0 (k + 1) n l.length l m = some true
    rw [spec_l03Term.l0, if_neg (by omega)]) (Ev.now true)
 obtain ⟨K, key⟩ := key
 refine ⟨K + 1, fun k hk => ?_⟩
 obtain ⟨k, rfl⟩ : ∃ j, k = j + 1 := ⟨k - 1, by omega⟩
 have e := key k (by omega)
 simp only at e
 unfold tOk
 by_cases h0 : 0 < l.length
 ·by_cases h1 : (l.length : Int) > n
  ·have hf : allN l.length (kindAt n l) = false := by
    cases hc : allN l.length (kindAt n l)
    ·rfl
    ·have := rising_len n l hc h0; omega
   simp only [spec_l03Term.f, spec_l03Term.j0, if_neg (show ¬ (l.length : Int) = 0 by omega), if_pos h1, if_true, hf, Bool.and_false]
  ·simp only [spec_l03Term.f, spec_l03Term.j0, spec_l03Many.f, rin_eq, Option.bind_some, if_neg (show ¬ (l.length : Int) = 0 by omega), if_neg h1, decide_eq_true h0, Bool.true_and, e]
   by_cases h2 : 0 ≤ m ∧ m ≤ 3
   ·simp only [decide_eq_true h2, Bool.not_true, Bool.false_eq_true, if_false, Bool.true_and]
   ·simp only [decide_eq_false h2, Bool.not_false, if_true, Bool.false_and]
 ·simp only [spec_l03Term.f, spec_l03Term.j0, if_pos (show (l.length : Int) = 0 by omega), if_true, decide_eq_false h0, Bool.false_and]
theorem term_impl (n : Int) (l : List Int) (m : Int) (hl : l.length ≤ 1048576) : Ev (fun k => impl_isTerm.f k l m n) (tOk n l m) := by
 have key : Ev (fun k => impl_isTerm.l0 k n l l.length 0 l m) (if allN l.length (kindAt n l) = true then (decide (0 < l.length) && decide (0 ≤ m ∧ m ≤ 3)) else false) := by
  refine all_cps l.length _ (fun k i => impl_isTerm.l0 k n l l.length i l m) _ _ ?_ ?_ ?_
  ·intro i r hi hp hr
   unfold kindAt at hp
   rw [Bool.and_eq_true, Bool.or_eq_true, decide_eq_true_eq, decide_eq_true_eq] at hp
   obtain ⟨hin, hup⟩ := hp
   exact Ev.step (fun k => by
    show impl_isTerm.l0 (k + 1) n l l.length i l m = impl_isTerm.l0 k n l l.length ((i : Int) + 1) l m
    rw [impl_isTerm.l0, if_pos (by omega), if_pos (by omega), if_pos (by omega), rwithin_eq, wrap_id ((i : Int) + 1) (by omega) (by omega)]
    simp only [Option.bind_some]
    rw [if_pos (decide_eq_true hin)]
    by_cases h0 : (i : Int) > 0
    ·rw [if_pos h0, wrap_id ((i : Int) - 1) (by omega) (by omega), if_pos (by omega), if_pos (by omega), if_neg (by
      rcases hup with h | h
      ·omega
      ·have := of_decide_eq_true h; omega)]
    ·rw [if_neg h0]) hr
  ·intro i hi hp
   exact Ev.step (fun k => by
    show impl_isTerm.l0 (k + 1) n l l.length i l m = some false
    rw [impl_isTerm.l0, if_pos (by omega), if_pos (by omega), if_pos (by omega), rwithin_eq]
    simp only [Option.bind_some]
    unfold kindAt at hp
    by_cases hin : 1 ≤ rd l i ∧ rd l i ≤ n
    ·rw [decide_eq_true hin, Bool.true_and, Bool.or_eq_false_iff] at hp
     have h0 := of_decide_eq_false hp.1
     have h1 := of_decide_eq_false hp.2
     rw [if_pos (decide_eq_true hin), if_pos (by omega), wrap_id ((i : Int) - 1) (by omega) (by omega), if_pos (by omega), if_pos (by omega), if_pos (by omega)]
    ·rw [if_neg (by rw [decide_eq_false hin]; decide)]) (Ev.now false)
  ·exact Ev.step (f := fun _ => some (decide (0 < l.length) && decide (0 ≤ m ∧ m ≤ 3))) (fun k => by
    show impl_isTerm.l0 (k + 1) n l l.length l.length l m = _
    rw [impl_isTerm.l0, if_neg (by omega), rwithin_eq]
    by_cases h0 : 0 < l.length
    ·rw [if_pos (by omega), decide_eq_true h0, Bool.true_and]
     rfl
    ·rw [if_neg (by omega), decide_eq_false h0, Bool.false_and]) (Ev.now _)
 obtain ⟨K, key⟩ := key
 refine ⟨K, fun k hk => ?_⟩
 have e := key k hk
 simp only at e
 show impl_isTerm.f k l m n = _
 unfold impl_isTerm.f
 rw [e]
 unfold tOk
 cases allN l.length (kindAt n l) <;> simp
def smTerms (terms : List S111) : Prop := terms.length ≤ 1048576 ∧ ∀ x ∈ terms, x.f0.length ≤ 1048576
theorem terms_impl (n : Int) (t : List S111) (h : smTerms t) : Ev (fun k => impl_areTerms.f k t n) (decide (t.length ≤ 4) && allN t.length (fun i => tOk n (rd_T111 t i).f0 (rd_T111 t i).f1)) := by
 have hl := h.1
 have key : Ev (fun k => slices_IndexFunc_impl_Term_impl_Term_at_impl_areTerms_1.l0 k t t.length 0 n) (findN t.length (fun i => !tOk n (rd_T111 t i).f0 (rd_T111 t i).f1)) := by
  refine find_loop t.length _ (fun k i => slices_IndexFunc_impl_Term_impl_Term_at_impl_areTerms_1.l0 k t t.length i n) ?_ ?_ ?_
  ·intro i r hi hp hr'
   rw [Bool.not_eq_false'] at hp
   obtain ⟨K, e⟩ := term_impl n (rd_T111 t i).f0 (rd_T111 t i).f1 (h.2 _ (getD_mem t _ i hi))
   obtain ⟨K', hr'⟩ := hr'
   refine ⟨K + K' + 1, fun k hk => ?_⟩
   obtain ⟨m, rfl⟩ : ∃ m, k = m + 1 := ⟨k - 1, by omega⟩
   have e := e m (by omega)
   have e2 := hr' m (by omega)
   simp only at e e2
   show slices_IndexFunc_impl_Term_impl_Term_at_impl_areTerms_1.l0 (m + 1) t t.length i n = some r
   rw [slices_IndexFunc_impl_Term_impl_Term_at_impl_areTerms_1.l0, if_pos (by omega), if_pos (by omega), if_pos (by omega), impl_areTerms_1.f, e, hp]
   simp only [Option.bind_some, Bool.not_true, Bool.false_eq_true, if_false]
   rw [wrap_id _ (by omega) (by omega)]
   exact e2
  ·intro i hi hp
   rw [Bool.not_eq_true'] at hp
   obtain ⟨K, e⟩ := term_impl n (rd_T111 t i).f0 (rd_T111 t i).f1 (h.2 _ (getD_mem t _ i hi))
   refine ⟨K + 1, fun k hk => ?_⟩
   obtain ⟨m, rfl⟩ : ∃ m, k = m + 1 := ⟨k - 1, by omega⟩
   have e := e m (by omega)
   simp only at e
   show slices_IndexFunc_impl_Term_impl_Term_at_impl_areTerms_1.l0 (m + 1) t t.length i n = some (i : Int)
   rw [slices_IndexFunc_impl_Term_impl_Term_at_impl_areTerms_1.l0, if_pos (by omega), if_pos (by omega), if_pos (by omega), impl_areTerms_1.f, e, hp]
   simp only [Option.bind_some, Bool.not_false, if_true]
  ·exact Ev.step (fun k => by
    show slices_IndexFunc_impl_Term_impl_Term_at_impl_areTerms_1.l0 (k + 1) t t.length t.length n = some (-1)
    rw [slices_IndexFunc_impl_Term_impl_Term_at_impl_areTerms_1.l0, if_neg (by omega)]) (Ev.now _)
 obtain ⟨K, key⟩ := key
 refine ⟨K, fun k hk => ?_⟩
 have e := key k hk
 simp only at e
 show impl_areTerms.f k t n = _
 rw [all_of_any t.length]
 by_cases h4 : t.length ≤ 4
 ·simp only [impl_areTerms.f, if_pos (show (t.length : Int) ≤ 4 by omega), slices_ContainsFunc_impl_Term_impl_Term_at_impl_areTerms_1.f, slices_IndexFunc_impl_Term_impl_Term_at_impl_areTerms_1.f, e, Option.bind_some, findN_any, decide_eq_true h4, Bool.true_and]
 ·simp only [impl_areTerms.f, if_neg (show ¬ (t.length : Int) ≤ 4 by omega), decide_eq_false h4, Bool.false_and]
theorem many_of (n : Int) (t : List S111) (h : allN t.length (fun i => tOk n (rd_T111 t i).f0 (rd_T111 t i).f1) = true) : ∀ x ∈ t, 0 ≤ x.f1 ∧ x.f1 ≤ 3 := by
 rw [allN_iff] at h
 intro x hx
 obtain ⟨i, hi, rfl⟩ := List.getElem_of_mem hx
 have := h i hi
 unfold tOk at this
 rw [Bool.and_eq_true, Bool.and_eq_true, decide_eq_true_eq, decide_eq_true_eq] at this
 have h2 := this.2.1
 have e : rd_T111 t (i : Int) = t[i] := by
  show t.getD i _ = _
  rw [List.getD_eq_getElem?_getD, List.getElem?_eq_getElem hi]
  rfl
 rwa [e] at h2
end Go.Proofs.Ytfemohapampkiaa.Pure
namespace Go.Proofs.Ytfemohapampkiaa.Pure
set_option linter.unusedVariables false
open Go.RowKit Go.Proofs.Ytfemohapampkiaa.XA Go.Proofs.Ytfemohapampkiaa.Pk Go.Proofs.YtfemohapampkiaaW.PrintWords Go.Proofs.YtfemohapampkiaaW.PrintLast Go.Proofs.YtfemohapampkiaaW.PrintMore
theorem letter_some (c : Int) : ∃ b, spec_l00Letter.f c = some b := by
 unfold spec_l00Letter.f
 repeat' split
 all_goals exact ⟨_, rfl⟩
theorem letter_same (c : Int) : impl_isLetter.f c = spec_l00Letter.f c := rfl
theorem names (s : ByteArray) (hs : s.size ≤ 12) (d : Nat) : ∀ (k : Nat) (i : Int), 0 ≤ i → i ≤ s.size → (s.size : Int) - i = d → d < k →
  ∃ r, spec_l00Word.l0 k s i = some r ∧ impl_NameOK.l0 k s (s.size : Int) i = some r := by
 induction d with
 | zero =>
  intro k i h0 h1 hd hk
  obtain ⟨k, rfl⟩ : ∃ m, k = m + 1 := ⟨k - 1, by omega⟩
  refine ⟨true, ?_, ?_⟩
  ·simp only [spec_l00Word.l0]; rw [if_neg (by omega)]
  ·simp only [impl_NameOK.l0]; rw [if_neg (by omega)]
 | succ d ih =>
  intro k i h0 h1 hd hk
  obtain ⟨k, rfl⟩ : ∃ m, k = m + 1 := ⟨k - 1, by omega⟩
  have hlt : i < (s.size : Int) := by omega
  have hw : wrap64 (i + 1) = i + 1 := by unfold wrap64; omega
  obtain ⟨r, g1, g2⟩ := ih k (i + 1) (by omega) (by omega) (by omega) (by omega)
  simp only [spec_l00Word.l0, impl_NameOK.l0]
  rw [if_pos hlt, if_pos h0, if_pos hlt, if_pos h0, if_pos hlt, letter_same, hw]
  obtain ⟨b, hb⟩ := letter_some (bt s i)
  rw [hb]
  simp only [Option.bind_some]
  cases b with
  | true => exact ⟨r, by rw [if_pos rfl]; exact g1, by rw [if_pos rfl]; exact g2⟩
  | false =>
   rw [if_neg (by decide), if_neg (by decide)]
   unfold spec_l00Digit.f
   by_cases a : bt s i < 48
   ·exact ⟨false, by rw [if_neg (by omega)]; rfl, by rw [if_pos a]⟩
   ·rw [if_pos (by omega), if_neg a]
    by_cases c : bt s i > 57
    ·have e : decide (bt s i ≤ 57) = false := by simp; omega
     exact ⟨false, by simp [e], by rw [if_pos c]⟩
    ·have e : decide (bt s i ≤ 57) = true := by simp; omega
     exact ⟨r, by simp only [e, Option.bind_some]; rw [if_pos trivial]; exact g1, by rw [if_neg c]; exact g2⟩
theorem word_one (s : ByteArray) : ∃ r, spec_l00Word.f (s.size + 2) s = some r ∧ impl_NameOK.f (s.size + 2) s = some r := by
 unfold spec_l00Word.f impl_NameOK.f
 by_cases h1 : (s.size : Int) < 1
 ·exact ⟨false, by rw [if_pos h1]; simp [spec_l00Word.j0], by rw [if_pos h1]; simp [impl_NameOK.j0]⟩
 ·by_cases h2 : (s.size : Int) > 12
  ·exact ⟨false, by rw [if_neg h1, if_pos h2]; simp [spec_l00Word.j0], by rw [if_neg h1, if_pos h2]; simp [impl_NameOK.j0]⟩
  ·rw [if_neg h1, if_neg h1, if_neg h2, if_neg h2, if_pos (by omega), if_pos (by omega), letter_same]
   obtain ⟨b, hb⟩ := letter_some (bt s 0)
   rw [hb]
   simp only [Option.bind_some, spec_l00Word.j0, impl_NameOK.j0]
   cases b with
   | false => exact ⟨false, by simp, by simp⟩
   | true =>
    obtain ⟨r, g1, g2⟩ := names s (by omega) (s.size - 1) s.size 1 (by omega) (by omega) (by omega) (by omega)
    have g3 : spec_l00Word.l0 (s.size + 1) s 1 = some r := spec_l00Word.mono_l s.size |>.2 _ _ _ g1
    have g4 : impl_NameOK.l0 (s.size + 1) s (s.size : Int) 0 = some r := by
     simp only [impl_NameOK.l0]
     rw [if_pos (by omega), if_pos (by omega), if_pos (by omega), letter_same, hb]
     simp only [Option.bind_some]
     rw [if_pos trivial, show wrap64 (0 + 1) = 1 from by unfold wrap64; omega]
     exact g2
    simp only [Bool.not_true]
    exact ⟨r, by rw [if_neg (by decide)]; exact g3, by rw [if_neg (by decide)]; exact g4⟩
theorem word (s : ByteArray) : ∃ r, Ev (fun k => spec_l00Word.f k s) r ∧ Ev (fun k => impl_NameOK.f k s) r := by
 obtain ⟨r, h1, h2⟩ := word_one s
 exact ⟨r, Ev.of (spec_l00Word.mono s) h1, Ev.of (impl_NameOK.mono s) h2⟩
def rOk (n : Int) (nm : Bool) (name : ByteArray) (leaf : Bool) (terms : List S111) : Bool :=
 nm && (!decide (name.toList = ([116, 101, 120, 116] : List UInt8)) && (decide (terms.length ≤ 4) && (!(leaf && decide (0 < terms.length)) && allN terms.length (fun i => tOk n (rd_T111 terms i).f0 (rd_T111 terms i).f1))))
theorem terms_spec (n : Int) (name : ByteArray) (leaf : Bool) (t : List S111) (h : smTerms t) : Ev (fun k => spec_l03Rule.l0 k n 0 name leaf t) (allN t.length (fun i => tOk n (rd_T111 t i).f0 (rd_T111 t i).f1)) := by
 have hl := h.1
 refine all_loop t.length _ (fun k i => spec_l03Rule.l0 k n i name leaf t) ?_ ?_ ?_
 ·intro i r hi hp hr'
  obtain ⟨K, e⟩ := term_spec n (rd_T111 t i).f0 (rd_T111 t i).f1 (h.2 _ (getD_mem t _ i hi))
  obtain ⟨K', hr'⟩ := hr'
  refine ⟨K + K' + 1, fun k hk => ?_⟩
  obtain ⟨m, rfl⟩ : ∃ m, k = m + 1 := ⟨k - 1, by omega⟩
  have e := e m (by omega)
  have e2 := hr' m (by omega)
  simp only at e e2
  show spec_l03Rule.l0 (m + 1) n i name leaf t = some r
  rw [spec_l03Rule.l0, if_pos (by omega), if_pos (by omega), e, hp]
  simp only [Option.bind_some, if_true]
  rw [wrap_id _ (by omega) (by omega)]
  exact e2
 ·intro i hi hp
  obtain ⟨K, e⟩ := term_spec n (rd_T111 t i).f0 (rd_T111 t i).f1 (h.2 _ (getD_mem t _ i hi))
  refine ⟨K + 1, fun k hk => ?_⟩
  obtain ⟨m, rfl⟩ : ∃ m, k = m + 1 := ⟨k - 1, by omega⟩
  have e := e m (by omega)
  simp only at e
  show spec_l03Rule.l0 (m + 1) n i name leaf t = some false
  rw [spec_l03Rule.l0, if_pos (by omega), if_pos (by omega), e, hp]
  simp only [Option.bind_some, Bool.false_eq_true, if_false]
 ·exact Ev.step (fun k => by
   show spec_l03Rule.l0 (k + 1) n t.length name leaf t = some true
   rw [spec_l03Rule.l0, if_neg (by omega)]) (Ev.now true)
theorem rule_spec (n : Int) (nm : Bool) (name : ByteArray) (leaf : Bool) (t : List S111) (h : smTerms t) (hw : Ev (fun k => spec_l00Word.f k name) nm) : Ev (fun k => spec_l03Rule.f k name leaf t n) (rOk n nm name leaf t) := by
 obtain ⟨A, e1⟩ := hw
 obtain ⟨B, e2⟩ := terms_spec n name leaf t h
 refine ⟨A + B + 1, fun k hk => ?_⟩
 obtain ⟨k, rfl⟩ : ∃ j, k = j + 1 := ⟨k - 1, by omega⟩
 have e1 := e1 (k + 1) (by omega)
 have e2 := e2 k (by omega)
 simp only at e1 e2
 show spec_l03Rule.f (k + 1) name leaf t n = _
 unfold rOk
 simp only [spec_l03Rule.f, spec_l03Rule.j0, e1, e2, Option.bind_some]
 cases nm
 ·simp
 ·by_cases ht : name.toList = ([116, 101, 120, 116] : List UInt8)
  ·simp [ht]
  ·by_cases h4 : t.length ≤ 4
   ·have h4' : ¬ (t.length : Int) > 4 := by omega
    cases leaf
    ·simp [ht, h4, h4']
    ·by_cases h0 : 0 < t.length
     ·have h0' : (t.length : Int) > 0 := by omega
      simp [ht, h4, h4', h0, h0']
     ·have h0' : ¬ (t.length : Int) > 0 := by omega
      simp [ht, h4, h4', h0, h0']
   ·have h4' : (t.length : Int) > 4 := by omega
    simp [ht, h4, h4']
theorem rule_impl (n : Int) (nm : Bool) (name : ByteArray) (leaf : Bool) (t : List S111) (h : smTerms t) (hw : Ev (fun k => impl_NameOK.f k name) nm) : Ev (fun k => impl_RuleOK.f k name leaf t n) (decide (1 ≤ n ∧ n ≤ 8) && rOk n nm name leaf t) := by
 obtain ⟨B, e2⟩ := hw
 obtain ⟨C, e3⟩ := terms_impl n t h
 refine ⟨B + C, fun k hk => ?_⟩
 have e2 := e2 k (by omega)
 have e3 := e3 k (by omega)
 simp only at e2 e3
 show impl_RuleOK.f k name leaf t n = _
 simp only [impl_RuleOK.f, rwithin_eq, Option.bind_some, e2, e3]
 unfold rOk
 by_cases hn : 1 ≤ n ∧ n ≤ 8
 ·simp only [decide_eq_true hn, if_true, Bool.true_and]
  cases nm
  ·simp
  ·by_cases ht : name.toList = ([116, 101, 120, 116] : List UInt8)
   ·simp [ht]
   ·cases leaf
    ·simp [ht]
    ·by_cases h0 : 0 < t.length
     ·have h0' : t ≠ [] := by intro g; subst g; simp at h0
      simp [ht, h0, h0']
     ·have h0' : t = [] := List.length_eq_zero_iff.1 (by omega)
      subst h0'
      simp [ht]
 ·simp only [decide_eq_false hn, Bool.false_and, Bool.false_eq_true, if_false]
end Go.Proofs.Ytfemohapampkiaa.Pure
namespace Go.Proofs.Ytfemohapampkiaa.Pure
set_option linter.unusedVariables false
open Go.RowKit Go.Proofs.Ytfemohapampkiaa.XA Go.Proofs.Ytfemohapampkiaa.Pk Go.Proofs.YtfemohapampkiaaW.PrintWords Go.Proofs.YtfemohapampkiaaW.PrintLast Go.Proofs.YtfemohapampkiaaW.PrintMore
theorem findN_first (n : Nat) (p : Nat → Bool) : ∀ i : Nat, i < n → p i = true → decide (findN n p = (i : Int)) = allN i (fun j => !p j) := by
 induction n generalizing p with
 | zero => intro i hi; omega
 | succ n ih =>
  intro i hi hp
  rw [findN]
  cases i with
  | zero =>
   rw [if_pos hp]
   rfl
  | succ i =>
   have h := ih (fun j => p (j + 1)) i (by omega) hp
   have hge := findN_ge n (fun j => p (j + 1))
   rw [allN]
   cases h0 : p 0 with
   | true => simp; omega
   | false =>
    rw [if_neg (by decide), Bool.not_false, Bool.true_and, ← h]
    by_cases hlt : findN n (fun j => p (j + 1)) < 0
    ·rw [if_pos hlt, decide_eq_false (by omega), decide_eq_false (by omega)]
    ·rw [if_neg hlt]
     apply decide_eq_decide.2
     omega
def smRules (t : List S120) : Prop := t.length ≤ 1048576 ∧ ∀ x ∈ t, smTerms x.f2
def named (t : List S120) (a : ByteArray) (i : Nat) : Bool := ((rd_T120 t i).f0).toList == a.toList
theorem index_impl (t : List S120) (a : ByteArray) (h : t.length ≤ 1048576) : Ev (fun k => slices_IndexFunc_impl_Rule_impl_Rule_at_impl_kindOf_1.f k t a) (findN t.length (named t a)) := by
 refine find_loop t.length _ (fun k i => slices_IndexFunc_impl_Rule_impl_Rule_at_impl_kindOf_1.l0 k t t.length i a) ?_ ?_ ?_
 ·intro i r hi hp hr
  exact Ev.step (fun k => by
   show slices_IndexFunc_impl_Rule_impl_Rule_at_impl_kindOf_1.l0 (k + 1) t t.length i a = slices_IndexFunc_impl_Rule_impl_Rule_at_impl_kindOf_1.l0 k t t.length ((i : Int) + 1) a
   rw [slices_IndexFunc_impl_Rule_impl_Rule_at_impl_kindOf_1.l0, if_pos (by omega), if_pos (by omega), if_pos (by omega), impl_kindOf_1.f]
   simp only [Option.bind_some]
   unfold named at hp
   rw [hp, if_neg (by decide), wrap_id _ (by omega) (by omega)]) hr
 ·intro i hi hp
  exact Ev.step (fun k => by
   show slices_IndexFunc_impl_Rule_impl_Rule_at_impl_kindOf_1.l0 (k + 1) t t.length i a = some (i : Int)
   rw [slices_IndexFunc_impl_Rule_impl_Rule_at_impl_kindOf_1.l0, if_pos (by omega), if_pos (by omega), if_pos (by omega), impl_kindOf_1.f]
   simp only [Option.bind_some]
   unfold named at hp
   rw [hp, if_pos rfl]) (Ev.now _)
 ·exact Ev.step (fun k => by
   show slices_IndexFunc_impl_Rule_impl_Rule_at_impl_kindOf_1.l0 (k + 1) t t.length t.length a = some (-1)
   rw [slices_IndexFunc_impl_Rule_impl_Rule_at_impl_kindOf_1.l0, if_neg (by omega)]) (Ev.now _)
theorem findN_lt (n : Nat) (p : Nat → Bool) : findN n p < n ∨ n = 0 := by
 induction n generalizing p with
 | zero => exact .inr rfl
 | succ n ih =>
  refine .inl ?_
  rw [findN]
  split
  ·omega
  ·split
   ·omega
   ·have := findN_ge n (fun i => p (i + 1))
    rcases ih (fun i => p (i + 1)) with h | h
    ·omega
    ·subst h; rename_i hlt; exact absurd (show findN 0 (fun i => p (i + 1)) < 0 from (by show (-1 : Int) < 0; omega)) hlt
theorem kind_impl (t : List S120) (a : ByteArray) (h : t.length ≤ 1048576) : Ev (fun k => impl_kindOf.f k t a) (findN t.length (named t a) + 1) := by
 obtain ⟨K, e⟩ := index_impl t a h
 refine ⟨K, fun k hk => ?_⟩
 have e := e k hk
 simp only at e
 have h1 := findN_ge t.length (named t a)
 have h2 := findN_lt t.length (named t a)
 show impl_kindOf.f k t a = _
 simp only [impl_kindOf.f, e, Option.bind_some]
 have h3 : findN t.length (named t a) ≤ t.length := by
  rcases h2 with h2 | h2
  ·omega
  ·rw [h2]; simp [findN]
 rw [wrap_id _ (by omega) (by omega)]
theorem schemas (t : List S120) (h : smRules t) (h1 : 1 ≤ t.length) (h8 : t.length ≤ 8) : ∀ m i : Nat, i + m = t.length →
  ∃ r, Ev (fun k => spec_l03OK.l0 k t i) r ∧ Ev (fun k => impl_SchemaOK.l0 k t t t.length i) r ∧ (r = true → ∀ j, i ≤ j → j < t.length → ∀ y ∈ (rd_T120 t (j : Int)).f2, 0 ≤ y.f1 ∧ y.f1 ≤ 3) := by
 intro m
 induction m with
 | zero =>
  intro i hi
  refine ⟨true, Ev.step (fun k => ?_) (Ev.now _), Ev.step (fun k => ?_) (Ev.now _), fun _ j h1 h2 => by omega⟩
  ·show spec_l03OK.l0 (k + 1) t i = some true
   rw [spec_l03OK.l0, if_neg (by omega)]
  ·show impl_SchemaOK.l0 (k + 1) t t t.length i = some true
   rw [impl_SchemaOK.l0, if_neg (by omega)]
 | succ m ih =>
  intro i hi
  obtain ⟨r, f1, f2, f3⟩ := ih (i + 1) (by omega)
  obtain ⟨x, hx⟩ : ∃ x, x = rd_T120 t i := ⟨_, rfl⟩
  have hsm : smTerms x.f2 := by rw [hx]; exact h.2 _ (getD_mem t _ i (by omega))
  obtain ⟨nm, hs, hi'⟩ := word x.f0
  obtain ⟨A, e1⟩ := rule_spec t.length nm x.f0 x.f1 x.f2 hsm hs
  obtain ⟨B, e2⟩ := rule_impl t.length nm x.f0 x.f1 x.f2 hsm hi'
  rw [decide_eq_true (show 1 ≤ (t.length : Int) ∧ (t.length : Int) ≤ 8 by omega), Bool.true_and] at e2
  cases hr : rOk t.length nm x.f0 x.f1 x.f2 with
  | false =>
   rw [hr] at e1 e2
   refine ⟨false, ⟨A + 1, fun k hk => ?_⟩, ⟨B + 1, fun k hk => ?_⟩, fun g => by cases g⟩
   all_goals obtain ⟨q, rfl⟩ : ∃ q, k = q + 1 := ⟨k - 1, by omega⟩
   ·have e := e1 q (by omega)
    simp only at e
    show spec_l03OK.l0 (q + 1) t i = some false
    rw [spec_l03OK.l0, if_pos (by omega), if_pos (by omega), ← hx, e]
    simp only [Option.bind_some, Bool.false_eq_true, if_false]
   ·have e := e2 q (by omega)
    simp only at e
    show impl_SchemaOK.l0 (q + 1) t t t.length i = some false
    rw [impl_SchemaOK.l0, if_pos (by omega), if_pos (by omega), if_pos (by omega), ← hx, e]
    simp only [Option.bind_some, Bool.false_eq_true, if_false]
  | true =>
   rw [hr] at e1 e2
   have hself : named t x.f0 i = true := by unfold named; rw [← hx]; simp
   have hfirst := findN_first t.length (named t x.f0) i (by omega) hself
   obtain ⟨C, e3⟩ := kind_impl t x.f0 h.1
   have key := all_cps' i (fun j => !named t x.f0 j) (fun k j => spec_l03OK.l1 k t i j) r false
    (fun j r hj hp hr => Ev.step (fun k => by
     show spec_l03OK.l1 (k + 1) t i j = spec_l03OK.l1 k t i ((j : Int) + 1)
     rw [Bool.not_eq_true'] at hp
     unfold named at hp
     rw [spec_l03OK.l1, if_pos (by omega), if_pos (by omega), if_pos (by omega), if_pos (by omega), if_pos (by omega), ← hx, if_neg (by intro g; rw [g] at hp; simp at hp), wrap_id _ (by omega) (by omega)]) hr)
    (fun j hj hp => Ev.step (fun k => by
     show spec_l03OK.l1 (k + 1) t i j = some false
     rw [Bool.not_eq_false'] at hp
     unfold named at hp
     rw [spec_l03OK.l1, if_pos (by omega), if_pos (by omega), if_pos (by omega), if_pos (by omega), if_pos (by omega), ← hx, if_pos (eq_of_beq hp)]) (Ev.now false))
    (fun _ => Ev.step (fun k => by
     show spec_l03OK.l1 (k + 1) t i i = spec_l03OK.l0 k t ((i + 1 : Nat) : Int)
     rw [spec_l03OK.l1, if_neg (by omega), wrap_id _ (by omega) (by omega)]
     rfl) f1)
   refine ⟨if allN i (fun j => !named t x.f0 j) = true then r else false, ?_, ?_, ?_⟩
   ·obtain ⟨D, key⟩ := key
    refine ⟨A + D + 1, fun k hk => ?_⟩
    obtain ⟨q, rfl⟩ : ∃ q, k = q + 1 := ⟨k - 1, by omega⟩
    have e := e1 q (by omega)
    have d := key q (by omega)
    simp only at e d
    show spec_l03OK.l0 (q + 1) t i = _
    rw [spec_l03OK.l0, if_pos (by omega), if_pos (by omega), ← hx, e]
    simp only [Option.bind_some, if_true]
    exact d
   ·obtain ⟨F, f2⟩ := f2
    refine ⟨B + C + F + 1, fun k hk => ?_⟩
    obtain ⟨q, rfl⟩ : ∃ q, k = q + 1 := ⟨k - 1, by omega⟩
    have e := e2 q (by omega)
    have c := e3 q (by omega)
    have f := f2 q (by omega)
    simp only at e c f
    have wi : wrap64 ((i : Int) + 1) = ((i + 1 : Nat) : Int) := wrap_id _ (by omega) (by omega)
    show impl_SchemaOK.l0 (q + 1) t t t.length i = _
    rw [impl_SchemaOK.l0, if_pos (by omega), if_pos (by omega), if_pos (by omega), ← hx, e]
    simp only [Option.bind_some, if_true, c, wi]
    rw [← hfirst]
    by_cases g : findN t.length (named t x.f0) = (i : Int)
    ·rw [if_pos (by omega), decide_eq_true g, if_pos rfl]
     exact f
    ·rw [if_neg (by omega), decide_eq_false g, if_neg (by decide)]
   ·intro g j hj hjl y hy
    have hrt : r = true := by
     by_cases c : allN i (fun j => !named t x.f0 j) = true
     ·rw [if_pos c] at g; exact g
     ·rw [if_neg c] at g; cases g
    by_cases e : j = i
    ·subst e
     unfold rOk at hr
     simp only [Bool.and_eq_true] at hr
     refine many_of _ x.f2 hr.2.2.2.2 y ?_
     rw [hx]
     exact hy
    ·exact f3 hrt j (by omega) hjl y hy
theorem schema_full (t : List S120) (h : smRules t) : ∃ r, Ev (fun k => spec_l03OK.f k t) r ∧ Ev (fun k => impl_SchemaOK.f k t) r ∧ (r = true → (1 ≤ t.length ∧ t.length ≤ 8) ∧ ∀ x ∈ t, ∀ y ∈ x.f2, 0 ≤ y.f1 ∧ y.f1 ≤ 3) := by
 by_cases hl : 1 ≤ (t.length : Int) ∧ (t.length : Int) ≤ 8
 ·obtain ⟨r, ⟨A, e1⟩, ⟨B, e2⟩, e3⟩ := schemas t h (by omega) (by omega) t.length 0 (by omega)
  refine ⟨r, ⟨A, fun k hk => ?_⟩, ⟨B, fun k hk => ?_⟩, fun g => ⟨by omega, fun x hx => by
   obtain ⟨j, hj, rfl⟩ := List.getElem_of_mem hx
   have := e3 g j (by omega) hj
   rwa [show rd_T120 t (j : Int) = t[j] from by show t.getD j _ = _; rw [List.getD_eq_getElem?_getD, List.getElem?_eq_getElem hj]; rfl] at this⟩⟩
  ·have e := e1 k hk
   simp only [Int.natCast_zero] at e
   show spec_l03OK.f k t = _
   simp only [spec_l03OK.f, rin_eq, Option.bind_some, decide_eq_true hl, if_true, e]
  ·have e := e2 k hk
   simp only [Int.natCast_zero] at e
   show impl_SchemaOK.f k t = _
   simp only [impl_SchemaOK.f, rwithin_eq, Option.bind_some, decide_eq_true hl, if_true, e]
 ·refine ⟨false, ⟨0, fun k hk => ?_⟩, ⟨0, fun k hk => ?_⟩, fun g => by cases g⟩
  ·show spec_l03OK.f k t = _
   simp only [spec_l03OK.f, rin_eq, Option.bind_some, decide_eq_false hl, Bool.false_eq_true, if_false]
  ·show impl_SchemaOK.f k t = _
   simp only [impl_SchemaOK.f, rwithin_eq, Option.bind_some, decide_eq_false hl, Bool.false_eq_true, if_false]
theorem smRules_of (l : List S118) (s0 : l.length ≤ 1048576 ∧ ∀ y ∈ l, sm118 y) : smRules (l.map cv118) := by
 refine ⟨by rw [List.length_map]; exact s0.1, fun y hy => ?_⟩
 obtain ⟨z, hz, rfl⟩ := List.mem_map.1 hy
 have hsz := (s0.2 z hz).2.2
 refine ⟨Nat.le_trans (Nat.le_of_eq (show (z.f2.map cv108).length = _ from List.length_map _)) hsz.1, fun w hw => ?_⟩
 obtain ⟨v, hv, rfl⟩ := (List.mem_map (f := cv108) (l := z.f2)).1 hw
 exact (hsz.2 v hv).1
end Go.Proofs.Ytfemohapampkiaa.Pure
namespace Go.Proofs.Ytfemohapampkiaa.Pure
set_option linter.unusedVariables false
open Go.RowKit Go.Proofs.Ytfemohapampkiaa.XA Go.Proofs.Ytfemohapampkiaa.Pk Go.Proofs.YtfemohapampkiaaW.PrintWords Go.Proofs.YtfemohapampkiaaW.PrintLast Go.Proofs.YtfemohapampkiaaW.PrintMore
theorem has_both (l : List Int) (a : Int) (hl : l.length ≤ 1048576) : ∃ b, Ev (fun k => spec_l02Has.f k l a) b ∧ Ev (fun k => slices_Contains_int_int.f k l a) b := by
 refine ⟨anyN l.length (fun i => decide (rd l i = a)), ?_, ?_⟩
 ·have key := all_cps l.length (fun i => !decide (rd l i = a)) (fun k i => spec_l02Has.l0 k l a i) false true
   (fun i r hi hp hr => Ev.step (fun k => by
    show spec_l02Has.l0 (k + 1) l a i = spec_l02Has.l0 k l a ((i : Int) + 1)
    rw [Bool.not_eq_true'] at hp
    rw [spec_l02Has.l0, if_pos (by omega), if_pos (by omega), if_neg (of_decide_eq_false hp), wrap_id _ (by omega) (by omega)]) hr)
   (fun i hi hp => Ev.step (fun k => by
    show spec_l02Has.l0 (k + 1) l a i = some true
    rw [Bool.not_eq_false'] at hp
    rw [spec_l02Has.l0, if_pos (by omega), if_pos (by omega), if_pos (of_decide_eq_true hp)]) (Ev.now true))
   (Ev.step (fun k => by
    show spec_l02Has.l0 (k + 1) l a l.length = some false
    rw [spec_l02Has.l0, if_neg (by omega)]) (Ev.now false))
  unfold anyN
  cases hc : allN l.length (fun i => !decide (rd l i = a)) <;> rw [hc] at key <;> exact key
 ·have key := find_loop l.length (fun i => decide (rd l i = a)) (fun k i => slices_Index_int_int.l0 k l a l.length i)
   (fun i r hi hp hr => Ev.step (fun k => by
    show slices_Index_int_int.l0 (k + 1) l a l.length i = slices_Index_int_int.l0 k l a l.length ((i : Int) + 1)
    have hp := of_decide_eq_false hp
    rw [slices_Index_int_int.l0, if_pos (by omega), if_pos (by omega), if_pos (by omega), if_neg (fun h => hp h.symm), wrap_id _ (by omega) (by omega)]) hr)
   (fun i hi hp => Ev.step (fun k => by
    show slices_Index_int_int.l0 (k + 1) l a l.length i = some (i : Int)
    have hp := of_decide_eq_true hp
    rw [slices_Index_int_int.l0, if_pos (by omega), if_pos (by omega), if_pos (by omega), if_pos hp.symm]) (Ev.now _))
   (Ev.step (fun k => by
    show slices_Index_int_int.l0 (k + 1) l a l.length l.length = some (-1)
    rw [slices_Index_int_int.l0, if_neg (by omega)]) (Ev.now _))
  obtain ⟨K, key⟩ := key
  refine ⟨K, fun k hk => ?_⟩
  have e := key k hk
  simp only at e
  show slices_Contains_int_int.f k l a = _
  simp only [slices_Contains_int_int.f, slices_Index_int_int.f, e, Option.bind_some, findN_any]
theorem ways (x0 : List S111) (ks : List Int) (least most : Int) (kinds : List Int) (many : Int) (h1 : 1 ≤ x0.length) (hk : ks.length ≤ 12) (hl : 0 ≤ least) (hm : most ≤ ks.length) (hkd : kinds.length ≤ 1048576)
  (rest : ∀ n : Nat, n ≤ ks.length → ∃ r, Ev (fun k => spec_l03Match.f k (x0.drop 1) (ks.drop n)) r ∧ Ev (fun k => impl_matches.f k (x0.drop 1) (ks.drop n)) r) :
  ∀ (d n : Nat), (most : Int) + 1 ≤ n + d → n ≤ ks.length + 1 → (n = 0 ∨ ∃ j : Nat, n = j + 1 ∧ (most < n ∨ Ev (fun k => slices_Contains_int_int.f k kinds (rd ks j)) true)) →
  ∃ r, Ev (fun k => spec_l03Match.l0 k x0 ks least most n kinds many) r ∧ Ev (fun k => impl_matches.l0 k x0 ks least most n kinds many) r := by
 intro d
 induction d with
 | zero =>
  intro n hd hn _
  refine ⟨false, Ev.step (fun k => ?_) (Ev.now _), Ev.step (fun k => ?_) (Ev.now _)⟩
  ·show spec_l03Match.l0 (k + 1) x0 ks least most n kinds many = some false
   rw [spec_l03Match.l0, if_neg (by omega)]
  ·show impl_matches.l0 (k + 1) x0 ks least most n kinds many = some false
   rw [impl_matches.l0, if_neg (by omega)]
 | succ d ih =>
  intro n hd hn hprev
  by_cases hmost : (n : Int) ≤ most
  ·obtain ⟨q, ⟨A, ea⟩, ⟨B, eb⟩⟩ := rest n (by omega)
   have nn : ((n : Int)).toNat = n := by omega
   have wn : wrap64 ((n : Int) + 1) = ((n + 1 : Nat) : Int) := wrap_id _ (by omega) (by omega)
   have imp : ∀ r, (∀ k, 2 ≤ k → True) → (if (n : Int) ≥ least then (if q = true then r = true else Ev (fun k => impl_matches.l0 k x0 ks least most ((n + 1 : Nat) : Int) kinds many) r) else Ev (fun k => impl_matches.l0 k x0 ks least most ((n + 1 : Nat) : Int) kinds many) r) → Ev (fun k => impl_matches.l0 k x0 ks least most n kinds many) r := by
    intro r _ hr
    have five : Ev (fun k => impl_matches.j5 k x0 ks least most n false kinds many) r := by
     by_cases hge : (n : Int) ≥ least
     ·rw [if_pos hge] at hr
      cases q with
      | true =>
       rw [if_pos rfl] at hr
       subst hr
       refine ⟨B + 1, fun k hk => ?_⟩
       obtain ⟨m, rfl⟩ : ∃ m, k = m + 1 := ⟨k - 1, by omega⟩
       have eb := eb m (by omega)
       simp only at eb
       show impl_matches.j5 (m + 1) x0 ks least most n false kinds many = some true
       simp only [impl_matches.j5, Bool.false_eq_true, if_false, if_pos hge, if_pos (show (1 : Int) ≤ (x0.length : Int) by omega), if_pos (show 0 ≤ (n : Int) by omega), if_pos (show (n : Int) ≤ (ks.length : Int) by omega), nn, eb, Option.bind_some, if_true]
      | false =>
       rw [if_neg (by decide)] at hr
       obtain ⟨C, hr⟩ := hr
       refine ⟨B + C + 1, fun k hk => ?_⟩
       obtain ⟨m, rfl⟩ : ∃ m, k = m + 1 := ⟨k - 1, by omega⟩
       have eb := eb m (by omega)
       have ec := hr m (by omega)
       simp only at eb ec
       show impl_matches.j5 (m + 1) x0 ks least most n false kinds many = some r
       simp only [impl_matches.j5, Bool.false_eq_true, if_false, if_pos hge, if_pos (show (1 : Int) ≤ (x0.length : Int) by omega), if_pos (show 0 ≤ (n : Int) by omega), if_pos (show (n : Int) ≤ (ks.length : Int) by omega), nn, eb, Option.bind_some, wn, ec]
     ·rw [if_neg hge] at hr
      obtain ⟨C, hr⟩ := hr
      refine ⟨C + 1, fun k hk => ?_⟩
      obtain ⟨m, rfl⟩ : ∃ m, k = m + 1 := ⟨k - 1, by omega⟩
      have ec := hr m (by omega)
      simp only at ec
      show impl_matches.j5 (m + 1) x0 ks least most n false kinds many = some r
      simp only [impl_matches.j5, Bool.false_eq_true, if_false, if_neg hge, wn, ec]
    obtain ⟨D, five⟩ := five
    rcases hprev with rfl | ⟨j, rfl, hj⟩
    ·refine ⟨D + 1, fun k hk => ?_⟩
     obtain ⟨m, rfl⟩ : ∃ m, k = m + 1 := ⟨k - 1, by omega⟩
     have e5 := five m (by omega)
     simp only at e5
     show impl_matches.l0 (m + 1) x0 ks least most ((0 : Nat) : Int) kinds many = some r
     simp only [impl_matches.l0, if_pos hmost, if_neg (show ¬ ((0 : Nat) : Int) > 0 by omega), e5]
    ·rcases hj with hj | ⟨E, hj⟩
     ·omega
     refine ⟨D + E + 1, fun k hk => ?_⟩
     obtain ⟨m, rfl⟩ : ∃ m, k = m + 1 := ⟨k - 1, by omega⟩
     have e5 := five m (by omega)
     have ej := hj m (by omega)
     simp only at e5 ej
     have wj : wrap64 (((j + 1 : Nat) : Int) - 1) = (j : Int) := by rw [wrap_id _ (by omega) (by omega)]; omega
     show impl_matches.l0 (m + 1) x0 ks least most ((j + 1 : Nat) : Int) kinds many = some r
     simp only [impl_matches.l0, if_pos hmost, if_pos (show ((j + 1 : Nat) : Int) > 0 by omega), wj, if_pos (show 0 ≤ (j : Int) by omega), if_pos (show (j : Int) < (ks.length : Int) by omega), ej, Option.bind_some, Bool.not_true, e5]
   have spc : ∀ r, (if (n : Int) ≥ least ∧ q = true then r = true else Ev (fun k => spec_l03Match.j2 k x0 ks least most n false kinds many) r) → Ev (fun k => spec_l03Match.l0 k x0 ks least most n kinds many) r := by
    intro r hr
    by_cases hge : (n : Int) ≥ least
    ·cases q with
     | true =>
      rw [if_pos ⟨hge, rfl⟩] at hr
      subst hr
      refine ⟨A + 2, fun k hk => ?_⟩
      obtain ⟨m, rfl⟩ : ∃ m, k = m + 2 := ⟨k - 2, by omega⟩
      have ea := ea (m + 1) (by omega)
      simp only at ea
      show spec_l03Match.l0 (m + 2) x0 ks least most n kinds many = some true
      simp only [spec_l03Match.l0, if_pos hmost, if_pos hge, if_pos (show (1 : Int) ≤ (x0.length : Int) by omega), if_pos (show 0 ≤ (n : Int) by omega), if_pos (show (n : Int) ≤ (ks.length : Int) by omega), nn, ea, Option.bind_some, spec_l03Match.j2, if_true]
     | false =>
      rw [if_neg (by simp)] at hr
      obtain ⟨C, hr⟩ := hr
      refine ⟨A + C + 1, fun k hk => ?_⟩
      obtain ⟨m, rfl⟩ : ∃ m, k = m + 1 := ⟨k - 1, by omega⟩
      have ea := ea m (by omega)
      have ec := hr m (by omega)
      simp only at ea ec
      show spec_l03Match.l0 (m + 1) x0 ks least most n kinds many = some r
      simp only [spec_l03Match.l0, if_pos hmost, if_pos hge, if_pos (show (1 : Int) ≤ (x0.length : Int) by omega), if_pos (show 0 ≤ (n : Int) by omega), if_pos (show (n : Int) ≤ (ks.length : Int) by omega), nn, ea, Option.bind_some, ec]
    ·rw [if_neg (fun h => hge h.1)] at hr
     obtain ⟨C, hr⟩ := hr
     refine ⟨C + 1, fun k hk => ?_⟩
     obtain ⟨m, rfl⟩ : ∃ m, k = m + 1 := ⟨k - 1, by omega⟩
     have ec := hr m (by omega)
     simp only at ec
     show spec_l03Match.l0 (m + 1) x0 ks least most n kinds many = some r
     simp only [spec_l03Match.l0, if_pos hmost, if_neg hge, ec]
   by_cases hyes : (n : Int) ≥ least ∧ q = true
   ·refine ⟨true, spc true (by rw [if_pos hyes]), imp true (fun _ _ => trivial) ?_⟩
    rw [if_pos hyes.1, if_pos hyes.2]
   ·
    suffices h : ∃ r, Ev (fun k => spec_l03Match.j2 k x0 ks least most n false kinds many) r ∧ Ev (fun k => impl_matches.l0 k x0 ks least most ((n + 1 : Nat) : Int) kinds many) r by
     obtain ⟨r, g1, g2⟩ := h
     refine ⟨r, spc r (by rw [if_neg hyes]; exact g1), imp r (fun _ _ => trivial) ?_⟩
     by_cases hge : (n : Int) ≥ least
     ·rw [if_pos hge, if_neg (fun h => hyes ⟨hge, h⟩)]; exact g2
     ·rw [if_neg hge]; exact g2
    by_cases hlt : (n : Int) < most
    ·obtain ⟨b, ⟨E, e1⟩, e2⟩ := has_both kinds (rd ks n) hkd
     cases b with
     | true =>
      obtain ⟨r, ⟨F, f1⟩, f2⟩ := ih (n + 1) (by omega) (by omega) (.inr ⟨n, rfl, .inr e2⟩)
      refine ⟨r, ⟨E + F + 1, fun k hk => ?_⟩, f2⟩
      obtain ⟨m, rfl⟩ : ∃ m, k = m + 1 := ⟨k - 1, by omega⟩
      have e1 := e1 m (by omega)
      have f1 := f1 m (by omega)
      simp only at e1 f1
      show spec_l03Match.j2 (m + 1) x0 ks least most n false kinds many = some r
      simp only [spec_l03Match.j2, Bool.false_eq_true, if_false, if_pos hlt, if_pos (show 0 ≤ (n : Int) by omega), if_pos (show (n : Int) < (ks.length : Int) by omega), e1, Option.bind_some, if_true, wn, f1]
     | false =>
      refine ⟨false, ⟨E + 1, fun k hk => ?_⟩, ?_⟩
      ·obtain ⟨m, rfl⟩ : ∃ m, k = m + 1 := ⟨k - 1, by omega⟩
       have e1 := e1 m (by omega)
       simp only at e1
       show spec_l03Match.j2 (m + 1) x0 ks least most n false kinds many = some false
       simp only [spec_l03Match.j2, Bool.false_eq_true, if_false, if_pos hlt, if_pos (show 0 ≤ (n : Int) by omega), if_pos (show (n : Int) < (ks.length : Int) by omega), e1, Option.bind_some]
      ·obtain ⟨E', e2⟩ := e2
       refine ⟨E' + 2, fun k hk => ?_⟩
       obtain ⟨m, rfl⟩ : ∃ m, k = m + 2 := ⟨k - 2, by omega⟩
       have e2 := e2 (m + 1) (by omega)
       simp only at e2
       have wj : wrap64 (((n + 1 : Nat) : Int) - 1) = (n : Int) := by rw [wrap_id _ (by omega) (by omega)]; omega
       show impl_matches.l0 (m + 2) x0 ks least most ((n + 1 : Nat) : Int) kinds many = some false
       simp only [impl_matches.l0, if_pos (show ((n + 1 : Nat) : Int) ≤ most by omega), if_pos (show ((n + 1 : Nat) : Int) > 0 by omega), wj, if_pos (show 0 ≤ (n : Int) by omega), if_pos (show (n : Int) < (ks.length : Int) by omega), e2, Option.bind_some, Bool.not_false, impl_matches.j5, if_true]
    ·obtain ⟨r, ⟨F, f1⟩, f2⟩ := ih (n + 1) (by omega) (by omega) (.inr ⟨n, rfl, .inl (by omega)⟩)
     refine ⟨r, ⟨F + 1, fun k hk => ?_⟩, f2⟩
     obtain ⟨m, rfl⟩ : ∃ m, k = m + 1 := ⟨k - 1, by omega⟩
     have f1 := f1 m (by omega)
     simp only at f1
     show spec_l03Match.j2 (m + 1) x0 ks least most n false kinds many = some r
     simp only [spec_l03Match.j2, Bool.false_eq_true, if_false, if_neg hlt, wn, f1]
  ·refine ⟨false, Ev.step (fun k => ?_) (Ev.now _), Ev.step (fun k => ?_) (Ev.now _)⟩
   ·show spec_l03Match.l0 (k + 1) x0 ks least most n kinds many = some false
    rw [spec_l03Match.l0, if_neg hmost]
   ·show impl_matches.l0 (k + 1) x0 ks least most n kinds many = some false
    rw [impl_matches.l0, if_neg hmost]
theorem match_both : ∀ (t : List S111) (ks : List Int), smTerms t → (∀ x ∈ t, 0 ≤ x.f1 ∧ x.f1 ≤ 3) → ks.length ≤ 12 → ∃ r, Ev (fun k => spec_l03Match.f k t ks) r ∧ Ev (fun k => impl_matches.f k t ks) r := by
 intro t
 induction t with
 | nil =>
  intro ks _ _ _
  refine ⟨(ks.length : Int) == 0, Ev.step (fun k => ?_) (Ev.now _), Ev.step (fun k => ?_) (Ev.now _)⟩
  ·show spec_l03Match.f (k + 1) [] ks = _
   rw [spec_l03Match.f, if_pos (by simp)]
  ·show impl_matches.f (k + 1) [] ks = _
   rw [impl_matches.f, if_pos (by simp)]
 | cons x t ih =>
  intro ks hs hm hk
  have hrest : smTerms t := ⟨by have := hs.1; simp at this; omega, fun y hy => hs.2 y (List.mem_cons_of_mem _ hy)⟩
  have hx := hm x List.mem_cons_self
  have hlen : ((x :: t).length : Int) = (t.length : Int) + 1 := by simp
  obtain ⟨least, hleast⟩ : ∃ n : Int, n = if x.f1 = 0 ∨ x.f1 = 3 then 1 else 0 := ⟨_, rfl⟩
  obtain ⟨most, hmost⟩ : ∃ n : Int, n = if x.f1 < 2 then mn (ks.length : Int) 1 else (ks.length : Int) := ⟨_, rfl⟩
  have hmn : mn (ks.length : Int) 1 ≤ (ks.length : Int) := by unfold mn; split <;> omega
  have hml : most ≤ ks.length := by rw [hmost]; split <;> omega
  have hl0 : 0 ≤ least := by rw [hleast]; split <;> omega
  obtain ⟨r, ⟨A, e1⟩, ⟨B, e2⟩⟩ := ways (x :: t) ks least most x.f0 x.f1 (by simp) hk hl0 hml (hs.2 x List.mem_cons_self)
   (fun n hn => ih (ks.drop n) hrest (fun y hy => hm y (List.mem_cons_of_mem _ hy)) (by rw [List.length_drop]; omega)) 14 0 (by omega) (by omega) (.inl rfl)
  refine ⟨r, ⟨A + 2, fun k hk' => ?_⟩, ⟨B + 6, fun k hk' => ?_⟩⟩
  ·obtain ⟨m, rfl⟩ : ∃ m, k = m + 2 := ⟨k - 2, by omega⟩
   have e1 := e1 m (by omega)
   simp only at e1
   show spec_l03Match.f (m + 2) (x :: t) ks = some r
   rw [spec_l03Match.f, if_neg (by omega), if_pos (by omega)]
   have hr0 : rd_T111 (x :: t) 0 = x := rfl
   rw [hr0]
   have hL : spec_l03Least.f x.f1 = some least := by
    unfold spec_l03Least.f
    rw [hleast]
    by_cases a : x.f1 = 0
    ·rw [if_pos a, if_pos (.inl a)]
    ·by_cases b : x.f1 = 3
     ·rw [if_neg a, if_pos b, if_pos (.inr b)]
     ·rw [if_neg a, if_neg b, if_neg (by omega)]
   rw [hL]
   simp only [Option.bind_some]
   by_cases c : x.f1 < 2
   ·rw [if_pos c, spec_l03Match.j0]
    rw [if_pos c] at hmost
    rw [← hmost]
    exact e1
   ·rw [if_neg c, spec_l03Match.j0]
    rw [if_neg c] at hmost
    rw [← hmost]
    exact e1
  ·obtain ⟨m, rfl⟩ : ∃ m, k = m + 6 := ⟨k - 6, by omega⟩
   have e2 := e2 (m + 1) (by omega)
   simp only [Int.natCast_zero] at e2
   show impl_matches.f (m + 6) (x :: t) ks = some r
   rw [impl_matches.f, if_neg (by omega), if_pos (by omega)]
   have hr0 : rd_T111 (x :: t) 0 = x := rfl
   rw [hr0]
   obtain h | h | h | h : x.f1 = 0 ∨ x.f1 = 1 ∨ x.f1 = 2 ∨ x.f1 = 3 := by omega
   ·have hl : least = 1 := by rw [hleast, h]; rfl
    have hms : most = mn (ks.length : Int) 1 := by rw [hmost, h]; rfl
    rw [hl, hms, h] at e2
    simp only [h, impl_matches.j0, impl_matches.j1, impl_matches.j2, impl_matches.j3]
    simpa using e2
   ·have hl : least = 0 := by rw [hleast, h]; rfl
    have hms : most = mn (ks.length : Int) 1 := by rw [hmost, h]; rfl
    rw [hl, hms, h] at e2
    simp only [h, impl_matches.j0, impl_matches.j1, impl_matches.j2, impl_matches.j3]
    simpa using e2
   ·have hl : least = 0 := by rw [hleast, h]; rfl
    have hms : most = (ks.length : Int) := by rw [hmost, h]; rfl
    rw [hl, hms, h] at e2
    simp only [h, impl_matches.j0, impl_matches.j1, impl_matches.j2, impl_matches.j3]
    simpa using e2
   ·have hl : least = 1 := by rw [hleast, h]; rfl
    have hms : most = (ks.length : Int) := by rw [hmost, h]; rfl
    rw [hl, hms, h] at e2
    simp only [h, impl_matches.j0, impl_matches.j1, impl_matches.j2, impl_matches.j3]
    simpa using e2
end Go.Proofs.Ytfemohapampkiaa.Pure
namespace Go.Proofs.Ytfemohapampkiaa.Pure
set_option linter.unusedVariables false
set_option linter.unusedSimpArgs false
open Go.RowKit Go.Proofs.Ytfemohapampkiaa.XA Go.Proofs.Ytfemohapampkiaa.Pk Go.Proofs.YtfemohapampkiaaW.PrintWords Go.Proofs.YtfemohapampkiaaW.PrintLast Go.Proofs.YtfemohapampkiaaW.PrintMore
def kindsF (l : List S88) (cs : List Int) : List Int := cs.map (fun c => (nd l c).f1)
theorem spec_kinds {l : List S88} (root nx : Int) (hl : docSm l) (x : S88) (hx : x.f4.length ≤ 1048576) (hc : ∀ c ∈ x.f4, c ∈ ids l) :
  Ev (fun k => spec_l05Kids.f k root nx l x.f0 x.f1 x.f2 x.f3 x.f4) (kindsF l x.f4) := by
 have hl' := hl.1
 refine list_loop x.f4 0 (fun j o => o.length = j) (fun cs o => o ++ kindsF l cs) (fun k j o => spec_l05Kids.l0 k o j root nx l x.f0 x.f1 x.f2 x.f3 x.f4) ?_ ?_ [] rfl
 ·intro j o hj ho hr
  refine Ev.step (fun k => by rw [spec_l05Kids.l0]) ?_
  obtain ⟨i, hi, e1, hm, _, e2⟩ := nd_mem (hc _ (getD_mem x.f4 0 j hj))
  have e1' : atF l (rd x.f4 (j : Int)) = (i : Int) := e1
  refine Ev.pos (by omega) (Ev.pos (by omega) (Ev.bind (spec_at l root nx _ hl') ?_))
  simp only [e1']
  refine Ev.pos (by omega) (Ev.pos (by omega) (Ev.pos (by omega) ?_))
  simp only [wrap_suc j (by omega)]
  have := hr (o ++ [(nd l (x.f4.getD j 0)).f1]) (by simp; omega)
  rw [List.append_assoc, e2] at this
  rw [show kindsF l (x.f4.getD j 0 :: x.f4.drop (j + 1)) = [(nd l (x.f4.getD j 0)).f1] ++ kindsF l (x.f4.drop (j + 1)) from rfl, e2]
  exact this
 ·intro o ho
  refine Ev.step (fun k => by rw [spec_l05Kids.l0]) ?_
  refine Ev.neg (by omega) ?_
  rw [show kindsF l [] = [] from rfl, List.append_nil]
  exact Ev.now _
section
variable {root next : Int} {l : List S88}
theorem idI (hI : docI l) {id : Int} (h : id ∈ ids l) : i64 id := by
 obtain ⟨x, hx, rfl⟩ := List.mem_map.1 h
 exact (hI x hx).1
theorem impl_kinds (root : Int) (hl : docSm l) (hL : Loc next l) (hI : docI l) (hc : Clo l) {id : Int} (h : id ∈ ids l) : Ev (fun k => impl_Doc_kindsOf.f k root next l id) (kindsF l (kd l id)) := by
 have hl' := hl.1
 obtain ⟨i, hi, e1, hm, _, e2⟩ := nd_mem h
 refine Ev.bind (impl_find hl hL root next id (idI hI h)) ?_
 simp only [e1]
 refine Ev.neg (by omega) (Ev.pos (by omega) (Ev.pos (by omega) ?_))
 have e3 : kd l id = (l.getD i z88).f4 := by unfold kd; rw [e2]
 rw [e3]
 show Ev (fun k => impl_Doc_kindsOf.l0 k [] (l.getD i z88).f4 (l.getD i z88).f4.length 0 root next l) _
 have hx := hL.kids _ (getD_mem l z88 i hi)
 refine list_loop (l.getD i z88).f4 0 (fun j o => o.length = j) (fun cs o => o ++ kindsF l cs) (fun k j o => impl_Doc_kindsOf.l0 k o (l.getD i z88).f4 (l.getD i z88).f4.length j root next l) ?_ ?_ [] rfl
 ·intro j o hj ho hr
  refine Ev.step (fun k => by rw [impl_Doc_kindsOf.l0]) ?_
  have hcj : (l.getD i z88).f4.getD j 0 ∈ ids l := hc _ (getD_mem l z88 i hi) _ (getD_mem _ 0 j hj)
  obtain ⟨p, hp, g1, _, _, g2⟩ := nd_mem hcj
  have g1' : atF l (rd (l.getD i z88).f4 (j : Int)) = (p : Int) := g1
  refine Ev.pos (by omega) (Ev.pos (by omega) (Ev.pos (by omega) (Ev.bind (impl_find hl hL root next (rd (l.getD i z88).f4 (j : Int)) (idI hI hcj)) ?_)))
  simp only [g1']
  refine Ev.neg (by omega) (Ev.pos (by omega) (Ev.pos (by omega) (Ev.pos (by omega) ?_)))
  simp only [wrap_suc j (by omega)]
  have := hr (o ++ [(nd l ((l.getD i z88).f4.getD j 0)).f1]) (by simp; omega)
  rw [List.append_assoc, g2] at this
  rw [show kindsF l ((l.getD i z88).f4.getD j 0 :: (l.getD i z88).f4.drop (j + 1)) = [(nd l ((l.getD i z88).f4.getD j 0)).f1] ++ kindsF l ((l.getD i z88).f4.drop (j + 1)) from rfl, g2]
  exact this
 ·intro o ho
  refine Ev.step (fun k => by rw [impl_Doc_kindsOf.l0]) ?_
  refine Ev.neg (by omega) ?_
  rw [show kindsF l [] = [] from rfl, List.append_nil]
  exact Ev.now _
def manyOK (t : List S120) : Prop := ∀ x ∈ t, ∀ y ∈ x.f2, 0 ≤ y.f1 ∧ y.f1 ≤ 3
theorem check_both (hl : docSm l) (hL : Loc next l) (hI : docI l) (hc : Clo l) (t : List S120) (ht : smRules t) (hm : manyOK t) {id : Int} (h : id ∈ ids l) :
  ∃ c, Ev (fun k => spec_l05Node.f k t root next l (nd l id).f0 (nd l id).f1 (nd l id).f2 (nd l id).f3 (nd l id).f4) c ∧ Ev (fun k => impl_check.f k t root next l id) c := by
 obtain ⟨i, hi, e1, hx, _, e2⟩ := nd_mem h
 have e3 : rd_T88 l (i : Int) = nd l id := e2.symm
 have hk := hL.kind _ hx
 have w : wrap64 ((nd l id).f1 - 1) = (nd l id).f1 - 1 := wrap_id _ (by omega) (by omega)
 have key : ∀ c, Ev (fun k => if (nd l id).f1 > (t.length : Int) then (some 10) else (if 0 ≤ (wrap64 ((nd l id).f1 - 1)) then (if (wrap64 ((nd l id).f1 - 1)) < (t.length : Int) then (if (rd_T120 t (wrap64 ((nd l id).f1 - 1))).f1 = true then (if ((nd l id).f4.length : Int) > 0 then (some 12) else (some 0)) else (if (nd l id).f3.toList = ([] : List UInt8) then ((impl_Doc_kindsOf.f k root next l id).bind fun t424 => ((impl_matches.f k ((rd_T120 t (wrap64 ((nd l id).f1 - 1))).f2) t424).bind fun t427 => (if t427 = true then (some (0 : Int)) else (some 12)))) else (some 12))) else (none)) else (none))) c → Ev (fun k => impl_check.f k t root next l id) c := by
  intro c hcc
  refine Ev.bind (impl_find hl hL root next id (idI hI h)) ?_
  simp only [e1]
  refine Ev.neg (by omega) (Ev.pos (by omega) (Ev.pos (by omega) ?_))
  simp only [e3]
  exact hcc
 by_cases h1 : (nd l id).f1 > (t.length : Int)
 ·exact ⟨10, Ev.pos h1 (Ev.now _), key _ (Ev.pos h1 (Ev.now _))⟩
 have b0 : 0 ≤ wrap64 ((nd l id).f1 - 1) := by rw [w]; omega
 have b1 : wrap64 ((nd l id).f1 - 1) < (t.length : Int) := by rw [w]; omega
 cases h2 : (rd_T120 t (wrap64 ((nd l id).f1 - 1))).f1
 ·have h2' : ¬ (rd_T120 t (wrap64 ((nd l id).f1 - 1))).f1 = true := by rw [h2]; decide
  by_cases h3 : (nd l id).f3.toList = ([] : List UInt8)
  ·have hr : rd_T120 t (wrap64 ((nd l id).f1 - 1)) ∈ t := getD_mem t _ _ (by omega)
   obtain ⟨r, m1, m2⟩ := match_both (rd_T120 t (wrap64 ((nd l id).f1 - 1))).f2 (kindsF l (kd l id)) (ht.2 _ hr) (hm _ hr) (by unfold kindsF; rw [List.length_map]; exact hL.kids _ hx)
   have s1 := spec_kinds root next hl (nd l id) (Nat.le_trans (hL.kids _ hx) (by omega)) (hc _ hx)
   refine ⟨if r = true then 0 else 12, Ev.neg h1 (Ev.pos b0 (Ev.pos b1 (Ev.neg h2' (Ev.pos h3 (Ev.bind s1 (Ev.bind m1 ?_)))))), key _ (Ev.neg h1 (Ev.pos b0 (Ev.pos b1 (Ev.neg h2' (Ev.pos h3 (Ev.bind (impl_kinds root hl hL hI hc h) (Ev.bind m2 ?_)))))))⟩
   all_goals (cases r; exact Ev.now _; exact Ev.now _)
  ·exact ⟨12, Ev.neg h1 (Ev.pos b0 (Ev.pos b1 (Ev.neg h2' (Ev.neg h3 (Ev.now _))))), key _ (Ev.neg h1 (Ev.pos b0 (Ev.pos b1 (Ev.neg h2' (Ev.neg h3 (Ev.now _))))))⟩
 ·by_cases h3 : ((nd l id).f4.length : Int) > 0
  ·exact ⟨12, Ev.neg h1 (Ev.pos b0 (Ev.pos b1 (Ev.pos h2 (Ev.pos h3 (Ev.now _))))), key _ (Ev.neg h1 (Ev.pos b0 (Ev.pos b1 (Ev.pos h2 (Ev.pos h3 (Ev.now _))))))⟩
  ·exact ⟨0, Ev.neg h1 (Ev.pos b0 (Ev.pos b1 (Ev.pos h2 (Ev.neg h3 (Ev.now _))))), key _ (Ev.neg h1 (Ev.pos b0 (Ev.pos b1 (Ev.pos h2 (Ev.neg h3 (Ev.now _))))))⟩
end
end Go.Proofs.Ytfemohapampkiaa.Pure
namespace Go.Proofs.Ytfemohapampkiaa.Pure
set_option linter.unusedVariables false
set_option linter.unusedSimpArgs false
open Go.RowKit Go.Proofs.Ytfemohapampkiaa.XA Go.Proofs.Ytfemohapampkiaa.Pk Go.Proofs.YtfemohapampkiaaW.PrintWords Go.Proofs.YtfemohapampkiaaW.PrintLast Go.Proofs.YtfemohapampkiaaW.PrintMore
theorem spec_order {l : List S88} (root nx : Int) (hl : docSm l) (hk12 : ∀ x ∈ l, x.f4.length ≤ 12) (hc : Clo l) (n : Nat) (id : Int) (h : id ∈ ids l) (hd : dp l n id ≤ n) (hb : 13 ^ n ≤ 1000000000) :
  Ev (fun k => spec_l02Order.f k root nx l id) (ordF l n id) := by
 have hl' := hl.1
 induction n generalizing id with
 | zero => have := (dp_bound l 0 id).1; omega
 | succ n ih =>
  refine Ev.step (fun k => by rw [spec_l02Order.f]) ?_
  obtain ⟨i, hi, e1, hm, _, e2⟩ := nd_mem h
  have h13 : 13 ^ (n + 1) = 13 * 13 ^ n := by rw [Nat.pow_succ, Nat.mul_comm]
  have hp : 1 ≤ 13 ^ n := Nat.one_le_pow _ _ (by omega)
  refine Ev.bind (spec_at l root nx id hl') ?_
  simp only [e1]
  refine Ev.pos (by omega) (Ev.pos (by omega) ?_)
  show Ev (fun k => spec_l02Order.l0 k [id] (l.getD i z88).f4 0 root nx l) (ordF l (n + 1) id)
  have e3 : kd l id = (l.getD i z88).f4 := by unfold kd; rw [e2]
  rw [ordF, e3, show id :: List.flatMap (ordF l n) (l.getD i z88).f4 = [id] ++ List.flatMap (ordF l n) (l.getD i z88).f4 from rfl]
  have hx := hk12 _ (getD_mem l z88 i hi)
  have hdk := dp_kid hd
  rw [e3] at hdk
  refine list_loop (l.getD i z88).f4 0 (fun j o => o.length + (12 - j) * 13 ^ n ≤ 100000000000) (fun cs o => o ++ cs.flatMap (ordF l n)) (fun k j o => spec_l02Order.l0 k o (l.getD i z88).f4 j root nx l) ?_ ?_ [id] (by simp; omega)
  ·intro j o hj ho' hr
   refine Ev.step (fun k => by rw [spec_l02Order.l0]) ?_
   have hmj := getD_mem (l.getD i z88).f4 0 j hj
   have hk : (l.getD i z88).f4.getD j 0 ∈ ids l := hc _ (getD_mem l z88 i hi) _ hmj
   have e12 : 12 - j = (12 - (j + 1)) + 1 := by omega
   rw [e12, Nat.succ_mul] at ho'
   have hlen := ordF_len hk12 hc n _ hk
   have hlen2 : (ordF l n (rd (l.getD i z88).f4 (j : Int))).length ≤ 13 ^ n := hlen
   refine Ev.pos (by omega) (Ev.pos (by omega) (Ev.bind (ih _ hk (hdk _ hmj) (by omega)) (Ev.pos (by omega) ?_)))
   simp only [wrap_suc j (by omega)]
   rw [List.flatMap_cons, ← List.append_assoc]
   refine hr _ ?_
   rw [List.length_append]
   omega
  ·intro o ho'
   refine Ev.step (fun k => by rw [spec_l02Order.l0]) ?_
   refine Ev.neg (by omega) ?_
   simp only [List.flatMap_nil, List.append_nil]
   exact Ev.now _
end Go.Proofs.Ytfemohapampkiaa.Pure
namespace Go.Proofs.Ytfemohapampkiaa.Pure
set_option linter.unusedVariables false
open Go.RowKit Go.Proofs.Ytfemohapampkiaa.XA Go.Proofs.Ytfemohapampkiaa.Pk Go.Proofs.YtfemohapampkiaaW.PrintWords
theorem all_both {root next : Int} {l : List S88} (hl : docSm l) (hL : Loc next l) (hI : docI l) (hc : Clo l) (t : List S120) (ht : smRules t) (hm : manyOK t) (o : List Int) (ho : ∀ c ∈ o, c ∈ ids l) (hol : o.length ≤ 1000000000) :
  ∀ m i : Nat, i + m = o.length → ∃ r : Int × Int, Ev (fun k => spec_l05Doc.l0 k t o i root next l) r ∧ Ev (fun k => impl_checkAll.l0 k t o o.length i root next l) r := by
 intro m
 induction m with
 | zero =>
  intro i hi
  exact ⟨(0, 0), Ev.step (fun k => by rw [spec_l05Doc.l0]) (Ev.neg (by omega) (Ev.now _)), Ev.step (fun k => by rw [impl_checkAll.l0]) (Ev.neg (by omega) (Ev.now _))⟩
 | succ m ih =>
  intro i hi
  obtain ⟨r, f1, f2⟩ := ih (i + 1) (by omega)
  have hid : rd o (i : Int) ∈ ids l := ho _ (getD_mem o 0 i (by omega))
  obtain ⟨p, hp, e1, hx, _, e2⟩ := nd_mem hid
  have e3 : rd_T88 l (p : Int) = nd l (rd o (i : Int)) := e2.symm
  obtain ⟨c, c1, c2⟩ := check_both (root := root) hl hL hI hc t ht hm hid
  have hw := wrap_suc i (by omega)
  refine ⟨if c = 0 then r else (rd o (i : Int), c), Ev.step (fun k => by rw [spec_l05Doc.l0]) (Ev.pos (by omega) (Ev.pos (by omega) (Ev.bind (spec_at l root next _ hl.1) ?_))), Ev.step (fun k => by rw [impl_checkAll.l0]) (Ev.pos (by omega) (Ev.pos (by omega) (Ev.pos (by omega) (Ev.bind c2 ?_))))⟩
  ·simp only [e1]
   refine Ev.pos (by omega) (Ev.pos (by omega) ?_)
   simp only [e3]
   refine Ev.bind c1 ?_
   by_cases h0 : c = 0
   ·rw [if_pos h0]
    simp only [hw]
    exact Ev.pos h0 f1
   ·rw [if_neg h0]
    exact Ev.neg h0 (Ev.now _)
  ·by_cases h0 : c = 0
   ·rw [if_pos h0]
    simp only [hw]
    exact Ev.pos h0 f2
   ·rw [if_neg h0]
    exact Ev.neg h0 (Ev.now _)
theorem doc_both {root next : Int} {l : List S88} (hl : docSm l) (hI : docI l) (hr : i64 root) (t : List S120) (ht : smRules t) :
  ∃ (r0 : Int) (r1 : Int), Ev (fun k => spec_CheckDoc.f k t root next l) (r0, r1) ∧ Ev (fun k => impl_CheckDoc.f k t root next l) (r0, r1) := by
 by_cases h1 : (t.length : Int) > 4096
 ·exact ⟨0, 2, Ev.pos h1 (Ev.now _), Ev.use (show impl_isLongList_impl_Rule.f t = some (decide ((t.length : Int) > 4096)) from rfl) (Ev.pos (decide_eq_true h1) (Ev.now _))⟩
 obtain ⟨b, s1, s2, s3⟩ := schema_full t ht
 cases b
 ·exact ⟨0, 1, Ev.neg h1 (Ev.bind s1 (Ev.neg (by decide) (Ev.now _))), Ev.use (show impl_isLongList_impl_Rule.f t = some (decide ((t.length : Int) > 4096)) from rfl) (Ev.neg (ndec h1) (Ev.bind s2 (Ev.neg (by decide) (Ev.now _))))⟩
 obtain ⟨_, hm⟩ := s3 rfl
 have d1 := spec_ok (root := root) (next := next) hl
 have d2 := impl_doc (root := root) (next := next) hl hI hr
 cases hd : docB root next l
 ·rw [hd] at d1 d2
  exact ⟨0, 1, Ev.neg h1 (Ev.bind s1 (Ev.pos rfl (Ev.bind d1 (Ev.neg (by decide) (Ev.now _))))), Ev.use (show impl_isLongList_impl_Rule.f t = some (decide ((t.length : Int) > 4096)) from rfl) (Ev.neg (ndec h1) (Ev.bind s2 (Ev.pos rfl (Ev.bind d2 (Ev.neg (by decide) (Ev.now _))))))⟩
 ·rw [hd] at d1 d2
  have D := doc1_of hd
  have o1 := spec_order root next hl D.loc.kids D.clo 6 root D.rin D.deep (by decide)
  have o2 := impl_order root hl D.loc hI D.clo 6 root D.rin D.deep [] (by decide)
  rw [List.nil_append] at o2
  have hlen := ordF_len D.loc.kids D.clo 6 root D.rin
  obtain ⟨r, f1, f2⟩ := all_both (root := root) hl D.loc hI D.clo t ht hm (ordF l 6 root) (ordF_ids D.clo D.rin) (Nat.le_trans hlen (by decide)) _ 0 (Nat.zero_add _)
  exact ⟨r.1, r.2, Ev.neg h1 (Ev.bind s1 (Ev.pos rfl (Ev.bind d1 (Ev.pos rfl (Ev.bind (Ev.bind o1 f1) (Ev.now _)))))), Ev.use (show impl_isLongList_impl_Rule.f t = some (decide ((t.length : Int) > 4096)) from rfl) (Ev.neg (ndec h1) (Ev.bind s2 (Ev.pos rfl (Ev.bind d2 (Ev.pos rfl (Ev.bind (Ev.bind o2 f2) (Ev.now _)))))))⟩
theorem FnExactCheckDoc : laws_FnExactCheckDoc.Pure := core_FnExactCheckDoc (fun x0 x1 o0 o1 s0 s1 => doc_both (docSm_of _ s1) (docI_of _ o1) (i64_of o1.1) _ (smRules_of x0 s0))
end Go.Proofs.Ytfemohapampkiaa.Pure
