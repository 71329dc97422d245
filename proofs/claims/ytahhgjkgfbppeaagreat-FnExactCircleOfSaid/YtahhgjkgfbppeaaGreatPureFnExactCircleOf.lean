/- The program's CircleOf answers what the reference's answers: the pure statement of FnExactCircleOf. Conditions: none. -/
import Derived.Test.YtahhgjkgfbppeaaGreatZ13
import Derived.Test.YtahhgjkgfbppeaaGreatZ14
set_option linter.unusedVariables false
set_option linter.unusedSimpArgs false
namespace Go.Proofs.YtahhgjkgfbppeaaGreat.Pure
set_option linter.unusedVariables false
set_option linter.unusedSimpArgs false
open Go.RowKit Go.Proofs.YtahhgjkgfbppeaaGreat.XA Go.Proofs.YtahhgjkgfbppeaaGreat.Pk Go.Proofs.YtahhgjkgfbppeaaGreatW.PrintWords Go.Proofs.YtahhgjkgfbppeaaGreatW.PrintLast Go.Proofs.YtahhgjkgfbppeaaGreatW.PrintMore
theorem list_loop {α σ ρ : Type} (l : List α) (z : α) (I : Nat → σ → Prop) (G : List α → σ → ρ) (F : Nat → Int → σ → Option ρ)
  (hs : ∀ (i : Nat) (s : σ), i < l.length → I i s → (∀ s', I (i + 1) s' → Ev (fun k => F k ((i : Int) + 1) s') (G (l.drop (i + 1)) s')) → Ev (fun k => F k (i : Int) s) (G (l.getD i z :: l.drop (i + 1)) s))
  (he : ∀ s, I l.length s → Ev (fun k => F k (l.length : Int) s) (G [] s)) : ∀ s, I 0 s → Ev (fun k => F k 0 s) (G l s) := by
 have key : ∀ (m i : Nat) (s : σ), i + m = l.length → I i s → Ev (fun k => F k (i : Int) s) (G (l.drop i) s) := by
  intro m
  induction m with
  | zero =>
   intro i s hi h
   have e : i = l.length := by omega
   subst e
   rw [List.drop_length]
   exact he s h
  | succ m ih =>
   intro i s hi h
   have e : l.drop i = l.getD i z :: l.drop (i + 1) := by
    rw [List.getD_eq_getElem?_getD, List.getElem?_eq_getElem (by omega), Option.getD_some]
    exact List.drop_eq_getElem_cons (by omega)
   rw [e]
   exact hs i s (by omega) h (fun s' h' => ih (i + 1) s' (by omega) h')
 intro s h
 exact key l.length 0 s (by omega) h
theorem list_loop0 {α ρ : Type} (l : List α) (z : α) (G : List α → ρ) (F : Nat → Int → Option ρ)
  (hs : ∀ i : Nat, i < l.length → Ev (fun k => F k ((i : Int) + 1)) (G (l.drop (i + 1))) → Ev (fun k => F k (i : Int)) (G (l.getD i z :: l.drop (i + 1))))
  (he : Ev (fun k => F k (l.length : Int)) (G [])) : Ev (fun k => F k 0) (G l) :=
 list_loop (σ := Unit) l z (fun _ _ => True) (fun l _ => G l) (fun k i _ => F k i) (fun i _ hi _ h => hs i hi (h () trivial)) (fun _ _ => he) () trivial
theorem idx_loop {σ ρ : Type} (n : Nat) (I : Nat → σ → Prop) (G : Nat → Nat → σ → ρ) (F : Nat → Int → σ → Option ρ)
  (hs : ∀ (m i : Nat) (s : σ), i + (m + 1) = n → I i s → (∀ s', I (i + 1) s' → Ev (fun k => F k ((i : Int) + 1) s') (G m (i + 1) s')) → Ev (fun k => F k (i : Int) s) (G (m + 1) i s))
  (he : ∀ s, I n s → Ev (fun k => F k (n : Int) s) (G 0 n s)) : ∀ s, I 0 s → Ev (fun k => F k 0 s) (G n 0 s) := by
 have key : ∀ (m i : Nat) (s : σ), i + m = n → I i s → Ev (fun k => F k (i : Int) s) (G m i s) := by
  intro m
  induction m with
  | zero =>
   intro i s hi h
   have e : i = n := by omega
   subst e
   exact he s h
  | succ m ih =>
   intro i s hi h
   exact hs m i s hi h (fun s' h' => ih (i + 1) s' (by omega) h')
 intro s h
 exact key n 0 s (by omega) h
theorem wrap_suc (i : Nat) (h : i < 4611686018427387904) : wrap64 ((i : Int) + 1) = (i : Int) + 1 := wrap_id _ (by omega) (by omega)
theorem Ev.use {α β : Type} {a : Option α} {x : α} {f : Nat → α → Option β} {r : β} (h : a = some x) (k : Ev (fun n => f n x) r) : Ev (fun n => a.bind (f n)) r := by
 subst h
 exact k
theorem tin_eq (x lo hi : Int) : spec_l01In.f x lo hi = some (decide (lo ≤ x ∧ x ≤ hi)) := by
 unfold spec_l01In.f
 by_cases h : x ≥ lo
 ·rw [if_pos h]; exact congrArg some (decide_eq_decide.2 ⟨fun g => ⟨h, g⟩, fun g => g.2⟩)
 ·rw [if_neg h]; exact congrArg some (decide_eq_false fun g => h g.1).symm
theorem twithin_eq (x lo hi : Int) : impl_within.f x lo hi = some (decide (lo ≤ x ∧ x ≤ hi)) := tin_eq x lo hi
def ids (l : List S113) : List Int := l.map (fun x => x.f0)
def atF (l : List S113) (id : Int) : Int := findN l.length (fun i => decide ((l.getD i z113).f0 = id))
def nd (l : List S113) (id : Int) : S113 := rd_T113 l (atF l id)
def kd (l : List S113) (id : Int) : List Int := (nd l id).f4
def par : List S113 → Int → Int
 | [], _ => 0
 | x :: l, id => if id ∈ x.f4 then x.f0 else par l id
theorem findN_spec (n : Nat) (p : Nat → Bool) : (findN n p = -1 ∧ ∀ i, i < n → p i = false) ∨ ∃ i, i < n ∧ findN n p = (i : Int) ∧ p i = true ∧ ∀ j, j < i → p j = false := by
 induction n generalizing p with
 | zero => exact .inl ⟨rfl, fun i hi => by omega⟩
 | succ n ih =>
  rw [findN]
  cases h0 : p 0
  ·rw [if_neg (by decide)]
   rcases ih (fun i => p (i + 1)) with ⟨h1, h2⟩ | ⟨i, hi, h1, h2, h3⟩
   ·rw [if_pos (by omega)]
    refine .inl ⟨rfl, fun i hi => ?_⟩
    cases i with
    | zero => exact h0
    | succ i => exact h2 i (by omega)
   ·rw [if_neg (by omega)]
    refine .inr ⟨i + 1, by omega, by omega, h2, fun j hj => ?_⟩
    cases j with
    | zero => exact h0
    | succ j => exact h3 j (by omega)
  ·rw [if_pos rfl]
   exact .inr ⟨0, by omega, rfl, h0, fun j hj => by omega⟩
theorem rd_nat (l : List S113) (i : Nat) : rd_T113 l (i : Int) = l.getD i z113 := rfl
theorem at_spec (l : List S113) (id : Int) : (atF l id = -1 ∧ id ∉ ids l) ∨ ∃ i, i < l.length ∧ atF l id = (i : Int) ∧ (nd l id).f0 = id ∧ nd l id ∈ l ∧ id ∈ ids l ∧ nd l id = l.getD i z113 := by
 rcases findN_spec l.length (fun i => decide ((l.getD i z113).f0 = id)) with ⟨h1, h2⟩ | ⟨i, hi, h1, h2, h3⟩
 ·refine .inl ⟨h1, fun hm => ?_⟩
  obtain ⟨x, hx, e⟩ := List.mem_map.1 hm
  obtain ⟨i, hi, rfl⟩ := List.getElem_of_mem hx
  have := of_decide_eq_false (h2 i hi)
  rw [List.getD_eq_getElem?_getD, List.getElem?_eq_getElem hi] at this
  exact this e
 ·have e : atF l id = (i : Int) := h1
  have e2 : nd l id = l.getD i z113 := by unfold nd; rw [e]; rfl
  have e3 : (l.getD i z113).f0 = id := of_decide_eq_true h2
  have e4 : l.getD i z113 ∈ l := getD_mem l _ i hi
  exact .inr ⟨i, hi, e, by rw [e2]; exact e3, by rw [e2]; exact e4, List.mem_map.2 ⟨_, e4, e3⟩, e2⟩
theorem at_neg (l : List S113) (id : Int) : atF l id < 0 ↔ id ∉ ids l := by
 rcases at_spec l id with ⟨h1, h2⟩ | ⟨i, hi, h1, _, _, h2, _⟩
 ·exact ⟨fun _ => h2, fun _ => by omega⟩
 ·exact ⟨fun h => by omega, fun h => absurd h2 h⟩
theorem spec_at (l : List S113) (r n id : Int) (h : l.length ≤ 1048576) : Ev (fun k => spec_l02At.f k r n l id) (atF l id) := by
 refine find_loop l.length _ (fun k i => spec_l02At.l0 k id i r n l) ?_ ?_ ?_
 ·intro i q hi hp hq
  refine Ev.step (fun k => by rw [spec_l02At.l0]) ?_
  refine Ev.pos (by omega) (Ev.pos (by omega) (Ev.neg (of_decide_eq_false hp) ?_))
  simp only [wrap_suc i (by omega)]
  exact hq
 ·intro i hi hp
  refine Ev.step (fun k => by rw [spec_l02At.l0]) ?_
  exact Ev.pos (by omega) (Ev.pos (by omega) (Ev.pos (of_decide_eq_true hp) (Ev.now _)))
 ·refine Ev.step (fun k => by rw [spec_l02At.l0]) ?_
  exact Ev.neg (by omega) (Ev.now _)
theorem ndec {p : Prop} [Decidable p] (h : ¬ p) : ¬ decide p = true := fun g => h (of_decide_eq_true g)
theorem spec_has (l : List Int) (v : Int) (h : l.length ≤ 4611686018427387903) : Ev (fun k => spec_l02Has.f k l v) (decide (v ∈ l)) := by
 refine list_loop0 l 0 (fun l => decide (v ∈ l)) (fun k i => spec_l02Has.l0 k l v i) ?_ ?_
 ·intro i hi hr
  refine Ev.step (fun k => by rw [spec_l02Has.l0]) ?_
  refine Ev.pos (by omega) (Ev.pos (by omega) ?_)
  by_cases e : rd l (i : Int) = v
  ·refine Ev.pos e ?_
   rw [decide_eq_true (by rw [List.mem_cons]; exact .inl e.symm)]
   exact Ev.now _
  ·refine Ev.neg e ?_
   simp only [wrap_suc i (by omega)]
   have : (v ∈ l.getD i 0 :: l.drop (i + 1)) ↔ v ∈ l.drop (i + 1) := by
    rw [List.mem_cons]
    exact ⟨fun g => g.resolve_left (fun g => e g.symm), .inr⟩
   rw [decide_eq_decide.2 this]
   exact hr
 ·refine Ev.step (fun k => by rw [spec_l02Has.l0]) ?_
  exact Ev.neg (by omega) (Ev.now _)
theorem spec_parent (l : List S113) (r n id : Int) (h : l.length ≤ 1048576) (hk : ∀ x ∈ l, x.f4.length ≤ 1048576) : Ev (fun k => spec_l02Parent.f k r n l id) (par l id) := by
 refine list_loop0 l z113 (fun l => par l id) (fun k i => spec_l02Parent.l0 k id i r n l) ?_ ?_
 ·intro i hi hr
  refine Ev.step (fun k => by rw [spec_l02Parent.l0]) ?_
  refine Ev.pos (by omega) (Ev.pos (by omega) ?_)
  refine Ev.bind (spec_has _ _ (Nat.le_trans (hk _ (getD_mem l _ i hi)) (by omega))) ?_
  show Ev (fun k => if decide (id ∈ (l.getD i z113).f4) = true then _ else _) (if id ∈ (l.getD i z113).f4 then (l.getD i z113).f0 else par (l.drop (i + 1)) id)
  by_cases e : id ∈ (l.getD i z113).f4
  ·rw [if_pos e]
   exact Ev.pos (decide_eq_true e) (Ev.now _)
  ·rw [if_neg e]
   refine Ev.neg (by simpa using e) ?_
   simp only [wrap_suc i (by omega)]
   exact hr
 ·refine Ev.step (fun k => by rw [spec_l02Parent.l0]) ?_
  exact Ev.neg (by omega) (Ev.now _)
def i64 (n : Int) : Prop := -9223372036854775808 ≤ n ∧ n ≤ 9223372036854775807
def docSm (l : List S113) : Prop := l.length ≤ 1048576 ∧ ∀ x ∈ l, x.f4.length ≤ 1048576
def docI (l : List S113) : Prop := ∀ x ∈ l, i64 x.f0 ∧ ∀ c ∈ x.f4, i64 c
def nodeB (next : Int) (x : S113) : Bool := decide (1 ≤ x.f0 ∧ x.f0 ≤ next - 1) && (decide (1 ≤ x.f1 ∧ x.f1 ≤ 8) && (decide (0 ≤ x.f2 ∧ x.f2 ≤ 99) && (decide (x.f3.size ≤ 20) && decide (x.f4.length ≤ 12))))
def ordB (l : List S113) (i : Nat) : Bool := decide (i = 0 ∨ (l.getD (i - 1) z113).f0 < (l.getD i z113).f0)
def kidsB (root : Int) (I : List Int) : List Int → List Int → Option (List Int)
 | [], s => some s
 | c :: cs, s => if c = root ∨ c ∈ s ∨ c ∉ I then none else kidsB root I cs (s ++ [c])
def finB (root : Int) (l : List S113) (s : List Int) : Bool := decide ((s.length : Int) = (l.length : Int) - 1 ∧ root ∈ ids l)
def nodesG (root next : Int) (l : List S113) : Nat → Nat → List Int → Bool
 | 0, _, s => finB root l s
 | m + 1, i, s => if nodeB next (l.getD i z113) = true ∧ ordB l i = true then (match kidsB root (ids l) (l.getD i z113).f4 s with | none => false | some s' => nodesG root next l m (i + 1) s') else false
theorem spec_node (x : S113) (next : Int) (hn : 2 ≤ next ∧ next ≤ 999999) : spec_l02Node.f x.f0 x.f1 x.f2 x.f3 x.f4 next = some (nodeB next x) := by
 have w1 : wrap64 (next - 1) = next - 1 := wrap_id _ (by omega) (by omega)
 simp only [spec_l02Node.f, spec_l02Kind.f, tin_eq, w1, Option.bind_some, nodeB]
 by_cases h1 : 1 ≤ x.f0 ∧ x.f0 ≤ next - 1
 ·by_cases h2 : 1 ≤ x.f1 ∧ x.f1 ≤ 8
  ·by_cases h3 : 0 ≤ x.f2 ∧ x.f2 ≤ 99
   ·by_cases h4 : x.f3.size ≤ 20
    ·have h4' : (x.f3.size : Int) ≤ 20 := by omega
     have h5 : (decide ((x.f4.length : Int) ≤ 12)) = decide (x.f4.length ≤ 12) := decide_eq_decide.2 (by omega)
     simp [h1, h2, h3, h4, h4', h5]
    ·have h4' : ¬ (x.f3.size : Int) ≤ 20 := by omega
     simp [h1, h2, h3, h4, h4']
   ·simp [h1, h2, h3]
  ·simp [h1, h2]
 ·simp [h1]
theorem spec_kids (l : List S113) (root n : Int) (i : Nat) (s : List Int) (x : S113) (hl : docSm l) (hi : i < l.length) (hx : x.f4.length ≤ 1048576) (hs : s.length ≤ 1048576 * i) (c : List Int → Bool)
  (hc : ∀ s', s'.length ≤ 1048576 * (i + 1) → Ev (fun k => spec_l02Nodes.l0 k s' ((i : Int) + 1) root n l) (c s')) :
  Ev (fun k => spec_l02Nodes.l1 k s i 0 root n l x.f0 x.f1 x.f2 x.f3 x.f4) (match kidsB root (ids l) x.f4 s with | none => false | some s' => c s') := by
 have hl' := hl.1
 refine list_loop x.f4 0 (fun j s' => s'.length ≤ 1048576 * i + j) (fun cs s' => match kidsB root (ids l) cs s' with | none => false | some s' => c s') (fun k j s' => spec_l02Nodes.l1 k s' i j root n l x.f0 x.f1 x.f2 x.f3 x.f4) ?_ ?_ s (by simpa using hs)
 ·intro j s' hj hs' hr
  refine Ev.step (fun k => by rw [spec_l02Nodes.l1]) ?_
  refine Ev.pos (by omega) (Ev.pos (by omega) ?_)
  show Ev (fun k => if x.f4.getD j 0 = root then _ else _) (match (if x.f4.getD j 0 = root ∨ x.f4.getD j 0 ∈ s' ∨ x.f4.getD j 0 ∉ ids l then none else kidsB root (ids l) (x.f4.drop (j + 1)) (s' ++ [x.f4.getD j 0])) with | none => false | some s' => c s')
  by_cases h1 : x.f4.getD j 0 = root
  ·rw [if_pos (.inl h1)]
   exact Ev.pos h1 (Ev.now _)
  refine Ev.neg h1 (Ev.bind (spec_has s' _ (by omega)) ?_)
  by_cases h2 : x.f4.getD j 0 ∈ s'
  ·rw [if_pos (.inr (.inl h2))]
   exact Ev.pos (decide_eq_true h2) (Ev.now _)
  refine Ev.neg (ndec h2) (Ev.bind (spec_at l root n _ hl') ?_)
  by_cases h3 : x.f4.getD j 0 ∈ ids l
  ·rw [if_neg (fun h => h.elim h1 (fun h => h.elim h2 (fun h => h h3)))]
   refine Ev.neg (fun h => (at_neg l _).1 h h3) (Ev.pos (by omega) ?_)
   simp only [wrap_suc j (by omega)]
   exact hr _ (by simp; omega)
  ·rw [if_pos (.inr (.inr h3))]
   exact Ev.pos ((at_neg l _).2 h3) (Ev.now _)
 ·intro s' hs'
  refine Ev.step (fun k => by rw [spec_l02Nodes.l1]) ?_
  refine Ev.neg (by omega) ?_
  simp only [wrap_suc i (by omega)]
  exact hc s' (by omega)
theorem spec_nodes (l : List S113) (root next : Int) (hn : 2 ≤ next ∧ next ≤ 999999) (hl : docSm l) (h0 : 1 ≤ l.length) : Ev (fun k => spec_l02Nodes.f k root next l) (nodesG root next l l.length 0 []) := by
 have hl' := hl.1
 refine idx_loop l.length (fun i s => s.length ≤ 1048576 * i) (fun m i s => nodesG root next l m i s) (fun k i s => spec_l02Nodes.l0 k s i root next l) ?_ ?_ [] (by simp)
 ·intro m i s hi hs hr
  refine Ev.step (fun k => by rw [spec_l02Nodes.l0]) ?_
  refine Ev.pos (by omega) (Ev.pos (by omega) (Ev.use (spec_node (l.getD i z113) next hn) ?_))
  show Ev _ (if nodeB next (l.getD i z113) = true ∧ ordB l i = true then (match kidsB root (ids l) (l.getD i z113).f4 s with | none => false | some s' => nodesG root next l m (i + 1) s') else false)
  have hk := spec_kids l root next i s (l.getD i z113) hl (by omega) (hl.2 _ (getD_mem l _ i (by omega))) hs (fun s' => nodesG root next l m (i + 1) s') hr
  by_cases h1 : nodeB next (l.getD i z113) = true
  ·refine Ev.pos h1 ?_
   by_cases h2 : i = 0
   ·rw [if_pos ⟨h1, decide_eq_true (.inl h2)⟩]
    refine Ev.neg (by omega) ?_
    refine Ev.step (fun k => by rw [spec_l02Nodes.j1]) ?_
    exact Ev.neg (by decide) hk
   ·have e : wrap64 ((i : Int) - 1) = ((i - 1 : Nat) : Int) := by rw [wrap_id _ (by omega) (by omega)]; omega
    simp only [e]
    refine Ev.pos (by omega) (Ev.pos (by omega) (Ev.pos (by omega) ?_))
    by_cases h3 : (l.getD (i - 1) z113).f0 < (l.getD i z113).f0
    ·rw [if_pos ⟨h1, decide_eq_true (.inr h3)⟩]
     refine Ev.step (fun k => by rw [spec_l02Nodes.j1]) ?_
     refine Ev.neg ?_ hk
     rw [rd_nat, rd_nat, decide_eq_true_eq]
     omega
    ·rw [if_neg (fun h => (of_decide_eq_true h.2).elim h2 h3)]
     refine Ev.step (fun k => by rw [spec_l02Nodes.j1]) ?_
     refine Ev.pos ?_ (Ev.now _)
     rw [rd_nat, rd_nat, decide_eq_true_eq]
     omega
  ·rw [if_neg (fun h => h1 h.1)]
   refine Ev.neg h1 ?_
   refine Ev.step (fun k => by rw [spec_l02Nodes.j1]) ?_
   exact Ev.pos rfl (Ev.now _)
 ·intro s hs
  refine Ev.step (fun k => by rw [spec_l02Nodes.l0]) ?_
  refine Ev.neg (by omega) ?_
  rw [wrap_id _ (by omega) (by omega)]
  show Ev _ (finB root l s)
  unfold finB
  by_cases h1 : (s.length : Int) = (l.length : Int) - 1
  ·refine Ev.pos h1 (Ev.bind (spec_at l root next root hl') ?_)
   have e : decide (atF l root ≥ 0) = decide ((s.length : Int) = (l.length : Int) - 1 ∧ root ∈ ids l) := by
    refine decide_eq_decide.2 ⟨fun h => ⟨h1, ?_⟩, fun h => ?_⟩
    ·apply Classical.byContradiction
     intro g
     have := (at_neg l root).2 g
     omega
    ·have := mt (at_neg l root).1 (fun g => g h.2)
     omega
   rw [e]
   exact Ev.now _
  ·refine Ev.neg h1 ?_
   rw [decide_eq_false (fun h => h1 h.1)]
   exact Ev.now _
def locG (next : Int) (l : List S113) : Nat → Nat → Bool
 | 0, _ => true
 | m + 1, i => (nodeB next (l.getD i z113) && ordB l i) && locG next l m (i + 1)
def kidsM (root : Int) (l : List S113) : Nat → Nat → List Int → Option (List Int)
 | 0, _, s => some s
 | m + 1, i, s => (kidsB root (ids l) (l.getD i z113).f4 s).bind (kidsM root l m (i + 1))
theorem nodesG_eq (root next : Int) (l : List S113) (m i : Nat) (s : List Int) : nodesG root next l m i s = (locG next l m i && match kidsM root l m i s with | none => false | some s' => finB root l s') := by
 induction m generalizing i s with
 | zero => simp [nodesG, locG, kidsM]
 | succ m ih =>
  rw [nodesG, locG, kidsM]
  by_cases h : nodeB next (l.getD i z113) = true ∧ ordB l i = true
  ·rw [if_pos h, h.1, h.2]
   cases hk : kidsB root (ids l) (l.getD i z113).f4 s with
   | none => simp
   | some s' => simp only [Option.bind_some, ih, Bool.and_self, Bool.true_and]
  ·rw [if_neg h]
   have : (nodeB next (l.getD i z113) && ordB l i) = false := by
    cases h1 : nodeB next (l.getD i z113) <;> cases h2 : ordB l i <;> simp_all
   rw [this]
   simp
theorem kidsB_append (root : Int) (I a b s : List Int) : kidsB root I (a ++ b) s = (kidsB root I a s).bind (kidsB root I b) := by
 induction a generalizing s with
 | nil => rfl
 | cons c a ih =>
  rw [List.cons_append, kidsB, kidsB]
  split
  ·rfl
  ·exact ih _
theorem kidsM_eq (root : Int) (l : List S113) (m i : Nat) (h : i + m = l.length) (s : List Int) : kidsM root l m i s = kidsB root (ids l) ((l.drop i).flatMap (fun x => x.f4)) s := by
 induction m generalizing i s with
 | zero =>
  have e : i = l.length := by omega
  subst e
  rw [List.drop_length]
  rfl
 | succ m ih =>
  have e : l.drop i = l.getD i z113 :: l.drop (i + 1) := by
   rw [List.getD_eq_getElem?_getD, List.getElem?_eq_getElem (by omega), Option.getD_some]
   exact List.drop_eq_getElem_cons (by omega)
  rw [e, List.flatMap_cons, kidsB_append, kidsM]
  congr 1
  funext s'
  exact ih (i + 1) (by omega) s'
theorem kidsB_some (root : Int) (I cs s s' : List Int) (h : kidsB root I cs s = some s') (hn : s.Nodup) : s' = s ++ cs ∧ (∀ c ∈ cs, c ≠ root ∧ c ∈ I) ∧ (s ++ cs).Nodup := by
 induction cs generalizing s with
 | nil => cases h; simp [hn]
 | cons c cs ih =>
  rw [kidsB] at h
  split at h
  ·cases h
  ·rename_i g
   have g1 : c ≠ root := fun e => g (.inl e)
   have g2 : c ∉ s := fun e => g (.inr (.inl e))
   have g3 : c ∈ I := Classical.byContradiction fun e => g (.inr (.inr e))
   obtain ⟨h1, h2, h3⟩ := ih (s ++ [c]) h (by
    rw [List.nodup_append]
    refine ⟨hn, by simp, fun a ha b hb => ?_⟩
    simp only [List.mem_singleton] at hb
    subst hb
    exact fun e => g2 (e ▸ ha))
   rw [List.append_assoc] at h1 h3
   refine ⟨h1, fun d hd => ?_, h3⟩
   rcases List.mem_cons.1 hd with e | hd
   ·subst e; exact ⟨g1, g3⟩
   ·exact h2 d hd
theorem locG_iff (next : Int) (l : List S113) (m i : Nat) : locG next l m i = true ↔ ∀ j, i ≤ j → j < i + m → nodeB next (l.getD j z113) = true ∧ ordB l j = true := by
 induction m generalizing i with
 | zero => exact ⟨fun _ j h1 h2 => by omega, fun _ => rfl⟩
 | succ m ih =>
  rw [locG, Bool.and_eq_true, Bool.and_eq_true, ih]
  constructor
  ·rintro ⟨h1, h2⟩ j hj hj'
   by_cases e : j = i
   ·subst e; exact h1
   ·exact h2 j (by omega) (by omega)
  ·intro h
   exact ⟨h i (by omega) (by omega), fun j hj hj' => h j (by omega) (by omega)⟩
structure Loc (next : Int) (l : List S113) : Prop where
 nx : 2 ≤ next ∧ next ≤ 999999
 id : ∀ x ∈ l, 1 ≤ x.f0 ∧ x.f0 ≤ next - 1
 kind : ∀ x ∈ l, 1 ≤ x.f1 ∧ x.f1 ≤ 8
 attr : ∀ x ∈ l, 0 ≤ x.f2 ∧ x.f2 ≤ 99
 text : ∀ x ∈ l, x.f3.size ≤ 20
 kids : ∀ x ∈ l, x.f4.length ≤ 12
 rise : ∀ i j, i < j → j < l.length → (l.getD i z113).f0 < (l.getD j z113).f0
theorem nodeB_iff (next : Int) (x : S113) : nodeB next x = true ↔ (1 ≤ x.f0 ∧ x.f0 ≤ next - 1) ∧ (1 ≤ x.f1 ∧ x.f1 ≤ 8) ∧ (0 ≤ x.f2 ∧ x.f2 ≤ 99) ∧ x.f3.size ≤ 20 ∧ x.f4.length ≤ 12 := by
 simp only [nodeB, Bool.and_eq_true, decide_eq_true_eq]
theorem loc_of (next : Int) (l : List S113) (hn : 2 ≤ next ∧ next ≤ 999999) (h : locG next l l.length 0 = true) : Loc next l := by
 have h := (locG_iff next l l.length 0).1 h
 have h1 : ∀ x ∈ l, nodeB next x = true := fun x hx => by
  obtain ⟨i, hi, rfl⟩ := List.getElem_of_mem hx
  have := (h i (by omega) (by omega)).1
  rwa [List.getD_eq_getElem?_getD, List.getElem?_eq_getElem hi] at this
 have h1 := fun x hx => (nodeB_iff next x).1 (h1 x hx)
 refine ⟨hn, fun x hx => (h1 x hx).1, fun x hx => (h1 x hx).2.1, fun x hx => (h1 x hx).2.2.1, fun x hx => (h1 x hx).2.2.2.1, fun x hx => (h1 x hx).2.2.2.2, fun i j hij hj => ?_⟩
 induction j with
 | zero => omega
 | succ j ih =>
  have g := (of_decide_eq_true (h (j + 1) (by omega) (by omega)).2).resolve_left (by omega)
  simp only [Nat.add_sub_cancel] at g
  by_cases e : i = j
  ·subst e; exact g
  ·have := ih (by omega) (by omega)
   omega
theorem loc_inj {next : Int} {l : List S113} (h : Loc next l) {i j : Nat} (hi : i < l.length) (hj : j < l.length) (e : (l.getD i z113).f0 = (l.getD j z113).f0) : i = j := by
 rcases Nat.lt_trichotomy i j with g | g | g
 ·have := h.rise i j g hj; omega
 ·exact g
 ·have := h.rise j i g hi; omega
theorem wrap_ne (a b : Int) (ha : 1 ≤ a ∧ a ≤ 999998) (hb : i64 b) : (wrap64 (a - b) == 0) = decide (a = b) := by
 unfold i64 at hb
 by_cases h : a = b
 ·subst h; simp [wrap64]
 ·rw [decide_eq_false h]
  refine beq_eq_false_iff_ne.2 ?_
  unfold wrap64
  omega
theorem impl_search {next : Int} {l : List S113} (hl : docSm l) (hL : Loc next l) (id : Int) (hI : i64 id) (d : Nat) : ∀ i j : Nat, j - i ≤ d → i ≤ j → j ≤ l.length → (∀ p, p < l.length → (l.getD p z113).f0 = id → i ≤ p ∧ p ≤ j) →
  ∃ q, q ≤ l.length ∧ Ev (fun k => slices_BinarySearchFunc_impl_Node_impl_Node_int_at_impl_Doc_find_1.l0 k l id l.length i j) ((q : Int), decide (q < l.length ∧ (l.getD q z113).f0 = id)) ∧ ∀ p, p < l.length → (l.getD p z113).f0 = id → q = p := by
 have hl' := hl.1
 have hnx := hL.nx
 have done : ∀ i : Nat, i ≤ l.length → (∀ p, p < l.length → (l.getD p z113).f0 = id → i ≤ p ∧ p ≤ i) → ∃ q, q ≤ l.length ∧ Ev (fun k => slices_BinarySearchFunc_impl_Node_impl_Node_int_at_impl_Doc_find_1.l0 k l id l.length i i) ((q : Int), decide (q < l.length ∧ (l.getD q z113).f0 = id)) ∧ ∀ p, p < l.length → (l.getD p z113).f0 = id → q = p := by
  intro i hi hp
  refine ⟨i, hi, ?_, fun p h1 h2 => by have := hp p h1 h2; omega⟩
  refine Ev.step (fun k => by rw [slices_BinarySearchFunc_impl_Node_impl_Node_int_at_impl_Doc_find_1.l0]) ?_
  refine Ev.neg (by omega) ?_
  by_cases g : i < l.length
  ·refine Ev.pos (by omega) (Ev.pos (by omega) (Ev.pos (by omega) (Ev.use rfl ?_)))
   have hx := hL.id _ (getD_mem l z113 i g)
   have e := wrap_ne (l.getD i z113).f0 id (by omega) hI
   rw [show decide (i < l.length ∧ (l.getD i z113).f0 = id) = (wrap64 ((l.getD i z113).f0 - id) == 0) from by rw [e]; exact decide_eq_decide.2 ⟨fun h => h.2, fun h => ⟨g, h⟩⟩]
   exact Ev.now _
  ·refine Ev.neg (by omega) ?_
   rw [decide_eq_false (fun h => g h.1)]
   exact Ev.now _
 induction d with
 | zero =>
  intro i j h1 h2 h3 hp
  have e : i = j := by omega
  subst e
  exact done i h3 hp
 | succ d ih =>
  intro i j h1 h2 h3 hp
  by_cases g : i < j
  ·have w0 : wrap64 ((i : Int) + (j : Int)) = ((i + j : Nat) : Int) := by rw [wrap_id _ (by omega) (by omega)]; omega
   have w1 : IntKind.u64.wrap (wrap64 ((i : Int) + (j : Int))) = ((i + j : Nat) : Int) := by rw [w0]; exact Go.IntWalk.u64_in _ (by omega)
   have w2 : wrap64 ((IntKind.u64.wrap (wrap64 ((i : Int) + (j : Int)))) / 2) = (((i + j) / 2 : Nat) : Int) := by rw [w1, wrap_id _ (by omega) (by omega)]; omega
   have hh : (i + j) / 2 < l.length := by omega
   have hx := hL.id _ (getD_mem l z113 _ hh)
   by_cases c : wrap64 ((l.getD ((i + j) / 2) z113).f0 - id) < 0
   ·obtain ⟨q, hq, he, hu⟩ := ih ((i + j) / 2 + 1) j (by omega) (by omega) h3 (fun p hp1 hp2 => by
     have g1 := hp p hp1 hp2
     refine ⟨?_, g1.2⟩
     have hy := hL.id _ (getD_mem l z113 p hp1)
     have : (l.getD ((i + j) / 2) z113).f0 < (l.getD p z113).f0 := by
      rw [← hp2] at c
      rw [wrap_id _ (by omega) (by omega)] at c
      omega
     rcases Nat.lt_trichotomy ((i + j) / 2) p with z | z | z
     ·omega
     ·rw [z] at this; omega
     ·have := hL.rise _ _ z hh; omega)
    refine ⟨q, hq, ?_, hu⟩
    refine Ev.step (fun k => by rw [slices_BinarySearchFunc_impl_Node_impl_Node_int_at_impl_Doc_find_1.l0]) ?_
    simp only [w2]
    refine Ev.pos (by omega) (Ev.pos (by omega) (Ev.pos (by omega) (Ev.use rfl (Ev.pos c ?_))))
    simp only [wrap_suc ((i + j) / 2) (by omega)]
    exact he
   ·obtain ⟨q, hq, he, hu⟩ := ih i ((i + j) / 2) (by omega) (by omega) (by omega) (fun p hp1 hp2 => by
     have g1 := hp p hp1 hp2
     refine ⟨g1.1, ?_⟩
     have hy := hL.id _ (getD_mem l z113 p hp1)
     have : ¬ (l.getD ((i + j) / 2) z113).f0 < (l.getD p z113).f0 := by
      rw [← hp2] at c
      rw [wrap_id _ (by omega) (by omega)] at c
      omega
     rcases Nat.lt_trichotomy ((i + j) / 2) p with z | z | z
     ·have := hL.rise _ _ z hp1; omega
     ·omega
     ·omega)
    refine ⟨q, hq, ?_, hu⟩
    refine Ev.step (fun k => by rw [slices_BinarySearchFunc_impl_Node_impl_Node_int_at_impl_Doc_find_1.l0]) ?_
    simp only [w2]
    exact Ev.pos (by omega) (Ev.pos (by omega) (Ev.pos (by omega) (Ev.use rfl (Ev.neg c he))))
  ·have e : i = j := by omega
   subst e
   exact done i h3 hp
theorem impl_find {next : Int} {l : List S113} (hl : docSm l) (hL : Loc next l) (r n id : Int) (hI : i64 id) : Ev (fun k => impl_Doc_find.f k r n l id) (atF l id) := by
 obtain ⟨q, hq, he, hu⟩ := impl_search hl hL id hI l.length 0 l.length (by omega) (by omega) (by omega) (fun p h1 _ => ⟨by omega, by omega⟩)
 refine Ev.bind he ?_
 show Ev (fun k => if decide (q < l.length ∧ (l.getD q z113).f0 = id) = true then _ else _) _
 rcases at_spec l id with ⟨h1, h2⟩ | ⟨i, hi, h1, h2, h3, h4, h5⟩
 ·rw [h1]
  refine Ev.neg (ndec fun h => h2 (List.mem_map.2 ⟨_, getD_mem l z113 q h.1, h.2⟩)) (Ev.now _)
 ·rw [h5] at h2
  obtain rfl := hu i hi h2
  rw [h1]
  exact Ev.pos (decide_eq_true ⟨hi, h2⟩) (Ev.pos (by omega) (Ev.pos (by omega) (Ev.now _)))
theorem impl_has {next : Int} {l : List S113} (hl : docSm l) (hL : Loc next l) (r n id : Int) (hI : i64 id) : Ev (fun k => impl_Doc_has.f k r n l id) (decide (id ∈ ids l)) := by
 refine Ev.bind (impl_find hl hL r n id hI) ?_
 by_cases h : id ∈ ids l
 ·rw [decide_eq_true h]
  exact Ev.neg (fun g => (at_neg l id).1 g h) (Ev.now _)
 ·rw [decide_eq_false h]
  exact Ev.pos ((at_neg l id).2 h) (Ev.now _)
def Clo (l : List S113) : Prop := ∀ x ∈ l, ∀ c ∈ x.f4, c ∈ ids l
theorem nd_mem {l : List S113} {id : Int} (h : id ∈ ids l) : ∃ i, i < l.length ∧ atF l id = (i : Int) ∧ nd l id ∈ l ∧ (nd l id).f0 = id ∧ nd l id = l.getD i z113 := by
 rcases at_spec l id with ⟨_, h2⟩ | ⟨i, hi, h1, h2, h3, _, h5⟩
 ·exact absurd h h2
 ·exact ⟨i, hi, h1, h3, h2, h5⟩
theorem kd_ids {l : List S113} (hc : Clo l) {id c : Int} (h : id ∈ ids l) (h2 : c ∈ kd l id) : c ∈ ids l := by
 obtain ⟨_, _, _, hm, _⟩ := nd_mem h
 exact hc _ hm c h2
def dp (l : List S113) : Nat → Int → Int
 | 0, _ => 1
 | n + 1, id => (kd l id).foldl (fun a c => mx a (dp l n c)) 0 + 1
theorem mx_le {a b B : Int} : mx a b ≤ B ↔ a ≤ B ∧ b ≤ B := by unfold mx; split <;> omega
theorem le_mx {a b : Int} : a ≤ mx a b := by unfold mx; split <;> omega
theorem fold_mx (f : Int → Int) (cs : List Int) (a B : Int) : cs.foldl (fun a c => mx a (f c)) a ≤ B ↔ a ≤ B ∧ ∀ c ∈ cs, f c ≤ B := by
 induction cs generalizing a with
 | nil => simp
 | cons c cs ih =>
  rw [List.foldl_cons, ih, mx_le]
  simp only [List.mem_cons, forall_eq_or_imp, and_assoc]
theorem fold_mx_ge (f : Int → Int) (cs : List Int) (a : Int) : a ≤ cs.foldl (fun a c => mx a (f c)) a := ((fold_mx f cs a _).1 (Int.le_refl _)).1
theorem dp_bound (l : List S113) (n : Nat) (id : Int) : 1 ≤ dp l n id ∧ dp l n id ≤ n + 1 := by
 induction n generalizing id with
 | zero => simp [dp]
 | succ n ih =>
  rw [dp]
  have h1 := fold_mx_ge (dp l n) (kd l id) 0
  have h2 := (fold_mx (dp l n) (kd l id) 0 (n + 1)).2 ⟨by omega, fun c _ => (ih c).2⟩
  omega
theorem dp_kid {l : List S113} {n : Nat} {id : Int} (h : dp l (n + 1) id ≤ (n : Int) + 1) : ∀ c ∈ kd l id, dp l n c ≤ n := by
 rw [dp] at h
 exact ((fold_mx (dp l n) (kd l id) 0 n).1 (by omega)).2
theorem spec_deep {l : List S113} (root nx : Int) (hl : docSm l) (hc : Clo l) (n : Nat) (hn : n ≤ 1000000) (id : Int) (h : id ∈ ids l) : Ev (fun k => spec_l02Deep.f k root nx l id (n : Int)) (dp l n id) := by
 have hl' := hl.1
 induction n generalizing id with
 | zero =>
  refine Ev.step (fun k => by rw [spec_l02Deep.f]) ?_
  exact Ev.pos rfl (Ev.now _)
 | succ n ih =>
  refine Ev.step (fun k => by rw [spec_l02Deep.f]) ?_
  obtain ⟨i, hi, e1, hm, _, e2⟩ := nd_mem h
  refine Ev.neg (by omega) (Ev.bind (spec_at l root nx id hl') ?_)
  simp only [e1]
  refine Ev.pos (by omega) (Ev.pos (by omega) ?_)
  show Ev (fun k => spec_l02Deep.l0 k ((n + 1 : Nat) : Int) 0 (l.getD i z113).f4 0 root nx l) (dp l (n + 1) id)
  have e3 : kd l id = (l.getD i z113).f4 := by unfold kd; rw [e2]
  rw [dp, e3]
  have hx := hl.2 _ (getD_mem l z113 i hi)
  refine list_loop (l.getD i z113).f4 0 (fun _ acc => 0 ≤ acc ∧ acc ≤ (n : Int) + 1) (fun cs acc => cs.foldl (fun a c => mx a (dp l n c)) acc + 1) (fun k j acc => spec_l02Deep.l0 k ((n + 1 : Nat) : Int) acc (l.getD i z113).f4 j root nx l) ?_ ?_ 0 (by omega)
  ·intro j acc hj ha hr
   refine Ev.step (fun k => by rw [spec_l02Deep.l0]) ?_
   have hk : (l.getD i z113).f4.getD j 0 ∈ ids l := hc _ (getD_mem l z113 i hi) _ (getD_mem _ _ j hj)
   refine Ev.pos (by omega) (Ev.pos (by omega) ?_)
   have w : wrap64 (((n + 1 : Nat) : Int) - 1) = (n : Int) := by rw [wrap_id _ (by omega) (by omega)]; omega
   simp only [w]
   refine Ev.bind (ih (by omega) _ hk) ?_
   simp only [wrap_suc j (by omega)]
   have hb := dp_bound l n ((l.getD i z113).f4.getD j 0)
   exact hr _ ⟨Int.le_trans ha.1 le_mx, mx_le.2 ⟨ha.2, hb.2⟩⟩
  ·intro acc ha
   refine Ev.step (fun k => by rw [spec_l02Deep.l0]) ?_
   refine Ev.neg (by omega) ?_
   rw [wrap_id _ (by omega) (by omega)]
   exact Ev.now _
theorem impl_depth {next : Int} {l : List S113} (root : Int) (hl : docSm l) (hL : Loc next l) (hI : docI l) (hc : Clo l) (n : Nat) (hn : n ≤ 6) (id : Int) (h : id ∈ ids l) : Ev (fun k => impl_Doc_depth.f k root next l id (6 - (n : Int))) (dp l n id) := by
 have hl' := hl.1
 have idI : ∀ id, id ∈ ids l → i64 id := fun id h => by
  obtain ⟨x, hx, rfl⟩ := List.mem_map.1 h
  exact (hI x hx).1
 induction n generalizing id with
 | zero =>
  refine Ev.step (fun k => by rw [impl_Doc_depth.f]) ?_
  obtain ⟨i, hi, e1, hm, _, e2⟩ := nd_mem h
  refine Ev.neg (by omega) (Ev.bind (impl_find hl hL root next id (idI id h)) ?_)
  simp only [e1]
  refine Ev.neg (by omega) (Ev.pos (by omega) (Ev.pos (by omega) ?_))
  show Ev (fun k => impl_Doc_depth.l0 k (6 - (0 : Nat) : Int) 0 (l.getD i z113).f4 (l.getD i z113).f4.length 0 root next l) 1
  have hx := hl.2 _ (getD_mem l z113 i hi)
  refine list_loop0 (l.getD i z113).f4 0 (fun _ => (1 : Int)) (fun k j => impl_Doc_depth.l0 k (6 - (0 : Nat) : Int) 0 (l.getD i z113).f4 (l.getD i z113).f4.length j root next l) ?_ ?_
  ·intro j hj hr
   refine Ev.step (fun k => by rw [impl_Doc_depth.l0]) ?_
   refine Ev.pos (by omega) (Ev.pos (by omega) (Ev.pos (by omega) ?_))
   refine Ev.bind (a := 0) ?_ ?_
   ·refine Ev.step (fun k => by rw [impl_Doc_depth.f]) ?_
    exact Ev.pos (by rw [wrap_id _ (by omega) (by omega)]; omega) (Ev.now _)
   ·simp only [wrap_suc j (by omega)]
    exact hr
  ·refine Ev.step (fun k => by rw [impl_Doc_depth.l0]) ?_
   exact Ev.neg (by omega) (Ev.const (by rw [wrap_id _ (by omega) (by omega)]; rfl))
 | succ n ih =>
  refine Ev.step (fun k => by rw [impl_Doc_depth.f]) ?_
  obtain ⟨i, hi, e1, hm, _, e2⟩ := nd_mem h
  refine Ev.neg (by omega) (Ev.bind (impl_find hl hL root next id (idI id h)) ?_)
  simp only [e1]
  refine Ev.neg (by omega) (Ev.pos (by omega) (Ev.pos (by omega) ?_))
  show Ev (fun k => impl_Doc_depth.l0 k (6 - ((n + 1 : Nat) : Int)) 0 (l.getD i z113).f4 (l.getD i z113).f4.length 0 root next l) (dp l (n + 1) id)
  have e3 : kd l id = (l.getD i z113).f4 := by unfold kd; rw [e2]
  rw [dp, e3]
  have hx := hl.2 _ (getD_mem l z113 i hi)
  refine list_loop (l.getD i z113).f4 0 (fun _ acc => 0 ≤ acc ∧ acc ≤ (n : Int) + 1) (fun cs acc => cs.foldl (fun a c => mx a (dp l n c)) acc + 1) (fun k j acc => impl_Doc_depth.l0 k (6 - ((n + 1 : Nat) : Int)) acc (l.getD i z113).f4 (l.getD i z113).f4.length j root next l) ?_ ?_ 0 (by omega)
  ·intro j acc hj ha hr
   refine Ev.step (fun k => by rw [impl_Doc_depth.l0]) ?_
   have hk : (l.getD i z113).f4.getD j 0 ∈ ids l := hc _ (getD_mem l z113 i hi) _ (getD_mem _ _ j hj)
   refine Ev.pos (by omega) (Ev.pos (by omega) (Ev.pos (by omega) ?_))
   have w : wrap64 (6 - ((n + 1 : Nat) : Int) + 1) = 6 - (n : Int) := by rw [wrap_id _ (by omega) (by omega)]; omega
   simp only [w]
   refine Ev.bind (ih (by omega) _ hk) ?_
   simp only [wrap_suc j (by omega)]
   have hb := dp_bound l n ((l.getD i z113).f4.getD j 0)
   exact hr _ ⟨Int.le_trans ha.1 le_mx, mx_le.2 ⟨ha.2, hb.2⟩⟩
  ·intro acc ha
   refine Ev.step (fun k => by rw [impl_Doc_depth.l0]) ?_
   refine Ev.neg (by omega) ?_
   rw [wrap_id _ (by omega) (by omega)]
   exact Ev.now _
theorem impl_deep {next : Int} {l : List S113} (root : Int) (hl : docSm l) (hL : Loc next l) (hI : docI l) (hc : Clo l) (h : root ∈ ids l) : Ev (fun k => impl_Doc_isDeep.f k root next l) (decide (dp l 6 root > 6)) :=
 Ev.bind (impl_depth root hl hL hI hc 6 (by omega) root h) (Ev.now _)
def ordF (l : List S113) : Nat → Int → List Int
 | 0, _ => []
 | n + 1, id => id :: (kd l id).flatMap (ordF l n)
theorem flat_len (f : Int → List Int) (cs : List Int) (m b : Nat) (hl : cs.length ≤ m) (h : ∀ c ∈ cs, (f c).length ≤ b) : (cs.flatMap f).length ≤ m * b := by
 induction cs generalizing m with
 | nil => simp
 | cons c cs ih =>
  obtain ⟨m, rfl⟩ : ∃ k, m = k + 1 := ⟨m - 1, by simp at hl; omega⟩
  rw [List.flatMap_cons, List.length_append, Nat.succ_mul]
  have h1 := ih m (by simpa using hl) (fun d hd => h d (List.mem_cons_of_mem _ hd))
  have h2 := h c List.mem_cons_self
  omega
theorem ordF_len {l : List S113} (hk : ∀ x ∈ l, x.f4.length ≤ 12) (hc : Clo l) (n : Nat) (id : Int) (h : id ∈ ids l) : (ordF l n id).length ≤ 13 ^ n := by
 induction n generalizing id with
 | zero => simp [ordF]
 | succ n ih =>
  obtain ⟨i, hi, e1, hm, _, e2⟩ := nd_mem h
  have h1 := flat_len (ordF l n) (kd l id) 12 (13 ^ n) (hk _ hm) (fun c hc' => ih c (kd_ids hc h hc'))
  have h2 : 1 ≤ 13 ^ n := Nat.one_le_pow _ _ (by omega)
  rw [ordF, List.length_cons, Nat.pow_succ]
  omega
theorem impl_order {next : Int} {l : List S113} (root : Int) (hl : docSm l) (hL : Loc next l) (hI : docI l) (hc : Clo l) (n : Nat) (id : Int) (h : id ∈ ids l) (hd : dp l n id ≤ n) (out : List Int) (ho : out.length + 13 ^ n ≤ 1000000000000) :
  Ev (fun k => impl_Doc_order.f k root next l out id) (out ++ ordF l n id) := by
 have hl' := hl.1
 have idI : ∀ id, id ∈ ids l → i64 id := fun id h => by
  obtain ⟨x, hx, rfl⟩ := List.mem_map.1 h
  exact (hI x hx).1
 induction n generalizing id out with
 | zero => have := (dp_bound l 0 id).1; omega
 | succ n ih =>
  refine Ev.step (fun k => by rw [impl_Doc_order.f]) ?_
  obtain ⟨i, hi, e1, hm, _, e2⟩ := nd_mem h
  have h13 : 13 ^ (n + 1) = 13 * 13 ^ n := by rw [Nat.pow_succ, Nat.mul_comm]
  have hp : 1 ≤ 13 ^ n := Nat.one_le_pow _ _ (by omega)
  refine Ev.pos (by omega) (Ev.bind (impl_find hl hL root next id (idI id h)) ?_)
  simp only [e1]
  refine Ev.neg (by omega) (Ev.pos (by omega) (Ev.pos (by omega) ?_))
  show Ev (fun k => impl_Doc_order.l0 k (out ++ [id]) (l.getD i z113).f4 (l.getD i z113).f4.length 0 root next l) (out ++ ordF l (n + 1) id)
  have e3 : kd l id = (l.getD i z113).f4 := by unfold kd; rw [e2]
  rw [ordF, e3, show out ++ id :: List.flatMap (ordF l n) (l.getD i z113).f4 = (out ++ [id]) ++ List.flatMap (ordF l n) (l.getD i z113).f4 from by simp]
  have hx := hL.kids _ (getD_mem l z113 i hi)
  have hdk := dp_kid hd
  rw [e3] at hdk
  refine list_loop (l.getD i z113).f4 0 (fun j o => o.length + (12 - j) * 13 ^ n ≤ 1000000000000) (fun cs o => o ++ cs.flatMap (ordF l n)) (fun k j o => impl_Doc_order.l0 k o (l.getD i z113).f4 (l.getD i z113).f4.length j root next l) ?_ ?_ (out ++ [id]) (by simp; omega)
  ·intro j o hj ho' hr
   refine Ev.step (fun k => by rw [impl_Doc_order.l0]) ?_
   have hmj := getD_mem (l.getD i z113).f4 0 j hj
   have hk : (l.getD i z113).f4.getD j 0 ∈ ids l := hc _ (getD_mem l z113 i hi) _ hmj
   have e12 : 12 - j = (12 - (j + 1)) + 1 := by omega
   rw [e12, Nat.succ_mul] at ho'
   refine Ev.pos (by omega) (Ev.pos (by omega) (Ev.pos (by omega) ?_))
   refine Ev.bind (ih _ hk (hdk _ hmj) o (by omega)) ?_
   simp only [wrap_suc j (by omega)]
   rw [List.flatMap_cons, ← List.append_assoc]
   refine hr _ ?_
   have := ordF_len hL.kids hc n _ hk
   rw [List.length_append]
   omega
  ·intro o ho'
   refine Ev.step (fun k => by rw [impl_Doc_order.l0]) ?_
   refine Ev.neg (by omega) ?_
   simp only [List.flatMap_nil, List.append_nil]
   exact Ev.now _
def up (l : List S113) : Nat → Int → Int
 | 0, id => id
 | m + 1, id => up l m (par l id)
def cl (l : List S113) (root : Int) : Nat → Int → Bool
 | 0, id => decide (id = root)
 | m + 1, id => if id = root then true else if 0 < id then cl l root m (par l id) else false
theorem spec_climb {l : List S113} (root n : Int) (hl : docSm l) (i : Nat) (hi : i < l.length) (C : Bool) (hC : Ev (fun k => spec_l02Reach.l0 k ((i : Int) + 1) root n l) C) (m : Nat) : ∀ (s : Nat) (id : Int), s + m = l.length + 1 →
  Ev (fun k => spec_l02Reach.l1 k i id s root n l) (cl l root m id && C) := by
 have hl' := hl.1
 induction m with
 | zero =>
  intro s id hs
  refine Ev.step (fun k => by rw [spec_l02Reach.l1]) ?_
  rw [cl]
  by_cases h : id = root
  ·refine Ev.pos h ?_
   rw [decide_eq_true h, Bool.true_and]
   simp only [wrap_suc i (by omega)]
   exact hC
  ·refine Ev.neg h ?_
   rw [decide_eq_false h, Bool.false_and]
   by_cases g : id > 0
   ·exact Ev.pos g (Ev.neg (by omega) (Ev.now _))
   ·exact Ev.neg g (Ev.now _)
 | succ m ih =>
  intro s id hs
  refine Ev.step (fun k => by rw [spec_l02Reach.l1]) ?_
  rw [cl]
  by_cases h : id = root
  ·refine Ev.pos h ?_
   rw [if_pos h, Bool.true_and]
   simp only [wrap_suc i (by omega)]
   exact hC
  ·refine Ev.neg h ?_
   rw [if_neg h]
   by_cases g : id > 0
   ·rw [if_pos g]
    refine Ev.pos g (Ev.pos (by omega) (Ev.bind (spec_parent l root n id hl' hl.2) ?_))
    simp only [wrap_suc s (by omega)]
    exact ih (s + 1) _ (by omega)
   ·rw [if_neg g]
    exact Ev.neg g (Ev.now _)
theorem spec_reach {l : List S113} (root n : Int) (hl : docSm l) : Ev (fun k => spec_l02Reach.f k root n l) (l.all (fun x => cl l root (l.length + 1) x.f0)) := by
 have hl' := hl.1
 refine list_loop0 l z113 (fun l' => l'.all (fun x => cl l root (l.length + 1) x.f0)) (fun k i => spec_l02Reach.l0 k i root n l) ?_ ?_
 ·intro i hi hr
  refine Ev.step (fun k => by rw [spec_l02Reach.l0]) ?_
  rw [List.all_cons]
  exact Ev.pos (by omega) (Ev.pos (by omega) (spec_climb root n hl i hi _ hr (l.length + 1) 0 _ (by omega)))
 ·refine Ev.step (fun k => by rw [spec_l02Reach.l0]) ?_
  exact Ev.neg (by omega) (Ev.now _)
def flat (l : List S113) : List Int := l.flatMap (fun x => x.f4)
structure Doc0 (root next : Int) (l : List S113) : Prop where
 loc : Loc next l
 clo : Clo l
 rin : root ∈ ids l
 free : root ∉ flat l
 once : (flat l).Nodup
 cnt : (flat l).length + 1 = l.length
 len : 1 ≤ l.length ∧ l.length ≤ 40
def sumN : Nat → (Nat → Nat) → Nat
 | 0, _ => 0
 | n + 1, f => f 0 + sumN n (fun m => f (m + 1))
theorem sumN_congr {n : Nat} {f g : Nat → Nat} (h : ∀ m, m < n → f m = g m) : sumN n f = sumN n g := by
 induction n generalizing f g with
 | zero => rfl
 | succ n ih => rw [sumN, sumN, h 0 (by omega), ih (fun m hm => h (m + 1) (by omega))]
theorem sumN_add (n : Nat) (f g : Nat → Nat) : sumN n (fun m => f m + g m) = sumN n f + sumN n g := by
 induction n generalizing f g with
 | zero => rfl
 | succ n ih => simp only [sumN, ih]; omega
theorem sumN_zero (n : Nat) : sumN n (fun _ => 0) = 0 := by
 induction n with
 | zero => rfl
 | succ n ih => simp [sumN, ih]
theorem sumN_list (n : Nat) (cs : List Int) (g : Int → Nat → Nat) : (cs.map (fun c => sumN n (g c))).sum = sumN n (fun m => (cs.map (fun c => g c m)).sum) := by
 induction cs with
 | nil => simp [sumN_zero]
 | cons c cs ih => simp only [List.map_cons, List.sum_cons, ih, sumN_add]
theorem sumN_ge (n m : Nat) (f : Nat → Nat) (h : ∀ j, j ≤ m → 1 ≤ f j) (hm : m < n) : m + 1 ≤ sumN n f := by
 induction n generalizing m f with
 | zero => omega
 | succ n ih =>
  rw [sumN]
  have h0 := h 0 (by omega)
  cases m with
  | zero => omega
  | succ m =>
   have := ih m (fun j => f (j + 1)) (fun j hj => h (j + 1) (by omega)) (by omega)
   omega
theorem sumN_one (n : Nat) (p : Nat → Prop) [∀ m, Decidable (p m)] (h : ∀ a b, p a → p b → a = b) : sumN n (fun m => if p m then 1 else 0) = if ∃ m, m < n ∧ p m then 1 else 0 := by
 induction n generalizing p with
 | zero => simp [sumN]
 | succ n ih =>
  have e := ih (fun m => p (m + 1)) (fun a b ha hb => by have := h _ _ ha hb; omega)
  rw [sumN, e]
  by_cases h0 : p 0
  ·have : ¬ ∃ m, m < n ∧ p (m + 1) := fun ⟨m, _, hp⟩ => by have := h _ _ h0 hp; omega
   rw [if_pos h0, if_neg this, if_pos ⟨0, by omega, h0⟩]
  ·rw [if_neg h0, Nat.zero_add]
   by_cases g : ∃ m, m < n ∧ p (m + 1)
   ·obtain ⟨m, hm, hp⟩ := g
    rw [if_pos ⟨m, hm, hp⟩, if_pos ⟨m + 1, by omega, hp⟩]
   ·rw [if_neg g, if_neg (fun ⟨m, hm, hp⟩ => by
     cases m with
     | zero => exact h0 hp
     | succ m => exact g ⟨m, by omega, hp⟩)]
theorem count_flat (f : Int → List Int) (cs : List Int) (a : Int) : (cs.flatMap f).count a = (cs.map (fun c => (f c).count a)).sum := by
 induction cs with
 | nil => rfl
 | cons c cs ih => rw [List.flatMap_cons, List.count_append, List.map_cons, List.sum_cons, ih]
theorem sum_eq_count (cs : List Int) (a : Int) : (cs.map (fun c => if a = c then 1 else 0)).sum = cs.count a := by
 induction cs with
 | nil => rfl
 | cons c cs ih =>
  rw [List.map_cons, List.sum_cons, ih, List.count_cons]
  by_cases h : a = c
  ·subst h; simp; omega
  ·rw [if_neg h, if_neg (by simpa using fun e => h e.symm)]; omega
theorem par_of {l : List S113} (hn : (flat l).Nodup) {x : S113} (hx : x ∈ l) {id : Int} (h : id ∈ x.f4) : par l id = x.f0 := by
 induction l with
 | nil => cases hx
 | cons y l ih =>
  unfold flat at hn
  rw [List.flatMap_cons, List.nodup_append] at hn
  rw [par]
  rcases List.mem_cons.1 hx with e | hx
  ·subst e; rw [if_pos h]
  ·rw [if_neg (fun g => hn.2.2 _ g _ (List.mem_flatMap.2 ⟨x, hx, h⟩) rfl)]
   exact ih hn.2.1 hx
theorem kids_nodup {l : List S113} (hn : (flat l).Nodup) {x : S113} (hx : x ∈ l) : x.f4.Nodup := by
 obtain ⟨s, t, rfl⟩ := List.append_of_mem hx
 unfold flat at hn
 rw [List.flatMap_append, List.flatMap_cons, List.nodup_append] at hn
 exact (List.nodup_append.1 hn.2.1).1
theorem par_none {l : List S113} {id : Int} (h : id ∉ flat l) : par l id = 0 := by
 induction l with
 | nil => rfl
 | cons y l ih =>
  unfold flat at h
  rw [List.flatMap_cons, List.mem_append] at h
  rw [par, if_neg (fun g => h (.inl g))]
  exact ih (fun g => h (.inr g))
theorem par_cases (l : List S113) (id : Int) : (par l id = 0 ∧ id ∉ flat l) ∨ ∃ x, x ∈ l ∧ id ∈ x.f4 ∧ par l id = x.f0 := by
 induction l with
 | nil => exact .inl ⟨rfl, by simp [flat]⟩
 | cons y l ih =>
  rw [par]
  by_cases h : id ∈ y.f4
  ·exact .inr ⟨y, List.mem_cons_self, h, by rw [if_pos h]⟩
  ·rw [if_neg h]
   rcases ih with ⟨h1, h2⟩ | ⟨x, hx, h1, h2⟩
   ·refine .inl ⟨h1, ?_⟩
    unfold flat at h2 ⊢
    rw [List.flatMap_cons, List.mem_append]
    exact fun g => g.elim h h2
   ·exact .inr ⟨x, List.mem_cons_of_mem _ hx, h1, h2⟩
section
variable {root next : Int} {l : List S113}
theorem Doc0.pos (D : Doc0 root next l) {id : Int} (h : id ∈ ids l) : 1 ≤ id ∧ id ≤ next - 1 := by
 obtain ⟨x, hx, rfl⟩ := List.mem_map.1 h
 exact D.loc.id x hx
theorem Doc0.inj (D : Doc0 root next l) {x y : S113} (hx : x ∈ l) (hy : y ∈ l) (h : x.f0 = y.f0) : x = y := by
 obtain ⟨i, hi, rfl⟩ := List.getElem_of_mem hx
 obtain ⟨j, hj, rfl⟩ := List.getElem_of_mem hy
 have e := loc_inj D.loc hi hj (by rw [List.getD_eq_getElem?_getD, List.getD_eq_getElem?_getD, List.getElem?_eq_getElem hi, List.getElem?_eq_getElem hj]; exact h)
 subst e
 rfl
theorem Doc0.flat_ids (D : Doc0 root next l) {c : Int} (h : c ∈ flat l) : c ∈ ids l := by
 obtain ⟨x, hx, hc⟩ := List.mem_flatMap.1 h
 exact D.clo x hx c hc
theorem Doc0.par_ids (D : Doc0 root next l) (id : Int) : (par l id = 0 ∧ id ∉ flat l) ∨ par l id ∈ ids l := by
 rcases par_cases l id with h | ⟨x, hx, _, h⟩
 ·exact .inl h
 ·exact .inr (h ▸ List.mem_map.2 ⟨x, hx, rfl⟩)
theorem Doc0.par_root (D : Doc0 root next l) : par l root = 0 := par_none D.free
theorem Doc0.par_zero (D : Doc0 root next l) : par l 0 = 0 := par_none (fun h => by have := D.pos (D.flat_ids h); omega)
theorem Doc0.up_zero (D : Doc0 root next l) (m : Nat) : up l m 0 = 0 := by
 induction m with
 | zero => rfl
 | succ m ih => rw [up, D.par_zero, ih]
theorem up_add (l : List S113) (a b : Nat) (id : Int) : up l (a + b) id = up l b (up l a id) := by
 induction a generalizing id with
 | zero => rw [Nat.zero_add]; rfl
 | succ a ih => rw [Nat.succ_add, up, up, ih]
theorem Doc0.kid_count (D : Doc0 root next l) {p : Int} (hp : p ∈ ids l) (a : Int) : (kd l p).count a = if par l a = p then 1 else 0 := by
 obtain ⟨i, hi, e1, hm, e2, _⟩ := nd_mem hp
 by_cases h : a ∈ kd l p
 ·have e := par_of D.once hm h
  rw [e2] at e
  rw [if_pos e]
  have hn : (kd l p).Nodup := kids_nodup D.once hm
  exact (List.Nodup.count hn).trans (if_pos h)
 ·rw [List.count_eq_zero_of_not_mem h]
  rw [if_neg]
  intro e
  rcases par_cases l a with ⟨h1, _⟩ | ⟨x, hx, h1, h2⟩
  ·have := D.pos hp; omega
  ·have := D.inj hx hm (by rw [← h2, e, e2])
   subst this
   exact h h1
def Lv (l : List S113) : Nat → Int → List Int
 | 0, id => [id]
 | m + 1, id => (Lv l m id).flatMap (kd l)
theorem Lv_top (l : List S113) (m : Nat) (id : Int) : Lv l (m + 1) id = (kd l id).flatMap (Lv l m) := by
 induction m with
 | zero =>
  rw [Lv, Lv, List.flatMap_cons, List.flatMap_nil, List.append_nil]
  have : ∀ cs : List Int, cs.flatMap (Lv l 0) = cs := fun cs => by
   induction cs with
   | nil => rfl
   | cons c cs ih => rw [List.flatMap_cons, ih]; rfl
  exact (this _).symm
 | succ m ih =>
  rw [Lv, ih, List.flatMap_assoc]
  rfl
theorem Lv_ids (hc : Clo l) {m : Nat} {id : Int} (h : id ∈ ids l) : ∀ c ∈ Lv l m id, c ∈ ids l := by
 induction m with
 | zero =>
  intro c hc'
  rw [List.mem_singleton.1 hc']
  exact h
 | succ m ih =>
  intro c hc'
  obtain ⟨p, hp, hc'⟩ := List.mem_flatMap.1 hc'
  exact kd_ids hc (ih p hp) hc'
theorem Doc0.Lv_count (D : Doc0 root next l) (m : Nat) (a : Int) : (Lv l m root).count a = if up l m a = root then 1 else 0 := by
 induction m generalizing a with
 | zero =>
  rw [Lv, up, List.count_cons, List.count_nil]
  by_cases h : a = root
  ·subst h; simp
  ·rw [if_neg h, if_neg (by simpa using fun e => h e.symm)]
 | succ m ih =>
  rw [Lv, count_flat]
  have : (Lv l m root).map (fun c => (kd l c).count a) = (Lv l m root).map (fun c => if par l a = c then 1 else 0) :=
   List.map_congr_left (fun c hc => D.kid_count (Lv_ids D.clo D.rin c hc) a)
  rw [this, sum_eq_count, ih]
  rfl
theorem Doc0.up_once (D : Doc0 root next l) {id : Int} : ∀ a b, up l a id = root → up l b id = root → a = b := by
 have hr := D.pos D.rin
 have key : ∀ a d, up l a id = root → up l (a + (d + 1)) id = root → False := by
  intro a d h1 h2
  rw [up_add, h1, up, D.par_root, D.up_zero] at h2
  omega
 intro a b h1 h2
 rcases Nat.lt_trichotomy a b with h | h | h
 ·exact (key a (b - a - 1) h1 (by rw [show a + (b - a - 1 + 1) = b from by omega]; exact h2)).elim
 ·exact h
 ·exact (key b (a - b - 1) h2 (by rw [show b + (a - b - 1 + 1) = a from by omega]; exact h1)).elim
theorem ord_count (l : List S113) (n : Nat) (x a : Int) : (ordF l n x).count a = sumN n (fun m => (Lv l m x).count a) := by
 induction n generalizing x with
 | zero => rfl
 | succ n ih =>
  rw [ordF, sumN, List.count_cons, count_flat]
  have : (kd l x).map (fun c => (ordF l n c).count a) = (kd l x).map (fun c => sumN n (fun m => (Lv l m c).count a)) := List.map_congr_left (fun c _ => ih c)
  rw [this, sumN_list]
  have e : sumN n (fun m => ((kd l x).map (fun c => (Lv l m c).count a)).sum) = sumN n (fun m => (Lv l (m + 1) x).count a) := sumN_congr (fun m _ => by rw [Lv_top, count_flat])
  rw [e, Lv, List.count_cons, List.count_nil]
  omega
theorem len_flat (f : Int → List Int) (cs : List Int) : (cs.flatMap f).length = (cs.map (fun c => (f c).length)).sum := by
 induction cs with
 | nil => rfl
 | cons c cs ih => rw [List.flatMap_cons, List.length_append, List.map_cons, List.sum_cons, ih]
theorem ord_length (l : List S113) (n : Nat) (x : Int) : (ordF l n x).length = sumN n (fun m => (Lv l m x).length) := by
 induction n generalizing x with
 | zero => rfl
 | succ n ih =>
  rw [ordF, sumN, List.length_cons, len_flat]
  have : (kd l x).map (fun c => (ordF l n c).length) = (kd l x).map (fun c => sumN n (fun m => (Lv l m c).length)) := List.map_congr_left (fun c _ => ih c)
  rw [this, sumN_list]
  have e : sumN n (fun m => ((kd l x).map (fun c => (Lv l m c).length)).sum) = sumN n (fun m => (Lv l (m + 1) x).length) := sumN_congr (fun m _ => by rw [Lv_top, len_flat])
  rw [e, Lv, List.length_singleton]
  omega
theorem Doc0.ord_at (D : Doc0 root next l) (n : Nat) (a : Int) : (ordF l n root).count a = if ∃ m, m < n ∧ up l m a = root then 1 else 0 := by
 rw [ord_count]
 rw [sumN_congr (fun m _ => D.Lv_count m a)]
 exact sumN_one n (fun m => up l m a = root) D.up_once
theorem Doc0.ord_mem (D : Doc0 root next l) (n : Nat) (a : Int) : a ∈ ordF l n root ↔ ∃ m, m < n ∧ up l m a = root := by
 rw [← List.count_pos_iff, D.ord_at]
 split
 ·rename_i h; exact ⟨fun _ => h, fun _ => by omega⟩
 ·rename_i h; exact ⟨fun g => by omega, fun g => absurd g h⟩
theorem Doc0.ord_nodup (D : Doc0 root next l) (n : Nat) : (ordF l n root).Nodup := by
 rw [List.nodup_iff_count]
 intro a
 rw [D.ord_at]
 split <;> omega
theorem Doc0.ids_nodup (D : Doc0 root next l) : (ids l).Nodup := by
 unfold ids
 rw [List.nodup_iff_pairwise_ne, List.pairwise_map, List.pairwise_iff_getElem]
 intro i j hi hj hij
 have := D.loc.rise i j hij hj
 rw [List.getD_eq_getElem?_getD, List.getD_eq_getElem?_getD, List.getElem?_eq_getElem hi, List.getElem?_eq_getElem hj] at this
 simp only [Option.getD_some] at this
 omega
theorem ordF_ids (hc : Clo l) {n : Nat} {id : Int} (h : id ∈ ids l) : ∀ c ∈ ordF l n id, c ∈ ids l := by
 induction n generalizing id with
 | zero => intro c hc'; cases hc'
 | succ n ih =>
  intro c hc'
  rcases List.mem_cons.1 hc' with e | hc'
  ·subst e; exact h
  ·obtain ⟨p, hp, hc'⟩ := List.mem_flatMap.1 hc'
   exact ih (kd_ids hc h hp) c hc'
theorem nodup_len {A B : List Int} (hA : A.Nodup) (h : ∀ a ∈ A, a ∈ B) : A.length ≤ B.length := by
 induction A generalizing B with
 | nil => simp
 | cons a A ih =>
  obtain ⟨hna, hA⟩ := List.nodup_cons.1 hA
  have hb := h a List.mem_cons_self
  have := ih hA (B := B.erase a) (fun c hc => by
   have hne : c ≠ a := fun e => hna (e ▸ hc)
   exact (List.mem_erase_of_ne hne).2 (h c (List.mem_cons_of_mem _ hc)))
  rw [List.length_erase_of_mem hb] at this
  have := List.length_pos_of_mem hb
  simp only [List.length_cons]
  omega
theorem nodup_all {A B : List Int} (hA : A.Nodup) (h : ∀ a ∈ A, a ∈ B) (hl : B.length ≤ A.length) : ∀ b ∈ B, b ∈ A := by
 intro b hb
 apply Classical.byContradiction
 intro hn
 have := nodup_len hA (B := B.erase b) (fun c hc => (List.mem_erase_of_ne (fun e : c = b => hn (e ▸ hc))).2 (h c hc))
 rw [List.length_erase_of_mem hb] at this
 have := List.length_pos_of_mem hb
 omega
theorem Lv_nil {n : Nat} {x : Int} (h : dp l n x ≤ n) : Lv l n x = [] := by
 induction n generalizing x with
 | zero => have := (dp_bound l 0 x).1; omega
 | succ n ih =>
  rw [Lv_top]
  have hk := dp_kid h
  have : ∀ cs : List Int, (∀ c ∈ cs, dp l n c ≤ n) → cs.flatMap (Lv l n) = [] := fun cs => by
   induction cs with
   | nil => intro _; rfl
   | cons c cs ih2 =>
    intro h2
    rw [List.flatMap_cons, ih (h2 c List.mem_cons_self), ih2 (fun d hd => h2 d (List.mem_cons_of_mem _ hd))]
    rfl
  exact this _ hk
theorem Lv_nil_more {n : Nat} {x : Int} (h : Lv l n x = []) (d : Nat) : Lv l (n + d) x = [] := by
 induction d with
 | zero => exact h
 | succ d ih => rw [← Nat.add_assoc, Lv, ih]; rfl
theorem Doc0.up_lt (D : Doc0 root next l) {n : Nat} (h : dp l n root ≤ n) {m : Nat} {a : Int} (hu : up l m a = root) : m < n := by
 apply Classical.byContradiction
 intro g
 have e := Lv_nil_more (Lv_nil h) (m - n)
 rw [show n + (m - n) = m from by omega] at e
 have := D.Lv_count m a
 rw [e, if_pos hu] at this
 simp at this
theorem Doc0.cl_iff (D : Doc0 root next l) (M : Nat) (id : Int) (h : 1 ≤ id) : cl l root M id = true ↔ ∃ m, m ≤ M ∧ up l m id = root := by
 have hr := D.pos D.rin
 induction M generalizing id with
 | zero =>
  rw [cl, decide_eq_true_eq]
  constructor
  ·intro e; exact ⟨0, by omega, e⟩
  ·rintro ⟨m, hm, e⟩
   obtain rfl : m = 0 := by omega
   exact e
 | succ M ih =>
  rw [cl]
  by_cases e : id = root
  ·rw [if_pos e]
   exact ⟨fun _ => ⟨0, by omega, e⟩, fun _ => rfl⟩
  ·rw [if_neg e, if_pos (by omega)]
   rcases D.par_ids id with ⟨h0, _⟩ | h0
   ·rw [h0]
    constructor
    ·intro hcl
     cases M with
     | zero => rw [cl, decide_eq_true_eq] at hcl; omega
     | succ M => rw [cl, if_neg (by omega), if_neg (by omega)] at hcl; cases hcl
    ·rintro ⟨m, hm, hu⟩
     cases m with
     | zero => exact absurd hu e
     | succ m => rw [up, h0, D.up_zero] at hu; omega
   ·refine (ih _ (D.pos h0).1).trans ?_
    constructor
    ·rintro ⟨m, hm, hu⟩; exact ⟨m + 1, by omega, hu⟩
    ·rintro ⟨m, hm, hu⟩
     cases m with
     | zero => exact absurd hu e
     | succ m => exact ⟨m, by omega, hu⟩
theorem Doc0.reach (D : Doc0 root next l) (hd : dp l 6 root ≤ 6) : l.all (fun x => cl l root (l.length + 1) x.f0) = decide ((ordF l 6 root).length = l.length) := by
 have hlen : (ids l).length = l.length := by unfold ids; rw [List.length_map]
 apply Bool.eq_iff_iff.2
 rw [List.all_eq_true, decide_eq_true_eq]
 constructor
 ·intro h
  have h1 : ∀ a ∈ ids l, a ∈ ordF l 6 root := by
   intro a ha
   obtain ⟨x, hx, rfl⟩ := List.mem_map.1 ha
   obtain ⟨m, _, hu⟩ := (D.cl_iff _ _ (D.pos ha).1).1 (h x hx)
   exact (D.ord_mem 6 _).2 ⟨m, D.up_lt hd hu, hu⟩
  have h2 := nodup_len D.ids_nodup h1
  have h3 := nodup_len (D.ord_nodup 6) (ordF_ids D.clo D.rin)
  omega
 ·intro h x hx
  have hx' : x.f0 ∈ ids l := List.mem_map.2 ⟨x, hx, rfl⟩
  have hm := nodup_all (D.ord_nodup 6) (ordF_ids D.clo D.rin) (by omega) _ hx'
  obtain ⟨m, hm6, hu⟩ := (D.ord_mem 6 _).1 hm
  refine (D.cl_iff _ _ (D.pos hx').1).2 ⟨m, ?_, hu⟩
  have h1 := sumN_ge 6 m (fun j => (Lv l j root).length) (fun j hj => by
   have hc := D.Lv_count j (up l (m - j) x.f0)
   rw [← up_add, show m - j + j = m from by omega, if_pos hu] at hc
   exact List.length_pos_of_mem (List.count_pos_iff.1 (by omega : 0 < (Lv l j root).count (up l (m - j) x.f0)))) hm6
  rw [← ord_length] at h1
  omega
end
end Go.Proofs.YtahhgjkgfbppeaaGreat.Pure
namespace Go.Proofs.YtahhgjkgfbppeaaGreat.Pure
set_option linter.unusedVariables false
set_option linter.unusedSimpArgs false
open Go.RowKit Go.Proofs.YtahhgjkgfbppeaaGreat.XA Go.Proofs.YtahhgjkgfbppeaaGreat.Pk Go.Proofs.YtahhgjkgfbppeaaGreatW.PrintWords Go.Proofs.YtahhgjkgfbppeaaGreatW.PrintLast Go.Proofs.YtahhgjkgfbppeaaGreatW.PrintMore
def docB (root next : Int) (l : List S113) : Bool :=
 decide (1 ≤ l.length ∧ l.length ≤ 40) && (decide (2 ≤ next ∧ next ≤ 999999) && (nodesG root next l l.length 0 [] && (decide (dp l 6 root ≤ 6) && l.all (fun x => cl l root (l.length + 1) x.f0))))
theorem doc0_of {root next : Int} {l : List S113} (hn : 2 ≤ next ∧ next ≤ 999999) (hl : 1 ≤ l.length ∧ l.length ≤ 40) (h : nodesG root next l l.length 0 [] = true) : Doc0 root next l := by
 rw [nodesG_eq, Bool.and_eq_true] at h
 obtain ⟨h1, h2⟩ := h
 rw [kidsM_eq root l l.length 0 (by omega), List.drop_zero] at h2
 cases hk : kidsB root (ids l) (l.flatMap fun x => x.f4) [] with
 | none => rw [hk] at h2; cases h2
 | some s =>
  rw [hk] at h2
  obtain ⟨g1, g2, g3⟩ := kidsB_some _ _ _ _ _ hk List.nodup_nil
  rw [List.nil_append] at g1 g3
  subst g1
  have h2 := of_decide_eq_true h2
  refine ⟨loc_of next l hn h1, fun x hx c hc => (g2 c (List.mem_flatMap.2 ⟨x, hx, hc⟩)).2, h2.2, fun g => (g2 root g).1 rfl, g3, ?_, hl⟩
  have := h2.1
  unfold flat
  omega
structure Doc1 (root next : Int) (l : List S113) : Prop extends Doc0 root next l where
 deep : dp l 6 root ≤ 6
 all : (ordF l 6 root).length = l.length
theorem doc1_of {root next : Int} {l : List S113} (h : docB root next l = true) : Doc1 root next l := by
 simp only [docB, Bool.and_eq_true, decide_eq_true_eq] at h
 obtain ⟨h1, h2, h3, h4, h5⟩ := h
 have D := doc0_of h2 h1 h3
 rw [D.reach h4, decide_eq_true_eq] at h5
 exact ⟨D, h4, h5⟩
theorem spec_ok {root next : Int} {l : List S113} (hl : docSm l) : Ev (fun k => spec_l02OK.f k root next l) (docB root next l) := by
 refine Ev.use (tin_eq _ _ _) ?_
 unfold docB
 by_cases h1 : 1 ≤ l.length ∧ l.length ≤ 40
 ·refine Ev.pos (decide_eq_true (by omega)) (Ev.use (tin_eq _ _ _) ?_)
  rw [decide_eq_true h1, Bool.true_and]
  by_cases h2 : 2 ≤ next ∧ next ≤ 999999
  ·refine Ev.pos (decide_eq_true h2) (Ev.bind (spec_nodes l root next h2 hl (by omega)) ?_)
   rw [decide_eq_true h2, Bool.true_and]
   cases h3 : nodesG root next l l.length 0 []
   ·exact Ev.neg (by decide) (Ev.now _)
   ·have D := doc0_of h2 h1 h3
    refine Ev.pos rfl (Ev.bind (spec_reach root next hl) ?_)
    rw [Bool.true_and]
    cases h4 : l.all (fun x => cl l root (l.length + 1) x.f0)
    ·refine Ev.neg (by decide) ?_
     rw [Bool.and_false]
     exact Ev.now _
    ·refine Ev.pos rfl (Ev.bind (spec_deep root next hl D.clo 6 (by omega) root D.rin) ?_)
     rw [Bool.and_true]
     exact Ev.now _
  ·refine Ev.neg (ndec h2) ?_
   rw [decide_eq_false h2, Bool.false_and]
   exact Ev.now _
 ·refine Ev.neg (ndec (by omega)) ?_
  rw [decide_eq_false h1, Bool.false_and]
  exact Ev.now _
def mp (s : List Int) : List (Int × Bool) := s.map (fun c => (c, true))
theorem get_mp (s : List Int) (c : Int) : XM.get false (mp s) c = decide (c ∈ s) := by
 induction s with
 | nil => rfl
 | cons a s ih =>
  rw [show mp (a :: s) = (a, true) :: mp s from rfl, XM.get]
  by_cases h : c = a
  ·rw [if_pos h, decide_eq_true (by rw [h]; exact List.mem_cons_self)]
  ·rw [if_neg h, ih]
   exact decide_eq_decide.2 ⟨fun g => List.mem_cons_of_mem _ g, fun g => (List.mem_cons.1 g).resolve_left h⟩
theorem put_mp (s : List Int) (c : Int) (h : c ∉ s) : XM.put (mp s) c true = mp (s ++ [c]) := by
 induction s with
 | nil => rfl
 | cons a s ih =>
  rw [show mp (a :: s) = (a, true) :: mp s from rfl, XM.put, if_neg (fun e => h (by rw [e]; exact List.mem_cons_self)), ih (fun g => h (List.mem_cons_of_mem _ g))]
  rfl
theorem len_mp (s : List Int) : (mp s).length = s.length := List.length_map _
section
variable {root next : Int} {l : List S113}
def finI (root : Int) (l : List S113) (s : List Int) : Bool := if root ∈ ids l ∧ (s.length : Int) = (l.length : Int) - 1 then (if dp l 6 root > 6 then false else decide ((ordF l 6 root).length = l.length)) else false
def secI (root : Int) (l : List S113) : Bool := match kidsM root l l.length 0 [] with | none => false | some s => finI root l s
theorem impl_tail (x : S113) (J : Nat → Bool → Option Bool) (V : Bool) (hT : Ev (fun k => J k true) false) (hF : Ev (fun k => J k false) V) :
  Ev (fun k => (impl_within.f x.f1 1 8).bind fun t => (if t = true then ((impl_within.f x.f2 0 99).bind fun u => (if u = true then (if (x.f3.size : Int) > 20 then (J k true) else (J k (decide ((x.f4.length : Int) > 12)))) else (J k true))) else (J k true)))
   (if (1 ≤ x.f1 ∧ x.f1 ≤ 8) ∧ (0 ≤ x.f2 ∧ x.f2 ≤ 99) ∧ x.f3.size ≤ 20 ∧ x.f4.length ≤ 12 then V else false) := by
 refine Ev.use (twithin_eq _ _ _) ?_
 by_cases h1 : 1 ≤ x.f1 ∧ x.f1 ≤ 8
 ·refine Ev.pos (decide_eq_true h1) (Ev.use (twithin_eq _ _ _) ?_)
  by_cases h2 : 0 ≤ x.f2 ∧ x.f2 ≤ 99
  ·refine Ev.pos (decide_eq_true h2) ?_
   by_cases h3 : x.f3.size ≤ 20
   ·refine Ev.neg (by omega) ?_
    by_cases h4 : x.f4.length ≤ 12
    ·rw [if_pos ⟨h1, h2, h3, h4⟩, decide_eq_false (by omega)]
     exact hF
    ·rw [if_neg (fun g => h4 g.2.2.2), decide_eq_true (by omega)]
     exact hT
   ·rw [if_neg (fun g => h3 g.2.2.1)]
    exact Ev.pos (by omega) hT
  ·rw [if_neg (fun g => h2 g.2.1)]
   exact Ev.neg (ndec h2) hT
 ·rw [if_neg (fun g => h1 g.1)]
  exact Ev.neg (ndec h1) hT
theorem impl_first (hl : docSm l) (hn : 2 ≤ next ∧ next ≤ 999999) (V : Bool) (hV : Loc next l → Ev (fun k => impl_DocOK.l1 k l l.length 0 root next l ([] : List (Int × Bool))) V) :
  Ev (fun k => impl_DocOK.l0 k l l.length 0 root next l) (locG next l l.length 0 && V) := by
 have hl' := hl.1
 have w1 : wrap64 (next - 1) = next - 1 := wrap_id _ (by omega) (by omega)
 refine idx_loop l.length (fun i (_ : Unit) => ∀ j, j < i → nodeB next (l.getD j z113) = true ∧ ordB l j = true) (fun m i _ => locG next l m i && V) (fun k i _ => impl_DocOK.l0 k l l.length i root next l) ?_ ?_ () (fun j hj => by omega)
 ·intro m i _ hi hI hr
  refine Ev.step (fun k => by rw [impl_DocOK.l0]) ?_
  refine Ev.pos (by omega) (Ev.pos (by omega) (Ev.pos (by omega) (Ev.use (twithin_eq _ _ _) ?_)))
  rw [w1]
  have hT : Ev (fun k => impl_DocOK.j2 k l l.length i true root next l) false := Ev.step (fun k => by rw [impl_DocOK.j2]) (Ev.pos rfl (Ev.now _))
  have hF : ∀ W : Bool, Ev (fun k => impl_DocOK.l0 k l l.length ((i : Int) + 1) root next l) W → Ev (fun k => impl_DocOK.j2 k l l.length i false root next l) W := fun W hW =>
   Ev.step (fun k => by rw [impl_DocOK.j2]) (Ev.neg (by decide) (by simp only [wrap_suc i (by omega)]; exact hW))
  have tail : ordB l i = true → (1 ≤ (l.getD i z113).f0 ∧ (l.getD i z113).f0 ≤ next - 1) → Ev (fun k => (impl_within.f (l.getD i z113).f1 1 8).bind fun t => (if t = true then ((impl_within.f (l.getD i z113).f2 0 99).bind fun u => (if u = true then (if ((l.getD i z113).f3.size : Int) > 20 then (impl_DocOK.j2 k l l.length i true root next l) else (impl_DocOK.j2 k l l.length i (decide (((l.getD i z113).f4.length : Int) > 12)) root next l)) else (impl_DocOK.j2 k l l.length i true root next l))) else (impl_DocOK.j2 k l l.length i true root next l))) (locG next l (m + 1) i && V) := by
   intro h0 h1
   rw [locG, h0]
   by_cases hb : nodeB next (l.getD i z113) = true
   ·have hg := impl_tail (l.getD i z113) (fun k b => impl_DocOK.j2 k l l.length i b root next l) (locG next l m (i + 1) && V) hT (hF _ (hr () (fun j hj => by
     by_cases e : j = i
     ·subst e; exact ⟨hb, h0⟩
     ·exact hI j (by omega))))
    have hb' := (nodeB_iff _ _).1 hb
    rw [if_pos hb'.2] at hg
    rw [hb, Bool.true_and, Bool.true_and]
    exact hg
   ·have hg := impl_tail (l.getD i z113) (fun k b => impl_DocOK.j2 k l l.length i b root next l) true hT
    have hb' : nodeB next (l.getD i z113) = false := by simpa using hb
    rw [hb', Bool.false_and, Bool.false_and, Bool.false_and]
    have hn' := mt (nodeB_iff next (l.getD i z113)).2 hb
    have hn'' : ¬ ((1 ≤ (l.getD i z113).f1 ∧ (l.getD i z113).f1 ≤ 8) ∧ (0 ≤ (l.getD i z113).f2 ∧ (l.getD i z113).f2 ≤ 99) ∧ (l.getD i z113).f3.size ≤ 20 ∧ (l.getD i z113).f4.length ≤ 12) := fun g => hn' ⟨h1, g⟩
    refine Ev.use (twithin_eq _ _ _) ?_
    by_cases g1 : 1 ≤ (l.getD i z113).f1 ∧ (l.getD i z113).f1 ≤ 8
    ·refine Ev.pos (decide_eq_true g1) (Ev.use (twithin_eq _ _ _) ?_)
     by_cases g2 : 0 ≤ (l.getD i z113).f2 ∧ (l.getD i z113).f2 ≤ 99
     ·refine Ev.pos (decide_eq_true g2) ?_
      by_cases g3 : (l.getD i z113).f3.size ≤ 20
      ·refine Ev.neg (by omega) ?_
       have h12 : ¬ (l.getD i z113).f4.length ≤ 12 := fun g4 => hn'' ⟨g1, g2, g3, g4⟩
       rw [decide_eq_true (by omega)]
       exact hT
      ·exact Ev.pos (by omega) hT
     ·exact Ev.neg (ndec g2) hT
    ·exact Ev.neg (ndec g1) hT
  by_cases h1 : 1 ≤ (l.getD i z113).f0 ∧ (l.getD i z113).f0 ≤ next - 1
  ·refine Ev.pos (decide_eq_true h1) ?_
   by_cases h2 : i = 0
   ·exact Ev.neg (by omega) (tail (decide_eq_true (.inl h2)) h1)
   ·have e : wrap64 ((i : Int) - 1) = ((i - 1 : Nat) : Int) := by rw [wrap_id _ (by omega) (by omega)]; omega
    simp only [e]
    refine Ev.pos (by omega) (Ev.pos (by omega) (Ev.pos (by omega) ?_))
    rw [rd_nat, rd_nat]
    by_cases h3 : (l.getD (i - 1) z113).f0 < (l.getD i z113).f0
    ·exact Ev.neg (by omega) (tail (decide_eq_true (.inr h3)) h1)
    ·refine Ev.pos (by omega) ?_
     rw [locG, show ordB l i = false from decide_eq_false (fun g => g.elim h2 h3), Bool.and_false, Bool.false_and, Bool.false_and]
     exact hT
  ·refine Ev.neg (ndec h1) ?_
   rw [locG, show nodeB next (l.getD i z113) = false from by
    have := mt (nodeB_iff next (l.getD i z113)).1 (fun g => h1 g.1)
    simpa using this, Bool.false_and, Bool.false_and, Bool.false_and]
   exact hT
 ·intro _ hI
  refine Ev.step (fun k => by rw [impl_DocOK.l0]) ?_
  refine Ev.neg (by omega) ?_
  rw [locG, Bool.true_and]
  exact hV (loc_of next l hn ((locG_iff next l l.length 0).2 (fun j _ hj => hI j (by omega))))
theorem impl_kids (hl : docSm l) (hL : Loc next l) (i : Nat) (hi : i < l.length) (x : S113) (hx : x.f4.length ≤ 1048576) (hxI : ∀ c ∈ x.f4, i64 c) (s : List Int) (c : List Int → Bool)
  (hc : ∀ s', kidsB root (ids l) x.f4 s = some s' → Ev (fun k => impl_DocOK.l1 k l l.length ((i : Int) + 1) root next l (mp s')) (c s')) :
  Ev (fun k => impl_DocOK.l2 k l l.length i x.f4 x.f4.length 0 root next l (mp s)) (match kidsB root (ids l) x.f4 s with | none => false | some s' => c s') := by
 have hl' := hl.1
 refine list_loop x.f4 0 (fun j s' => kidsB root (ids l) x.f4 s = kidsB root (ids l) (x.f4.drop j) s') (fun cs s' => match kidsB root (ids l) cs s' with | none => false | some s' => c s') (fun k j s' => impl_DocOK.l2 k l l.length i x.f4 x.f4.length j root next l (mp s')) ?_ ?_ s rfl
 ·intro j s' hj hs' hr
  have ed : x.f4.drop j = x.f4.getD j 0 :: x.f4.drop (j + 1) := by
   rw [List.getD_eq_getElem?_getD, List.getElem?_eq_getElem (by omega), Option.getD_some]
   exact List.drop_eq_getElem_cons (by omega)
  rw [ed] at hs'
  refine Ev.step (fun k => by rw [impl_DocOK.l2]) ?_
  refine Ev.pos (by omega) (Ev.pos (by omega) (Ev.pos (by omega) ?_))
  rw [get_mp]
  show Ev (fun k => if decide (x.f4.getD j 0 ∈ s') = true then _ else _) (match (if x.f4.getD j 0 = root ∨ x.f4.getD j 0 ∈ s' ∨ x.f4.getD j 0 ∉ ids l then none else kidsB root (ids l) (x.f4.drop (j + 1)) (s' ++ [x.f4.getD j 0])) with | none => false | some s' => c s')
  have hT : Ev (fun k => impl_DocOK.j5 k (x.f4.getD j 0) l l.length i x.f4 x.f4.length j true root next l (mp s')) false := Ev.step (fun k => by rw [impl_DocOK.j5]) (Ev.pos rfl (Ev.now _))
  by_cases h2 : x.f4.getD j 0 ∈ s'
  ·rw [if_pos (.inr (.inl h2))]
   exact Ev.pos (decide_eq_true h2) hT
  refine Ev.neg (ndec h2) ?_
  by_cases h1 : x.f4.getD j 0 = root
  ·rw [if_pos (.inl h1)]
   exact Ev.pos h1 hT
  refine Ev.neg h1 (Ev.bind (impl_has hl hL root next _ (hxI _ (getD_mem _ _ j hj))) ?_)
  by_cases h3 : x.f4.getD j 0 ∈ ids l
  ·rw [if_neg (fun h => h.elim h1 (fun h => h.elim h2 (fun h => h h3)))]
   refine Ev.step (fun k => by rw [impl_DocOK.j5]) ?_
   refine Ev.neg (by rw [show rd x.f4 (j : Int) = x.f4.getD j 0 from rfl, decide_eq_true h3]; decide) ?_
   simp only [wrap_suc j (by omega)]
   rw [show rd x.f4 (j : Int) = x.f4.getD j 0 from rfl, put_mp _ _ h2]
   refine hr _ ?_
   rw [hs', kidsB, if_neg (fun h => h.elim h1 (fun h => h.elim h2 (fun h => h h3)))]
  ·rw [if_pos (.inr (.inr h3))]
   rw [show decide (rd x.f4 (j : Int) ∈ ids l) = false from decide_eq_false h3]
   exact hT
 ·intro s' hs'
  rw [List.drop_length] at hs'
  refine Ev.step (fun k => by rw [impl_DocOK.l2]) ?_
  refine Ev.neg (by omega) ?_
  simp only [wrap_suc i (by omega)]
  exact hc s' hs'
theorem impl_second (hl : docSm l) (hI : docI l) (hr : i64 root) (hL : Loc next l) (h0 : 1 ≤ l.length ∧ l.length ≤ 40) : Ev (fun k => impl_DocOK.l1 k l l.length 0 root next l (mp [])) (secI root l) := by
 have hl' := hl.1
 refine idx_loop l.length (fun i s => ∀ m, i + m = l.length → kidsM root l l.length 0 [] = kidsM root l m i s) (fun m i s => match kidsM root l m i s with | none => false | some s => finI root l s) (fun k i s => impl_DocOK.l1 k l l.length i root next l (mp s)) ?_ ?_ [] (fun m hm => by rw [show m = l.length from by omega])
 ·intro m i s hi hs hr'
  refine Ev.step (fun k => by rw [impl_DocOK.l1]) ?_
  refine Ev.pos (by omega) (Ev.pos (by omega) (Ev.pos (by omega) ?_))
  have hm := getD_mem l z113 i (by omega)
  have hg := impl_kids (root := root) hl hL i (by omega) (l.getD i z113) (hl.2 _ hm) (hI _ hm).2 s (fun s' => match kidsM root l m (i + 1) s' with | none => false | some s => finI root l s) (fun s' hs' => hr' s' (fun m' hm' => by
   obtain rfl : m' = m := by omega
   rw [hs (m' + 1) (by omega), kidsM, hs']
   rfl))
  have e : (match kidsM root l (m + 1) i s with | none => false | some s => finI root l s) = (match kidsB root (ids l) (l.getD i z113).f4 s with | none => false | some s' => (match kidsM root l m (i + 1) s' with | none => false | some s => finI root l s)) := by
   rw [kidsM]
   cases kidsB root (ids l) (l.getD i z113).f4 s <;> rfl
  rw [e]
  exact hg
 ·intro s hs
  refine Ev.step (fun k => by rw [impl_DocOK.l1]) ?_
  refine Ev.neg (by omega) (Ev.bind (impl_has hl hL root next root hr) ?_)
  show Ev _ (finI root l s)
  have hJ : Ev (fun k => impl_DocOK.j6 k true root next l) false := Ev.step (fun k => by rw [impl_DocOK.j6]) (Ev.pos rfl (Ev.now _))
  unfold finI
  by_cases h1 : root ∈ ids l
  ·refine Ev.pos (decide_eq_true h1) ?_
   rw [len_mp, wrap_id _ (by omega) (by omega)]
   by_cases h2 : (s.length : Int) = (l.length : Int) - 1
   ·rw [if_pos ⟨h1, h2⟩]
    have hk := hs 0 (by omega)
    rw [kidsM_eq root l l.length 0 (by omega), List.drop_zero] at hk
    obtain ⟨_, g2, _⟩ := kidsB_some _ _ _ _ _ hk List.nodup_nil
    have hc : Clo l := fun x hx c hc => (g2 c (List.mem_flatMap.2 ⟨x, hx, hc⟩)).2
    refine Ev.pos h2 (Ev.bind (impl_deep root hl hL hI hc h1) ?_)
    by_cases h3 : dp l 6 root > 6
    ·rw [if_pos h3, decide_eq_true h3]
     exact hJ
    ·rw [if_neg h3, decide_eq_false h3]
     refine Ev.step (fun k => by rw [impl_DocOK.j6]) ?_
     refine Ev.neg (by decide) (Ev.bind (impl_order root hl hL hI hc 6 root h1 (by omega) [] (by decide)) ?_)
     rw [List.nil_append]
     rw [show (((ordF l 6 root).length : Int) == (l.length : Int)) = decide ((ordF l 6 root).length = l.length) from by
      rw [Bool.eq_iff_iff, beq_iff_eq, decide_eq_true_eq]; omega]
     exact Ev.now _
   ·rw [if_neg (fun g => h2 g.2)]
    exact Ev.neg h2 hJ
  ·rw [if_neg (fun g => h1 g.1)]
   exact Ev.neg (ndec h1) hJ
theorem impl_doc (hl : docSm l) (hI : docI l) (hr : i64 root) : Ev (fun k => impl_DocOK.f k root next l) (docB root next l) := by
 refine Ev.use (twithin_eq _ _ _) ?_
 have hJ : Ev (fun k => impl_DocOK.j0 k true root next l) false := Ev.step (fun k => by rw [impl_DocOK.j0]) (Ev.pos rfl (Ev.now _))
 unfold docB
 by_cases h1 : 1 ≤ l.length ∧ l.length ≤ 40
 ·refine Ev.pos (decide_eq_true (by omega)) (Ev.use (twithin_eq _ _ _) ?_)
  rw [decide_eq_true h1, Bool.true_and]
  by_cases h2 : 2 ≤ next ∧ next ≤ 999999
  ·rw [decide_eq_true h2, Bool.true_and]
   refine Ev.step (fun k => by rw [impl_DocOK.j0]) ?_
   refine Ev.neg (by decide) ?_
   have hg := impl_first (root := root) hl h2 (secI root l) (fun hL => impl_second hl hI hr hL h1)
   have e : (nodesG root next l l.length 0 [] && (decide (dp l 6 root ≤ 6) && l.all (fun x => cl l root (l.length + 1) x.f0))) = (locG next l l.length 0 && secI root l) := by
    cases hN : nodesG root next l l.length 0 []
    ·rw [nodesG_eq] at hN
     cases hG : locG next l l.length 0
     ·rfl
     ·rw [hG, Bool.true_and] at hN
      rw [Bool.false_and, Bool.true_and]
      unfold secI
      cases hk : kidsM root l l.length 0 [] with
      | none => rfl
      | some s =>
       rw [hk] at hN
       have hN := of_decide_eq_false hN
       show false = finI root l s
       unfold finI
       rw [if_neg (fun g => hN ⟨g.2, g.1⟩)]
    ·have D := doc0_of h2 h1 hN
     rw [nodesG_eq, Bool.and_eq_true] at hN
     rw [hN.1, Bool.true_and, Bool.true_and]
     unfold secI
     cases hk : kidsM root l l.length 0 [] with
     | none => rw [hk] at hN; exact absurd hN.2 (by simp)
     | some s =>
      rw [hk] at hN
      have hF := of_decide_eq_true hN.2
      show _ = finI root l s
      unfold finI
      rw [if_pos ⟨hF.2, hF.1⟩]
      by_cases h3 : dp l 6 root ≤ 6
      ·rw [decide_eq_true h3, Bool.true_and, if_neg (by omega), D.reach h3]
      ·rw [decide_eq_false h3, Bool.false_and, if_pos (by omega)]
   rw [e]
   exact hg
  ·rw [decide_eq_false h2, Bool.false_and]
   exact hJ
 ·rw [decide_eq_false h1, Bool.false_and]
  exact Ev.neg (ndec (by omega)) hJ
end
theorem i64_of {n : Int} (h : (Lit.int .i64 n).wf = true) : i64 n := by
 simp only [Lit.wf, Bool.and_eq_true] at h
 exact ⟨of_decide_eq_true h.1, of_decide_eq_true h.2⟩
theorem docSm_of (x : S24) (h : sm24 x) : docSm (x.f2.map cv109) := by
 obtain ⟨_, _, h1, h2⟩ := h
 refine ⟨by rw [List.length_map]; exact h1, fun y hy => ?_⟩
 obtain ⟨z, hz, rfl⟩ := List.mem_map.1 hy
 exact (h2 z hz).2.2.2.2
theorem docI_of (x : S24) (h : ok24 x) : docI (x.f2.map cv109) := by
 obtain ⟨_, _, _, h2⟩ := h
 intro y hy
 obtain ⟨z, hz, rfl⟩ := List.mem_map.1 hy
 obtain ⟨g0, _, _, _, _, g4⟩ := h2 z hz
 exact ⟨i64_of g0, fun c hc => i64_of (g4 c hc)⟩
end Go.Proofs.YtahhgjkgfbppeaaGreat.Pure
namespace Go.Proofs.YtahhgjkgfbppeaaGreat.Pure
set_option linter.unusedVariables false
set_option linter.unusedSimpArgs false
open Go.RowKit Go.Proofs.YtahhgjkgfbppeaaGreat.XA Go.Proofs.YtahhgjkgfbppeaaGreat.Pk Go.Proofs.YtahhgjkgfbppeaaGreatW.PrintWords Go.Proofs.YtahhgjkgfbppeaaGreatW.PrintLast Go.Proofs.YtahhgjkgfbppeaaGreatW.PrintMore
def holdI (t : List S39) : Prop := ∀ h ∈ t, i64 h.f0 ∧ i64 h.f1 ∧ i64 h.f2
def holdB (l : List S113) (h : S39) : Bool := decide (1 ≤ h.f0 ∧ h.f0 ≤ 999) && (decide (1 ≤ h.f2 ∧ h.f2 ≤ 5) && decide (h.f1 ∈ ids l))
def lessB (a b : S39) : Bool := decide (a.f0 < b.f0 ∨ a.f0 = b.f0 ∧ a.f1 < b.f1)
def holdOrd (t : List S39) (i : Nat) : Bool := decide (i = 0) || lessB (t.getD (i - 1) z39) (t.getD i z39)
def holdsB (l : List S113) (t : List S39) : Bool := decide (t.length ≤ 30) && allN t.length (fun i => holdB l (t.getD i z39) && holdOrd t i)
def holdsOK (root next : Int) (l : List S113) (t : List S39) : Bool := docB root next l && holdsB l t
theorem spec_hold {l : List S113} (root n : Int) (hl : docSm l) (h : S39) : Ev (fun k => spec_l07Hold.f k root n l h.f0 h.f1 h.f2) (holdB l h) := by
 refine Ev.use (tin_eq _ _ _) ?_
 unfold holdB
 by_cases h1 : 1 ≤ h.f0 ∧ h.f0 ≤ 999
 ·refine Ev.pos (decide_eq_true h1) (Ev.use (x := decide (1 ≤ h.f2 ∧ h.f2 ≤ 5)) (by simp only [spec_l07Mode.f, tin_eq, Option.bind_some]) ?_)
  rw [decide_eq_true h1, Bool.true_and]
  by_cases h2 : 1 ≤ h.f2 ∧ h.f2 ≤ 5
  ·refine Ev.pos (decide_eq_true h2) ?_
   rw [decide_eq_true h2, Bool.true_and]
   refine (Ev.bind (spec_at l root n h.f1 hl.1) ?_)
   rw [show decide (h.f1 ∈ ids l) = decide (atF l h.f1 ≥ 0) from decide_eq_decide.2 ⟨fun g => by have := mt (at_neg l h.f1).1 (fun e => e g); omega, fun g => Classical.byContradiction fun e => by have := (at_neg l h.f1).2 e; omega⟩]
   exact Ev.now _
  ·refine Ev.neg (ndec h2) ?_
   rw [decide_eq_false h2, Bool.false_and]
   exact Ev.now _
 ·refine Ev.neg (ndec h1) ?_
  rw [decide_eq_false h1, Bool.false_and]
  exact Ev.now _
theorem spec_less (a b : S39) : spec_l07Less.f a.f0 a.f1 a.f2 b.f0 b.f1 b.f2 = some (lessB a b) := by
 unfold spec_l07Less.f lessB
 by_cases h1 : a.f0 < b.f0
 ·rw [if_pos h1, decide_eq_true (.inl h1)]
 ·rw [if_neg h1]
  by_cases h2 : a.f0 = b.f0
  ·rw [if_pos h2]
   exact congrArg some (decide_eq_decide.2 ⟨fun g => .inr ⟨h2, g⟩, fun g => (g.resolve_left h1).2⟩)
  ·rw [if_neg h2, decide_eq_false (fun g => g.elim h1 (fun g => h2 g.1))]
theorem spec_holds {l : List S113} (root n : Int) (hl : docSm l) (t : List S39) : Ev (fun k => spec_l07Holds.f k root n l t) (holdsB l t) := by
 unfold holdsB
 by_cases h30 : t.length ≤ 30
 ·rw [decide_eq_true h30, Bool.true_and]
  refine Ev.neg (by omega) ?_
  refine all_loop t.length _ (fun k i => spec_l07Holds.l0 k t i root n l) ?_ ?_ ?_
  ·intro i r hi hp hr
   obtain ⟨p1, p2⟩ := (Bool.and_eq_true _ _).mp hp
   refine Ev.step (fun k => by rw [spec_l07Holds.l0]) ?_
   refine Ev.pos (by omega) (Ev.pos (by omega) (Ev.bind (spec_hold root n hl (t.getD i z39)) (Ev.pos p1 ?_)))
   simp only [wrap_suc i (by omega)]
   by_cases h0 : i = 0
   ·exact Ev.neg (by omega) hr
   ·have e : wrap64 ((i : Int) - 1) = ((i - 1 : Nat) : Int) := by rw [wrap_id _ (by omega) (by omega)]; omega
    simp only [e]
    have p3 : lessB (t.getD (i - 1) z39) (t.getD i z39) = true := by
     unfold holdOrd at p2
     rwa [decide_eq_false h0, Bool.false_or] at p2
    exact Ev.pos (by omega) (Ev.pos (by omega) (Ev.pos (by omega) (Ev.use (spec_less (t.getD (i - 1) z39) (t.getD i z39)) (Ev.pos p3 hr))))
  ·intro i hi hp
   refine Ev.step (fun k => by rw [spec_l07Holds.l0]) ?_
   refine Ev.pos (by omega) (Ev.pos (by omega) (Ev.bind (spec_hold root n hl (t.getD i z39)) ?_))
   cases p1 : holdB l (t.getD i z39)
   ·exact Ev.neg (by decide) (Ev.now _)
   ·rw [p1, Bool.true_and] at hp
    have h0 : ¬ i = 0 := fun e => by unfold holdOrd at hp; rw [decide_eq_true e, Bool.true_or] at hp; cases hp
    have e : wrap64 ((i : Int) - 1) = ((i - 1 : Nat) : Int) := by rw [wrap_id _ (by omega) (by omega)]; omega
    simp only [e]
    have p3 : lessB (t.getD (i - 1) z39) (t.getD i z39) = false := by
     unfold holdOrd at hp
     rwa [decide_eq_false h0, Bool.false_or] at hp
    refine Ev.pos (by simp) (Ev.pos (by omega) (Ev.pos (by omega) (Ev.pos (by omega) (Ev.use (spec_less (t.getD (i - 1) z39) (t.getD i z39)) (Ev.neg ?_ (Ev.now _))))))
    rw [p3]; decide
  ·refine Ev.step (fun k => by rw [spec_l07Holds.l0]) ?_
   exact Ev.neg (by omega) (Ev.now _)
 ·rw [decide_eq_false h30, Bool.false_and]
  exact Ev.pos (by omega) (Ev.now _)
theorem spec_holdsOK {root next : Int} {l : List S113} (hl : docSm l) (t : List S39) : Ev (fun k => spec_HoldsOK.f k root next l t) (holdsOK root next l t) := by
 unfold holdsOK
 by_cases h : t.length ≤ 4096
 ·refine Ev.neg (by omega) (Ev.bind (spec_ok hl) ?_)
  cases docB root next l
  ·exact Ev.neg (by decide) (Ev.now _)
  ·rw [Bool.true_and]
   exact Ev.pos rfl (Ev.bind (spec_holds root next hl t) (Ev.now _))
 ·rw [show holdsB l t = false from by unfold holdsB; rw [decide_eq_false (by omega), Bool.false_and], Bool.and_false]
  exact Ev.pos (by omega) (Ev.now _)
theorem impl_hold {next : Int} {l : List S113} (root : Int) (hl : docSm l) (hL : Loc next l) (h : S39) (hi : i64 h.f1) : Ev (fun k => impl_Doc_isHold.f k root next l h.f0 h.f1 h.f2) (holdB l h) := by
 refine Ev.use (x := decide (1 ≤ h.f0 ∧ h.f0 ≤ 999)) (by simp only [impl_isSession.f, twithin_eq, Option.bind_some]) ?_
 unfold holdB
 by_cases h1 : 1 ≤ h.f0 ∧ h.f0 ≤ 999
 ·refine Ev.pos (decide_eq_true h1) (Ev.bind (impl_has hl hL root next h.f1 hi) ?_)
  rw [decide_eq_true h1, Bool.true_and]
  by_cases h3 : h.f1 ∈ ids l
  ·refine Ev.pos (decide_eq_true h3) ?_
   rw [decide_eq_true h3, Bool.and_true]
   exact (Ev.use (x := decide (1 ≤ h.f2 ∧ h.f2 ≤ 5)) (by simp only [impl_isMode.f, twithin_eq, Option.bind_some]) (Ev.now _))
  ·refine Ev.neg (ndec h3) ?_
   rw [decide_eq_false h3, Bool.and_false]
   exact Ev.now _
 ·refine Ev.neg (ndec h1) ?_
  rw [decide_eq_false h1, Bool.false_and]
  exact Ev.now _
def cmpI (a b : Int) : Int := if a < b then -1 else if a > b then 1 else 0
def cmpH (a b : S39) : Int := if cmpI a.f0 b.f0 = 0 then cmpI a.f1 b.f1 else cmpI a.f0 b.f0
theorem cmp_eq (a b : Int) : cmp_Compare_int.f a b = some (cmpI a b) := by
 simp only [cmp_Compare_int.f, cmp_isNaN_int.f, Option.bind_some, bne_self_eq_false, Bool.false_eq_true, if_false]
 unfold cmpI
 by_cases h : a < b
 ·rw [if_pos h, if_pos h]
 ·rw [if_neg h, if_neg h]
  by_cases g : a > b
  ·rw [if_pos g, if_pos g]
  ·rw [if_neg g, if_neg g]
theorem impl_cmp (a b : S39) : Ev (fun k => impl_compareHolds.f k a.f0 a.f1 a.f2 b.f0 b.f1 b.f2) (cmpH a b) := by
 refine Ev.use (cmp_eq _ _) (Ev.use (cmp_eq _ _) (Ev.bind (a := cmpH a b) ?_ (Ev.now _)))
 show Ev (fun k => cmp_Or_int.l0 k 0 [cmpI a.f0 b.f0, cmpI a.f1 b.f1] 2 0) (cmpH a b)
 unfold cmpH
 refine Ev.step (fun k => by rw [cmp_Or_int.l0]) ?_
 refine Ev.pos (by decide) (Ev.pos (by decide) (Ev.pos (by simp) ?_))
 by_cases h1 : cmpI a.f0 b.f0 = 0
 ·rw [if_pos h1]
  refine Ev.pos h1 ?_
  refine Ev.step (fun k => by rw [cmp_Or_int.l0]) ?_
  rw [show wrap64 (0 + 1) = 1 from (wrap_id (0 + 1) (by omega) (by omega)).trans rfl]
  refine Ev.pos (by decide) (Ev.pos (by decide) (Ev.pos (by simp) ?_))
  by_cases h2 : cmpI a.f1 b.f1 = 0
  ·refine Ev.pos h2 ?_
   refine Ev.step (fun k => by rw [cmp_Or_int.l0]) ?_
   rw [h2, show wrap64 (1 + 1) = 2 from (wrap_id (1 + 1) (by omega) (by omega)).trans rfl]
   exact Ev.neg (by decide) (Ev.now _)
  ·exact Ev.neg h2 (Ev.now _)
 ·rw [if_neg h1]
  exact Ev.neg h1 (Ev.now _)
theorem cmp_less (a b : S39) : decide (cmpH a b < 0) = lessB a b := by
 unfold lessB
 refine decide_eq_decide.2 ?_
 unfold cmpH cmpI
 split <;> split <;> (try split) <;> (try split) <;> omega
theorem impl_holdsOK {root next : Int} {l : List S113} (hl : docSm l) (hI : docI l) (hr : i64 root) (t : List S39) (ht : holdI t) (hs : t.length ≤ 1048576) : Ev (fun k => impl_HoldsOK.f k root next l t) (holdsOK root next l t) := by
 refine Ev.bind (impl_doc hl hI hr) ?_
 have hT : Ev (fun k => impl_HoldsOK.j0 k t true root next l) false := Ev.step (fun k => by rw [impl_HoldsOK.j0]) (Ev.pos rfl (Ev.now _))
 unfold holdsOK
 cases hd : docB root next l
 ·exact Ev.neg (by decide) hT
 ·refine Ev.pos rfl ?_
  have D := doc1_of hd
  have hL := D.loc
  rw [Bool.true_and]
  unfold holdsB
  by_cases h30 : t.length ≤ 30
  ·rw [decide_eq_true h30, Bool.true_and, decide_eq_false (by omega)]
   refine Ev.step (fun k => by rw [impl_HoldsOK.j0]) (Ev.neg (by decide) ?_)
   refine all_loop t.length _ (fun k i => impl_HoldsOK.l0 k t t t.length i root next l) ?_ ?_ ?_
   ·intro i r hi hp hr
    obtain ⟨p1, p2⟩ := (Bool.and_eq_true _ _).mp hp
    refine Ev.step (fun k => by rw [impl_HoldsOK.l0]) ?_
    refine Ev.pos (by omega) (Ev.pos (by omega) (Ev.pos (by omega) (Ev.bind (impl_hold root hl hL (t.getD i z39) (ht _ (getD_mem t _ i hi)).2.1) (Ev.pos p1 ?_))))
    simp only [wrap_suc i (by omega)]
    by_cases h0 : i = 0
    ·exact Ev.neg (by omega) hr
    ·have e : wrap64 ((i : Int) - 1) = ((i - 1 : Nat) : Int) := by rw [wrap_id _ (by omega) (by omega)]; omega
     simp only [e]
     have p3 : lessB (t.getD (i - 1) z39) (t.getD i z39) = true := by
      unfold holdOrd at p2
      rwa [decide_eq_false h0, Bool.false_or] at p2
     rw [← cmp_less, decide_eq_true_eq] at p3
     exact Ev.pos (by omega) (Ev.pos (by omega) (Ev.pos (by omega) (Ev.bind (impl_cmp (t.getD (i - 1) z39) (t.getD i z39)) (Ev.neg (by omega) hr))))
   ·intro i hi hp
    refine Ev.step (fun k => by rw [impl_HoldsOK.l0]) ?_
    refine Ev.pos (by omega) (Ev.pos (by omega) (Ev.pos (by omega) (Ev.bind (impl_hold root hl hL (t.getD i z39) (ht _ (getD_mem t _ i hi)).2.1) ?_)))
    cases p1 : holdB l (t.getD i z39)
    ·exact Ev.neg (by decide) (Ev.now _)
    ·rw [p1, Bool.true_and] at hp
     have h0 : ¬ i = 0 := fun e => by unfold holdOrd at hp; rw [decide_eq_true e, Bool.true_or] at hp; cases hp
     have e : wrap64 ((i : Int) - 1) = ((i - 1 : Nat) : Int) := by rw [wrap_id _ (by omega) (by omega)]; omega
     simp only [e]
     have p3 : lessB (t.getD (i - 1) z39) (t.getD i z39) = false := by
      unfold holdOrd at hp
      rwa [decide_eq_false h0, Bool.false_or] at hp
     rw [← cmp_less, decide_eq_false_iff_not] at p3
     exact Ev.pos (by simp) (Ev.pos (by omega) (Ev.pos (by omega) (Ev.pos (by omega) (Ev.bind (impl_cmp (t.getD (i - 1) z39) (t.getD i z39)) (Ev.pos (by omega) (Ev.now _))))))
   ·refine Ev.step (fun k => by rw [impl_HoldsOK.l0]) ?_
    exact Ev.neg (by omega) (Ev.now _)
  ·rw [decide_eq_false h30, Bool.false_and, decide_eq_true (by omega)]
   exact hT
theorem holdI_of (x : List S27) (h : x.length ≤ maxLen ∧ ∀ y ∈ x, ok27 y) : holdI (x.map cv27) := by
 intro y hy
 obtain ⟨z, hz, rfl⟩ := List.mem_map.1 hy
 obtain ⟨g0, g1, g2⟩ := h.2 z hz
 exact ⟨i64_of g0, i64_of g1, i64_of g2⟩
end Go.Proofs.YtahhgjkgfbppeaaGreat.Pure
namespace Go.Proofs.YtahhgjkgfbppeaaGreat.Pure
set_option linter.unusedVariables false
set_option linter.unusedSimpArgs false
open Go.RowKit Go.Proofs.YtahhgjkgfbppeaaGreat.XA Go.Proofs.YtahhgjkgfbppeaaGreat.Pk Go.Proofs.YtahhgjkgfbppeaaGreatW.PrintWords Go.Proofs.YtahhgjkgfbppeaaGreatW.PrintLast Go.Proofs.YtahhgjkgfbppeaaGreatW.PrintMore
theorem Doc1.reach {root next : Int} {l : List S113} (D : Doc1 root next l) {id : Int} (h : id ∈ ids l) : ∃ m, m < 6 ∧ up l m id = root := by
 have h1 := nodup_all (D.ord_nodup 6) (ordF_ids D.clo D.rin) (by rw [D.all]; simp [ids]) id h
 exact (D.ord_mem 6 id).1 h1
end Go.Proofs.YtahhgjkgfbppeaaGreat.Pure
namespace Go.Proofs.YtahhgjkgfbppeaaGreat.Pure
set_option linter.unusedVariables false
set_option linter.unusedSimpArgs false
open Go.RowKit Go.Proofs.YtahhgjkgfbppeaaGreat.XA Go.Proofs.YtahhgjkgfbppeaaGreat.Pk Go.Proofs.YtahhgjkgfbppeaaGreatW.PrintWords Go.Proofs.YtahhgjkgfbppeaaGreatW.PrintLast Go.Proofs.YtahhgjkgfbppeaaGreatW.PrintMore
theorem impl_index (l : List Int) (v : Int) (h : l.length ≤ 1048576) : Ev (fun k => slices_Index_int_int.f k l v) (findN l.length (fun i => decide (l.getD i 0 = v))) := by
 refine find_loop l.length _ (fun k i => slices_Index_int_int.l0 k l v l.length i) ?_ ?_ ?_
 ·intro i q hi hp hq
  refine Ev.step (fun k => by rw [slices_Index_int_int.l0]) ?_
  refine Ev.pos (by omega) (Ev.pos (by omega) (Ev.pos (by omega) (Ev.neg (fun e => of_decide_eq_false hp e.symm) ?_)))
  simp only [wrap_suc i (by omega)]
  exact hq
 ·intro i hi hp
  refine Ev.step (fun k => by rw [slices_Index_int_int.l0]) ?_
  exact Ev.pos (by omega) (Ev.pos (by omega) (Ev.pos (by omega) (Ev.pos (of_decide_eq_true hp).symm (Ev.now _))))
 ·refine Ev.step (fun k => by rw [slices_Index_int_int.l0]) ?_
  exact Ev.neg (by omega) (Ev.now _)
theorem impl_contains (l : List Int) (v : Int) (h : l.length ≤ 1048576) : Ev (fun k => slices_Contains_int_int.f k l v) (decide (v ∈ l)) := by
 refine Ev.bind (impl_index l v h) ?_
 rcases findN_spec l.length (fun i => decide (l.getD i 0 = v)) with ⟨h1, h2⟩ | ⟨i, hi, h1, h2, _⟩
 ·rw [h1, decide_eq_false (fun hm : v ∈ l => by
   obtain ⟨i, hi, e⟩ := List.getElem_of_mem hm
   have := of_decide_eq_false (h2 i hi)
   rw [List.getD_eq_getElem?_getD, List.getElem?_eq_getElem hi] at this
   exact this e)]
  exact Ev.now _
 ·rw [h1, decide_eq_true (show v ∈ l from of_decide_eq_true h2 ▸ getD_mem l 0 i hi)]
  exact Ev.const (by rw [decide_eq_true (by omega : (i : Int) ≥ 0)])
end Go.Proofs.YtahhgjkgfbppeaaGreat.Pure
namespace Go.Proofs.YtahhgjkgfbppeaaGreat.Pure
set_option linter.unusedVariables false
set_option linter.unusedSimpArgs false
open Go.RowKit Go.Proofs.YtahhgjkgfbppeaaGreat.XA Go.Proofs.YtahhgjkgfbppeaaGreat.Pk Go.Proofs.YtahhgjkgfbppeaaGreatW.PrintWords Go.Proofs.YtahhgjkgfbppeaaGreatW.PrintLast Go.Proofs.YtahhgjkgfbppeaaGreatW.PrintMore
theorem impl_parent {l : List S113} (hl : docSm l) (r n id : Int) : Ev (fun k => impl_Doc_parent.f k r n l id) (par l id) := by
 have hl' := hl.1
 refine list_loop0 l z113 (fun l => par l id) (fun k i => impl_Doc_parent.l0 k id l l.length i) ?_ ?_
 ·intro i hi hr
  refine Ev.step (fun k => by rw [impl_Doc_parent.l0]) ?_
  refine Ev.pos (by omega) (Ev.pos (by omega) (Ev.pos (by omega) (Ev.bind (impl_contains _ _ (hl.2 _ (getD_mem l _ i hi))) ?_)))
  show Ev (fun k => if decide (id ∈ (l.getD i z113).f4) = true then _ else _) (if id ∈ (l.getD i z113).f4 then (l.getD i z113).f0 else par (l.drop (i + 1)) id)
  by_cases e : id ∈ (l.getD i z113).f4
  ·rw [if_pos e]
   exact Ev.pos (decide_eq_true e) (Ev.now _)
  ·rw [if_neg e]
   refine Ev.neg (ndec e) ?_
   simp only [wrap_suc i (by omega)]
   exact hr
 ·refine Ev.step (fun k => by rw [impl_Doc_parent.l0]) ?_
  exact Ev.neg (by omega) (Ev.now _)
end Go.Proofs.YtahhgjkgfbppeaaGreat.Pure
namespace Go.Proofs.YtahhgjkgfbppeaaGreat.Pure
set_option linter.unusedVariables false
set_option linter.unusedSimpArgs false
open Go.RowKit Go.Proofs.YtahhgjkgfbppeaaGreat.XA Go.Proofs.YtahhgjkgfbppeaaGreat.Pk Go.Proofs.YtahhgjkgfbppeaaGreatW.PrintWords Go.Proofs.YtahhgjkgfbppeaaGreatW.PrintLast Go.Proofs.YtahhgjkgfbppeaaGreatW.PrintMore
def upL (l : List S113) : Nat → Int → List Int
 | 0, _ => []
 | m + 1, id => id :: upL l m (par l id)
theorem par_in {root next : Int} {l : List S113} (D : Doc0 root next l) {m : Nat} {id : Int} (hu : up l (m + 1) id = root) : par l id ∈ ids l := by
 rcases D.par_ids id with ⟨h0, _⟩ | h
 ·have h2 : up l m (par l id) = root := hu
  rw [h0, D.up_zero] at h2
  have := D.pos D.rin
  omega
 ·exact h
theorem spec_path {root next : Int} {l : List S113} (hl : docSm l) (D : Doc0 root next l) (a b : Int) : ∀ (m : Nat) (id : Int) (out : List Int), id ∈ ids l → up l m id = root → out.length + m ≤ 1000 →
  Ev (fun k => spec_l02Path.l0 k out id a b l) ((upL l (m + 1) id).reverse ++ out)
 | m, id, out, h, hu, ho => by
  have hp := D.pos h
  refine Ev.step (fun k => by rw [spec_l02Path.l0]) ?_
  refine Ev.pos (by omega) ?_
  show Ev (fun k => if ([id] : List Int).length + out.length < 17592186044416 then ((spec_l02Parent.f k a b l id).bind fun t => (spec_l02Path.l0 k ([id] ++ out) t a b l)) else none) _
  refine Ev.pos (by simp only [List.length_cons, List.length_nil]; omega) (Ev.bind (spec_parent l a b id hl.1 hl.2) ?_)
  cases m with
  | zero =>
   have e : id = root := hu
   subst e
   rw [D.par_root]
   refine Ev.step (fun k => by rw [spec_l02Path.l0]) (Ev.neg (by omega) ?_)
   exact Ev.now _
  | succ m =>
   have := spec_path hl D a b m (par l id) ([id] ++ out) (par_in D hu) hu (by simp only [List.length_append, List.length_cons, List.length_nil]; omega)
   rw [show (upL l (m + 1 + 1) id).reverse ++ out = (upL l (m + 1) (par l id)).reverse ++ ([id] ++ out) from by simp [upL]]
   exact this
theorem rd_mid (A B : List Int) (a : Int) : rd (A ++ a :: B) (A.length : Int) = a := by
 show (A ++ a :: B).getD A.length 0 = a
 simp [List.getD_eq_getElem?_getD]
theorem set_mid (A B : List Int) (a b : Int) : (A ++ a :: B).set A.length b = A ++ b :: B := by
 rw [List.set_append_right _ _ (Nat.le_refl _)]; simp
theorem rev_ev : ∀ (n : Nat) (M A B : List Int), M.length ≤ n → A.length + M.length + B.length ≤ 1048576 →
  Ev (fun k => slices_Reverse_int_int.l0 k (A ++ (M ++ B)) (A.length : Int) ((A.length : Int) + M.length - 1)) (A ++ (M.reverse ++ B))
 | n, [], A, B, hn, hb => by
  refine Ev.step (fun k => by rw [slices_Reverse_int_int.l0]) ?_
  exact Ev.neg (by simp only [List.length_nil]; omega) (Ev.now _)
 | 0, a :: M, A, B, hn, hb => absurd hn (by simp)
 | n + 1, a :: M, A, B, hn, hb => by
  rcases List.eq_nil_or_concat M with h | ⟨M', b, h⟩
  ·subst h
   refine Ev.step (fun k => by rw [slices_Reverse_int_int.l0]) ?_
   exact Ev.neg (by simp only [List.length_cons, List.length_nil]; omega) (Ev.now _)
  ·rw [List.concat_eq_append] at h
   subst h
   simp only [List.length_cons, List.length_append, List.length_nil] at hn hb
   have e1 : A ++ (a :: (M' ++ [b]) ++ B) = A ++ a :: (M' ++ b :: B) := by simp
   have e2 : A ++ a :: (M' ++ b :: B) = (A ++ a :: M') ++ b :: B := by simp
   have e3 : (A.length : Int) + ((a :: (M' ++ [b])).length : Nat) - 1 = ((A ++ a :: M').length : Int) := by simp only [List.length_cons, List.length_append, List.length_nil]; omega
   have e4 : A ++ b :: (M' ++ b :: B) = (A ++ b :: M') ++ b :: B := by simp
   have l1 : (A ++ a :: M').length = (A ++ b :: M').length := by simp
   rw [e1, e3]
   have hs : ((A ++ a :: (M' ++ b :: B)).set ((A.length : Int)).toNat (rd (A ++ a :: (M' ++ b :: B)) ((A ++ a :: M').length : Int))).set (((A ++ a :: M').length : Int)).toNat (rd (A ++ a :: (M' ++ b :: B)) (A.length : Int)) = (A ++ [b]) ++ (M' ++ (a :: B)) := by
    rw [rd_mid A, Int.toNat_natCast, Int.toNat_natCast]
    have r2 : rd (A ++ a :: (M' ++ b :: B)) ((A ++ a :: M').length : Int) = b := by rw [e2]; exact rd_mid _ _ _
    rw [r2, set_mid, e4, l1, set_mid]
    simp
   refine Ev.step (fun k => by rw [slices_Reverse_int_int.l0]) ?_
   have g1 : (A ++ a :: M').length = A.length + (M'.length + 1) := by simp
   have g2 : (A ++ a :: (M' ++ b :: B)).length = A.length + (M'.length + (B.length + 1) + 1) := by simp
   refine Ev.pos (by omega) (Ev.pos (by omega) (Ev.pos (by omega) (Ev.pos (by omega) (Ev.pos (by omega) ?_))))
   rw [hs]
   have w1 : wrap64 ((A.length : Int) + 1) = ((A ++ [b]).length : Int) := by rw [wrap_suc _ (by omega)]; simp
   have w2 : wrap64 (((A ++ a :: M').length : Int) - 1) = ((A ++ [b]).length : Int) + (M'.length : Int) - 1 := by
    rw [wrap_id _ (by omega) (by omega)]; simp only [List.length_append, List.length_cons, List.length_nil]; omega
   rw [w1, w2]
   have := rev_ev n M' (A ++ [b]) (a :: B) (by omega) (by simp only [List.length_cons, List.length_append, List.length_nil]; omega)
   rw [show A ++ ((a :: (M' ++ [b])).reverse ++ B) = (A ++ [b]) ++ (M'.reverse ++ (a :: B)) from by simp]
   exact this
theorem impl_reverse (M : List Int) (h : M.length ≤ 1048576) : Ev (fun k => slices_Reverse_int_int.f k M) M.reverse := by
 have := rev_ev M.length M [] [] (Nat.le_refl _) (by simpa using h)
 simp only [List.nil_append, List.append_nil, List.length_nil] at this
 have e : wrap64 ((M.length : Int) - 1) = ((0 : Nat) : Int) + (M.length : Int) - 1 := by rw [wrap_id _ (by omega) (by omega)]; omega
 show Ev (fun k => slices_Reverse_int_int.l0 k M 0 (wrap64 ((M.length : Int) - 1))) _
 rw [e]
 exact this
theorem impl_path {root next : Int} {l : List S113} (hl : docSm l) (D : Doc0 root next l) (a b : Int) : ∀ (m : Nat) (id : Int) (out : List Int), id ∈ ids l → up l m id = root → out.length + m ≤ 1000 →
  Ev (fun k => impl_Doc_path.l0 k id out a b l) ((out ++ upL l (m + 1) id).reverse)
 | m, id, out, h, hu, ho => by
  have hp := D.pos h
  refine Ev.step (fun k => by rw [impl_Doc_path.l0]) ?_
  refine Ev.neg (by omega) (Ev.pos (by omega) (Ev.bind (impl_parent hl a b id) ?_))
  cases m with
  | zero =>
   have e : id = root := hu
   subst e
   rw [D.par_root]
   refine Ev.step (fun k => by rw [impl_Doc_path.l0]) (Ev.pos rfl ?_)
   exact Ev.bind (impl_reverse (out ++ [id]) (by simp only [List.length_append, List.length_cons, List.length_nil]; omega)) (Ev.now _)
  | succ m =>
   have := impl_path hl D a b m (par l id) (out ++ [id]) (par_in D hu) hu (by simp only [List.length_append, List.length_cons, List.length_nil]; omega)
   rw [show out ++ upL l (m + 1 + 1) id = (out ++ [id]) ++ upL l (m + 1) (par l id) from by simp [upL]]
   exact this
end Go.Proofs.YtahhgjkgfbppeaaGreat.Pure
namespace Go.Proofs.YtahhgjkgfbppeaaGreat.Pure
set_option linter.unusedVariables false
set_option linter.unusedSimpArgs false
open Go.RowKit Go.Proofs.YtahhgjkgfbppeaaGreat.XA Go.Proofs.YtahhgjkgfbppeaaGreat.Pk Go.Proofs.YtahhgjkgfbppeaaGreatW.PrintWords Go.Proofs.YtahhgjkgfbppeaaGreatW.PrintLast Go.Proofs.YtahhgjkgfbppeaaGreatW.PrintMore
def holdsN (l : List S113) (t : List S39) : Prop := ∀ h ∈ t, 1 ≤ h.f0 ∧ h.f0 ≤ 999 ∧ 1 ≤ h.f2 ∧ h.f2 ≤ 5 ∧ h.f1 ∈ ids l
theorem holdB_iff {l : List S113} {h : S39} (g : holdB l h = true) : 1 ≤ h.f0 ∧ h.f0 ≤ 999 ∧ 1 ≤ h.f2 ∧ h.f2 ≤ 5 ∧ h.f1 ∈ ids l := by
 unfold holdB at g
 simp only [Bool.and_eq_true, decide_eq_true_eq] at g
 exact ⟨g.1.1, g.1.2, g.2.1.1, g.2.1.2, g.2.2⟩
def lockC (root next : Int) (l : List S113) (t : List S39) (s node : Int) : Int :=
 if 4096 < t.length then 2 else if holdsOK root next l t = true then (if 1 ≤ s ∧ s ≤ 999 then (if node ∈ ids l then 0 else 5) else 4) else 1
theorem lock_zero {root next : Int} {l : List S113} {t : List S39} {s node : Int} (h : lockC root next l t s node = 0) : ¬ 4096 < t.length ∧ Doc1 root next l ∧ holdsN l t ∧ t.length ≤ 30 ∧ (1 ≤ s ∧ s ≤ 999) ∧ node ∈ ids l := by
 unfold lockC at h
 by_cases c1 : 4096 < t.length
 ·rw [if_pos c1] at h; omega
 ·rw [if_neg c1] at h
  by_cases c2 : holdsOK root next l t = true
  ·rw [if_pos c2] at h
   by_cases c3 : 1 ≤ s ∧ s ≤ 999
   ·rw [if_pos c3] at h
    by_cases c4 : node ∈ ids l
    ·have c2' := c2
     unfold holdsOK holdsB at c2'
     simp only [Bool.and_eq_true, decide_eq_true_eq] at c2'
     refine ⟨c1, doc1_of c2'.1, ?_, c2'.2.1, c3, c4⟩
     intro x hx
     obtain ⟨j, hj, e⟩ := List.getElem_of_mem hx
     have := (allN_iff _ _).1 c2'.2.2 j hj
     rw [Bool.and_eq_true] at this
     have g := holdB_iff this.1
     rw [List.getD_eq_getElem?_getD, List.getElem?_eq_getElem hj] at g
     rw [← e]
     exact g
    ·rw [if_neg c4] at h; omega
   ·rw [if_neg c3] at h; omega
  ·rw [if_neg c2] at h; omega
theorem holdLen {α β : Type} (f : α → β) {x : List α} (h : x.length ≤ 1048576) : (x.map f).length ≤ 1048576 := by rw [List.length_map]; exact h
end Go.Proofs.YtahhgjkgfbppeaaGreat.Pure
namespace Go.Proofs.YtahhgjkgfbppeaaGreat.Pure
set_option linter.unusedVariables false
set_option linter.unusedSimpArgs false
open Go.RowKit Go.Proofs.YtahhgjkgfbppeaaGreat.XA Go.Proofs.YtahhgjkgfbppeaaGreat.Pk Go.Proofs.YtahhgjkgfbppeaaGreatW.PrintWords Go.Proofs.YtahhgjkgfbppeaaGreatW.PrintLast Go.Proofs.YtahhgjkgfbppeaaGreatW.PrintMore
def joinF (a b : Int) : Int := if a > b then (if b = 2 then (if a = 3 then 4 else a) else a) else (if a = 2 then (if b = 3 then 4 else b) else b)
theorem spec_join (a b : Int) : Ev (fun k => spec_l07Join.f k a b) (joinF a b) := by
 have two : ∀ a b : Int, ¬ a > b → Ev (fun k => spec_l07Join.f k a b) (if a = 2 then (if b = 3 then 4 else b) else b) := fun a b h => by
  refine Ev.step (fun k => by rw [spec_l07Join.f]) (Ev.neg h (Ev.const ?_))
  by_cases c : a = 2 <;> by_cases d : b = 3 <;> simp [c, d]
 unfold joinF
 by_cases h : a > b
 ·rw [if_pos h]
  exact Ev.step (fun k => by rw [spec_l07Join.f]) (Ev.pos h (Ev.bind (two b a (by omega)) (Ev.now _)))
 ·rw [if_neg h]
  exact two a b h
theorem joinF_ge {a b : Int} : a ≤ joinF a b ∧ b ≤ joinF a b ∧ (joinF a b ≤ 4 ∨ joinF a b = a ∨ joinF a b = b) := by
 unfold joinF
 split <;> split <;> (try split) <;> omega
theorem joinF_zero {a : Int} (h : 0 ≤ a) : joinF a 0 = a := by
 unfold joinF
 split <;> split <;> (try split) <;> omega
end Go.Proofs.YtahhgjkgfbppeaaGreat.Pure
namespace Go.Proofs.YtahhgjkgfbppeaaGreat.Pure
set_option linter.unusedVariables false
set_option linter.unusedSimpArgs false
open Go.RowKit Go.Proofs.YtahhgjkgfbppeaaGreat.XA Go.Proofs.YtahhgjkgfbppeaaGreat.Pk Go.Proofs.YtahhgjkgfbppeaaGreatW.PrintWords Go.Proofs.YtahhgjkgfbppeaaGreatW.PrintLast Go.Proofs.YtahhgjkgfbppeaaGreatW.PrintMore
def pth (l : List S113) : Nat → Int → List Int
 | 0, _ => []
 | n + 1, id => if id ≤ 0 then [] else id :: pth l n (par l id)
theorem pth_zero (l : List S113) (n : Nat) : pth l n 0 = [] := by
 cases n
 ·rfl
 ·rw [pth, if_pos (by omega)]
theorem pth_up {root next : Int} {l : List S113} (D : Doc0 root next l) : ∀ (m n : Nat) (id : Int), id ∈ ids l → up l m id = root → m < n → pth l n id = upL l (m + 1) id
 | m, 0, id, h, hu, hn => by omega
 | 0, n + 1, id, h, hu, hn => by
  have e : id = root := hu
  subst e
  have := D.pos h
  rw [pth, if_neg (by omega), D.par_root, pth_zero]
  rfl
 | m + 1, n + 1, id, h, hu, hn => by
  have := D.pos h
  rw [pth, if_neg (by omega), pth_up D m n (par l id) (par_in D hu) hu (by omega)]
  rfl
def pathF (l : List S113) (id : Int) : List Int := (pth l 7 id).reverse
theorem spec_pathF {root next : Int} {l : List S113} (hl : docSm l) (D : Doc1 root next l) (a b : Int) {id : Int} (h : id ∈ ids l) : Ev (fun k => spec_l02Path.f k a b l id) (pathF l id) := by
 obtain ⟨m, hm, hu⟩ := D.reach h
 have s := spec_path hl D.toDoc0 a b m id [] h hu (by simp only [List.length_nil]; omega)
 unfold pathF
 rw [pth_up D.toDoc0 m 7 id h hu (by omega)]
 rwa [List.append_nil] at s
theorem impl_pathF {root next : Int} {l : List S113} (hl : docSm l) (D : Doc1 root next l) (a b : Int) {id : Int} (h : id ∈ ids l) : Ev (fun k => impl_Doc_path.f k a b l id) (pathF l id) := by
 obtain ⟨m, hm, hu⟩ := D.reach h
 have s := impl_path hl D.toDoc0 a b m id [] h hu (by simp only [List.length_nil]; omega)
 unfold pathF
 rw [pth_up D.toDoc0 m 7 id h hu (by omega)]
 rwa [List.nil_append] at s
theorem path_len (l : List S113) (id : Int) : (pathF l id).length ≤ 7 := by
 unfold pathF
 rw [List.length_reverse]
 have : ∀ n id, (pth l n id).length ≤ n := fun n => by
  induction n with
  | zero => exact fun id => Nat.le_refl _
  | succ n ih =>
   intro id
   rw [pth]
   split
   ·simp
   ·rw [List.length_cons]
    have := ih (par l id)
    omega
 exact this 7 id
end Go.Proofs.YtahhgjkgfbppeaaGreat.Pure
namespace Go.Proofs.YtahhgjkgfbppeaaGreat.Pure
set_option linter.unusedVariables false
set_option linter.unusedSimpArgs false
open Go.RowKit Go.Proofs.YtahhgjkgfbppeaaGreat.XA Go.Proofs.YtahhgjkgfbppeaaGreat.Pk Go.Proofs.YtahhgjkgfbppeaaGreatW.PrintWords Go.Proofs.YtahhgjkgfbppeaaGreatW.PrintLast Go.Proofs.YtahhgjkgfbppeaaGreatW.PrintMore
def intentF (m : Int) : Int := if m = 0 then 0 else if m = 1 then 1 else if m = 3 then 1 else 2
theorem spec_intent (m : Int) : spec_l07Intent.f m = some (intentF m) := by
 unfold spec_l07Intent.f intentF
 split
 ·rfl
 ·split
  ·rfl
  ·split <;> rfl
def needF (l : List S113) (h : S39) (node : Int) : Int := if h.f1 = node then h.f2 else if node ∈ pathF l h.f1 then intentF h.f2 else 0
def modeS (l : List S113) (s node m : Int) (h : S39) : Int := if h.f0 = s then joinF m (needF l h node) else m
def modeF (l : List S113) (t : List S39) (s node : Int) : Int := t.foldl (modeS l s node) 0
theorem spec_mode {root next : Int} {l : List S113} (hl : docSm l) (D : Doc1 root next l) (a b : Int) (t : List S39) (ht : holdsN l t) (hs : t.length ≤ 1048576) (s node : Int) :
  Ev (fun k => spec_l07At.f k a b l t s node) (modeF l t s node) := by
 refine list_loop t z39 (fun _ m => 0 ≤ m) (fun hs m => hs.foldl (modeS l s node) m) (fun k i m => spec_l07At.l0 k t s node m i a b l) ?_ ?_ 0 (by omega)
 ·intro i m hi hm hr
  refine Ev.step (fun k => by rw [spec_l07At.l0]) ?_
  obtain ⟨_, _, h1, h2, h3⟩ := ht _ (getD_mem t z39 i hi)
  refine Ev.pos (by omega) (Ev.pos (by omega) ?_)
  rw [List.foldl_cons]
  simp only [wrap_suc i (by omega)]
  show Ev (fun k => if (t.getD i z39).f0 = s then _ else _) _
  by_cases c : (t.getD i z39).f0 = s
  ·refine Ev.pos c ?_
   unfold modeS
   rw [if_pos c]
   unfold needF
   show Ev (fun k => if (t.getD i z39).f1 = node then _ else _) _
   by_cases d : (t.getD i z39).f1 = node
   ·rw [if_pos d]
    refine Ev.pos d (Ev.bind (spec_join m (t.getD i z39).f2) (hr _ ?_))
    have := (@joinF_ge m (t.getD i z39).f2).1
    omega
   ·rw [if_neg d]
    refine Ev.neg d (Ev.bind (spec_pathF hl D a b h3) (Ev.bind (spec_has _ node (by have := path_len l (rd_T39 t (i : Int)).f1; omega)) ?_))
    by_cases e : node ∈ pathF l (t.getD i z39).f1
    ·rw [if_pos e]
     refine Ev.pos (decide_eq_true e) (Ev.use (spec_intent _) (Ev.bind (spec_join m _) (hr _ ?_)))
     have := (@joinF_ge m (intentF (t.getD i z39).f2)).1
     exact Int.le_trans hm this
    ·rw [if_neg e, joinF_zero hm]
     exact Ev.neg (ndec e) (hr _ hm)
  ·refine Ev.neg c ?_
   have e0 : modeS l s node m (t.getD i z39) = m := if_neg c
   rw [e0]
   exact hr _ hm
 ·intro m hm
  refine Ev.step (fun k => by rw [spec_l07At.l0]) ?_
  exact Ev.neg (by omega) (Ev.now _)
end Go.Proofs.YtahhgjkgfbppeaaGreat.Pure
namespace Go.Proofs.YtahhgjkgfbppeaaGreat.Pure
set_option linter.unusedVariables false
set_option linter.unusedSimpArgs false
open Go.RowKit Go.Proofs.YtahhgjkgfbppeaaGreat.XA Go.Proofs.YtahhgjkgfbppeaaGreat.Pk Go.Proofs.YtahhgjkgfbppeaaGreatW.PrintWords Go.Proofs.YtahhgjkgfbppeaaGreatW.PrintLast Go.Proofs.YtahhgjkgfbppeaaGreatW.PrintMore
theorem impl_join (a b : Int) : impl_joined.f a b = some (joinF a b) := by
 unfold impl_joined.f joinF
 by_cases h : a > b
 ·have e1 : mn a b = b := by unfold mn; rw [if_pos (by omega)]
  have e2 : mx a b = a := by unfold mx; rw [if_neg (by omega)]
  rw [e1, e2, if_pos h]
  by_cases c : b = 2
  ·rw [if_pos c, if_pos c]
   by_cases d : a = 3
   ·rw [if_pos d, if_pos d]
   ·rw [if_neg d, if_neg d]
  ·rw [if_neg c, if_neg c]
 ·have e1 : mn a b = a := by unfold mn; rw [if_neg (by omega)]
  have e2 : mx a b = b := by unfold mx; split <;> omega
  rw [e1, e2, if_neg h]
  by_cases c : a = 2
  ·rw [if_pos c, if_pos c]
   by_cases d : b = 3
   ·rw [if_pos d, if_pos d]
   ·rw [if_neg d, if_neg d]
  ·rw [if_neg c, if_neg c]
end Go.Proofs.YtahhgjkgfbppeaaGreat.Pure
namespace Go.Proofs.YtahhgjkgfbppeaaGreat.Pure
set_option linter.unusedVariables false
set_option linter.unusedSimpArgs false
open Go.RowKit Go.Proofs.YtahhgjkgfbppeaaGreat.XA Go.Proofs.YtahhgjkgfbppeaaGreat.Pk Go.Proofs.YtahhgjkgfbppeaaGreatW.PrintWords Go.Proofs.YtahhgjkgfbppeaaGreatW.PrintLast Go.Proofs.YtahhgjkgfbppeaaGreatW.PrintMore
end Go.Proofs.YtahhgjkgfbppeaaGreat.Pure
namespace Go.Proofs.YtahhgjkgfbppeaaGreat.Pure
set_option linter.unusedVariables false
set_option linter.unusedSimpArgs false
open Go.RowKit Go.Proofs.YtahhgjkgfbppeaaGreat.XA Go.Proofs.YtahhgjkgfbppeaaGreat.Pk Go.Proofs.YtahhgjkgfbppeaaGreatW.PrintWords Go.Proofs.YtahhgjkgfbppeaaGreatW.PrintLast Go.Proofs.YtahhgjkgfbppeaaGreatW.PrintMore
theorem impl_in {root next : Int} {l : List S113} (hl : docSm l) (D : Doc1 root next l) (a b : Int) {id : Int} (h : id ∈ ids l) (top : Int) : Ev (fun k => impl_Doc_isIn.f k a b l id top) (decide (top ∈ pathF l id)) :=
 Ev.bind (impl_pathF hl D a b h) (Ev.bind (impl_contains _ top (by have := path_len l id; omega)) (Ev.now _))
theorem impl_need {root next : Int} {l : List S113} (hl : docSm l) (D : Doc1 root next l) (a b : Int) (h : S39) (hh : h.f1 ∈ ids l) (node : Int) : Ev (fun k => impl_Doc_need.f k a b l h.f0 h.f1 h.f2 node) (needF l h node) := by
 unfold needF
 by_cases c : h.f1 = node
 ·rw [if_pos c]
  exact Ev.pos c (Ev.now _)
 ·rw [if_neg c]
  refine Ev.neg c (Ev.bind (impl_in hl D a b hh node) ?_)
  by_cases d : node ∈ pathF l h.f1
  ·rw [if_pos d]
   exact Ev.pos (decide_eq_true d) (Ev.use (spec_intent h.f2) (Ev.now _))
  ·rw [if_neg d]
   exact Ev.neg (ndec d) (Ev.now _)
theorem impl_mode {root next : Int} {l : List S113} (hl : docSm l) (D : Doc1 root next l) (a b : Int) (t : List S39) (ht : holdsN l t) (hs : t.length ≤ 1048576) (s node : Int) :
  Ev (fun k => impl_Doc_mode.f k a b l t s node) (modeF l t s node) := by
 refine list_loop t z39 (fun _ (m : Int) => True) (fun hs m => hs.foldl (modeS l s node) m) (fun k i m => impl_Doc_mode.l0 k s node m t t.length i a b l) ?_ ?_ 0 trivial
 ·intro i m hi hm hr
  refine Ev.step (fun k => by rw [impl_Doc_mode.l0]) ?_
  obtain ⟨_, _, h1, h2, h3⟩ := ht _ (getD_mem t z39 i hi)
  refine Ev.pos (by omega) (Ev.pos (by omega) (Ev.pos (by omega) ?_))
  rw [List.foldl_cons]
  simp only [wrap_suc i (by omega)]
  show Ev (fun k => if (t.getD i z39).f0 = s then _ else _) _
  by_cases c : (t.getD i z39).f0 = s
  ·have e0 : modeS l s node m (t.getD i z39) = joinF m (needF l (t.getD i z39) node) := if_pos c
   rw [e0]
   exact Ev.pos c (Ev.bind (impl_need hl D a b (t.getD i z39) h3 node) (Ev.use (impl_join _ _) (hr _ trivial)))
  ·have e0 : modeS l s node m (t.getD i z39) = m := if_neg c
   rw [e0]
   exact Ev.neg c (hr _ trivial)
 ·intro m hm
  refine Ev.step (fun k => by rw [impl_Doc_mode.l0]) ?_
  exact Ev.neg (by omega) (Ev.now _)
end Go.Proofs.YtahhgjkgfbppeaaGreat.Pure
namespace Go.Proofs.YtahhgjkgfbppeaaGreat.Pure
set_option linter.unusedVariables false
set_option linter.unusedSimpArgs false
open Go.RowKit Go.Proofs.YtahhgjkgfbppeaaGreat.XA Go.Proofs.YtahhgjkgfbppeaaGreat.Pk Go.Proofs.YtahhgjkgfbppeaaGreatW.PrintWords Go.Proofs.YtahhgjkgfbppeaaGreatW.PrintLast Go.Proofs.YtahhgjkgfbppeaaGreatW.PrintMore
def fitC (x y : Int) : Bool := if x = 1 then (y != 5) else if x = 2 then (y == 2) else if x = 3 then (y == 3) else false
def fitF (a b : Int) : Bool := if mn a b = 0 then true else fitC (mn a b) (mx a b)
theorem mn_le {a b : Int} (h : ¬ a > b) : mn a b = a ∧ mx a b = b := by
 constructor
 ·unfold mn; rw [if_neg (by omega)]
 ·unfold mx; split <;> omega
theorem mn_gt {a b : Int} (h : a > b) : mn a b = b ∧ mx a b = a := by
 constructor
 ·unfold mn; rw [if_pos (by omega)]
 ·unfold mx; rw [if_neg (by omega)]
theorem fits_le (a b : Int) (ha : a ≠ 0) (hb : b ≠ 0) (h : ¬ a > b) : Ev (fun k => spec_l07Fits.f k a b) (fitC a b) := by
 refine Ev.step (fun k => by rw [spec_l07Fits.f]) (Ev.neg ha ?_)
 refine Ev.step (fun k => by rw [spec_l07Fits.j0]) (Ev.neg (by simp [hb]) (Ev.neg h (Ev.const ?_)))
 unfold fitC
 by_cases c1 : a = 1
 ·rw [if_pos c1, if_pos c1]
 ·rw [if_neg c1, if_neg c1]
  by_cases c2 : a = 2
  ·rw [if_pos c2, if_pos c2]
  ·rw [if_neg c2, if_neg c2]
   by_cases c3 : a = 3
   ·rw [if_pos c3, if_pos c3]
   ·rw [if_neg c3, if_neg c3]
theorem spec_fits (a b : Int) (ha : 0 ≤ a) (hb : 0 ≤ b) : Ev (fun k => spec_l07Fits.f k a b) (fitF a b) := by
 unfold fitF
 by_cases c1 : a = 0
 ·rw [if_pos (by rw [(mn_le (by omega)).1]; exact c1)]
  exact Ev.step (fun k => by rw [spec_l07Fits.f]) (Ev.pos c1 (Ev.step (fun k => by rw [spec_l07Fits.j0]) (Ev.pos rfl (Ev.now _))))
 ·by_cases c2 : b = 0
  ·rw [if_pos (by rw [(mn_gt (by omega)).1]; exact c2)]
   exact Ev.step (fun k => by rw [spec_l07Fits.f]) (Ev.neg c1 (Ev.step (fun k => by rw [spec_l07Fits.j0]) (Ev.pos (by simp [c2]) (Ev.now _))))
  ·by_cases h : a > b
   ·rw [(mn_gt h).1, (mn_gt h).2, if_neg c2]
    exact Ev.step (fun k => by rw [spec_l07Fits.f]) (Ev.neg c1 (Ev.step (fun k => by rw [spec_l07Fits.j0]) (Ev.neg (by simp [c2]) (Ev.pos h (Ev.bind (fits_le b a c2 c1 (by omega)) (Ev.now _))))))
   ·rw [(mn_le h).1, (mn_le h).2, if_neg c1]
    exact fits_le a b c1 c2 h
theorem impl_fits (a b : Int) : impl_compatible.f a b = some (fitF a b) := by
 unfold impl_compatible.f fitF fitC
 by_cases c0 : mn a b = 0
 ·rw [if_pos c0, if_pos c0]
 ·rw [if_neg c0, if_neg c0]
  by_cases c1 : mn a b = 1
  ·rw [if_pos c1, if_pos c1]
  ·rw [if_neg c1, if_neg c1]
   by_cases c2 : mn a b = 2
   ·rw [if_pos c2, if_pos c2]
   ·rw [if_neg c2, if_neg c2]
    by_cases c3 : mn a b = 3
    ·rw [if_pos c3, if_pos c3]
    ·rw [if_neg c3, if_neg c3]
theorem mode_nn (l : List S113) (s node : Int) : ∀ (t : List S39) (m : Int), 0 ≤ m → 0 ≤ t.foldl (modeS l s node) m
 | [], m, h => h
 | x :: t, m, h => by
  rw [List.foldl_cons]
  refine mode_nn l s node t _ ?_
  unfold modeS
  split
  ·exact Int.le_trans h (@joinF_ge m (needF l x node)).1
  ·exact h
def sesL (t : List S39) : List Int := t.map (fun h => h.f0)
def sesF0 (t : List S39) : List Int := Lib.compact (sesL t)
theorem ses_at (t : List S39) (i : Nat) (h : i < t.length) : (sesL t).toArray[i]! = (t.getD i z39).f0 := by
 simp [sesL, List.getD_eq_getElem?_getD, h]
theorem up_len (t : List S39) (m : Nat) : (Lib.compactUpTo (sesL t).toArray m).length ≤ m := by
 unfold Lib.compactUpTo
 rw [List.length_map]
 exact Nat.le_trans (List.length_filter_le _ _) (by simp)
theorem up_last (t : List S39) : ∀ m, (Lib.compactUpTo (sesL t).toArray (m + 1)).getLast? = some ((sesL t).toArray[m]!)
 | 0 => by
  rw [Lib.compactUpTo_succ, if_pos (by simp [Lib.keeps])]
  simp
 | m + 1 => by
  rw [Lib.compactUpTo_succ]
  by_cases c : (sesL t).toArray[m + 1]! = (sesL t).toArray[m]!
  ·rw [Lib.keeps_neg (by omega) (by simpa using c)]
   simp only [Bool.false_eq_true, if_false, List.append_nil]
   rw [up_last t m, c]
  ·rw [Lib.keeps_pos (by simpa using c)]
   simp
theorem spec_ses (t : List S39) (hs : t.length ≤ 1048576) : Ev (fun k => spec_l07Sessions.f k t) (sesF0 t) := by
 have hL : (sesL t).length = t.length := by simp [sesL]
 refine list_loop t z39 (fun i o => o = Lib.compactUpTo (sesL t).toArray i) (fun _ _ => sesF0 t) (fun k i o => spec_l07Sessions.l0 k t o i) ?_ ?_ [] (by simp [Lib.compactUpTo])
 ·intro i o hi ho hr
  have hlen := up_len t i
  rw [← ho] at hlen
  refine Ev.step (fun k => by rw [spec_l07Sessions.l0]) ?_
  refine Ev.pos (by omega) ?_
  simp only [wrap_suc i (by omega)]
  have hnext := hr (Lib.compactUpTo (sesL t).toArray (i + 1)) rfl
  rw [Lib.compactUpTo_succ, ← ho] at hnext
  cases i with
  | zero =>
   rw [if_pos (by simp [Lib.keeps]), ses_at t 0 hi] at hnext
   have e : o = [] := by rw [ho]; simp [Lib.compactUpTo]
   subst e
   exact Ev.pos rfl (Ev.pos (by omega) (Ev.pos (by simp) hnext))
  | succ m =>
   have hl := up_last t m
   rw [← ho] at hl
   have hne : o ≠ [] := fun e => by rw [e] at hl; cases hl
   have hpos : 0 < o.length := List.length_pos_iff.2 hne
   have w : wrap64 ((o.length : Int) - 1) = ((o.length - 1 : Nat) : Int) := by rw [wrap_id _ (by omega) (by omega)]; omega
   have hrd : rd o ((o.length - 1 : Nat) : Int) = (sesL t).toArray[m]! := by
    show o.getD (o.length - 1) 0 = _
    rw [List.getLast?_eq_getElem?] at hl
    rw [List.getD_eq_getElem?_getD, hl]
    rfl
   refine Ev.neg (by omega) ?_
   simp only [w, hrd]
   refine Ev.pos (by omega) (Ev.pos (by omega) (Ev.pos (by omega) ?_))
   show Ev (fun k => if (sesL t).toArray[m]! = (t.getD (m + 1) z39).f0 then _ else _) _
   by_cases c : (sesL t).toArray[m]! = (t.getD (m + 1) z39).f0
   ·have hk : Lib.keeps (sesL t).toArray (m + 1) = false := Lib.keeps_neg (by omega) (by rw [ses_at t (m + 1) hi, ← c]; simp)
    rw [hk] at hnext
    simp only [Bool.false_eq_true, if_false, List.append_nil] at hnext
    exact Ev.pos c hnext
   ·have hk : Lib.keeps (sesL t).toArray (m + 1) = true := Lib.keeps_pos (by rw [ses_at t (m + 1) hi]; exact fun e => c (by simpa using e.symm))
    rw [if_pos hk, ses_at t (m + 1) hi] at hnext
    exact Ev.neg c (Ev.pos (by omega) hnext)
 ·intro o ho
  refine Ev.step (fun k => by rw [spec_l07Sessions.l0]) ?_
  refine Ev.neg (by omega) ?_
  have e : sesF0 t = o := by rw [ho, ← hL]; rfl
  rw [e]
  exact Ev.now _
theorem mono_steps (f : Nat → Int) (n : Nat) (h : ∀ i, i + 1 < n → f i ≤ f (i + 1)) : ∀ d i, i + d < n → f i ≤ f (i + d)
 | 0, i, _ => Int.le_refl _
 | d + 1, i, hi => Int.le_trans (mono_steps f n h d i (by omega)) (h (i + d) (by omega))
theorem ses_sorted {l : List S113} {t : List S39} (h : holdsB l t = true) : (sesL t).mergeSort (fun x y => decide (x ≤ y)) = sesL t := by
 apply List.mergeSort_of_pairwise
 rw [List.pairwise_iff_getElem]
 intro i j hi hj hij
 have hL : (sesL t).length = t.length := by simp [sesL]
 unfold holdsB at h
 rw [Bool.and_eq_true] at h
 have hst : ∀ q, q + 1 < t.length → (t.getD q z39).f0 ≤ (t.getD (q + 1) z39).f0 := fun q hq => by
  have g := (allN_iff _ _).1 h.2 (q + 1) hq
  rw [Bool.and_eq_true] at g
  have g2 := g.2
  unfold holdOrd at g2
  rw [decide_eq_false (by omega), Bool.false_or] at g2
  unfold lessB at g2
  have g3 := of_decide_eq_true g2
  simp only [Nat.add_sub_cancel] at g3
  omega
 have := mono_steps (fun q => (t.getD q z39).f0) t.length hst (j - i) i (by omega)
 rw [show i + (j - i) = j from by omega] at this
 have e1 : (sesL t)[i] = (t.getD i z39).f0 := by simp [sesL, List.getD_eq_getElem?_getD, show i < t.length by omega]
 have e2 : (sesL t)[j] = (t.getD j z39).f0 := by simp [sesL, List.getD_eq_getElem?_getD, show j < t.length by omega]
 rw [e1, e2]
 exact decide_eq_true this
theorem impl_ses {l : List S113} {t : List S39} (h : holdsB l t = true) (hs : t.length ≤ 1048576) : Ev (fun k => impl_sessionsOf.f k t) (sesF0 t) := by
 have hL : (sesL t).length = t.length := by simp [sesL]
 refine list_loop t z39 (fun i (o : List Int) => o = (sesL t).take i) (fun _ _ => sesF0 t) (fun k i o => impl_sessionsOf.l0 k o t t.length i) ?_ ?_ [] (by simp)
 ·intro i o hi ho hr
  refine Ev.step (fun k => by rw [impl_sessionsOf.l0]) ?_
  simp only [wrap_suc i (by omega)]
  have hlen : o.length ≤ i := by rw [ho, List.length_take]; omega
  refine Ev.pos (by omega) (Ev.pos (by omega) (Ev.pos (by omega) (Ev.pos (by omega) (hr _ ?_))))
  rw [ho, List.take_add_one]
  simp [sesL, List.getD_eq_getElem?_getD, hi, rd_T39]
 ·intro o ho
  refine Ev.step (fun k => by rw [impl_sessionsOf.l0]) ?_
  rw [List.take_of_length_le (by omega)] at ho
  subst ho
  refine Ev.neg (by omega) (Ev.use (x := sesL t) ?_ (Ev.use (x := sesF0 t) ?_ (Ev.now _)))
  ·unfold slices_Sort_int_int.f
   rw [if_pos (by omega), ses_sorted h]
  ·unfold slices_Compact_int_int.f
   rw [if_pos (by omega)]
   rfl
end Go.Proofs.YtahhgjkgfbppeaaGreat.Pure
namespace Go.Proofs.YtahhgjkgfbppeaaGreat.Pure
set_option linter.unusedVariables false
set_option linter.unusedSimpArgs false
open Go.RowKit Go.Proofs.YtahhgjkgfbppeaaGreat.XA Go.Proofs.YtahhgjkgfbppeaaGreat.Pk Go.Proofs.YtahhgjkgfbppeaaGreatW.PrintWords Go.Proofs.YtahhgjkgfbppeaaGreatW.PrintLast Go.Proofs.YtahhgjkgfbppeaaGreatW.PrintMore
def clashN (l : List S113) (t : List S39) (h : S39) (s node : Int) : Bool := !fitF (joinF (modeF l t h.f0 node) (needF l h node)) (modeF l t s node)
def clashF (l : List S113) (t : List S39) (h : S39) (s : Int) : Bool := (pathF l h.f1).any (clashN l t h s)
def confP (l : List S113) (t : List S39) (h : S39) (s : Int) : Bool := decide (s ≠ h.f0) && clashF l t h s
theorem mn_comm (a b : Int) : mn a b = mn b a := by
 by_cases h : a > b
 ·rw [(mn_gt h).1, (mn_le (by omega)).1]
 ·by_cases g : b > a
  ·rw [(mn_le h).1, (mn_gt g).1]
  ·rw [(mn_le h).1, (mn_le g).1]; omega
theorem mx_comm (a b : Int) : mx a b = mx b a := by
 by_cases h : a > b
 ·rw [(mn_gt h).2, (mn_le (by omega)).2]
 ·by_cases g : b > a
  ·rw [(mn_le h).2, (mn_gt g).2]
  ·rw [(mn_le h).2, (mn_le g).2]; omega
theorem fit_comm (a b : Int) : fitF a b = fitF b a := by unfold fitF; rw [mn_comm, mx_comm]
theorem spec_need (l : List S113) (h : S39) (node : Int) (hn : node ∈ pathF l h.f1) : spec_l07Need.f h.f0 h.f1 h.f2 node = some (needF l h node) := by
 unfold spec_l07Need.f needF
 by_cases c : node = h.f1
 ·rw [if_pos c, if_pos c.symm]
 ·rw [if_neg c, if_neg (fun e => c e.symm), if_pos hn, spec_intent]
  rfl
section
variable {root next : Int} {l : List S113} {t : List S39}
theorem spec_clash (hl : docSm l) (D : Doc1 root next l) (ht : holdsN l t) (hs : t.length ≤ 1048576) (a b : Int) (h : S39) (hh : h.f1 ∈ ids l) (s : Int) : Ev (fun k => spec_l07Clash.f k a b l t h.f0 h.f1 h.f2 s) (clashF l t h s) := by
 refine Ev.bind (spec_pathF hl D a b hh) ?_
 have hP := path_len l h.f1
 refine list_loop0 (pathF l h.f1) 0 (fun xs => xs.any (clashN l t h s)) (fun k i => spec_l07Clash.l0 k t s (pathF l h.f1) i a b l h.f0 h.f1 h.f2) ?_ ?_
 ·intro i hi hr
  refine Ev.step (fun k => by rw [spec_l07Clash.l0]) ?_
  simp only [wrap_suc i (by omega)]
  obtain ⟨q, hq⟩ : ∃ q, q = (pathF l h.f1).getD i 0 := ⟨_, rfl⟩
  have hrd : rd (pathF l h.f1) (i : Int) = q := hq.symm
  have hm : q ∈ pathF l h.f1 := by rw [hq]; exact getD_mem _ _ i hi
  rw [← hq, List.any_cons]
  simp only [hrd]
  have n1 : 0 ≤ joinF (modeF l t h.f0 q) (needF l h q) := Int.le_trans (mode_nn l _ _ t 0 (by omega)) (@joinF_ge (modeF l t h.f0 q) (needF l h q)).1
  refine Ev.pos (by omega) (Ev.pos (by omega) (Ev.bind (spec_mode hl D a b t ht hs _ _) (Ev.use (spec_need l h q hm) (Ev.bind (spec_join _ _) (Ev.bind (spec_mode hl D a b t ht hs _ _) (Ev.bind (spec_fits _ _ n1 (mode_nn l _ _ t 0 (by omega))) ?_))))))
  show Ev _ (clashN l t h s q || ((pathF l h.f1).drop (i + 1)).any (clashN l t h s))
  cases c : fitF (joinF (modeF l t h.f0 q) (needF l h q)) (modeF l t s q)
  ·rw [show clashN l t h s q = true from by unfold clashN; rw [c]; rfl, Bool.true_or]
   exact Ev.neg (by decide) (Ev.now _)
  ·rw [show clashN l t h s q = false from by unfold clashN; rw [c]; rfl, Bool.false_or]
   exact Ev.pos rfl hr
 ·refine Ev.step (fun k => by rw [spec_l07Clash.l0]) ?_
  exact Ev.neg (by omega) (Ev.now _)
theorem spec_conf (hl : docSm l) (D : Doc1 root next l) (ht : holdsN l t) (hs : t.length ≤ 1048576) (hS : (sesF0 t).length ≤ 1048576) (a b : Int) (h : S39) (hh : h.f1 ∈ ids l) : Ev (fun k => spec_l07Conflicts.f k a b l t h.f0 h.f1 h.f2) ((sesF0 t).filter (confP l t h)) := by
 refine Ev.bind (spec_ses t hs) ?_
 refine list_loop (sesF0 t) 0 (fun i (o : List Int) => o.length ≤ i) (fun xs o => o ++ xs.filter (confP l t h)) (fun k i o => spec_l07Conflicts.l0 k t o (sesF0 t) i a b l h.f0 h.f1 h.f2) ?_ ?_ [] (Nat.le_refl _)
 ·intro i o hi ho hr
  refine Ev.step (fun k => by rw [spec_l07Conflicts.l0]) ?_
  simp only [wrap_suc i (by omega)]
  obtain ⟨q, hq⟩ : ∃ q, q = (sesF0 t).getD i 0 := ⟨_, rfl⟩
  have hrd : rd (sesF0 t) (i : Int) = q := hq.symm
  rw [← hq, List.filter_cons]
  simp only [hrd]
  refine Ev.pos (by omega) (Ev.pos (by omega) ?_)
  by_cases c : q = h.f0
  ·rw [if_neg (by unfold confP; simp [c])]
   exact Ev.pos c (hr o (by omega))
  ·refine Ev.neg c (Ev.bind (spec_clash hl D ht hs a b h hh q) ?_)
   cases d : clashF l t h q
   ·rw [if_neg (by unfold confP; simp [d])]
    exact Ev.neg (by decide) (hr o (by omega))
   ·rw [if_pos (by unfold confP; simp [d, c])]
    have := hr (o ++ [q]) (by simp only [List.length_append, List.length_cons, List.length_nil]; omega)
    rw [List.append_assoc] at this
    exact Ev.pos rfl (Ev.pos (by omega) this)
 ·intro o ho
  refine Ev.step (fun k => by rw [spec_l07Conflicts.l0]) ?_
  rw [List.filter_nil, List.append_nil]
  exact Ev.neg (by omega) (Ev.now _)
theorem impl_wanted (hl : docSm l) (D : Doc1 root next l) (ht : holdsN l t) (hs : t.length ≤ 1048576) (a b : Int) (h : S39) (hh : h.f1 ∈ ids l) (node : Int) : Ev (fun k => impl_Doc_wanted.f k a b l t h.f0 h.f1 h.f2 node) (joinF (modeF l t h.f0 node) (needF l h node)) :=
 Ev.bind (impl_mode hl D a b t ht hs _ _) (Ev.bind (impl_need hl D a b h hh node) (Ev.use (impl_join _ _) (Ev.now _)))
theorem impl_conf11 (hl : docSm l) (D : Doc1 root next l) (ht : holdsN l t) (hs : t.length ≤ 1048576) (a b : Int) (h : S39) (hh : h.f1 ∈ ids l) (s node : Int) : Ev (fun k => impl_Doc_conflicts_1_1.f k node a b l t s h.f0 h.f1 h.f2) (clashN l t h s node) := by
 refine Ev.bind (impl_mode hl D a b t ht hs _ _) (Ev.bind (impl_wanted hl D ht hs a b h hh node) (Ev.use (impl_fits _ _) ?_))
 unfold clashN
 rw [fit_comm]
 exact Ev.now _
theorem any_find (P : List Int) (p : Int → Bool) : decide (findN P.length (fun i => p (P.getD i 0)) ≥ 0) = P.any p := by
 rcases findN_spec P.length (fun i => p (P.getD i 0)) with ⟨h1, h2⟩ | ⟨i, hi, h1, h2, _⟩
 ·rw [h1, decide_eq_false (by omega)]
  symm
  rw [List.any_eq_false]
  intro x hx
  obtain ⟨i, hi, e⟩ := List.getElem_of_mem hx
  have := h2 i hi
  rw [List.getD_eq_getElem?_getD, List.getElem?_eq_getElem hi] at this
  rw [← e]
  simp only [Option.getD_some] at this
  rw [this]
  decide
 ·rw [h1, decide_eq_true (by omega)]
  symm
  exact List.any_eq_true.2 ⟨_, getD_mem P 0 i hi, h2⟩
theorem impl_conf1 (hl : docSm l) (D : Doc1 root next l) (ht : holdsN l t) (hs : t.length ≤ 1048576) (a b : Int) (h : S39) (hh : h.f1 ∈ ids l) (s : Int) : Ev (fun k => impl_Doc_conflicts_1.f k s h.f0 h.f1 h.f2 a b l t) (!confP l t h s) := by
 have hP := path_len l h.f1
 unfold confP
 by_cases c : s = h.f0
 ·rw [decide_eq_false (fun e => e c), Bool.false_and]
  exact Ev.pos c (Ev.now _)
 ·rw [decide_eq_true c, Bool.true_and]
  have hc : Ev (fun k => slices_ContainsFunc_int_int_at_impl_Doc_conflicts_1_1.f k (pathF l h.f1) a b l t s h.f0 h.f1 h.f2) (clashF l t h s) := by
   unfold clashF
   rw [← any_find]
   refine Ev.bind ?_ (Ev.now _)
   refine find_loop (pathF l h.f1).length _ (fun k i => slices_IndexFunc_int_int_at_impl_Doc_conflicts_1_1.l0 k (pathF l h.f1) (pathF l h.f1).length i t s h.f0 h.f1 h.f2 a b l) ?_ ?_ ?_
   ·intro i q hi hp hq
    refine Ev.step (fun k => by rw [slices_IndexFunc_int_int_at_impl_Doc_conflicts_1_1.l0]) ?_
    simp only [wrap_suc i (by omega)]
    exact Ev.pos (by omega) (Ev.pos (by omega) (Ev.pos (by omega) (Ev.bind (impl_conf11 hl D ht hs a b h hh s _) (Ev.neg (fun e => by have e' : clashN l t h s ((pathF l h.f1).getD i 0) = true := e; rw [hp] at e'; cases e') hq))))
   ·intro i hi hp
    refine Ev.step (fun k => by rw [slices_IndexFunc_int_int_at_impl_Doc_conflicts_1_1.l0]) ?_
    exact Ev.pos (by omega) (Ev.pos (by omega) (Ev.pos (by omega) (Ev.bind (impl_conf11 hl D ht hs a b h hh s _) (Ev.pos hp (Ev.now _)))))
   ·refine Ev.step (fun k => by rw [slices_IndexFunc_int_int_at_impl_Doc_conflicts_1_1.l0]) ?_
    exact Ev.neg (by omega) (Ev.now _)
  exact Ev.neg c (Ev.bind (impl_pathF hl D a b hh) (Ev.bind hc (Ev.now _)))
end
end Go.Proofs.YtahhgjkgfbppeaaGreat.Pure
namespace Go.Proofs.YtahhgjkgfbppeaaGreat.Pure
set_option linter.unusedVariables false
open Go.RowKit Go.Proofs.YtahhgjkgfbppeaaGreat.Pk Go.Proofs.YtahhgjkgfbppeaaGreatW.PrintWords Go.Proofs.YtahhgjkgfbppeaaGreatW.PrintLast Go.Proofs.YtahhgjkgfbppeaaGreatW.PrintMore
def DelI {α : Type} (l : List α) (p : α → Bool) (j i : Nat) (xs : List α) : Prop := xs.length = l.length ∧ i ≤ j ∧ xs.take i = (l.take j).filter (fun x => !p x) ∧ xs.drop j = l.drop j
theorem del_loop {α ρ : Type} (l : List α) (d : α) (p : α → Bool) (res : ρ) (F : Nat → List α → Int → Int → Option ρ)
  (hk : ∀ (i j : Nat) (xs : List α), j < l.length → i < j → xs.length = l.length → xs.getD j d = l.getD j d → p (l.getD j d) = false → Ev (fun k => F k (xs.set i (l.getD j d)) ((i : Int) + 1) ((j : Int) + 1)) res → Ev (fun k => F k xs i j) res)
  (hd : ∀ (i j : Nat) (xs : List α), j < l.length → i < j → xs.length = l.length → xs.getD j d = l.getD j d → p (l.getD j d) = true → Ev (fun k => F k xs i ((j : Int) + 1)) res → Ev (fun k => F k xs i j) res)
  (he : ∀ (i : Nat) (xs : List α), i ≤ l.length → xs.length = l.length → xs.take i = l.filter (fun x => !p x) → Ev (fun k => F k xs i l.length) res) :
  ∀ (m j i : Nat) (xs : List α), j + m = l.length → i < j → DelI l p j i xs → Ev (fun k => F k xs i j) res := by
 intro m
 induction m with
 | zero =>
  intro j i xs hj hi ⟨h1, h2, h3, h4⟩
  have e : j = l.length := by omega
  subst e
  rw [List.take_length] at h3
  exact he i xs (by omega) h1 h3
 | succ m ih =>
  intro j i xs hj hi ⟨h1, h2, h3, h4⟩
  have hjl : j < l.length := by omega
  have hx : xs.getD j d = l.getD j d := by
   have := congrArg (fun z => z[0]?) h4
   simp only [List.getElem?_drop, Nat.add_zero] at this
   rw [List.getD_eq_getElem?_getD, List.getD_eq_getElem?_getD, this]
  have ht : l.take (j + 1) = l.take j ++ [l.getD j d] := by
   rw [List.take_succ_eq_append_getElem hjl, List.getD_eq_getElem?_getD, List.getElem?_eq_getElem hjl]
   rfl
  have hdr : xs.drop (j + 1) = l.drop (j + 1) := by
   have := congrArg (fun z => z.drop 1) h4
   simp only [List.drop_drop] at this
   exact this
  cases hp : p (l.getD j d) with
  | true =>
   refine hd i j xs hjl hi h1 hx hp (ih (j + 1) i xs (by omega) (by omega) ⟨h1, by omega, ?_, hdr⟩)
   rw [ht, List.filter_append, h3]
   simp only [List.filter_cons, List.filter_nil, hp, Bool.not_true, Bool.false_eq_true, if_false, List.append_nil]
  | false =>
   refine hk i j xs hjl hi h1 hx hp (ih (j + 1) (i + 1) (xs.set i (l.getD j d)) (by omega) (by omega) ⟨by rw [List.length_set]; exact h1, by omega, ?_, ?_⟩)
   ·have hil : i < xs.length := by omega
    rw [ht, List.filter_append, ← h3, List.take_set, List.take_succ_eq_append_getElem hil, List.set_append_right _ _ (by simp [Nat.min_eq_left (Nat.le_of_lt hil)])]
    simp only [List.filter_cons, List.filter_nil, hp, Bool.not_false, if_true, List.length_take, Nat.min_eq_left (Nat.le_of_lt hil), Nat.sub_self, List.set_cons_zero]
   ·rw [List.drop_set_of_lt (by omega)]
    exact hdr
theorem del_begin {α : Type} (l : List α) (d : α) (p : α → Bool) (i : Nat) (hi : i < l.length) (hp : p (l.getD i d) = true) (hn : ∀ j, j < i → p (l.getD j d) = false) : DelI l p (i + 1) i l := by
 refine ⟨rfl, by omega, ?_, rfl⟩
 rw [List.take_succ_eq_append_getElem hi, List.filter_append]
 have h1 : (l.take i).filter (fun x => !p x) = l.take i := by
  rw [List.filter_eq_self]
  intro x hx
  obtain ⟨j, hj, e⟩ := List.getElem_of_mem hx
  rw [List.length_take] at hj
  have := hn j (by omega)
  rw [List.getD_eq_getElem?_getD, List.getElem?_eq_getElem (by omega)] at this
  rw [List.getElem_take] at e
  rw [← e]
  simp only [Option.getD_some] at this
  rw [this]
  rfl
 rw [h1]
 rw [List.getD_eq_getElem?_getD, List.getElem?_eq_getElem hi] at hp
 simp only [Option.getD_some] at hp
 simp [hp]
theorem del_none {α : Type} (l : List α) (d : α) (p : α → Bool) (hn : ∀ j, j < l.length → p (l.getD j d) = false) : l.filter (fun x => !p x) = l := by
 rw [List.filter_eq_self]
 intro x hx
 obtain ⟨j, hj, e⟩ := List.getElem_of_mem hx
 have := hn j hj
 rw [List.getD_eq_getElem?_getD, List.getElem?_eq_getElem hj] at this
 simp only [Option.getD_some] at this
 rw [← e, this]
 rfl
theorem del_take {α : Type} (xs : List α) (i : Nat) (m : Nat) (z : α) (h : i ≤ xs.length) : (xs.take i ++ List.replicate m z).take i = xs.take i := by
 rw [List.take_append_of_le_length (by rw [List.length_take]; omega), List.take_take, Nat.min_self]
end Go.Proofs.YtahhgjkgfbppeaaGreat.Pure
namespace Go.Proofs.YtahhgjkgfbppeaaGreat.Pure
set_option linter.unusedVariables false
set_option linter.unusedSimpArgs false
open Go.RowKit Go.Proofs.YtahhgjkgfbppeaaGreat.XA Go.Proofs.YtahhgjkgfbppeaaGreat.Pk Go.Proofs.YtahhgjkgfbppeaaGreatW.PrintWords Go.Proofs.YtahhgjkgfbppeaaGreatW.PrintLast Go.Proofs.YtahhgjkgfbppeaaGreatW.PrintMore
theorem ses_len (t : List S39) : (sesF0 t).length ≤ t.length := by
 have h1 : (sesL t).length = t.length := by simp [sesL]
 have h2 := up_len t t.length
 have e : sesF0 t = Lib.compactUpTo (sesL t).toArray t.length := by rw [← h1]; rfl
 rw [e]; exact h2
section
variable {root next : Int} {l : List S113} {t : List S39}
theorem impl_conf (hl : docSm l) (D : Doc1 root next l) (ht : holdsN l t) (hB : holdsB l t = true) (hs : t.length ≤ 1048576) (a b : Int) (h : S39) (hh : h.f1 ∈ ids l) : Ev (fun k => impl_Doc_conflicts.f k a b l t h.f0 h.f1 h.f2) ((sesF0 t).filter (confP l t h)) := by
 refine Ev.bind (impl_ses hB hs) ?_
 have hS := ses_len t
 obtain ⟨S, hSe⟩ : ∃ S, S = sesF0 t := ⟨_, rfl⟩
 rw [← hSe] at hS ⊢
 have hq : ∀ s, Ev (fun k => impl_Doc_conflicts_1.f k s h.f0 h.f1 h.f2 a b l t) (!confP l t h s) := impl_conf1 hl D ht hs a b h hh
 have hfind : Ev (fun k => slices_IndexFunc_int_int_at_impl_Doc_conflicts_1.f k S h.f0 h.f1 h.f2 a b l t) (findN S.length (fun i => !confP l t h (S.getD i 0))) := by
  refine find_loop S.length _ (fun k i => slices_IndexFunc_int_int_at_impl_Doc_conflicts_1.l0 k S S.length i h.f0 h.f1 h.f2 t a b l) ?_ ?_ ?_
  ·intro i q hi hp hr
   refine Ev.step (fun k => by rw [slices_IndexFunc_int_int_at_impl_Doc_conflicts_1.l0]) ?_
   simp only [wrap_suc i (by omega)]
   exact Ev.pos (by omega) (Ev.pos (by omega) (Ev.pos (by omega) (Ev.bind (hq _) (Ev.neg (fun e => by have e' : (!confP l t h (S.getD i 0)) = true := e; rw [hp] at e'; cases e') hr))))
  ·intro i hi hp
   refine Ev.step (fun k => by rw [slices_IndexFunc_int_int_at_impl_Doc_conflicts_1.l0]) ?_
   exact Ev.pos (by omega) (Ev.pos (by omega) (Ev.pos (by omega) (Ev.bind (hq _) (Ev.pos hp (Ev.now _)))))
  ·refine Ev.step (fun k => by rw [slices_IndexFunc_int_int_at_impl_Doc_conflicts_1.l0]) ?_
   exact Ev.neg (by omega) (Ev.now _)
 have key : Ev (fun k => slices_DeleteFunc_int_int_at_impl_Doc_conflicts_1.f k S h.f0 h.f1 h.f2 a b l t) (S.filter (confP l t h)) := by
  refine Ev.bind hfind ?_
  have e2 : (fun x => !(fun s => !confP l t h s) x) = confP l t h := funext fun x => Bool.not_not _
  rcases findN_spec S.length (fun i => !confP l t h (S.getD i 0)) with ⟨e, hn⟩ | ⟨i, hi, e, hp, hn⟩
  ·rw [e]
   refine Ev.pos rfl ?_
   have := del_none S 0 (fun s => !confP l t h s) hn
   rw [e2] at this
   rw [this]
   exact Ev.now _
  ·rw [e]
   refine Ev.neg (by omega) ?_
   simp only [wrap_suc i (by omega)]
   have := del_loop S 0 (fun s => !confP l t h s) (S.filter (confP l t h)) (fun k xs i j => slices_DeleteFunc_int_int_at_impl_Doc_conflicts_1.l0 k xs i j h.f0 h.f1 h.f2 t a b l) ?_ ?_ ?_ (S.length - (i + 1)) (i + 1) i S (by omega) (by omega) (del_begin S 0 _ i hi hp hn)
   ·exact this
   ·intro i j xs hj hij hx hd hp hr
    refine Ev.step (fun k => by rw [slices_DeleteFunc_int_int_at_impl_Doc_conflicts_1.l0]) ?_
    simp only [wrap_suc i (by omega), wrap_suc j (by omega)]
    have hrd : rd xs (j : Int) = S.getD j 0 := hd
    simp only [hrd]
    exact Ev.pos (by omega) (Ev.pos (by omega) (Ev.bind (hq _) (Ev.neg (fun e => by have e' : (!confP l t h (S.getD j 0)) = true := e; rw [hp] at e'; cases e') (Ev.pos (by omega) (Ev.pos (by omega) hr)))))
   ·intro i j xs hj hij hx hd hp hr
    refine Ev.step (fun k => by rw [slices_DeleteFunc_int_int_at_impl_Doc_conflicts_1.l0]) ?_
    simp only [wrap_suc j (by omega)]
    have hrd : rd xs (j : Int) = S.getD j 0 := hd
    simp only [hrd]
    exact Ev.pos (by omega) (Ev.pos (by omega) (Ev.bind (hq _) (Ev.pos hp hr)))
   ·intro i xs hi hx he
    refine Ev.step (fun k => by rw [slices_DeleteFunc_int_int_at_impl_Doc_conflicts_1.l0]) ?_
    rw [e2] at he
    refine Ev.neg (by omega) (Ev.pos (by omega) (Ev.pos (by omega) (Ev.const ?_)))
    rw [Int.toNat_natCast, del_take xs i _ 0 (by omega), he]
 exact Ev.bind key (Ev.now _)
end
end Go.Proofs.YtahhgjkgfbppeaaGreat.Pure
namespace Go.Proofs.YtahhgjkgfbppeaaGreat.Pure
set_option linter.unusedVariables false
set_option linter.unusedSimpArgs false
open Go.RowKit Go.Proofs.YtahhgjkgfbppeaaGreat.XA Go.Proofs.YtahhgjkgfbppeaaGreat.Pk Go.Proofs.YtahhgjkgfbppeaaGreatW.PrintWords Go.Proofs.YtahhgjkgfbppeaaGreatW.PrintLast Go.Proofs.YtahhgjkgfbppeaaGreatW.PrintMore
def Rises (l : List Int) : Prop := l.Pairwise (fun a b => a < b)
theorem rise_ext : ∀ (a b : List Int), Rises a → Rises b → (∀ x, x ∈ a ↔ x ∈ b) → a = b
 | [], [], _, _, _ => rfl
 | [], y :: b, _, _, h => absurd ((h y).2 List.mem_cons_self) List.not_mem_nil
 | x :: a, [], _, _, h => absurd ((h x).1 List.mem_cons_self) List.not_mem_nil
 | x :: a, y :: b, ha, hb, h => by
  unfold Rises at ha hb
  rw [List.pairwise_cons] at ha hb
  have e : x = y := by
   rcases List.mem_cons.1 ((h x).1 List.mem_cons_self) with h1 | h1
   ·exact h1
   ·rcases List.mem_cons.1 ((h y).2 List.mem_cons_self) with h2 | h2
    ·exact h2.symm
    ·have g1 := hb.1 x h1
     have g2 := ha.1 y h2
     omega
  subst e
  refine congrArg (x :: ·) (rise_ext a b ha.2 hb.2 (fun z => ⟨fun hz => ?_, fun hz => ?_⟩))
  ·rcases List.mem_cons.1 ((h z).1 (List.mem_cons_of_mem _ hz)) with h1 | h1
   ·have := ha.1 z hz
    omega
   ·exact h1
  ·rcases List.mem_cons.1 ((h z).2 (List.mem_cons_of_mem _ hz)) with h1 | h1
   ·have := hb.1 z hz
    omega
   ·exact h1
def riseF : List Int → Int → List Int
 | [], n => [n]
 | x :: l, n => if x > n then n :: x :: l else x :: riseF l n
theorem riseF_mem (n x : Int) : ∀ l : List Int, x ∈ riseF l n ↔ x = n ∨ x ∈ l
 | [] => by simp [riseF]
 | y :: l => by
  rw [riseF]
  split
  ·rw [List.mem_cons]
  ·rw [List.mem_cons, riseF_mem n x l, List.mem_cons]
   constructor
   ·rintro (h | h | h)
    ·exact .inr (.inl h)
    ·exact .inl h
    ·exact .inr (.inr h)
   ·rintro (h | h | h)
    ·exact .inr (.inl h)
    ·exact .inl h
    ·exact .inr (.inr h)
theorem riseF_len (n : Int) : ∀ l : List Int, (riseF l n).length = l.length + 1
 | [] => rfl
 | y :: l => by
  rw [riseF]
  split
  ·rfl
  ·rw [List.length_cons, riseF_len n l, List.length_cons]
theorem riseF_rise (n : Int) : ∀ l : List Int, Rises l → n ∉ l → Rises (riseF l n)
 | [], _, _ => List.pairwise_singleton _ _
 | y :: l, h, hn => by
  have h' := List.pairwise_cons.1 h
  rw [riseF]
  split
  ·next c =>
   refine List.pairwise_cons.2 ⟨fun z hz => ?_, h⟩
   rcases List.mem_cons.1 hz with e | hz
   ·omega
   ·have := h'.1 z hz
    omega
  ·next c =>
   have hy : y ≠ n := fun e => hn (by rw [e]; exact List.mem_cons_self)
   refine List.pairwise_cons.2 ⟨fun z hz => ?_, riseF_rise n l h'.2 (fun hm => hn (List.mem_cons_of_mem _ hm))⟩
   rcases (riseF_mem n z l).1 hz with e | hz
   ·omega
   ·exact h'.1 z hz
def insF (l : List Int) (n : Int) : List Int := if n ∈ l then l else riseF l n
theorem insF_rise {l : List Int} (n : Int) (h : Rises l) : Rises (insF l n) := by
 unfold insF
 split
 ·exact h
 ·next c => exact riseF_rise n l h c
theorem insF_mem (l : List Int) (n x : Int) : x ∈ insF l n ↔ x = n ∨ x ∈ l := by
 unfold insF
 split
 ·next c => exact ⟨.inr, fun h => h.elim (fun e => e ▸ c) id⟩
 ·exact riseF_mem n x l
theorem insF_len (l : List Int) (n : Int) : (insF l n).length ≤ l.length + 1 := by
 unfold insF
 split
 ·omega
 ·rw [riseF_len]; omega
theorem fold_ins : ∀ (ns l : List Int), Rises l → Rises (ns.foldl insF l) ∧ ∀ x, x ∈ ns.foldl insF l ↔ x ∈ l ∨ x ∈ ns
 | [], l, h => ⟨h, fun x => by simp⟩
 | n :: ns, l, h => by
  obtain ⟨g1, g2⟩ := fold_ins ns (insF l n) (insF_rise n h)
  refine ⟨g1, fun x => ?_⟩
  rw [List.foldl_cons, g2 x, insF_mem, List.mem_cons]
  constructor
  ·rintro ((h | h) | h)
   ·exact .inr (.inl h)
   ·exact .inl h
   ·exact .inr (.inr h)
  ·rintro (h | h | h)
   ·exact .inl (.inr h)
   ·exact .inl (.inl h)
   ·exact .inr h
theorem cup_rise (d : Array Int) (n : Nat) (hs : ∀ i, i + 1 < n → d[i]! ≤ d[i + 1]!) : ∀ m, m ≤ n → Rises (Lib.compactUpTo d m) ∧ ∀ x, x ∈ Lib.compactUpTo d m ↔ ∃ j, j < m ∧ d[j]! = x
 | 0, _ => ⟨by simp [Lib.compactUpTo, Rises], fun x => by simp [Lib.compactUpTo]⟩
 | m + 1, hm => by
  obtain ⟨h1, h2⟩ := cup_rise d n hs m (by omega)
  rw [Lib.compactUpTo_succ]
  have hmem : (∀ x, x ∈ Lib.compactUpTo d m ++ [d[m]!] ↔ ∃ j, j < m + 1 ∧ d[j]! = x) := by
   intro x
   rw [List.mem_append, List.mem_singleton, h2]
   constructor
   ·rintro (⟨j, hj, e⟩ | e)
    ·exact ⟨j, by omega, e⟩
    ·exact ⟨m, by omega, e.symm⟩
   ·rintro ⟨j, hj, e⟩
    by_cases c : j = m
    ·subst c; exact .inr e.symm
    ·exact .inl ⟨j, by omega, e⟩
  cases m with
  | zero =>
   rw [if_pos (by simp [Lib.keeps])]
   exact ⟨by simp [Lib.compactUpTo, Rises], hmem⟩
  | succ q =>
   by_cases c : d[q + 1]! = d[q]!
   ·rw [Lib.keeps_neg (by omega) (by simpa using c)]
    simp only [Bool.false_eq_true, if_false, List.append_nil]
    refine ⟨h1, fun x => ?_⟩
    rw [h2]
    constructor
    ·rintro ⟨j, hj, e⟩
     exact ⟨j, by omega, e⟩
    ·rintro ⟨j, hj, e⟩
     by_cases f : j = q + 1
     ·subst f; exact ⟨q, by omega, by rw [← c]; exact e⟩
     ·exact ⟨j, by omega, e⟩
   ·rw [Lib.keeps_pos (by simpa using c)]
    simp only [if_true]
    refine ⟨?_, hmem⟩
    refine List.pairwise_append.2 ⟨h1, List.pairwise_singleton _ _, fun x hx y hy => ?_⟩
    rw [List.mem_singleton] at hy
    subst hy
    obtain ⟨j, hj, e⟩ := (h2 x).1 hx
    have g1 := mono_steps (fun i => d[i]!) n hs (q - j) j (by omega)
    have g2 := hs q (by omega)
    rw [show j + (q - j) = q by omega] at g1
    have g3 : d[j]! ≤ d[q]! := g1
    omega
theorem compact_rise (l : List Int) (h : l.Pairwise (fun a b => a ≤ b)) : Rises (Lib.compact l) ∧ ∀ x, x ∈ Lib.compact l ↔ x ∈ l := by
 have at_ : ∀ i (hi : i < l.length), l.toArray[i]! = l[i] := fun i hi => by simp [hi]
 have := cup_rise l.toArray l.length (fun i hi => by
  rw [at_ i (by omega), at_ (i + 1) hi]
  exact (List.pairwise_iff_getElem.1 h) i (i + 1) (by omega) hi (by omega)) l.length (Nat.le_refl _)
 refine ⟨this.1, fun x => ?_⟩
 rw [show x ∈ Lib.compact l ↔ _ from this.2 x]
 constructor
 ·rintro ⟨j, hj, e⟩
  rw [at_ j hj] at e
  exact e ▸ List.getElem_mem hj
 ·intro hx
  obtain ⟨j, hj, e⟩ := List.getElem_of_mem hx
  exact ⟨j, hj, (at_ j hj).trans e⟩
def sortF (l : List Int) : List Int := l.mergeSort (fun x y => decide (x ≤ y))
theorem sortF_le (l : List Int) : (sortF l).Pairwise (fun a b => a ≤ b) := by
 have := List.pairwise_mergeSort (le := fun x y : Int => decide (x ≤ y)) (fun a b c h1 h2 => by simp at h1 h2 ⊢; omega) (fun a b => by simp; omega) l
 exact this.imp (fun h => of_decide_eq_true h)
theorem sortF_mem (l : List Int) (x : Int) : x ∈ sortF l ↔ x ∈ l := (List.mergeSort_perm l _).mem_iff
theorem sortF_len (l : List Int) : (sortF l).length = l.length := List.length_mergeSort _
theorem sort_rise (l : List Int) : Rises (Lib.compact (sortF l)) ∧ ∀ x, x ∈ Lib.compact (sortF l) ↔ x ∈ l :=
 ⟨(compact_rise _ (sortF_le l)).1, fun x => ((compact_rise _ (sortF_le l)).2 x).trans (sortF_mem l x)⟩
theorem ses_rise {l : List S113} {t : List S39} (h : holdsB l t = true) : Rises (sesF0 t) ∧ ∀ x, x ∈ sesF0 t ↔ x ∈ sesL t := by
 have := sort_rise (sesL t)
 rw [show sortF (sesL t) = sesL t from ses_sorted h] at this
 exact this
theorem impl_sort (l : List Int) (h : l.length ≤ 1048576) : slices_Sort_int_int.f l = some (sortF l) := by
 unfold slices_Sort_int_int.f
 rw [if_pos (by omega)]
 rfl
theorem impl_compact (l : List Int) (h : l.length ≤ 1048576) : slices_Compact_int_int.f l = some (Lib.compact l) := by
 unfold slices_Compact_int_int.f
 rw [if_pos (by omega)]
end Go.Proofs.YtahhgjkgfbppeaaGreat.Pure
namespace Go.Proofs.YtahhgjkgfbppeaaGreat.Pure
set_option linter.unusedVariables false
set_option linter.unusedSimpArgs false
open Go.RowKit Go.Proofs.YtahhgjkgfbppeaaGreat.XA Go.Proofs.YtahhgjkgfbppeaaGreat.Pk Go.Proofs.YtahhgjkgfbppeaaGreatW.PrintWords Go.Proofs.YtahhgjkgfbppeaaGreatW.PrintLast Go.Proofs.YtahhgjkgfbppeaaGreatW.PrintMore
theorem upL_split {root next : Int} {l : List S113} (D : Doc0 root next l) : ∀ (m : Nat) (u x : Int), u ∈ ids l → up l m u = root → x ∈ upL l (m + 1) u → ∃ n s, n ≤ m ∧ up l n x = root ∧ x ∈ ids l ∧ upL l (m + 1) u = s ++ upL l (n + 1) x
 | 0, u, x, hu, hr, hx => by
  have e : x = u := by simpa [upL] using hx
  subst e
  exact ⟨0, [], Nat.le_refl _, hr, hu, rfl⟩
 | m + 1, u, x, hu, hr, hx => by
  rcases List.mem_cons.1 (show x ∈ u :: upL l (m + 1) (par l u) from hx) with e | h
  ·subst e
   exact ⟨m + 1, [], Nat.le_refl _, hr, hu, rfl⟩
  ·obtain ⟨n, s, h1, h2, h3, h4⟩ := upL_split D m (par l u) x (par_in D hr) hr h
   exact ⟨n, u :: s, by omega, h2, h3, by show u :: upL l (m + 1) (par l u) = _; rw [h4]; rfl⟩
theorem path_pre {root next : Int} {l : List S113} (D : Doc1 root next l) {u x : Int} (hu : u ∈ ids l) (hx : x ∈ pathF l u) : ∃ s, pathF l u = pathF l x ++ s ∧ x ∈ ids l := by
 obtain ⟨m, hm, hr⟩ := D.reach hu
 have e : pathF l u = (upL l (m + 1) u).reverse := by unfold pathF; rw [pth_up D.toDoc0 m 7 u hu hr (by omega)]
 rw [e, List.mem_reverse] at hx
 obtain ⟨n, s, h1, h2, h3, h4⟩ := upL_split D.toDoc0 m u x hu hr hx
 refine ⟨s.reverse, ?_, h3⟩
 rw [e, h4, List.reverse_append]
 congr 1
 unfold pathF
 rw [pth_up D.toDoc0 n 7 x h3 h2 (by omega)]
theorem path_self {root next : Int} {l : List S113} (D : Doc1 root next l) {x : Int} (hx : x ∈ ids l) : x ∈ pathF l x := by
 obtain ⟨m, hm, hr⟩ := D.reach hx
 unfold pathF
 rw [pth_up D.toDoc0 m 7 x hx hr (by omega), List.mem_reverse]
 exact List.mem_cons_self
def cpre : List Int → List Int → List Int
 | a :: s, b :: t => if a = b then a :: cpre s t else []
 | _, _ => []
theorem cpre_mem : ∀ (s t : List Int) (x : Int), x ∈ cpre s t → x ∈ s ∧ x ∈ t
 | [], _, x, h => by simp [cpre] at h
 | _ :: _, [], x, h => by simp [cpre] at h
 | a :: s, b :: t, x, h => by
  rw [cpre] at h
  split at h
  ·next c =>
   subst c
   rcases List.mem_cons.1 h with e | h
   ·subst e; exact ⟨List.mem_cons_self, List.mem_cons_self⟩
   ·have := cpre_mem s t x h
    exact ⟨List.mem_cons_of_mem _ this.1, List.mem_cons_of_mem _ this.2⟩
  ·cases h
theorem cpre_app (A s t : List Int) (x : Int) (h : x ∈ A) : x ∈ cpre (A ++ s) (A ++ t) := by
 induction A with
 | nil => cases h
 | cons a A ih =>
  rw [List.cons_append, List.cons_append, cpre, if_pos rfl]
  rcases List.mem_cons.1 h with e | h
  ·exact e ▸ List.mem_cons_self
  ·exact List.mem_cons_of_mem _ (ih h)
theorem cpre_path {root next : Int} {l : List S113} (D : Doc1 root next l) {u v x : Int} (hu : u ∈ ids l) (hv : v ∈ ids l) : x ∈ cpre (pathF l u) (pathF l v) ↔ x ∈ pathF l u ∧ x ∈ pathF l v := by
 refine ⟨cpre_mem _ _ x, fun h => ?_⟩
 obtain ⟨s, e1, hx⟩ := path_pre D hu h.1
 obtain ⟨t, e2, _⟩ := path_pre D hv h.2
 rw [e1, e2]
 exact cpre_app _ _ _ _ (path_self D hx)
def wantF (l : List S113) (t : List S39) (a : S39) (node : Int) : Int := joinF (modeF l t a.f0 node) (needF l a node)
def clash2 (l : List S113) (t : List S39) (a b : S39) (node : Int) : Bool := !fitF (wantF l t a node) (wantF l t b node)
def rivalF (l : List S113) (t : List S39) (a b : S39) : Bool := (pathF l a.f1).any (fun node => decide (node ∈ pathF l b.f1) && clash2 l t a b node)
theorem rival_sym {root next : Int} {l : List S113} {t : List S39} (D : Doc1 root next l) {a b : S39} (ha : a.f1 ∈ ids l) (hb : b.f1 ∈ ids l) : (cpre (pathF l b.f1) (pathF l a.f1)).any (clash2 l t b a) = rivalF l t a b := by
 apply Bool.eq_iff_iff.2
 unfold rivalF
 rw [List.any_eq_true, List.any_eq_true]
 constructor
 ·rintro ⟨x, hx, h⟩
  have := (cpre_path D hb ha).1 hx
  refine ⟨x, this.2, ?_⟩
  rw [decide_eq_true this.1, Bool.true_and]
  unfold clash2 at h ⊢
  rw [fit_comm]
  exact h
 ·rintro ⟨x, hx, h⟩
  rw [Bool.and_eq_true, decide_eq_true_eq] at h
  refine ⟨x, (cpre_path D hb ha).2 ⟨h.1, hx⟩, ?_⟩
  have h2 := h.2
  unfold clash2 at h2 ⊢
  rw [fit_comm]
  exact h2
section
variable {root next : Int} {l : List S113} {t : List S39}
theorem want_nn (a : S39) (node : Int) : 0 ≤ wantF l t a node := Int.le_trans (mode_nn l _ _ t 0 (by omega)) (@joinF_ge (modeF l t a.f0 node) (needF l a node)).1
theorem spec_rival (hl : docSm l) (D : Doc1 root next l) (ht : holdsN l t) (hs : t.length ≤ 1048576) (p q : Int) (W : List S39) (a b : S39) (ha : a.f1 ∈ ids l) (hb : b.f1 ∈ ids l) : Ev (fun k => spec_l08Rival.f k p q l t W a.f0 a.f1 a.f2 b.f0 b.f1 b.f2) ((cpre (pathF l a.f1) (pathF l b.f1)).any (clash2 l t a b)) := by
 refine Ev.bind (spec_pathF hl D p q ha) (Ev.bind (spec_pathF hl D p q hb) ?_)
 have hP := path_len l a.f1
 have hO := path_len l b.f1
 obtain ⟨P, hPe⟩ : ∃ P, P = pathF l a.f1 := ⟨_, rfl⟩
 obtain ⟨O, hOe⟩ : ∃ O, O = pathF l b.f1 := ⟨_, rfl⟩
 rw [← hPe] at hP ⊢
 rw [← hOe] at hO ⊢
 have fin : ∀ k, spec_l08Rival.j1 (k + 1) P O 0 false p q l t W a.f0 a.f1 a.f2 b.f0 b.f1 b.f2 = some false := fun k => by rw [spec_l08Rival.j1, if_neg (by decide)]
 have key := idx_loop (σ := Unit) P.length (fun _ _ => True) (fun m i _ => (cpre (P.drop i) (O.drop i)).any (clash2 l t a b)) (fun k i _ => spec_l08Rival.l0 k P O i p q l t W a.f0 a.f1 a.f2 b.f0 b.f1 b.f2) ?_ ?_ () trivial
 ·exact key
 ·intro m i _ hi _ hr
  have hr := hr () trivial
  refine Ev.step (fun k => by rw [spec_l08Rival.l0]) ?_
  refine Ev.pos (by omega) ?_
  rw [List.drop_eq_getElem_cons (show i < P.length by omega)]
  by_cases c : i < O.length
  ·rw [List.drop_eq_getElem_cons c, cpre]
   refine Ev.pos (by omega) (Ev.pos (by omega) ?_)
   refine Ev.step (fun k => by rw [spec_l08Rival.j1]) ?_
   have e1 : rd P (i : Int) = P[i] := by show P.getD i 0 = _; rw [List.getD_eq_getElem?_getD, List.getElem?_eq_getElem (by omega)]; rfl
   have e2 : rd O (i : Int) = O[i] := by show O.getD i 0 = _; rw [List.getD_eq_getElem?_getD, List.getElem?_eq_getElem c]; rfl
   simp only [e1, e2, wrap_suc i (by omega)]
   by_cases d : P[i] = O[i]
   ·rw [if_pos d, List.any_cons]
    have hma : P[i] ∈ pathF l a.f1 := by rw [← hPe]; exact List.getElem_mem _
    have hmb : P[i] ∈ pathF l b.f1 := by rw [d, ← hOe]; exact List.getElem_mem _
    refine Ev.pos (beq_iff_eq.2 d) (Ev.pos (by omega) (Ev.pos (by omega) (Ev.bind (spec_mode hl D p q t ht hs _ _) (Ev.use (spec_need l a _ hma) (Ev.bind (spec_join _ _) (Ev.bind (spec_mode hl D p q t ht hs _ _) (Ev.use (spec_need l b _ hmb) (Ev.bind (spec_join _ _) (Ev.bind (spec_fits _ _ (want_nn (l := l) (t := t) a P[i]) (want_nn (l := l) (t := t) b P[i])) ?_)))))))))
    show Ev _ (clash2 l t a b P[i] || _)
    have e3 : clash2 l t a b P[i] = !fitF (joinF (modeF l t a.f0 P[i]) (needF l a P[i])) (joinF (modeF l t b.f0 P[i]) (needF l b P[i])) := rfl
    cases f : fitF (joinF (modeF l t a.f0 P[i]) (needF l a P[i])) (joinF (modeF l t b.f0 P[i]) (needF l b P[i]))
    ·rw [e3, f, Bool.not_false, Bool.true_or]
     exact Ev.neg (by decide) (Ev.now _)
    ·rw [e3, f, Bool.not_true, Bool.false_or]
     exact Ev.pos rfl hr
   ·rw [if_neg d]
    exact Ev.neg (fun e => d (eq_of_beq e)) (Ev.now _)
  ·rw [List.drop_of_length_le (show O.length ≤ i by omega), show cpre (P[i] :: List.drop (i + 1) P) [] = [] from rfl, List.any_nil]
   refine Ev.neg (by omega) (Ev.step (fun k => by rw [spec_l08Rival.j1]) ?_)
   exact Ev.neg (by decide) (Ev.now _)
 ·intro _ _
  refine Ev.step (fun k => by rw [spec_l08Rival.l0]) ?_
  refine Ev.neg (by omega) ?_
  rw [List.drop_of_length_le (Nat.le_refl P.length), show cpre [] (O.drop P.length) = [] from by cases O.drop P.length <;> rfl, List.any_nil]
  refine Ev.step (fun k => by rw [spec_l08Rival.j1]) ?_
  exact Ev.neg (by decide) (Ev.now _)
theorem impl_rival (hl : docSm l) (D : Doc1 root next l) (ht : holdsN l t) (hs : t.length ≤ 1048576) (p q : Int) (a b : S39) (ha : a.f1 ∈ ids l) (hb : b.f1 ∈ ids l) : Ev (fun k => impl_Doc_rival.f k p q l t a.f0 a.f1 a.f2 b.f0 b.f1 b.f2) (rivalF l t a b) := by
 refine Ev.bind (impl_pathF hl D p q hb) (Ev.bind (impl_pathF hl D p q ha) ?_)
 have hP := path_len l a.f1
 have hO := path_len l b.f1
 have h1 : ∀ node, Ev (fun k => impl_Doc_rival_1.f k node (pathF l b.f1) p q l t a.f0 a.f1 a.f2 b.f0 b.f1 b.f2) (decide (node ∈ pathF l b.f1) && clash2 l t a b node) := by
  intro node
  refine Ev.bind (impl_contains (pathF l b.f1) node (by omega)) ?_
  by_cases c : node ∈ pathF l b.f1
  ·rw [decide_eq_true c, Bool.true_and]
   exact Ev.pos rfl (Ev.bind (impl_wanted hl D ht hs p q a ha node) (Ev.bind (impl_wanted hl D ht hs p q b hb node) (Ev.use (impl_fits _ _) (Ev.now _))))
  ·rw [decide_eq_false c, Bool.false_and]
   exact Ev.neg (by decide) (Ev.now _)
 unfold rivalF
 have hc : Ev (fun k => slices_ContainsFunc_int_int_at_impl_Doc_rival_1.f k (pathF l a.f1) (pathF l b.f1) p q l t a.f0 a.f1 a.f2 b.f0 b.f1 b.f2) ((pathF l a.f1).any (fun node => decide (node ∈ pathF l b.f1) && clash2 l t a b node)) := by
  rw [← any_find]
  refine Ev.bind ?_ (Ev.now _)
  refine find_loop (pathF l a.f1).length _ (fun k i => slices_IndexFunc_int_int_at_impl_Doc_rival_1.l0 k (pathF l a.f1) (pathF l a.f1).length i (pathF l b.f1) t a.f0 a.f1 a.f2 b.f0 b.f1 b.f2 p q l) ?_ ?_ ?_
  ·intro i r hi hp hq
   refine Ev.step (fun k => by rw [slices_IndexFunc_int_int_at_impl_Doc_rival_1.l0]) ?_
   simp only [wrap_suc i (by omega)]
   refine Ev.pos (by omega) (Ev.pos (by omega) (Ev.pos (by omega) (Ev.bind (h1 _) (Ev.neg (fun e => ?_) hq))))
   have e' : (decide ((pathF l a.f1).getD i 0 ∈ pathF l b.f1) && clash2 l t a b ((pathF l a.f1).getD i 0)) = true := e
   rw [hp] at e'
   cases e'
  ·intro i hi hp
   refine Ev.step (fun k => by rw [slices_IndexFunc_int_int_at_impl_Doc_rival_1.l0]) ?_
   exact Ev.pos (by omega) (Ev.pos (by omega) (Ev.pos (by omega) (Ev.bind (h1 _) (Ev.pos hp (Ev.now _)))))
  ·refine Ev.step (fun k => by rw [slices_IndexFunc_int_int_at_impl_Doc_rival_1.l0]) ?_
   exact Ev.neg (by omega) (Ev.now _)
 exact Ev.bind hc (Ev.now _)
end
end Go.Proofs.YtahhgjkgfbppeaaGreat.Pure
namespace Go.Proofs.YtahhgjkgfbppeaaGreat.Pure
set_option linter.unusedVariables false
set_option linter.unusedSimpArgs false
open Go.RowKit Go.Proofs.YtahhgjkgfbppeaaGreat.XA Go.Proofs.YtahhgjkgfbppeaaGreat.Pk Go.Proofs.YtahhgjkgfbppeaaGreatW.PrintWords Go.Proofs.YtahhgjkgfbppeaaGreatW.PrintLast Go.Proofs.YtahhgjkgfbppeaaGreatW.PrintMore
def newB (t : List S39) (i j : Nat) : Bool := decide ((t.getD j z39).f0 ≠ (t.getD i z39).f0)
def waitsB (l : List S113) (t : List S39) : Bool := decide (t.length ≤ 6) && allN t.length (fun i => holdB l (t.getD i z39) && allN i (newB t i))
def tableB (root next : Int) (l : List S113) (hs ws : List S39) : Bool := holdsOK root next l hs && waitsB l ws
theorem spec_wait1 {l : List S113} (root n : Int) (t : List S39) (h6 : t.length ≤ 6) (i : Nat) (hi : i < t.length) (r : Bool) (hr : allN i (newB t i) = true → Ev (fun k => spec_l08Waits.l0 k t ((i : Int) + 1) root n l) r) :
  Ev (fun k => spec_l08Waits.l1 k t i 0 root n l) (if allN i (newB t i) = true then r else false) := by
 refine all_cps' i _ (fun k j => spec_l08Waits.l1 k t i j root n l) r false ?_ ?_ ?_
 ·intro j q hj hp hq
  refine Ev.step (fun k => by rw [spec_l08Waits.l1]) ?_
  refine Ev.pos (by omega) (Ev.pos (by omega) (Ev.pos (by omega) (Ev.pos (by omega) (Ev.pos (by omega) (Ev.neg (of_decide_eq_true hp) ?_)))))
  simp only [wrap_suc j (by omega)]
  exact hq
 ·intro j hj hp
  refine Ev.step (fun k => by rw [spec_l08Waits.l1]) ?_
  exact Ev.pos (by omega) (Ev.pos (by omega) (Ev.pos (by omega) (Ev.pos (by omega) (Ev.pos (by omega) (Ev.pos (Classical.not_not.1 (of_decide_eq_false hp)) (Ev.now _))))))
 ·intro ha
  refine Ev.step (fun k => by rw [spec_l08Waits.l1]) ?_
  refine Ev.neg (by omega) ?_
  simp only [wrap_suc i (by omega)]
  exact hr ha
theorem spec_waits {l : List S113} (root n : Int) (hl : docSm l) (t : List S39) : Ev (fun k => spec_l08Waits.f k root n l t) (waitsB l t) := by
 unfold waitsB
 by_cases h6 : t.length ≤ 6
 ·rw [decide_eq_true h6, Bool.true_and]
  refine Ev.neg (by omega) ?_
  refine all_loop t.length _ (fun k i => spec_l08Waits.l0 k t i root n l) ?_ ?_ ?_
  ·intro i r hi hp hr
   obtain ⟨p1, p2⟩ := (Bool.and_eq_true _ _).mp hp
   refine Ev.step (fun k => by rw [spec_l08Waits.l0]) ?_
   refine Ev.pos (by omega) (Ev.pos (by omega) (Ev.bind (spec_hold root n hl (t.getD i z39)) (Ev.pos p1 ?_)))
   have := spec_wait1 root n t h6 i hi r (fun _ => hr)
   rwa [if_pos p2] at this
  ·intro i hi hp
   refine Ev.step (fun k => by rw [spec_l08Waits.l0]) ?_
   refine Ev.pos (by omega) (Ev.pos (by omega) (Ev.bind (spec_hold root n hl (t.getD i z39)) ?_))
   cases p1 : holdB l (t.getD i z39)
   ·exact Ev.neg (by decide) (Ev.now _)
   ·rw [p1, Bool.true_and] at hp
    refine Ev.pos rfl ?_
    have := spec_wait1 (l := l) root n t h6 i hi false (fun ha => by rw [hp] at ha; cases ha)
    rwa [if_neg (by rw [hp]; decide)] at this
  ·refine Ev.step (fun k => by rw [spec_l08Waits.l0]) ?_
   exact Ev.neg (by omega) (Ev.now _)
 ·rw [decide_eq_false h6, Bool.false_and]
  exact Ev.pos (by omega) (Ev.now _)
theorem spec_table {root next : Int} {l : List S113} (hl : docSm l) (hs ws : List S39) : Ev (fun k => spec_TableOK.f k root next l hs ws) (tableB root next l hs ws) := by
 refine Ev.bind (spec_holdsOK hl hs) ?_
 unfold tableB
 cases holdsOK root next l hs
 ·exact Ev.neg (by decide) (Ev.now _)
 ·rw [Bool.true_and]
  exact Ev.pos rfl (Ev.bind (spec_waits root next hl ws) (Ev.now _))
def sesF (t : List S39) (s : Int) : Int := findN t.length (fun j => decide ((t.getD j z39).f0 = s))
theorem impl_waiting (hs t : List S39) (h6 : t.length ≤ 1048576) (s : Int) : Ev (fun k => impl_Table_waiting.f k hs t s) (sesF t s) := by
 refine Ev.bind ?_ (Ev.now _)
 refine find_loop t.length _ (fun k i => slices_IndexFunc_impl_Hold_impl_Hold_at_impl_Table_waiting_1.l0 k t t.length i s) ?_ ?_ ?_
 ·intro i q hi hp hq
  refine Ev.step (fun k => by rw [slices_IndexFunc_impl_Hold_impl_Hold_at_impl_Table_waiting_1.l0]) ?_
  refine Ev.pos (by omega) (Ev.pos (by omega) (Ev.pos (by omega) (Ev.use (x := ((t.getD i z39).f0 == s)) rfl (Ev.neg (fun e => of_decide_eq_false hp (eq_of_beq e)) ?_))))
  simp only [wrap_suc i (by omega)]
  exact hq
 ·intro i hi hp
  refine Ev.step (fun k => by rw [slices_IndexFunc_impl_Hold_impl_Hold_at_impl_Table_waiting_1.l0]) ?_
  exact Ev.pos (by omega) (Ev.pos (by omega) (Ev.pos (by omega) (Ev.use (x := ((t.getD i z39).f0 == s)) rfl (Ev.pos (beq_iff_eq.2 (of_decide_eq_true hp)) (Ev.now _)))))
 ·refine Ev.step (fun k => by rw [slices_IndexFunc_impl_Hold_impl_Hold_at_impl_Table_waiting_1.l0]) ?_
  exact Ev.neg (by omega) (Ev.now _)
theorem ses_iff (t : List S39) (i : Nat) (hi : i < t.length) : sesF t (t.getD i z39).f0 = (i : Int) ↔ allN i (newB t i) = true := by
 unfold sesF
 rw [allN_iff]
 rcases findN_spec t.length (fun j => decide ((t.getD j z39).f0 = (t.getD i z39).f0)) with ⟨_, h2⟩ | ⟨j, hj, h1, h2, h3⟩
 ·exact absurd rfl (of_decide_eq_false (h2 i hi))
 ·rw [h1]
  constructor
  ·intro e k hk
   have e' : j = i := by omega
   subst e'
   exact decide_eq_true (of_decide_eq_false (h3 k hk))
  ·intro ha
   have e1 : ¬ j < i := fun hlt => (of_decide_eq_true (ha j hlt)) (of_decide_eq_true h2)
   have e2 : ¬ i < j := fun hlt => of_decide_eq_false (h3 i hlt) rfl
   omega
theorem impl_table {root next : Int} {l : List S113} (hl : docSm l) (hI : docI l) (hr : i64 root) (hs : List S39) (hh : holdI hs) (hsz : hs.length ≤ 1048576) (t : List S39) (ht : holdI t) : Ev (fun k => impl_TableOK.f k root next l hs t) (tableB root next l hs t) := by
 refine Ev.bind (impl_holdsOK hl hI hr hs hh hsz) ?_
 have hT : Ev (fun k => impl_TableOK.j0 k true root next l hs t) false := Ev.step (fun k => by rw [impl_TableOK.j0]) (Ev.pos rfl (Ev.now _))
 unfold tableB
 cases hd : holdsOK root next l hs
 ·exact Ev.neg (by decide) hT
 ·refine Ev.pos rfl ?_
  have hL : Loc next l := by
   unfold holdsOK at hd
   rw [Bool.and_eq_true] at hd
   exact (doc1_of hd.1).loc
  rw [Bool.true_and]
  unfold waitsB
  by_cases h6 : t.length ≤ 6
  ·rw [decide_eq_true h6, Bool.true_and, decide_eq_false (by omega)]
   refine Ev.step (fun k => by rw [impl_TableOK.j0]) (Ev.neg (by decide) ?_)
   refine all_loop t.length _ (fun k i => impl_TableOK.l0 k t t.length i root next l hs t) ?_ ?_ ?_
   ·intro i r hi hp hr
    obtain ⟨p1, p2⟩ := (Bool.and_eq_true _ _).mp hp
    refine Ev.step (fun k => by rw [impl_TableOK.l0]) ?_
    refine Ev.pos (by omega) (Ev.pos (by omega) (Ev.pos (by omega) (Ev.bind (impl_hold root hl hL (t.getD i z39) (ht _ (getD_mem t _ i hi)).2.1) (Ev.pos p1 (Ev.bind (impl_waiting hs t (by omega) (t.getD i z39).f0) (Ev.pos ((ses_iff t i hi).2 p2) ?_))))))
    simp only [wrap_suc i (by omega)]
    exact hr
   ·intro i hi hp
    refine Ev.step (fun k => by rw [impl_TableOK.l0]) ?_
    refine Ev.pos (by omega) (Ev.pos (by omega) (Ev.pos (by omega) (Ev.bind (impl_hold root hl hL (t.getD i z39) (ht _ (getD_mem t _ i hi)).2.1) ?_)))
    cases p1 : holdB l (t.getD i z39)
    ·exact Ev.neg (by decide) (Ev.now _)
    ·rw [p1, Bool.true_and] at hp
     exact Ev.pos rfl (Ev.bind (impl_waiting hs t (by omega) (t.getD i z39).f0) (Ev.neg (fun e => by have := (ses_iff t i hi).1 e; rw [hp] at this; cases this) (Ev.now _)))
   ·refine Ev.step (fun k => by rw [impl_TableOK.l0]) ?_
    exact Ev.neg (by omega) (Ev.now _)
  ·rw [decide_eq_false h6, Bool.false_and, decide_eq_true (by omega)]
   exact hT
end Go.Proofs.YtahhgjkgfbppeaaGreat.Pure
namespace Go.Proofs.YtahhgjkgfbppeaaGreat.Pure
set_option linter.unusedVariables false
set_option linter.unusedSimpArgs false
open Go.RowKit Go.Proofs.YtahhgjkgfbppeaaGreat.XA Go.Proofs.YtahhgjkgfbppeaaGreat.Pk Go.Proofs.YtahhgjkgfbppeaaGreatW.PrintWords Go.Proofs.YtahhgjkgfbppeaaGreatW.PrintLast Go.Proofs.YtahhgjkgfbppeaaGreatW.PrintMore
theorem spec_rise (l : List Int) (n : Int) (hl : l.length ≤ 1048576) : Ev (fun k => spec_l08Rise.f k l n) (riseF l n) := by
 refine list_loop l 0 (fun i (s : List Int × Bool) => s.1.length ≤ 2 * i) (fun xs s => if s.2 = true then s.1 ++ xs else s.1 ++ riseF xs n) (fun k i s => spec_l08Rise.l0 k l n s.1 s.2 i) ?_ ?_ ([], false) (Nat.le_refl _)
 ·rintro i ⟨o, d⟩ hi ho hr
  simp only at ho
  refine Ev.step (fun k => by rw [spec_l08Rise.l0]) ?_
  refine Ev.pos (by omega) ?_
  obtain ⟨q, hq⟩ : ∃ q, q = l.getD i 0 := ⟨_, rfl⟩
  have hrd : rd l (i : Int) = q := hq.symm
  rw [← hq]
  simp only [hrd, wrap_suc i (by omega)]
  have hadd := fun d => hr (o ++ [q], d) (by simp only [List.length_append, List.length_cons, List.length_nil]; omega)
  cases d with
  | true =>
   have h := hadd true
   simp only [if_true, List.append_assoc, List.cons_append, List.nil_append] at h ⊢
   exact Ev.pos (by omega) (Ev.pos (by omega) h)
  | false =>
   simp only [Bool.false_eq_true, if_false]
   rw [riseF]
   refine Ev.pos (by omega) ?_
   by_cases c : q > n
   ·rw [if_pos c]
    have h := hr (o ++ [n] ++ [q], true) (by simp only [List.length_append, List.length_cons, List.length_nil]; omega)
    simp only [if_true, List.append_assoc, List.cons_append, List.nil_append] at h
    refine Ev.pos c (Ev.pos (by omega) ?_)
    simp only [Option.bind_some]
    simp only [List.append_assoc, List.cons_append, List.nil_append]
    exact Ev.pos (by simp only [List.length_append, List.length_cons, List.length_nil]; omega) h
   ·rw [if_neg c]
    have h := hadd false
    simp only [Bool.false_eq_true, if_false, List.append_assoc, List.cons_append, List.nil_append] at h
    exact Ev.neg c (Ev.pos (by omega) h)
 ·rintro ⟨o, d⟩ ho
  simp only at ho
  refine Ev.step (fun k => by rw [spec_l08Rise.l0]) ?_
  refine Ev.neg (by omega) ?_
  cases d with
  | true => simp only [if_true, List.append_nil]; exact Ev.now _
  | false =>
   simp only [Bool.false_eq_true, if_false]
   exact Ev.pos (by omega) (Ev.now _)
def rivS (l : List S113) (t : List S39) (w : S39) (W : List S39) : List Int := (W.filter (fun a => rivalF l t a w)).map (fun a => a.f0)
def confF (l : List S113) (t : List S39) (w : S39) : List Int := (sesF0 t).filter (confP l t w)
def blockF (l : List S113) (t W : List S39) (at_ : Nat) : List Int := Lib.compact (sortF (confF l t (W.getD at_ z39) ++ rivS l t (W.getD at_ z39) (W.take at_)))
theorem block_rise (l : List S113) (t W : List S39) (at_ : Nat) : Rises (blockF l t W at_) := (sort_rise _).1
theorem block_mem (l : List S113) (t W : List S39) (at_ : Nat) (x : Int) : x ∈ blockF l t W at_ ↔ x ∈ confF l t (W.getD at_ z39) ∨ x ∈ rivS l t (W.getD at_ z39) (W.take at_) := by
 unfold blockF
 rw [(sort_rise _).2, List.mem_append]
theorem take_getD {α : Type} (W : List α) (z : α) (n i : Nat) (h : i < n) : (W.take n).getD i z = W.getD i z := by
 rw [List.getD_eq_getElem?_getD, List.getElem?_take, if_pos h, ← List.getD_eq_getElem?_getD]
theorem conf_len (l : List S113) (t : List S39) (w : S39) : (confF l t w).length ≤ t.length := Nat.le_trans (List.length_filter_le _ _) (ses_len t)
theorem rivS_len (l : List S113) (t : List S39) (w : S39) (W : List S39) : (rivS l t w W).length ≤ W.length := by
 unfold rivS
 rw [List.length_map]
 exact List.length_filter_le _ _
section
variable {root next : Int} {l : List S113} {t W : List S39}
theorem spec_block (hl : docSm l) (D : Doc1 root next l) (ht : holdsN l t) (hB : holdsB l t = true) (hW : holdsN l W) (hs : t.length ≤ 30) (h6 : W.length ≤ 6) (p q : Int) (at_ : Nat) (ha : at_ < W.length) : Ev (fun k => spec_l08Blockers.f k p q l t W at_) (blockF l t W at_) := by
 obtain ⟨w, hw⟩ : ∃ w, w = W.getD at_ z39 := ⟨_, rfl⟩
 have hrd0 : rd_T39 W (at_ : Int) = w := hw.symm
 have hwm : w ∈ W := by rw [hw]; exact getD_mem W _ at_ ha
 have hwi : w.f1 ∈ ids l := (hW w hwm).2.2.2.2
 have hcl := conf_len l t w
 refine Ev.pos (by omega) (Ev.pos (by omega) ?_)
 simp only [hrd0]
 have e : blockF l t W at_ = (rivS l t w (W.take at_)).foldl insF (confF l t w) := by
  have hr : Rises (confF l t w) := List.Pairwise.filter _ (ses_rise hB).1
  obtain ⟨g1, g2⟩ := fold_ins (rivS l t w (W.take at_)) (confF l t w) hr
  exact rise_ext _ _ (block_rise l t W at_) g1 (fun x => by rw [block_mem, g2, hw])
 rw [e]
 refine Ev.bind (spec_conf hl D ht (by omega) (by have := ses_len t; omega) p q w hwi) ?_
 have key := list_loop (W.take at_) z39 (fun i (o : List Int) => o.length ≤ t.length + i) (fun xs o => (rivS l t w xs).foldl insF o) (fun k i o => spec_l08Blockers.l0 k at_ o i p q l t W w.f0 w.f1 w.f2) ?_ ?_ (confF l t w) (by omega)
 ·exact key
 ·intro i o hi ho hr
  rw [List.length_take] at hi
  refine Ev.step (fun k => by rw [spec_l08Blockers.l0]) ?_
  refine Ev.pos (by omega) (Ev.pos (by omega) (Ev.pos (by omega) ?_))
  rw [take_getD W _ at_ i (by omega)]
  obtain ⟨a, hae⟩ : ∃ a, a = W.getD i z39 := ⟨_, rfl⟩
  have hrd : rd_T39 W (i : Int) = a := hae.symm
  have ham : a ∈ W := by rw [hae]; exact getD_mem W _ i (by omega)
  have hai : a.f1 ∈ ids l := (hW a ham).2.2.2.2
  rw [← hae]
  simp only [hrd, wrap_suc i (by omega)]
  have hR := spec_rival hl D ht (by omega) p q W w a hwi hai
  rw [rival_sym D hai hwi] at hR
  refine Ev.bind hR ?_
  cases c : rivalF l t a w with
  | false =>
   have : rivS l t w (a :: (W.take at_).drop (i + 1)) = rivS l t w ((W.take at_).drop (i + 1)) := by unfold rivS; rw [List.filter_cons, if_neg (by rw [c]; decide)]
   rw [this]
   exact Ev.neg (by decide) (hr o (by omega))
  | true =>
   have : rivS l t w (a :: (W.take at_).drop (i + 1)) = a.f0 :: rivS l t w ((W.take at_).drop (i + 1)) := by unfold rivS; rw [List.filter_cons, if_pos c]; rfl
   rw [this, List.foldl_cons]
   have hnext := hr (insF o a.f0) (by have := insF_len o a.f0; omega)
   refine Ev.pos rfl (Ev.bind (spec_has o a.f0 (by omega)) ?_)
   unfold insF at hnext ⊢
   by_cases d : a.f0 ∈ o
   ·rw [if_pos d] at hnext ⊢
    exact Ev.pos (decide_eq_true d) hnext
   ·rw [if_neg d] at hnext ⊢
    exact Ev.neg (ndec d) (Ev.bind (spec_rise o a.f0 (by omega)) hnext)
 ·intro o ho
  rw [List.length_take]
  refine Ev.step (fun k => by rw [spec_l08Blockers.l0]) ?_
  refine Ev.neg (by omega) (Ev.now _)
theorem impl_block (hl : docSm l) (D : Doc1 root next l) (ht : holdsN l t) (hB : holdsB l t = true) (hW : holdsN l W) (hs : t.length ≤ 30) (h6 : W.length ≤ 6) (p q : Int) (at_ : Nat) (ha : at_ < W.length) : Ev (fun k => impl_Doc_blockers.f k p q l t W at_) (blockF l t W at_) := by
 obtain ⟨w, hw⟩ : ∃ w, w = W.getD at_ z39 := ⟨_, rfl⟩
 have hrd0 : rd_T39 W (at_ : Int) = w := hw.symm
 have hwm : w ∈ W := by rw [hw]; exact getD_mem W _ at_ ha
 have hwi : w.f1 ∈ ids l := (hW w hwm).2.2.2.2
 have hcl := conf_len l t w
 refine Ev.pos (by omega) (Ev.pos (by omega) ?_)
 simp only [hrd0]
 refine Ev.bind (impl_conf hl D ht hB (by omega) p q w hwi) (Ev.pos (by omega) ?_)
 simp only [Option.bind_some, Int.toNat_natCast]
 have key := list_loop (W.take at_) z39 (fun i (o : List Int) => o.length ≤ t.length + i) (fun xs o => Lib.compact (sortF (o ++ rivS l t w xs))) (fun k i o => impl_Doc_blockers.l0 k o (W.take at_) (W.take at_).length i p q l t W w.f0 w.f1 w.f2) ?_ ?_ (confF l t w) (by omega)
 ·unfold blockF
  rw [← hw]
  exact key
 ·intro i o hi ho hr
  have hi' := hi
  rw [List.length_take] at hi'
  refine Ev.step (fun k => by rw [impl_Doc_blockers.l0]) ?_
  refine Ev.pos (by omega) (Ev.pos (by omega) (Ev.pos (by omega) ?_))
  obtain ⟨a, hae⟩ : ∃ a, a = (W.take at_).getD i z39 := ⟨_, rfl⟩
  have hrd : rd_T39 (W.take at_) (i : Int) = a := hae.symm
  have ham : a ∈ W := by rw [hae, take_getD W _ at_ i (by omega)]; exact getD_mem W _ i (by omega)
  have hai : a.f1 ∈ ids l := (hW a ham).2.2.2.2
  rw [← hae]
  simp only [hrd, wrap_suc i (by omega)]
  refine Ev.bind (impl_rival hl D ht (by omega) p q a w hai hwi) ?_
  cases c : rivalF l t a w with
  | false =>
   have : rivS l t w (a :: (W.take at_).drop (i + 1)) = rivS l t w ((W.take at_).drop (i + 1)) := by unfold rivS; rw [List.filter_cons, if_neg (by rw [c]; decide)]
   rw [this]
   exact Ev.neg (by decide) (hr o (by omega))
  | true =>
   have : rivS l t w (a :: (W.take at_).drop (i + 1)) = a.f0 :: rivS l t w ((W.take at_).drop (i + 1)) := by unfold rivS; rw [List.filter_cons, if_pos c]; rfl
   rw [this]
   have hnext := hr (o ++ [a.f0]) (by simp only [List.length_append, List.length_cons, List.length_nil]; omega)
   rw [List.append_assoc] at hnext
   exact Ev.pos rfl (Ev.pos (by omega) hnext)
 ·intro o ho
  have hlt : (W.take at_).length ≤ 6 := by rw [List.length_take]; omega
  refine Ev.step (fun k => by rw [impl_Doc_blockers.l0]) ?_
  refine Ev.neg (by omega) ?_
  rw [show rivS l t w [] = [] from rfl, List.append_nil]
  exact Ev.use (impl_sort o (by omega)) (Ev.use (impl_compact _ (by rw [sortF_len]; omega)) (Ev.now _))
end
def tabC (root next : Int) (l : List S113) (hs ws : List S39) (s : Int) : Int := if tableB root next l hs ws = true then (if 1 ≤ s ∧ s ≤ 999 then 0 else 4) else 1
theorem tab_zero {root next : Int} {l : List S113} {hs ws : List S39} {s : Int} (h : tabC root next l hs ws s = 0) : Doc1 root next l ∧ holdsN l hs ∧ holdsB l hs = true ∧ hs.length ≤ 30 ∧ holdsN l ws ∧ ws.length ≤ 6 ∧ (1 ≤ s ∧ s ≤ 999) := by
 unfold tabC at h
 by_cases c : tableB root next l hs ws = true
 ·rw [if_pos c] at h
  by_cases d : 1 ≤ s ∧ s ≤ 999
  ·have c1 := c
   unfold tableB at c1
   rw [Bool.and_eq_true] at c1
   have c2 := c1.1
   unfold holdsOK at c2
   rw [Bool.and_eq_true] at c2
   have D := doc1_of c2.1
   have h4 : hs.length ≤ 30 := by
    have := c2.2
    unfold holdsB at this
    rw [Bool.and_eq_true] at this
    exact of_decide_eq_true this.1
   have hz : lockC root next l hs 1 root = 0 := by
    unfold lockC
    rw [if_neg (by omega), if_pos c1.1, if_pos ⟨by omega, by omega⟩, if_pos D.rin]
   have c3 := c1.2
   unfold waitsB at c3
   rw [Bool.and_eq_true, decide_eq_true_eq] at c3
   refine ⟨D, (lock_zero hz).2.2.1, c2.2, h4, ?_, c3.1, d⟩
   intro x hx
   obtain ⟨j, hj, e⟩ := List.getElem_of_mem hx
   have := (allN_iff _ _).1 c3.2 j hj
   rw [Bool.and_eq_true] at this
   have g := holdB_iff this.1
   rw [List.getD_eq_getElem?_getD, List.getElem?_eq_getElem hj] at g
   rw [← e]
   exact g
  ·rw [if_neg d] at h; omega
 ·rw [if_neg c] at h; omega
theorem spec_tabC {root next : Int} {l : List S113} (hl : docSm l) (hs ws : List S39) (s : Int) : Ev (fun k => spec_l08Ask.f k root next l hs ws s) (tabC root next l hs ws s) := by
 refine Ev.bind (spec_table hl hs ws) ?_
 by_cases c : tableB root next l hs ws = true
 ·rw [show tabC root next l hs ws s = _ from if_pos c]
  refine Ev.pos c (Ev.use (tin_eq _ _ _) ?_)
  by_cases d : 1 ≤ s ∧ s ≤ 999
  ·rw [if_pos d]; exact Ev.pos (decide_eq_true d) (Ev.now _)
  ·rw [if_neg d]; exact Ev.neg (ndec d) (Ev.now _)
 ·rw [show tabC root next l hs ws s = _ from if_neg c]; exact Ev.neg c (Ev.now _)
theorem impl_tabC {root next : Int} {l : List S113} (hl : docSm l) (hI : docI l) (hr : i64 root) (hs : List S39) (hh : holdI hs) (hsz : hs.length ≤ 1048576) (ws : List S39) (hw : holdI ws) (s : Int) : Ev (fun k => impl_tableCode.f k root next l hs ws s) (tabC root next l hs ws s) := by
 refine Ev.bind (impl_table hl hI hr hs hh hsz ws hw) ?_
 by_cases c : tableB root next l hs ws = true
 ·rw [show tabC root next l hs ws s = _ from if_pos c]
  refine Ev.pos c (Ev.use (x := decide (1 ≤ s ∧ s ≤ 999)) (by simp only [impl_isSession.f, twithin_eq, Option.bind_some]) ?_)
  by_cases d : 1 ≤ s ∧ s ≤ 999
  ·rw [if_pos d]; exact Ev.pos (decide_eq_true d) (Ev.now _)
  ·rw [if_neg d]; exact Ev.neg (ndec d) (Ev.now _)
 ·rw [show tabC root next l hs ws s = _ from if_neg c]; exact Ev.neg c (Ev.now _)
theorem spec_waiting (hs t : List S39) (h6 : t.length ≤ 1048576) (s : Int) : Ev (fun k => spec_l08At.f k hs t s) (sesF t s) := by
 refine find_loop t.length _ (fun k i => spec_l08At.l0 k s i hs t) ?_ ?_ ?_
 ·intro i q hi hp hq
  refine Ev.step (fun k => by rw [spec_l08At.l0]) ?_
  simp only [wrap_suc i (by omega)]
  exact Ev.pos (by omega) (Ev.pos (by omega) (Ev.neg (of_decide_eq_false hp) hq))
 ·intro i hi hp
  refine Ev.step (fun k => by rw [spec_l08At.l0]) ?_
  exact Ev.pos (by omega) (Ev.pos (by omega) (Ev.pos (of_decide_eq_true hp) (Ev.now _)))
 ·refine Ev.step (fun k => by rw [spec_l08At.l0]) ?_
  exact Ev.neg (by omega) (Ev.now _)
theorem ses_cases (t : List S39) (s : Int) : sesF t s = -1 ∨ ∃ i, i < t.length ∧ sesF t s = (i : Int) := by
 unfold sesF
 rcases findN_spec t.length (fun j => decide ((t.getD j z39).f0 = s)) with ⟨h, _⟩ | ⟨i, hi, h, _⟩
 ·exact .inl h
 ·exact .inr ⟨i, hi, h⟩
theorem block_len {l : List S113} {t W : List S39} (hs : t.length ≤ 30) (h6 : W.length ≤ 6) (at_ : Nat) : (blockF l t W at_).length ≤ 36 := by
 have h1 : (blockF l t W at_).length ≤ (sortF (confF l t (W.getD at_ z39) ++ rivS l t (W.getD at_ z39) (W.take at_))).length := by
  unfold blockF Lib.compact Lib.compactUpTo
  rw [List.length_map]
  exact Nat.le_trans (List.length_filter_le _ _) (by simp)
 rw [sortF_len, List.length_append] at h1
 have h2 := conf_len l t (W.getD at_ z39)
 have h3 := rivS_len l t (W.getD at_ z39) (W.take at_)
 rw [List.length_take] at h3
 omega
end Go.Proofs.YtahhgjkgfbppeaaGreat.Pure
namespace Go.Proofs.YtahhgjkgfbppeaaGreat.Pure
set_option linter.unusedVariables false
set_option linter.unusedSimpArgs false
open Go.RowKit Go.Proofs.YtahhgjkgfbppeaaGreat.XA Go.Proofs.YtahhgjkgfbppeaaGreat.Pk Go.Proofs.YtahhgjkgfbppeaaGreatW.PrintWords Go.Proofs.YtahhgjkgfbppeaaGreatW.PrintLast Go.Proofs.YtahhgjkgfbppeaaGreatW.PrintMore
theorem nodup_lenU : ∀ (U a : List Int), a.Nodup → (∀ x, x ∈ a → x ∈ U) → a.length ≤ U.length
 | [], a, _, h => by
  cases a with
  | nil => exact Nat.le_refl _
  | cons x a => exact absurd (h x List.mem_cons_self) List.not_mem_nil
 | u :: U, a, hn, h => by
  by_cases c : u ∈ a
  ·have := nodup_lenU U (a.erase u) (hn.erase u) (fun x hx => by
    obtain ⟨h1, h2⟩ := (List.Nodup.mem_erase_iff hn).1 hx
    rcases List.mem_cons.1 (h x h2) with e | h3
    ·exact absurd e h1
    ·exact h3)
   have e := List.length_erase_of_mem c
   have hp : 0 < a.length := List.length_pos_of_mem c
   rw [List.length_cons]
   omega
  ·have := nodup_lenU U a hn (fun x hx => by
    rcases List.mem_cons.1 (h x hx) with e | h3
    ·exact absurd (e ▸ hx) c
    ·exact h3)
   rw [List.length_cons]
   omega
def addS (s : List Int × List Int) (x : Int) : List Int × List Int := if x ∈ s.1 then s else (s.1 ++ [x], s.2 ++ [x])
def addF (s : List Int × List Int) (bs : List Int) : List Int × List Int := bs.foldl addS s
def reachN (B : Int → List Int) : Nat → List Int → List Int → List Int
 | 0, o, _ => o
 | _ + 1, o, [] => o
 | m + 1, o, h :: q => reachN B m (addF (o, q) (B h)).1 (addF (o, q) (B h)).2
def ReachI (U : List Int) (m : Nat) (o q : List Int) : Prop := o.Nodup ∧ (∀ x, x ∈ o → x ∈ U) ∧ q.length + U.length ≤ m + o.length
theorem reach_end {U o q : List Int} (h : ReachI U 0 o q) : q = [] := by
 have := nodup_lenU U o h.1 h.2.1
 have := h.2.2
 exact List.eq_nil_of_length_eq_zero (by omega)
theorem reach_add {U : List Int} {m : Nat} {o q : List Int} {x : Int} (h : ReachI U m o q) (hx : x ∈ U) : ReachI U m (addS (o, q) x).1 (addS (o, q) x).2 := by
 unfold addS
 split
 ·exact h
 ·next c =>
  refine ⟨?_, fun y hy => ?_, ?_⟩
  ·refine List.nodup_append.2 ⟨h.1, List.nodup_cons.2 ⟨List.not_mem_nil, List.nodup_nil⟩, fun a ha b hb => ?_⟩
   rw [List.mem_singleton] at hb
   subst hb
   exact fun e => c (e ▸ ha)
  ·rcases List.mem_append.1 hy with hy | hy
   ·exact h.2.1 y hy
   ·rw [List.mem_singleton] at hy
    exact hy ▸ hx
  ·have := h.2.2
   simp only [List.length_append, List.length_cons, List.length_nil]
   omega
theorem reach_adds {U : List Int} {m : Nat} : ∀ (bs : List Int) (s : List Int × List Int), ReachI U m s.1 s.2 → (∀ x, x ∈ bs → x ∈ U) → ReachI U m (addF s bs).1 (addF s bs).2
 | [], s, h, _ => h
 | x :: bs, s, h, hb => reach_adds bs (addS s x) (reach_add h (hb x List.mem_cons_self)) (fun y hy => hb y (List.mem_cons_of_mem _ hy))
theorem reach_fin (B : Int → List Int) (U : List Int) (hB : ∀ s x, x ∈ B s → x ∈ U) : ∀ (m : Nat) (o q : List Int), ReachI U m o q → (reachN B m o q).Nodup ∧ ∀ x, x ∈ reachN B m o q → x ∈ U
 | 0, o, q, h => ⟨h.1, h.2.1⟩
 | m + 1, o, [], h => ⟨h.1, h.2.1⟩
 | m + 1, o, a :: q, h => by
  rw [reachN]
  exact reach_fin B U hB m _ _ (reach_adds (B a) (o, q) ⟨h.1, h.2.1, by have := h.2.2; simp only [List.length_cons] at this ⊢; omega⟩ (hB a))
def waitsFor (l : List S113) (t W : List S39) (s : Int) : List Int := if sesF W s < 0 then [] else blockF l t W (sesF W s).toNat
def uniS (t W : List S39) : List Int := sesL t ++ sesL W
theorem uni_len {t W : List S39} (hs : t.length ≤ 30) (h6 : W.length ≤ 6) : (uniS t W).length ≤ 36 := by
 unfold uniS sesL
 rw [List.length_append, List.length_map, List.length_map]
 omega
theorem waits_uni {l : List S113} {t W : List S39} (hB : holdsB l t = true) (s x : Int) (hx : x ∈ waitsFor l t W s) : x ∈ uniS t W := by
 unfold waitsFor at hx
 split at hx
 ·cases hx
 ·rw [block_mem] at hx
  unfold uniS
  rw [List.mem_append]
  rcases hx with h | h
  ·exact .inl (((ses_rise hB).2 x).1 (List.mem_filter.1 h).1)
  ·unfold rivS at h
   obtain ⟨a, ha, e⟩ := List.mem_map.1 h
   exact .inr (List.mem_map.2 ⟨a, List.mem_of_mem_take (List.mem_filter.1 ha).1, e⟩)
section
variable {root next : Int} {l : List S113} {t W : List S39}
theorem spec_reachN (hl : docSm l) (D : Doc1 root next l) (ht : holdsN l t) (hB : holdsB l t = true) (hW : holdsN l W) (hs : t.length ≤ 30) (h6 : W.length ≤ 6) (a b : Int) : ∀ (m : Nat) (o q : List Int), m ≤ 1000 → ReachI (uniS t W) m o q → Ev (fun k => spec_l08Reach.l0 k o q a b l t W) (reachN (waitsFor l t W) m o q)
 | 0, o, q, hm, h => by
  have e := reach_end h
  subst e
  refine Ev.step (fun k => by rw [spec_l08Reach.l0]) ?_
  exact Ev.neg (by simp) (Ev.now _)
 | m + 1, o, [], hm, h => by
  refine Ev.step (fun k => by rw [spec_l08Reach.l0]) ?_
  exact Ev.neg (by simp) (Ev.now _)
 | m + 1, o, x :: q, hm, h => by
  have hU := uni_len hs h6
  have h' : ReachI (uniS t W) m o q := ⟨h.1, h.2.1, by have := h.2.2; simp only [List.length_cons] at this; omega⟩
  have hrd : rd (x :: q) 0 = x := rfl
  refine Ev.step (fun k => by rw [spec_l08Reach.l0]) ?_
  refine Ev.pos (by simp only [List.length_cons]; omega) (Ev.pos (by simp only [List.length_cons]; omega) ?_)
  simp only [hrd]
  refine Ev.bind (spec_waiting t W (by omega) x) (Ev.pos (by simp only [List.length_cons]; omega) ?_)
  simp only [Option.bind_some]
  rw [show (x :: q).drop (1 : Int).toNat = q from rfl, reachN]
  rcases ses_cases W x with e | ⟨i, hi, e⟩
  ·have hb : waitsFor l t W x = [] := by unfold waitsFor; rw [if_pos (by omega)]
   rw [hb]
   exact Ev.pos (by omega) (spec_reachN hl D ht hB hW hs h6 a b m o q (by omega) h')
  ·have hb : waitsFor l t W x = blockF l t W i := by unfold waitsFor; rw [if_neg (by omega), e]; rfl
   have hu : ∀ y, y ∈ blockF l t W i → y ∈ uniS t W := fun y hy => waits_uni hB x y (by rw [hb]; exact hy)
   rw [hb]
   have hbl := block_len (l := l) (t := t) (W := W) hs h6 i
   refine Ev.neg (by omega) ?_
   rw [e]
   refine Ev.bind (spec_block hl D ht hB hW hs h6 a b i hi) ?_
   refine list_loop (blockF l t W i) 0 (fun _ (s : List Int × List Int) => ReachI (uniS t W) m s.1 s.2) (fun xs s => reachN (waitsFor l t W) m (addF s xs).1 (addF s xs).2) (fun k j s => spec_l08Reach.l1 k s.1 s.2 (blockF l t W i) j a b l t W) ?_ ?_ (o, q) h'
   ·rintro j ⟨o1, q1⟩ hj hI hr
    simp only at hI
    have hlo := nodup_lenU (uniS t W) o1 hI.1 hI.2.1
    have hlq := hI.2.2
    obtain ⟨y, hy⟩ : ∃ y, y = (blockF l t W i).getD j 0 := ⟨_, rfl⟩
    have hrd : rd (blockF l t W i) (j : Int) = y := hy.symm
    have hyU : y ∈ uniS t W := hu y (by rw [hy]; exact getD_mem _ 0 j hj)
    rw [← hy]
    refine Ev.step (fun k => by rw [spec_l08Reach.l1]) ?_
    refine Ev.pos (by omega) (Ev.pos (by omega) ?_)
    simp only [hrd, wrap_suc j (by omega)]
    have hnext := hr (addS (o1, q1) y) (reach_add hI hyU)
    refine Ev.bind (spec_has o1 y (by omega)) ?_
    show Ev _ (reachN (waitsFor l t W) m (addF (addS (o1, q1) y) _).1 (addF (addS (o1, q1) y) _).2)
    by_cases c : y ∈ o1
    ·have e2 : addS (o1, q1) y = (o1, q1) := if_pos c
     rw [e2] at hnext ⊢
     exact Ev.pos (decide_eq_true c) hnext
    ·have e2 : addS (o1, q1) y = (o1 ++ [y], q1 ++ [y]) := if_neg c
     rw [e2] at hnext ⊢
     exact Ev.neg (ndec c) (Ev.pos (by omega) (Ev.pos (by omega) hnext))
   ·rintro ⟨o1, q1⟩ hI
    simp only at hI
    refine Ev.step (fun k => by rw [spec_l08Reach.l1]) ?_
    refine Ev.neg (by omega) ?_
    exact spec_reachN hl D ht hB hW hs h6 a b m o1 q1 (by omega) hI
theorem impl_reachN (hl : docSm l) (D : Doc1 root next l) (ht : holdsN l t) (hB : holdsB l t = true) (hW : holdsN l W) (hs : t.length ≤ 30) (h6 : W.length ≤ 6) (a b : Int) : ∀ (m : Nat) (o Q : List Int) (i : Nat), i ≤ Q.length → i + m ≤ 1000 → ReachI (uniS t W) m o (Q.drop i) → Ev (fun k => impl_Doc_reached.l0 k o Q i a b l t W) (sortF (reachN (waitsFor l t W) m o (Q.drop i))) := by
 have hend : ∀ (o Q : List Int) (i : Nat), o.length ≤ 36 → Q.length ≤ i → Ev (fun k => impl_Doc_reached.l0 k o Q i a b l t W) (sortF o) := fun o Q i ho hi => by
  refine Ev.step (fun k => by rw [impl_Doc_reached.l0]) ?_
  exact Ev.neg (by omega) (Ev.use (impl_sort o (by omega)) (Ev.now _))
 have hU := uni_len hs h6
 intro m
 induction m with
 | zero =>
  intro o Q i hi hm h
  have e := reach_end h
  have hlo := nodup_lenU (uniS t W) o h.1 h.2.1
  exact hend o Q i (by omega) (by rw [List.drop_eq_nil_iff] at e; exact e)
 | succ m ih =>
  intro o Q i hi hm h
  have hlo := nodup_lenU (uniS t W) o h.1 h.2.1
  by_cases c : i < Q.length
  ·rw [List.drop_eq_getElem_cons c] at h ⊢
   have hlq := h.2.2
   simp only [List.length_cons] at hlq
   have hQl : (Q.drop (i + 1)).length = Q.length - (i + 1) := List.length_drop
   have h' : ReachI (uniS t W) m o (Q.drop (i + 1)) := ⟨h.1, h.2.1, by omega⟩
   have hrd : rd Q (i : Int) = Q[i] := by show Q.getD i 0 = _; rw [List.getD_eq_getElem?_getD, List.getElem?_eq_getElem c]; rfl
   refine Ev.step (fun k => by rw [impl_Doc_reached.l0]) ?_
   refine Ev.pos (by omega) (Ev.pos (by omega) ?_)
   simp only [hrd, wrap_suc i (by omega)]
   refine Ev.bind (impl_waiting t W (by omega) Q[i]) ?_
   rw [reachN]
   rcases ses_cases W Q[i] with e | ⟨j0, hj0, e⟩
   ·have hb : waitsFor l t W Q[i] = [] := by unfold waitsFor; rw [if_pos (by omega)]
    rw [hb]
    exact Ev.pos (by omega) (ih o Q (i + 1) (by omega) (by omega) h')
   ·have hb : waitsFor l t W Q[i] = blockF l t W j0 := by unfold waitsFor; rw [if_neg (by omega), e]; rfl
    have hu : ∀ y, y ∈ blockF l t W j0 → y ∈ uniS t W := fun y hy => waits_uni hB Q[i] y (by rw [hb]; exact hy)
    rw [hb]
    have hbl := block_len (l := l) (t := t) (W := W) hs h6 j0
    refine Ev.neg (by omega) ?_
    rw [e]
    refine Ev.bind (impl_block hl D ht hB hW hs h6 a b j0 hj0) ?_
    refine list_loop (blockF l t W j0) 0 (fun j (s : List Int × List Int) => i + 1 ≤ s.2.length ∧ ReachI (uniS t W) m s.1 (s.2.drop (i + 1))) (fun xs s => sortF (reachN (waitsFor l t W) m (addF (s.1, s.2.drop (i + 1)) xs).1 (addF (s.1, s.2.drop (i + 1)) xs).2)) (fun k j s => impl_Doc_reached.l1 k s.1 s.2 i (blockF l t W j0) (blockF l t W j0).length j a b l t W) ?_ ?_ (o, Q) ⟨by simp only; omega, h'⟩
    ·rintro j ⟨o1, Q1⟩ hj ⟨hI0, hI⟩ hr
     simp only at hI hI0
     have hlo1 := nodup_lenU (uniS t W) o1 hI.1 hI.2.1
     have hlq1 := hI.2.2
     rw [List.length_drop] at hlq1
     obtain ⟨y, hy⟩ : ∃ y, y = (blockF l t W j0).getD j 0 := ⟨_, rfl⟩
     have hrd : rd (blockF l t W j0) (j : Int) = y := hy.symm
     have hyU : y ∈ uniS t W := hu y (by rw [hy]; exact getD_mem _ 0 j hj)
     rw [← hy]
     refine Ev.step (fun k => by rw [impl_Doc_reached.l1]) ?_
     refine Ev.pos (by omega) (Ev.pos (by omega) (Ev.pos (by omega) ?_))
     simp only [hrd, wrap_suc j (by omega)]
     have hd : (Q1 ++ [y]).drop (i + 1) = Q1.drop (i + 1) ++ [y] := List.drop_append_of_le_length hI0
     have hra := reach_add hI hyU
     refine Ev.bind (impl_contains o1 y (by omega)) ?_
     show Ev _ (sortF (reachN (waitsFor l t W) m (addF (addS (o1, Q1.drop (i + 1)) y) _).1 (addF (addS (o1, Q1.drop (i + 1)) y) _).2))
     by_cases c2 : y ∈ o1
     ·have e2 : addS (o1, Q1.drop (i + 1)) y = (o1, Q1.drop (i + 1)) := if_pos c2
      rw [e2]
      exact Ev.pos (decide_eq_true c2) (hr (o1, Q1) ⟨hI0, hI⟩)
     ·have e2 : addS (o1, Q1.drop (i + 1)) y = (o1 ++ [y], Q1.drop (i + 1) ++ [y]) := if_neg c2
      rw [e2] at hra ⊢
      rw [← hd] at hra ⊢
      exact Ev.neg (ndec c2) (Ev.pos (by omega) (Ev.pos (by omega) (hr (o1 ++ [y], Q1 ++ [y]) ⟨by simp only [List.length_append, List.length_cons, List.length_nil]; omega, hra⟩)))
    ·rintro ⟨o1, Q1⟩ ⟨hI0, hI⟩
     simp only at hI hI0
     refine Ev.step (fun k => by rw [impl_Doc_reached.l1]) ?_
     refine Ev.neg (by omega) ?_
     simp only [wrap_suc i (by omega)]
     exact ih o1 Q1 (i + 1) hI0 (by omega) hI
  ·rw [List.drop_of_length_le (by omega)]
   exact hend o Q i (by omega) (by omega)
def reachF (l : List S113) (t W : List S39) (s : Int) : List Int := reachN (waitsFor l t W) 37 [] [s]
theorem reach_start (hs : t.length ≤ 30) (h6 : W.length ≤ 6) (s : Int) : ReachI (uniS t W) 37 [] [s] :=
by
 refine ⟨List.nodup_nil, fun x hx => (List.not_mem_nil hx).elim, ?_⟩
 have := uni_len hs h6
 show 1 + (uniS t W).length ≤ 37 + 0
 omega
theorem reachF_nodup (hB : holdsB l t = true) (hs : t.length ≤ 30) (h6 : W.length ≤ 6) (s : Int) : (reachF l t W s).Nodup ∧ (reachF l t W s).length ≤ 36 := by
 obtain ⟨h1, h2⟩ := reach_fin (waitsFor l t W) (uniS t W) (fun s x hx => waits_uni hB s x hx) 37 [] [s] (reach_start hs h6 s)
 have := nodup_lenU (uniS t W) _ h1 h2
 have hU := uni_len hs h6
 exact ⟨h1, by unfold reachF; omega⟩
theorem spec_reach8 (hl : docSm l) (D : Doc1 root next l) (ht : holdsN l t) (hB : holdsB l t = true) (hW : holdsN l W) (hs : t.length ≤ 30) (h6 : W.length ≤ 6) (a b s : Int) : Ev (fun k => spec_l08Reach.f k a b l t W s) (reachF l t W s) :=
 spec_reachN hl D ht hB hW hs h6 a b 37 [] [s] (by omega) (reach_start hs h6 s)
theorem impl_reach8 (hl : docSm l) (D : Doc1 root next l) (ht : holdsN l t) (hB : holdsB l t = true) (hW : holdsN l W) (hs : t.length ≤ 30) (h6 : W.length ≤ 6) (a b s : Int) : Ev (fun k => impl_Doc_reached.f k a b l t W s) (sortF (reachF l t W s)) :=
 impl_reachN hl D ht hB hW hs h6 a b 37 [] [s] 0 (by omega) (by omega) (reach_start hs h6 s)
end
end Go.Proofs.YtahhgjkgfbppeaaGreat.Pure
namespace Go.Proofs.YtahhgjkgfbppeaaGreat.Pure
set_option linter.unusedVariables false
open Go.RowKit Go.Proofs.YtahhgjkgfbppeaaGreat.XA Go.Proofs.YtahhgjkgfbppeaaGreat.Pk Go.Proofs.YtahhgjkgfbppeaaGreatW.PrintWords
theorem fold_rise : ∀ (ns l : List Int), Rises l → ns.Nodup → (∀ x, x ∈ ns → x ∉ l) → Rises (ns.foldl riseF l) ∧ ∀ x, x ∈ ns.foldl riseF l ↔ x ∈ l ∨ x ∈ ns
 | [], l, h, _, _ => ⟨h, fun x => by simp⟩
 | n :: ns, l, h, hn, hd => by
  have hn' := List.nodup_cons.1 hn
  obtain ⟨g1, g2⟩ := fold_rise ns (riseF l n) (riseF_rise n l h (hd n List.mem_cons_self)) hn'.2 (fun x hx hm => by
   rcases (riseF_mem n x l).1 hm with e | hm
   ·exact hn'.1 (e ▸ hx)
   ·exact hd x (List.mem_cons_of_mem _ hx) hm)
  refine ⟨g1, fun x => ?_⟩
  rw [List.foldl_cons, g2 x, riseF_mem, List.mem_cons]
  constructor
  ·rintro ((h | h) | h)
   ·exact .inr (.inl h)
   ·exact .inl h
   ·exact .inr (.inr h)
  ·rintro (h | h | h)
   ·exact .inl (.inr h)
   ·exact .inl (.inl h)
   ·exact .inr h
section
variable {root next : Int} {l : List S113} {t W : List S39}
def backB (l : List S113) (t W : List S39) (s x : Int) : Bool := decide (s ∈ reachF l t W x)
def circF (l : List S113) (t W : List S39) (s : Int) : List Int := (sortF (reachF l t W s)).filter (backB l t W s)
theorem circ_len (hB : holdsB l t = true) (hs : t.length ≤ 30) (h6 : W.length ≤ 6) (s : Int) : (circF l t W s).length ≤ 36 := by
 have h1 : (circF l t W s).length ≤ (sortF (reachF l t W s)).length := List.length_filter_le _ _
 rw [sortF_len] at h1
 have := (reachF_nodup hB hs h6 s).2
 omega
theorem spec_circle (hl : docSm l) (D : Doc1 root next l) (ht : holdsN l t) (hB : holdsB l t = true) (hW : holdsN l W) (hs : t.length ≤ 30) (h6 : W.length ≤ 6) (a b s : Int) : Ev (fun k => spec_l08Circle.f k a b l t W s) (circF l t W s) := by
 refine Ev.bind (spec_reach8 hl D ht hB hW hs h6 a b s) ?_
 obtain ⟨R, hR⟩ : ∃ R, R = reachF l t W s := ⟨_, rfl⟩
 have hnd := reachF_nodup (W := W) hB hs h6 s
 have e : circF l t W s = ((reachF l t W s).filter (backB l t W s)).foldl riseF [] := by
  obtain ⟨g1, g2⟩ := fold_rise ((reachF l t W s).filter (backB l t W s)) [] List.Pairwise.nil (hnd.1.filter _) (fun x _ hx => by cases hx)
  have hs1 : Rises (sortF (reachF l t W s)) := by
   have p1 := sortF_le (reachF l t W s)
   have p2 : (sortF (reachF l t W s)).Nodup := (List.mergeSort_perm (reachF l t W s) _).nodup_iff.2 hnd.1
   unfold Rises
   exact (p1.and p2).imp (fun h => by have h1 := h.1; have h2 := h.2; omega)
  refine rise_ext _ _ (List.Pairwise.filter _ hs1) g1 (fun x => ?_)
  unfold circF
  rw [g2, List.mem_filter, List.mem_filter, sortF_mem]
  simp
 rw [e]
 have hself : ∀ x, x ∈ reachF l t W s → x = s → backB l t W s x = true := fun x hx e => by subst e; exact decide_eq_true hx
 rw [← hR] at hself hnd ⊢
 have key := list_loop R 0 (fun i (o : List Int) => o.length ≤ i) (fun xs o => (xs.filter (backB l t W s)).foldl riseF o) (fun k i o => spec_l08Circle.l0 k s o R i a b l t W) ?_ ?_ [] (Nat.le_refl _)
 ·exact key
 ·intro i o hi ho hr
  obtain ⟨q, hq⟩ : ∃ q, q = R.getD i 0 := ⟨_, rfl⟩
  have hrd : rd R (i : Int) = q := hq.symm
  have hqm : q ∈ R := by rw [hq]; exact getD_mem R 0 i hi
  rw [← hq]
  refine Ev.step (fun k => by rw [spec_l08Circle.l0]) ?_
  refine Ev.pos (by omega) (Ev.pos (by omega) ?_)
  simp only [hrd, wrap_suc i (by omega)]
  have hyes : backB l t W s q = true → Ev (fun k => (spec_l08Rise.f k o q).bind fun z => spec_l08Circle.l0 k s z R ((i : Int) + 1) a b l t W) (((q :: R.drop (i + 1)).filter (backB l t W s)).foldl riseF o) := fun h => by
   rw [List.filter_cons, if_pos h, List.foldl_cons]
   exact Ev.bind (spec_rise o q (by omega)) (hr _ (by rw [riseF_len]; omega))
  by_cases c : q = s
  ·exact Ev.pos c (hyes (hself q hqm c))
  ·refine Ev.neg c (Ev.bind (spec_reach8 hl D ht hB hW hs h6 a b q) (Ev.bind (spec_has _ s (by have := (reachF_nodup (W := W) hB hs h6 q).2; omega)) ?_))
   by_cases d : s ∈ reachF l t W q
   ·exact Ev.pos (decide_eq_true d) (hyes (decide_eq_true d))
   ·rw [List.filter_cons, if_neg (by unfold backB; exact ndec d)]
    exact Ev.neg (ndec d) (hr o (by omega))
 ·intro o ho
  refine Ev.step (fun k => by rw [spec_l08Circle.l0]) ?_
  exact Ev.neg (by omega) (Ev.now _)
theorem impl_circle (hl : docSm l) (D : Doc1 root next l) (ht : holdsN l t) (hB : holdsB l t = true) (hW : holdsN l W) (hs : t.length ≤ 30) (h6 : W.length ≤ 6) (a b s : Int) : Ev (fun k => impl_Doc_circle.f k a b l t W s) (circF l t W s) := by
 refine Ev.bind (impl_reach8 hl D ht hB hW hs h6 a b s) ?_
 unfold circF
 obtain ⟨S, hSe⟩ : ∃ S, S = sortF (reachF l t W s) := ⟨_, rfl⟩
 have hS : S.length ≤ 36 := by rw [hSe, sortF_len]; exact (reachF_nodup (W := W) hB hs h6 s).2
 rw [← hSe]
 have hq : ∀ x, Ev (fun k => impl_Doc_circle_1.f k x a b l t W s) (!backB l t W s x) := fun x => by
  refine Ev.bind (impl_reach8 hl D ht hB hW hs h6 a b x) (Ev.bind (impl_contains _ s (by rw [sortF_len]; have := (reachF_nodup (W := W) hB hs h6 x).2; omega)) ?_)
  rw [show decide (s ∈ sortF (reachF l t W x)) = backB l t W s x from decide_eq_decide.2 (sortF_mem _ _)]
  exact Ev.now _
 have hfind : Ev (fun k => slices_IndexFunc_int_int_at_impl_Doc_circle_1.f k S a b l t W s) (findN S.length (fun i => !backB l t W s (S.getD i 0))) := by
  refine find_loop S.length _ (fun k i => slices_IndexFunc_int_int_at_impl_Doc_circle_1.l0 k S S.length i s a b l t W) ?_ ?_ ?_
  ·intro i q hi hp hr
   refine Ev.step (fun k => by rw [slices_IndexFunc_int_int_at_impl_Doc_circle_1.l0]) ?_
   simp only [wrap_suc i (by omega)]
   exact Ev.pos (by omega) (Ev.pos (by omega) (Ev.pos (by omega) (Ev.bind (hq _) (Ev.neg (fun e => by have e' : (!backB l t W s (S.getD i 0)) = true := e; rw [hp] at e'; cases e') hr))))
  ·intro i hi hp
   refine Ev.step (fun k => by rw [slices_IndexFunc_int_int_at_impl_Doc_circle_1.l0]) ?_
   exact Ev.pos (by omega) (Ev.pos (by omega) (Ev.pos (by omega) (Ev.bind (hq _) (Ev.pos hp (Ev.now _)))))
  ·refine Ev.step (fun k => by rw [slices_IndexFunc_int_int_at_impl_Doc_circle_1.l0]) ?_
   exact Ev.neg (by omega) (Ev.now _)
 have key : Ev (fun k => slices_DeleteFunc_int_int_at_impl_Doc_circle_1.f k S a b l t W s) (S.filter (backB l t W s)) := by
  refine Ev.bind hfind ?_
  have e2 : (fun x => !(fun x => !backB l t W s x) x) = backB l t W s := funext fun x => Bool.not_not _
  rcases findN_spec S.length (fun i => !backB l t W s (S.getD i 0)) with ⟨e, hn⟩ | ⟨i, hi, e, hp, hn⟩
  ·rw [e]
   refine Ev.pos rfl ?_
   have := del_none S 0 (fun x => !backB l t W s x) hn
   rw [e2] at this
   rw [this]
   exact Ev.now _
  ·rw [e]
   refine Ev.neg (by omega) ?_
   simp only [wrap_suc i (by omega)]
   have := del_loop S 0 (fun x => !backB l t W s x) (S.filter (backB l t W s)) (fun k xs i j => slices_DeleteFunc_int_int_at_impl_Doc_circle_1.l0 k xs i j s a b l t W) ?_ ?_ ?_ (S.length - (i + 1)) (i + 1) i S (by omega) (by omega) (del_begin S 0 _ i hi hp hn)
   ·exact this
   ·intro i j xs hj hij hx hd hp hr
    refine Ev.step (fun k => by rw [slices_DeleteFunc_int_int_at_impl_Doc_circle_1.l0]) ?_
    simp only [wrap_suc i (by omega), wrap_suc j (by omega)]
    have hrd : rd xs (j : Int) = S.getD j 0 := hd
    simp only [hrd]
    exact Ev.pos (by omega) (Ev.pos (by omega) (Ev.bind (hq _) (Ev.neg (fun e => by have e' : (!backB l t W s (S.getD j 0)) = true := e; rw [hp] at e'; cases e') (Ev.pos (by omega) (Ev.pos (by omega) hr)))))
   ·intro i j xs hj hij hx hd hp hr
    refine Ev.step (fun k => by rw [slices_DeleteFunc_int_int_at_impl_Doc_circle_1.l0]) ?_
    simp only [wrap_suc j (by omega)]
    have hrd : rd xs (j : Int) = S.getD j 0 := hd
    simp only [hrd]
    exact Ev.pos (by omega) (Ev.pos (by omega) (Ev.bind (hq _) (Ev.pos hp hr)))
   ·intro i xs hi hx he
    refine Ev.step (fun k => by rw [slices_DeleteFunc_int_int_at_impl_Doc_circle_1.l0]) ?_
    rw [e2] at he
    refine Ev.neg (by omega) (Ev.pos (by omega) (Ev.pos (by omega) (Ev.const ?_)))
    rw [Int.toNat_natCast, del_take xs i _ 0 (by omega), he]
 exact Ev.bind key (Ev.now _)
end
theorem circle_both {root next : Int} {l : List S113} (hl : docSm l) (hI : docI l) (hr : i64 root) (t : List S39) (ht : holdI t) (hs : t.length ≤ 1048576) (W : List S39) (hW : holdI W) (s : Int) :
  ∃ (r0 : List Int) (r1 : Int), r0.length ≤ 1048576 ∧ Ev (fun k => spec_CircleOf.f k root next l t W s) (r0, r1) ∧ Ev (fun k => impl_CircleOf.f k root next l t W s) (r0, r1) := by
 have a1 := spec_tabC (root := root) (next := next) hl t W s
 have a2 := impl_tabC (root := root) (next := next) hl hI hr t ht hs W hW s
 by_cases c : tabC root next l t W s = 0
 ·obtain ⟨D, hN, hB, h30, hWN, h6, _⟩ := tab_zero c
  have hb := circ_len (W := W) hB h30 h6 s
  exact ⟨circF l t W s, 0, by omega, Ev.bind a1 (Ev.pos c (Ev.bind (spec_circle hl D hN hB hWN h30 h6 root next s) (Ev.now _))), Ev.bind a2 (Ev.pos c (Ev.bind (impl_circle hl D hN hB hWN h30 h6 root next s) (Ev.now _)))⟩
 ·exact ⟨[], tabC root next l t W s, Nat.zero_le _, Ev.bind a1 (Ev.neg c (Ev.now _)), Ev.bind a2 (Ev.neg c (Ev.now _))⟩
theorem FnExactCircleOf : laws_FnExactCircleOf.Pure := core_FnExactCircleOf (fun x0 x1 x2 o0 o1 o2 s0 s1 => circle_both (docSm_of _ s0) (docI_of _ o0) (i64_of o0.1) _ (holdI_of x1.f0 o1.1) (holdLen _ s1.1.1) _ (holdI_of x1.f1 o1.2) x2)
end Go.Proofs.YtahhgjkgfbppeaaGreat.Pure
