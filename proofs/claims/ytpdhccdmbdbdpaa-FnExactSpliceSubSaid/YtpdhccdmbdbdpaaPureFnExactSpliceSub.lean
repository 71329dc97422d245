/- The program's SpliceSub answers what the reference's answers: the pure statement of FnExactSpliceSub. Conditions: none. -/
import Derived.Test.YtpdhccdmbdbdpaaZ13
set_option linter.unusedVariables false
set_option linter.unusedSimpArgs false
namespace Go.Proofs.Ytpdhccdmbdbdpaa.Pure
set_option linter.unusedVariables false
set_option linter.unusedSimpArgs false
open Go.RowKit Go.Proofs.Ytpdhccdmbdbdpaa.XA Go.Proofs.Ytpdhccdmbdbdpaa.Pk Go.Proofs.YtpdhccdmbdbdpaaW.PrintWords Go.Proofs.YtpdhccdmbdbdpaaW.PrintLast Go.Proofs.YtpdhccdmbdbdpaaW.PrintMore
theorem list_loop {α σ ρ : Type} (l : List α) (z : α) (I : Nat → σ → Prop) (G : List α → σ → ρ) (F : Nat → Int → σ → Option ρ)
  (hs : ∀ (i : Nat) (s : σ), i < l.length → I i s → (∀ s', I (i + 1) s' → Ev (fun k => F k ((i : Int) + 1) s') (G (l.drop (i + 1)) s')) → Ev (fun k => F k (i : Int) s) (G (l.getD i z :: l.drop (i + 1)) s))
  (he : ∀ s, I l.length s → Ev (fun k => F k (l.length : Int) s) (G [] s)) : ∀ s, I 0 s → Ev (fun k => F k 0 s) (G l s) := by
 have key : ∀ (m i : Nat) (s : σ), i + m = l.length → I i s → Ev (fun k => F k (i : Int) s) (G (l.drop i) s) := by
  intro m
  induction m with
  | zero =>
   intro i s hi h
   have e : i = l.length := by omega
   subst e
   rw [List.drop_length]
   exact he s h
  | succ m ih =>
   intro i s hi h
   have e : l.drop i = l.getD i z :: l.drop (i + 1) := by
    rw [List.getD_eq_getElem?_getD, List.getElem?_eq_getElem (by omega), Option.getD_some]
    exact List.drop_eq_getElem_cons (by omega)
   rw [e]
   exact hs i s (by omega) h (fun s' h' => ih (i + 1) s' (by omega) h')
 intro s h
 exact key l.length 0 s (by omega) h
theorem list_loop0 {α ρ : Type} (l : List α) (z : α) (G : List α → ρ) (F : Nat → Int → Option ρ)
  (hs : ∀ i : Nat, i < l.length → Ev (fun k => F k ((i : Int) + 1)) (G (l.drop (i + 1))) → Ev (fun k => F k (i : Int)) (G (l.getD i z :: l.drop (i + 1))))
  (he : Ev (fun k => F k (l.length : Int)) (G [])) : Ev (fun k => F k 0) (G l) :=
 list_loop (σ := Unit) l z (fun _ _ => True) (fun l _ => G l) (fun k i _ => F k i) (fun i _ hi _ h => hs i hi (h () trivial)) (fun _ _ => he) () trivial
theorem idx_loop {σ ρ : Type} (n : Nat) (I : Nat → σ → Prop) (G : Nat → Nat → σ → ρ) (F : Nat → Int → σ → Option ρ)
  (hs : ∀ (m i : Nat) (s : σ), i + (m + 1) = n → I i s → (∀ s', I (i + 1) s' → Ev (fun k => F k ((i : Int) + 1) s') (G m (i + 1) s')) → Ev (fun k => F k (i : Int) s) (G (m + 1) i s))
  (he : ∀ s, I n s → Ev (fun k => F k (n : Int) s) (G 0 n s)) : ∀ s, I 0 s → Ev (fun k => F k 0 s) (G n 0 s) := by
 have key : ∀ (m i : Nat) (s : σ), i + m = n → I i s → Ev (fun k => F k (i : Int) s) (G m i s) := by
  intro m
  induction m with
  | zero =>
   intro i s hi h
   have e : i = n := by omega
   subst e
   exact he s h
  | succ m ih =>
   intro i s hi h
   exact hs m i s hi h (fun s' h' => ih (i + 1) s' (by omega) h')
 intro s h
 exact key n 0 s (by omega) h
theorem wrap_suc (i : Nat) (h : i < 4611686018427387904) : wrap64 ((i : Int) + 1) = (i : Int) + 1 := wrap_id _ (by omega) (by omega)
theorem Ev.use {α β : Type} {a : Option α} {x : α} {f : Nat → α → Option β} {r : β} (h : a = some x) (k : Ev (fun n => f n x) r) : Ev (fun n => a.bind (f n)) r := by
 subst h
 exact k
theorem ndec {p : Prop} [Decidable p] (h : ¬ p) : ¬ decide p = true := fun g => h (of_decide_eq_true g)
end Go.Proofs.Ytpdhccdmbdbdpaa.Pure
namespace Go.Proofs.Ytpdhccdmbdbdpaa.Pure
set_option linter.unusedVariables false
set_option linter.unusedSimpArgs false
open Go.RowKit Go.Proofs.Ytpdhccdmbdbdpaa.XA Go.Proofs.Ytpdhccdmbdbdpaa.Pk Go.Proofs.YtpdhccdmbdbdpaaW.PrintWords Go.Proofs.YtpdhccdmbdbdpaaW.PrintLast Go.Proofs.YtpdhccdmbdbdpaaW.PrintMore
theorem spec_has (l : List Int) (v : Int) (h : l.length ≤ 4611686018427387903) : Ev (fun k => spec_l02Has.f k l v) (decide (v ∈ l)) := by
 refine list_loop0 l 0 (fun l => decide (v ∈ l)) (fun k i => spec_l02Has.l0 k l v i) ?_ ?_
 ·intro i hi hr
  refine Ev.step (fun k => by rw [spec_l02Has.l0]) ?_
  refine Ev.pos (by omega) (Ev.pos (by omega) ?_)
  by_cases e : rd l (i : Int) = v
  ·refine Ev.pos e ?_
   rw [decide_eq_true (by rw [List.mem_cons]; exact .inl e.symm)]
   exact Ev.now _
  ·refine Ev.neg e ?_
   simp only [wrap_suc i (by omega)]
   have : (v ∈ l.getD i 0 :: l.drop (i + 1)) ↔ v ∈ l.drop (i + 1) := by
    rw [List.mem_cons]
    exact ⟨fun g => g.resolve_left (fun g => e g.symm), .inr⟩
   rw [decide_eq_decide.2 this]
   exact hr
 ·refine Ev.step (fun k => by rw [spec_l02Has.l0]) ?_
  exact Ev.neg (by omega) (Ev.now _)
end Go.Proofs.Ytpdhccdmbdbdpaa.Pure
namespace Go.Proofs.Ytpdhccdmbdbdpaa.Pure
set_option linter.unusedVariables false
set_option linter.unusedSimpArgs false
open Go.RowKit Go.Proofs.Ytpdhccdmbdbdpaa.XA Go.Proofs.Ytpdhccdmbdbdpaa.Pk Go.Proofs.YtpdhccdmbdbdpaaW.PrintWords Go.Proofs.YtpdhccdmbdbdpaaW.PrintLast Go.Proofs.YtpdhccdmbdbdpaaW.PrintMore
theorem tin_eq (x lo hi : Int) : spec_l01In.f x lo hi = some (decide (lo ≤ x ∧ x ≤ hi)) := by
 unfold spec_l01In.f
 by_cases h : x ≥ lo
 ·rw [if_pos h]; exact congrArg some (decide_eq_decide.2 ⟨fun g => ⟨h, g⟩, fun g => g.2⟩)
 ·rw [if_neg h]; exact congrArg some (decide_eq_false fun g => h g.1).symm
theorem twithin_eq (x lo hi : Int) : impl_within.f x lo hi = some (decide (lo ≤ x ∧ x ≤ hi)) := tin_eq x lo hi
def ids (l : List S43) : List Int := l.map (fun x => x.f0)
def atF (l : List S43) (id : Int) : Int := findN l.length (fun i => decide ((l.getD i z43).f0 = id))
def nd (l : List S43) (id : Int) : S43 := rd_T43 l (atF l id)
def kd (l : List S43) (id : Int) : List Int := (nd l id).f4
def par : List S43 → Int → Int
 | [], _ => 0
 | x :: l, id => if id ∈ x.f4 then x.f0 else par l id
theorem findN_spec (n : Nat) (p : Nat → Bool) : (findN n p = -1 ∧ ∀ i, i < n → p i = false) ∨ ∃ i, i < n ∧ findN n p = (i : Int) ∧ p i = true ∧ ∀ j, j < i → p j = false := by
 induction n generalizing p with
 | zero => exact .inl ⟨rfl, fun i hi => by omega⟩
 | succ n ih =>
  rw [findN]
  cases h0 : p 0
  ·rw [if_neg (by decide)]
   rcases ih (fun i => p (i + 1)) with ⟨h1, h2⟩ | ⟨i, hi, h1, h2, h3⟩
   ·rw [if_pos (by omega)]
    refine .inl ⟨rfl, fun i hi => ?_⟩
    cases i with
    | zero => exact h0
    | succ i => exact h2 i (by omega)
   ·rw [if_neg (by omega)]
    refine .inr ⟨i + 1, by omega, by omega, h2, fun j hj => ?_⟩
    cases j with
    | zero => exact h0
    | succ j => exact h3 j (by omega)
  ·rw [if_pos rfl]
   exact .inr ⟨0, by omega, rfl, h0, fun j hj => by omega⟩
theorem rd_nat (l : List S43) (i : Nat) : rd_T43 l (i : Int) = l.getD i z43 := rfl
theorem at_spec (l : List S43) (id : Int) : (atF l id = -1 ∧ id ∉ ids l) ∨ ∃ i, i < l.length ∧ atF l id = (i : Int) ∧ (nd l id).f0 = id ∧ nd l id ∈ l ∧ id ∈ ids l ∧ nd l id = l.getD i z43 := by
 rcases findN_spec l.length (fun i => decide ((l.getD i z43).f0 = id)) with ⟨h1, h2⟩ | ⟨i, hi, h1, h2, h3⟩
 ·refine .inl ⟨h1, fun hm => ?_⟩
  obtain ⟨x, hx, e⟩ := List.mem_map.1 hm
  obtain ⟨i, hi, rfl⟩ := List.getElem_of_mem hx
  have := of_decide_eq_false (h2 i hi)
  rw [List.getD_eq_getElem?_getD, List.getElem?_eq_getElem hi] at this
  exact this e
 ·have e : atF l id = (i : Int) := h1
  have e2 : nd l id = l.getD i z43 := by unfold nd; rw [e]; rfl
  have e3 : (l.getD i z43).f0 = id := of_decide_eq_true h2
  have e4 : l.getD i z43 ∈ l := getD_mem l _ i hi
  exact .inr ⟨i, hi, e, by rw [e2]; exact e3, by rw [e2]; exact e4, List.mem_map.2 ⟨_, e4, e3⟩, e2⟩
theorem at_neg (l : List S43) (id : Int) : atF l id < 0 ↔ id ∉ ids l := by
 rcases at_spec l id with ⟨h1, h2⟩ | ⟨i, hi, h1, _, _, h2, _⟩
 ·exact ⟨fun _ => h2, fun _ => by omega⟩
 ·exact ⟨fun h => by omega, fun h => absurd h2 h⟩
theorem spec_at (l : List S43) (r n id : Int) (h : l.length ≤ 1048576) : Ev (fun k => spec_l02At.f k r n l id) (atF l id) := by
 refine find_loop l.length _ (fun k i => spec_l02At.l0 k id i r n l) ?_ ?_ ?_
 ·intro i q hi hp hq
  refine Ev.step (fun k => by rw [spec_l02At.l0]) ?_
  refine Ev.pos (by omega) (Ev.pos (by omega) (Ev.neg (of_decide_eq_false hp) ?_))
  simp only [wrap_suc i (by omega)]
  exact hq
 ·intro i hi hp
  refine Ev.step (fun k => by rw [spec_l02At.l0]) ?_
  exact Ev.pos (by omega) (Ev.pos (by omega) (Ev.pos (of_decide_eq_true hp) (Ev.now _)))
 ·refine Ev.step (fun k => by rw [spec_l02At.l0]) ?_
  exact Ev.neg (by omega) (Ev.now _)
theorem spec_parent (l : List S43) (r n id : Int) (h : l.length ≤ 1048576) (hk : ∀ x ∈ l, x.f4.length ≤ 1048576) : Ev (fun k => spec_l02Parent.f k r n l id) (par l id) := by
 refine list_loop0 l z43 (fun l => par l id) (fun k i => spec_l02Parent.l0 k id i r n l) ?_ ?_
 ·intro i hi hr
  refine Ev.step (fun k => by rw [spec_l02Parent.l0]) ?_
  refine Ev.pos (by omega) (Ev.pos (by omega) ?_)
  refine Ev.bind (spec_has _ _ (Nat.le_trans (hk _ (getD_mem l _ i hi)) (by omega))) ?_
  show Ev (fun k => if decide (id ∈ (l.getD i z43).f4) = true then _ else _) (if id ∈ (l.getD i z43).f4 then (l.getD i z43).f0 else par (l.drop (i + 1)) id)
  by_cases e : id ∈ (l.getD i z43).f4
  ·rw [if_pos e]
   exact Ev.pos (decide_eq_true e) (Ev.now _)
  ·rw [if_neg e]
   refine Ev.neg (by simpa using e) ?_
   simp only [wrap_suc i (by omega)]
   exact hr
 ·refine Ev.step (fun k => by rw [spec_l02Parent.l0]) ?_
  exact Ev.neg (by omega) (Ev.now _)
def i64 (n : Int) : Prop := -9223372036854775808 ≤ n ∧ n ≤ 9223372036854775807
def docSm (l : List S43) : Prop := l.length ≤ 1048576 ∧ ∀ x ∈ l, x.f4.length ≤ 1048576
def docI (l : List S43) : Prop := ∀ x ∈ l, i64 x.f0 ∧ ∀ c ∈ x.f4, i64 c
def nodeB (next : Int) (x : S43) : Bool := decide (1 ≤ x.f0 ∧ x.f0 ≤ next - 1) && (decide (1 ≤ x.f1 ∧ x.f1 ≤ 8) && (decide (0 ≤ x.f2 ∧ x.f2 ≤ 99) && (decide (x.f3.size ≤ 20) && decide (x.f4.length ≤ 12))))
def ordB (l : List S43) (i : Nat) : Bool := decide (i = 0 ∨ (l.getD (i - 1) z43).f0 < (l.getD i z43).f0)
def kidsB (root : Int) (I : List Int) : List Int → List Int → Option (List Int)
 | [], s => some s
 | c :: cs, s => if c = root ∨ c ∈ s ∨ c ∉ I then none else kidsB root I cs (s ++ [c])
def finB (root : Int) (l : List S43) (s : List Int) : Bool := decide ((s.length : Int) = (l.length : Int) - 1 ∧ root ∈ ids l)
def nodesG (root next : Int) (l : List S43) : Nat → Nat → List Int → Bool
 | 0, _, s => finB root l s
 | m + 1, i, s => if nodeB next (l.getD i z43) = true ∧ ordB l i = true then (match kidsB root (ids l) (l.getD i z43).f4 s with | none => false | some s' => nodesG root next l m (i + 1) s') else false
theorem spec_node (x : S43) (next : Int) (hn : 2 ≤ next ∧ next ≤ 999999) : spec_l02Node.f x.f0 x.f1 x.f2 x.f3 x.f4 next = some (nodeB next x) := by
 have w1 : wrap64 (next - 1) = next - 1 := wrap_id _ (by omega) (by omega)
 simp only [spec_l02Node.f, spec_l02Kind.f, tin_eq, w1, Option.bind_some, nodeB]
 by_cases h1 : 1 ≤ x.f0 ∧ x.f0 ≤ next - 1
 ·by_cases h2 : 1 ≤ x.f1 ∧ x.f1 ≤ 8
  ·by_cases h3 : 0 ≤ x.f2 ∧ x.f2 ≤ 99
   ·by_cases h4 : x.f3.size ≤ 20
    ·have h4' : (x.f3.size : Int) ≤ 20 := by omega
     have h5 : (decide ((x.f4.length : Int) ≤ 12)) = decide (x.f4.length ≤ 12) := decide_eq_decide.2 (by omega)
     simp [h1, h2, h3, h4, h4', h5]
    ·have h4' : ¬ (x.f3.size : Int) ≤ 20 := by omega
     simp [h1, h2, h3, h4, h4']
   ·simp [h1, h2, h3]
  ·simp [h1, h2]
 ·simp [h1]
theorem spec_kids (l : List S43) (root n : Int) (i : Nat) (s : List Int) (x : S43) (hl : docSm l) (hi : i < l.length) (hx : x.f4.length ≤ 1048576) (hs : s.length ≤ 1048576 * i) (c : List Int → Bool)
  (hc : ∀ s', s'.length ≤ 1048576 * (i + 1) → Ev (fun k => spec_l02Nodes.l0 k s' ((i : Int) + 1) root n l) (c s')) :
  Ev (fun k => spec_l02Nodes.l1 k s i 0 root n l x.f0 x.f1 x.f2 x.f3 x.f4) (match kidsB root (ids l) x.f4 s with | none => false | some s' => c s') := by
 have hl' := hl.1
 refine list_loop x.f4 0 (fun j s' => s'.length ≤ 1048576 * i + j) (fun cs s' => match kidsB root (ids l) cs s' with | none => false | some s' => c s') (fun k j s' => spec_l02Nodes.l1 k s' i j root n l x.f0 x.f1 x.f2 x.f3 x.f4) ?_ ?_ s (by simpa using hs)
 ·intro j s' hj hs' hr
  refine Ev.step (fun k => by rw [spec_l02Nodes.l1]) ?_
  refine Ev.pos (by omega) (Ev.pos (by omega) ?_)
  show Ev (fun k => if x.f4.getD j 0 = root then _ else _) (match (if x.f4.getD j 0 = root ∨ x.f4.getD j 0 ∈ s' ∨ x.f4.getD j 0 ∉ ids l then none else kidsB root (ids l) (x.f4.drop (j + 1)) (s' ++ [x.f4.getD j 0])) with | none => false | some s' => c s')
  by_cases h1 : x.f4.getD j 0 = root
  ·rw [if_pos (.inl h1)]
   exact Ev.pos h1 (Ev.now _)
  refine Ev.neg h1 (Ev.bind (spec_has s' _ (by omega)) ?_)
  by_cases h2 : x.f4.getD j 0 ∈ s'
  ·rw [if_pos (.inr (.inl h2))]
   exact Ev.pos (decide_eq_true h2) (Ev.now _)
  refine Ev.neg (ndec h2) (Ev.bind (spec_at l root n _ hl') ?_)
  by_cases h3 : x.f4.getD j 0 ∈ ids l
  ·rw [if_neg (fun h => h.elim h1 (fun h => h.elim h2 (fun h => h h3)))]
   refine Ev.neg (fun h => (at_neg l _).1 h h3) (Ev.pos (by omega) ?_)
   simp only [wrap_suc j (by omega)]
   exact hr _ (by simp; omega)
  ·rw [if_pos (.inr (.inr h3))]
   exact Ev.pos ((at_neg l _).2 h3) (Ev.now _)
 ·intro s' hs'
  refine Ev.step (fun k => by rw [spec_l02Nodes.l1]) ?_
  refine Ev.neg (by omega) ?_
  simp only [wrap_suc i (by omega)]
  exact hc s' (by omega)
theorem spec_nodes (l : List S43) (root next : Int) (hn : 2 ≤ next ∧ next ≤ 999999) (hl : docSm l) (h0 : 1 ≤ l.length) : Ev (fun k => spec_l02Nodes.f k root next l) (nodesG root next l l.length 0 []) := by
 have hl' := hl.1
 refine idx_loop l.length (fun i s => s.length ≤ 1048576 * i) (fun m i s => nodesG root next l m i s) (fun k i s => spec_l02Nodes.l0 k s i root next l) ?_ ?_ [] (by simp)
 ·intro m i s hi hs hr
  refine Ev.step (fun k => by rw [spec_l02Nodes.l0]) ?_
  refine Ev.pos (by omega) (Ev.pos (by omega) (Ev.use (spec_node (l.getD i z43) next hn) ?_))
  show Ev _ (if nodeB next (l.getD i z43) = true ∧ ordB l i = true then (match kidsB root (ids l) (l.getD i z43).f4 s with | none => false | some s' => nodesG root next l m (i + 1) s') else false)
  have hk := spec_kids l root next i s (l.getD i z43) hl (by omega) (hl.2 _ (getD_mem l _ i (by omega))) hs (fun s' => nodesG root next l m (i + 1) s') hr
  by_cases h1 : nodeB next (l.getD i z43) = true
  ·refine Ev.pos h1 ?_
   by_cases h2 : i = 0
   ·rw [if_pos ⟨h1, decide_eq_true (.inl h2)⟩]
    refine Ev.neg (by omega) ?_
    refine Ev.step (fun k => by rw [spec_l02Nodes.j1]) ?_
    exact Ev.neg (by decide) hk
   ·have e : wrap64 ((i : Int) - 1) = ((i - 1 : Nat) : Int) := by rw [wrap_id _ (by omega) (by omega)]; omega
    simp only [e]
    refine Ev.pos (by omega) (Ev.pos (by omega) (Ev.pos (by omega) ?_))
    by_cases h3 : (l.getD (i - 1) z43).f0 < (l.getD i z43).f0
    ·rw [if_pos ⟨h1, decide_eq_true (.inr h3)⟩]
     refine Ev.step (fun k => by rw [spec_l02Nodes.j1]) ?_
     refine Ev.neg ?_ hk
     rw [rd_nat, rd_nat, decide_eq_true_eq]
     omega
    ·rw [if_neg (fun h => (of_decide_eq_true h.2).elim h2 h3)]
     refine Ev.step (fun k => by rw [spec_l02Nodes.j1]) ?_
     refine Ev.pos ?_ (Ev.now _)
     rw [rd_nat, rd_nat, decide_eq_true_eq]
     omega
  ·rw [if_neg (fun h => h1 h.1)]
   refine Ev.neg h1 ?_
   refine Ev.step (fun k => by rw [spec_l02Nodes.j1]) ?_
   exact Ev.pos rfl (Ev.now _)
 ·intro s hs
  refine Ev.step (fun k => by rw [spec_l02Nodes.l0]) ?_
  refine Ev.neg (by omega) ?_
  rw [wrap_id _ (by omega) (by omega)]
  show Ev _ (finB root l s)
  unfold finB
  by_cases h1 : (s.length : Int) = (l.length : Int) - 1
  ·refine Ev.pos h1 (Ev.bind (spec_at l root next root hl') ?_)
   have e : decide (atF l root ≥ 0) = decide ((s.length : Int) = (l.length : Int) - 1 ∧ root ∈ ids l) := by
    refine decide_eq_decide.2 ⟨fun h => ⟨h1, ?_⟩, fun h => ?_⟩
    ·apply Classical.byContradiction
     intro g
     have := (at_neg l root).2 g
     omega
    ·have := mt (at_neg l root).1 (fun g => g h.2)
     omega
   rw [e]
   exact Ev.now _
  ·refine Ev.neg h1 ?_
   rw [decide_eq_false (fun h => h1 h.1)]
   exact Ev.now _
def locG (next : Int) (l : List S43) : Nat → Nat → Bool
 | 0, _ => true
 | m + 1, i => (nodeB next (l.getD i z43) && ordB l i) && locG next l m (i + 1)
def kidsM (root : Int) (l : List S43) : Nat → Nat → List Int → Option (List Int)
 | 0, _, s => some s
 | m + 1, i, s => (kidsB root (ids l) (l.getD i z43).f4 s).bind (kidsM root l m (i + 1))
theorem nodesG_eq (root next : Int) (l : List S43) (m i : Nat) (s : List Int) : nodesG root next l m i s = (locG next l m i && match kidsM root l m i s with | none => false | some s' => finB root l s') := by
 induction m generalizing i s with
 | zero => simp [nodesG, locG, kidsM]
 | succ m ih =>
  rw [nodesG, locG, kidsM]
  by_cases h : nodeB next (l.getD i z43) = true ∧ ordB l i = true
  ·rw [if_pos h, h.1, h.2]
   cases hk : kidsB root (ids l) (l.getD i z43).f4 s with
   | none => simp
   | some s' => simp only [Option.bind_some, ih, Bool.and_self, Bool.true_and]
  ·rw [if_neg h]
   have : (nodeB next (l.getD i z43) && ordB l i) = false := by
    cases h1 : nodeB next (l.getD i z43) <;> cases h2 : ordB l i <;> simp_all
   rw [this]
   simp
theorem kidsB_append (root : Int) (I a b s : List Int) : kidsB root I (a ++ b) s = (kidsB root I a s).bind (kidsB root I b) := by
 induction a generalizing s with
 | nil => rfl
 | cons c a ih =>
  rw [List.cons_append, kidsB, kidsB]
  split
  ·rfl
  ·exact ih _
theorem kidsM_eq (root : Int) (l : List S43) (m i : Nat) (h : i + m = l.length) (s : List Int) : kidsM root l m i s = kidsB root (ids l) ((l.drop i).flatMap (fun x => x.f4)) s := by
 induction m generalizing i s with
 | zero =>
  have e : i = l.length := by omega
  subst e
  rw [List.drop_length]
  rfl
 | succ m ih =>
  have e : l.drop i = l.getD i z43 :: l.drop (i + 1) := by
   rw [List.getD_eq_getElem?_getD, List.getElem?_eq_getElem (by omega), Option.getD_some]
   exact List.drop_eq_getElem_cons (by omega)
  rw [e, List.flatMap_cons, kidsB_append, kidsM]
  congr 1
  funext s'
  exact ih (i + 1) (by omega) s'
theorem kidsB_some (root : Int) (I cs s s' : List Int) (h : kidsB root I cs s = some s') (hn : s.Nodup) : s' = s ++ cs ∧ (∀ c ∈ cs, c ≠ root ∧ c ∈ I) ∧ (s ++ cs).Nodup := by
 induction cs generalizing s with
 | nil => cases h; simp [hn]
 | cons c cs ih =>
  rw [kidsB] at h
  split at h
  ·cases h
  ·rename_i g
   have g1 : c ≠ root := fun e => g (.inl e)
   have g2 : c ∉ s := fun e => g (.inr (.inl e))
   have g3 : c ∈ I := Classical.byContradiction fun e => g (.inr (.inr e))
   obtain ⟨h1, h2, h3⟩ := ih (s ++ [c]) h (by
    rw [List.nodup_append]
    refine ⟨hn, by simp, fun a ha b hb => ?_⟩
    simp only [List.mem_singleton] at hb
    subst hb
    exact fun e => g2 (e ▸ ha))
   rw [List.append_assoc] at h1 h3
   refine ⟨h1, fun d hd => ?_, h3⟩
   rcases List.mem_cons.1 hd with e | hd
   ·subst e; exact ⟨g1, g3⟩
   ·exact h2 d hd
theorem locG_iff (next : Int) (l : List S43) (m i : Nat) : locG next l m i = true ↔ ∀ j, i ≤ j → j < i + m → nodeB next (l.getD j z43) = true ∧ ordB l j = true := by
 induction m generalizing i with
 | zero => exact ⟨fun _ j h1 h2 => by omega, fun _ => rfl⟩
 | succ m ih =>
  rw [locG, Bool.and_eq_true, Bool.and_eq_true, ih]
  constructor
  ·rintro ⟨h1, h2⟩ j hj hj'
   by_cases e : j = i
   ·subst e; exact h1
   ·exact h2 j (by omega) (by omega)
  ·intro h
   exact ⟨h i (by omega) (by omega), fun j hj hj' => h j (by omega) (by omega)⟩
structure Loc (next : Int) (l : List S43) : Prop where
 nx : 2 ≤ next ∧ next ≤ 999999
 id : ∀ x ∈ l, 1 ≤ x.f0 ∧ x.f0 ≤ next - 1
 kind : ∀ x ∈ l, 1 ≤ x.f1 ∧ x.f1 ≤ 8
 attr : ∀ x ∈ l, 0 ≤ x.f2 ∧ x.f2 ≤ 99
 text : ∀ x ∈ l, x.f3.size ≤ 20
 kids : ∀ x ∈ l, x.f4.length ≤ 12
 rise : ∀ i j, i < j → j < l.length → (l.getD i z43).f0 < (l.getD j z43).f0
theorem nodeB_iff (next : Int) (x : S43) : nodeB next x = true ↔ (1 ≤ x.f0 ∧ x.f0 ≤ next - 1) ∧ (1 ≤ x.f1 ∧ x.f1 ≤ 8) ∧ (0 ≤ x.f2 ∧ x.f2 ≤ 99) ∧ x.f3.size ≤ 20 ∧ x.f4.length ≤ 12 := by
 simp only [nodeB, Bool.and_eq_true, decide_eq_true_eq]
theorem loc_of (next : Int) (l : List S43) (hn : 2 ≤ next ∧ next ≤ 999999) (h : locG next l l.length 0 = true) : Loc next l := by
 have h := (locG_iff next l l.length 0).1 h
 have h1 : ∀ x ∈ l, nodeB next x = true := fun x hx => by
  obtain ⟨i, hi, rfl⟩ := List.getElem_of_mem hx
  have := (h i (by omega) (by omega)).1
  rwa [List.getD_eq_getElem?_getD, List.getElem?_eq_getElem hi] at this
 have h1 := fun x hx => (nodeB_iff next x).1 (h1 x hx)
 refine ⟨hn, fun x hx => (h1 x hx).1, fun x hx => (h1 x hx).2.1, fun x hx => (h1 x hx).2.2.1, fun x hx => (h1 x hx).2.2.2.1, fun x hx => (h1 x hx).2.2.2.2, fun i j hij hj => ?_⟩
 induction j with
 | zero => omega
 | succ j ih =>
  have g := (of_decide_eq_true (h (j + 1) (by omega) (by omega)).2).resolve_left (by omega)
  simp only [Nat.add_sub_cancel] at g
  by_cases e : i = j
  ·subst e; exact g
  ·have := ih (by omega) (by omega)
   omega
theorem loc_inj {next : Int} {l : List S43} (h : Loc next l) {i j : Nat} (hi : i < l.length) (hj : j < l.length) (e : (l.getD i z43).f0 = (l.getD j z43).f0) : i = j := by
 rcases Nat.lt_trichotomy i j with g | g | g
 ·have := h.rise i j g hj; omega
 ·exact g
 ·have := h.rise j i g hi; omega
theorem wrap_ne (a b : Int) (ha : 1 ≤ a ∧ a ≤ 999998) (hb : i64 b) : (wrap64 (a - b) == 0) = decide (a = b) := by
 unfold i64 at hb
 by_cases h : a = b
 ·subst h; simp [wrap64]
 ·rw [decide_eq_false h]
  refine beq_eq_false_iff_ne.2 ?_
  unfold wrap64
  omega
theorem impl_search {next : Int} {l : List S43} (hl : docSm l) (hL : Loc next l) (id : Int) (hI : i64 id) (d : Nat) : ∀ i j : Nat, j - i ≤ d → i ≤ j → j ≤ l.length → (∀ p, p < l.length → (l.getD p z43).f0 = id → i ≤ p ∧ p ≤ j) →
  ∃ q, q ≤ l.length ∧ Ev (fun k => slices_BinarySearchFunc_impl_Node_impl_Node_int_at_impl_Doc_find_1.l0 k l id l.length i j) ((q : Int), decide (q < l.length ∧ (l.getD q z43).f0 = id)) ∧ ∀ p, p < l.length → (l.getD p z43).f0 = id → q = p := by
 have hl' := hl.1
 have hnx := hL.nx
 have done : ∀ i : Nat, i ≤ l.length → (∀ p, p < l.length → (l.getD p z43).f0 = id → i ≤ p ∧ p ≤ i) → ∃ q, q ≤ l.length ∧ Ev (fun k => slices_BinarySearchFunc_impl_Node_impl_Node_int_at_impl_Doc_find_1.l0 k l id l.length i i) ((q : Int), decide (q < l.length ∧ (l.getD q z43).f0 = id)) ∧ ∀ p, p < l.length → (l.getD p z43).f0 = id → q = p := by
  intro i hi hp
  refine ⟨i, hi, ?_, fun p h1 h2 => by have := hp p h1 h2; omega⟩
  refine Ev.step (fun k => by rw [slices_BinarySearchFunc_impl_Node_impl_Node_int_at_impl_Doc_find_1.l0]) ?_
  refine Ev.neg (by omega) ?_
  by_cases g : i < l.length
  ·refine Ev.pos (by omega) (Ev.pos (by omega) (Ev.pos (by omega) (Ev.use rfl ?_)))
   have hx := hL.id _ (getD_mem l z43 i g)
   have e := wrap_ne (l.getD i z43).f0 id (by omega) hI
   rw [show decide (i < l.length ∧ (l.getD i z43).f0 = id) = (wrap64 ((l.getD i z43).f0 - id) == 0) from by rw [e]; exact decide_eq_decide.2 ⟨fun h => h.2, fun h => ⟨g, h⟩⟩]
   exact Ev.now _
  ·refine Ev.neg (by omega) ?_
   rw [decide_eq_false (fun h => g h.1)]
   exact Ev.now _
 induction d with
 | zero =>
  intro i j h1 h2 h3 hp
  have e : i = j := by omega
  subst e
  exact done i h3 hp
 | succ d ih =>
  intro i j h1 h2 h3 hp
  by_cases g : i < j
  ·have w0 : wrap64 ((i : Int) + (j : Int)) = ((i + j : Nat) : Int) := by rw [wrap_id _ (by omega) (by omega)]; omega
   have w1 : IntKind.u64.wrap (wrap64 ((i : Int) + (j : Int))) = ((i + j : Nat) : Int) := by rw [w0]; exact Go.IntWalk.u64_in _ (by omega)
   have w2 : wrap64 ((IntKind.u64.wrap (wrap64 ((i : Int) + (j : Int)))) / 2) = (((i + j) / 2 : Nat) : Int) := by rw [w1, wrap_id _ (by omega) (by omega)]; omega
   have hh : (i + j) / 2 < l.length := by omega
   have hx := hL.id _ (getD_mem l z43 _ hh)
   by_cases c : wrap64 ((l.getD ((i + j) / 2) z43).f0 - id) < 0
   ·obtain ⟨q, hq, he, hu⟩ := ih ((i + j) / 2 + 1) j (by omega) (by omega) h3 (fun p hp1 hp2 => by
     have g1 := hp p hp1 hp2
     refine ⟨?_, g1.2⟩
     have hy := hL.id _ (getD_mem l z43 p hp1)
     have : (l.getD ((i + j) / 2) z43).f0 < (l.getD p z43).f0 := by
      rw [← hp2] at c
      rw [wrap_id _ (by omega) (by omega)] at c
      omega
     rcases Nat.lt_trichotomy ((i + j) / 2) p with z | z | z
     ·omega
     ·rw [z] at this; omega
     ·have := hL.rise _ _ z hh; omega)
    refine ⟨q, hq, ?_, hu⟩
    refine Ev.step (fun k => by rw [slices_BinarySearchFunc_impl_Node_impl_Node_int_at_impl_Doc_find_1.l0]) ?_
    simp only [w2]
    refine Ev.pos (by omega) (Ev.pos (by omega) (Ev.pos (by omega) (Ev.use rfl (Ev.pos c ?_))))
    simp only [wrap_suc ((i + j) / 2) (by omega)]
    exact he
   ·obtain ⟨q, hq, he, hu⟩ := ih i ((i + j) / 2) (by omega) (by omega) (by omega) (fun p hp1 hp2 => by
     have g1 := hp p hp1 hp2
     refine ⟨g1.1, ?_⟩
     have hy := hL.id _ (getD_mem l z43 p hp1)
     have : ¬ (l.getD ((i + j) / 2) z43).f0 < (l.getD p z43).f0 := by
      rw [← hp2] at c
      rw [wrap_id _ (by omega) (by omega)] at c
      omega
     rcases Nat.lt_trichotomy ((i + j) / 2) p with z | z | z
     ·have := hL.rise _ _ z hp1; omega
     ·omega
     ·omega)
    refine ⟨q, hq, ?_, hu⟩
    refine Ev.step (fun k => by rw [slices_BinarySearchFunc_impl_Node_impl_Node_int_at_impl_Doc_find_1.l0]) ?_
    simp only [w2]
    exact Ev.pos (by omega) (Ev.pos (by omega) (Ev.pos (by omega) (Ev.use rfl (Ev.neg c he))))
  ·have e : i = j := by omega
   subst e
   exact done i h3 hp
theorem impl_find {next : Int} {l : List S43} (hl : docSm l) (hL : Loc next l) (r n id : Int) (hI : i64 id) : Ev (fun k => impl_Doc_find.f k r n l id) (atF l id) := by
 obtain ⟨q, hq, he, hu⟩ := impl_search hl hL id hI l.length 0 l.length (by omega) (by omega) (by omega) (fun p h1 _ => ⟨by omega, by omega⟩)
 refine Ev.bind he ?_
 show Ev (fun k => if decide (q < l.length ∧ (l.getD q z43).f0 = id) = true then _ else _) _
 rcases at_spec l id with ⟨h1, h2⟩ | ⟨i, hi, h1, h2, h3, h4, h5⟩
 ·rw [h1]
  refine Ev.neg (ndec fun h => h2 (List.mem_map.2 ⟨_, getD_mem l z43 q h.1, h.2⟩)) (Ev.now _)
 ·rw [h5] at h2
  obtain rfl := hu i hi h2
  rw [h1]
  exact Ev.pos (decide_eq_true ⟨hi, h2⟩) (Ev.pos (by omega) (Ev.pos (by omega) (Ev.now _)))
theorem impl_has {next : Int} {l : List S43} (hl : docSm l) (hL : Loc next l) (r n id : Int) (hI : i64 id) : Ev (fun k => impl_Doc_has.f k r n l id) (decide (id ∈ ids l)) := by
 refine Ev.bind (impl_find hl hL r n id hI) ?_
 by_cases h : id ∈ ids l
 ·rw [decide_eq_true h]
  exact Ev.neg (fun g => (at_neg l id).1 g h) (Ev.now _)
 ·rw [decide_eq_false h]
  exact Ev.pos ((at_neg l id).2 h) (Ev.now _)
def Clo (l : List S43) : Prop := ∀ x ∈ l, ∀ c ∈ x.f4, c ∈ ids l
theorem nd_mem {l : List S43} {id : Int} (h : id ∈ ids l) : ∃ i, i < l.length ∧ atF l id = (i : Int) ∧ nd l id ∈ l ∧ (nd l id).f0 = id ∧ nd l id = l.getD i z43 := by
 rcases at_spec l id with ⟨_, h2⟩ | ⟨i, hi, h1, h2, h3, _, h5⟩
 ·exact absurd h h2
 ·exact ⟨i, hi, h1, h3, h2, h5⟩
theorem kd_ids {l : List S43} (hc : Clo l) {id c : Int} (h : id ∈ ids l) (h2 : c ∈ kd l id) : c ∈ ids l := by
 obtain ⟨_, _, _, hm, _⟩ := nd_mem h
 exact hc _ hm c h2
def dp (l : List S43) : Nat → Int → Int
 | 0, _ => 1
 | n + 1, id => (kd l id).foldl (fun a c => mx a (dp l n c)) 0 + 1
theorem mx_le {a b B : Int} : mx a b ≤ B ↔ a ≤ B ∧ b ≤ B := by unfold mx; split <;> omega
theorem le_mx {a b : Int} : a ≤ mx a b := by unfold mx; split <;> omega
theorem fold_mx (f : Int → Int) (cs : List Int) (a B : Int) : cs.foldl (fun a c => mx a (f c)) a ≤ B ↔ a ≤ B ∧ ∀ c ∈ cs, f c ≤ B := by
 induction cs generalizing a with
 | nil => simp
 | cons c cs ih =>
  rw [List.foldl_cons, ih, mx_le]
  simp only [List.mem_cons, forall_eq_or_imp, and_assoc]
theorem fold_mx_ge (f : Int → Int) (cs : List Int) (a : Int) : a ≤ cs.foldl (fun a c => mx a (f c)) a := ((fold_mx f cs a _).1 (Int.le_refl _)).1
theorem dp_bound (l : List S43) (n : Nat) (id : Int) : 1 ≤ dp l n id ∧ dp l n id ≤ n + 1 := by
 induction n generalizing id with
 | zero => simp [dp]
 | succ n ih =>
  rw [dp]
  have h1 := fold_mx_ge (dp l n) (kd l id) 0
  have h2 := (fold_mx (dp l n) (kd l id) 0 (n + 1)).2 ⟨by omega, fun c _ => (ih c).2⟩
  omega
theorem dp_kid {l : List S43} {n : Nat} {id : Int} (h : dp l (n + 1) id ≤ (n : Int) + 1) : ∀ c ∈ kd l id, dp l n c ≤ n := by
 rw [dp] at h
 exact ((fold_mx (dp l n) (kd l id) 0 n).1 (by omega)).2
theorem spec_deep {l : List S43} (root nx : Int) (hl : docSm l) (hc : Clo l) (n : Nat) (hn : n ≤ 1000000) (id : Int) (h : id ∈ ids l) : Ev (fun k => spec_l02Deep.f k root nx l id (n : Int)) (dp l n id) := by
 have hl' := hl.1
 induction n generalizing id with
 | zero =>
  refine Ev.step (fun k => by rw [spec_l02Deep.f]) ?_
  exact Ev.pos rfl (Ev.now _)
 | succ n ih =>
  refine Ev.step (fun k => by rw [spec_l02Deep.f]) ?_
  obtain ⟨i, hi, e1, hm, _, e2⟩ := nd_mem h
  refine Ev.neg (by omega) (Ev.bind (spec_at l root nx id hl') ?_)
  simp only [e1]
  refine Ev.pos (by omega) (Ev.pos (by omega) ?_)
  show Ev (fun k => spec_l02Deep.l0 k ((n + 1 : Nat) : Int) 0 (l.getD i z43).f4 0 root nx l) (dp l (n + 1) id)
  have e3 : kd l id = (l.getD i z43).f4 := by unfold kd; rw [e2]
  rw [dp, e3]
  have hx := hl.2 _ (getD_mem l z43 i hi)
  refine list_loop (l.getD i z43).f4 0 (fun _ acc => 0 ≤ acc ∧ acc ≤ (n : Int) + 1) (fun cs acc => cs.foldl (fun a c => mx a (dp l n c)) acc + 1) (fun k j acc => spec_l02Deep.l0 k ((n + 1 : Nat) : Int) acc (l.getD i z43).f4 j root nx l) ?_ ?_ 0 (by omega)
  ·intro j acc hj ha hr
   refine Ev.step (fun k => by rw [spec_l02Deep.l0]) ?_
   have hk : (l.getD i z43).f4.getD j 0 ∈ ids l := hc _ (getD_mem l z43 i hi) _ (getD_mem _ _ j hj)
   refine Ev.pos (by omega) (Ev.pos (by omega) ?_)
   have w : wrap64 (((n + 1 : Nat) : Int) - 1) = (n : Int) := by rw [wrap_id _ (by omega) (by omega)]; omega
   simp only [w]
   refine Ev.bind (ih (by omega) _ hk) ?_
   simp only [wrap_suc j (by omega)]
   have hb := dp_bound l n ((l.getD i z43).f4.getD j 0)
   exact hr _ ⟨Int.le_trans ha.1 le_mx, mx_le.2 ⟨ha.2, hb.2⟩⟩
  ·intro acc ha
   refine Ev.step (fun k => by rw [spec_l02Deep.l0]) ?_
   refine Ev.neg (by omega) ?_
   rw [wrap_id _ (by omega) (by omega)]
   exact Ev.now _
theorem impl_depth {next : Int} {l : List S43} (root : Int) (hl : docSm l) (hL : Loc next l) (hI : docI l) (hc : Clo l) (n : Nat) (hn : n ≤ 6) (id : Int) (h : id ∈ ids l) : Ev (fun k => impl_Doc_depth.f k root next l id (6 - (n : Int))) (dp l n id) := by
 have hl' := hl.1
 have idI : ∀ id, id ∈ ids l → i64 id := fun id h => by
  obtain ⟨x, hx, rfl⟩ := List.mem_map.1 h
  exact (hI x hx).1
 induction n generalizing id with
 | zero =>
  refine Ev.step (fun k => by rw [impl_Doc_depth.f]) ?_
  obtain ⟨i, hi, e1, hm, _, e2⟩ := nd_mem h
  refine Ev.neg (by omega) (Ev.bind (impl_find hl hL root next id (idI id h)) ?_)
  simp only [e1]
  refine Ev.neg (by omega) (Ev.pos (by omega) (Ev.pos (by omega) ?_))
  show Ev (fun k => impl_Doc_depth.l0 k (6 - (0 : Nat) : Int) 0 (l.getD i z43).f4 (l.getD i z43).f4.length 0 root next l) 1
  have hx := hl.2 _ (getD_mem l z43 i hi)
  refine list_loop0 (l.getD i z43).f4 0 (fun _ => (1 : Int)) (fun k j => impl_Doc_depth.l0 k (6 - (0 : Nat) : Int) 0 (l.getD i z43).f4 (l.getD i z43).f4.length j root next l) ?_ ?_
  ·intro j hj hr
   refine Ev.step (fun k => by rw [impl_Doc_depth.l0]) ?_
   refine Ev.pos (by omega) (Ev.pos (by omega) (Ev.pos (by omega) ?_))
   refine Ev.bind (a := 0) ?_ ?_
   ·refine Ev.step (fun k => by rw [impl_Doc_depth.f]) ?_
    exact Ev.pos (by rw [wrap_id _ (by omega) (by omega)]; omega) (Ev.now _)
   ·simp only [wrap_suc j (by omega)]
    exact hr
  ·refine Ev.step (fun k => by rw [impl_Doc_depth.l0]) ?_
   exact Ev.neg (by omega) (Ev.const (by rw [wrap_id _ (by omega) (by omega)]; rfl))
 | succ n ih =>
  refine Ev.step (fun k => by rw [impl_Doc_depth.f]) ?_
  obtain ⟨i, hi, e1, hm, _, e2⟩ := nd_mem h
  refine Ev.neg (by omega) (Ev.bind (impl_find hl hL root next id (idI id h)) ?_)
  simp only [e1]
  refine Ev.neg (by omega) (Ev.pos (by omega) (Ev.pos (by omega) ?_))
  show Ev (fun k => impl_Doc_depth.l0 k (6 - ((n + 1 : Nat) : Int)) 0 (l.getD i z43).f4 (l.getD i z43).f4.length 0 root next l) (dp l (n + 1) id)
  have e3 : kd l id = (l.getD i z43).f4 := by unfold kd; rw [e2]
  rw [dp, e3]
  have hx := hl.2 _ (getD_mem l z43 i hi)
  refine list_loop (l.getD i z43).f4 0 (fun _ acc => 0 ≤ acc ∧ acc ≤ (n : Int) + 1) (fun cs acc => cs.foldl (fun a c => mx a (dp l n c)) acc + 1) (fun k j acc => impl_Doc_depth.l0 k (6 - ((n + 1 : Nat) : Int)) acc (l.getD i z43).f4 (l.getD i z43).f4.length j root next l) ?_ ?_ 0 (by omega)
  ·intro j acc hj ha hr
   refine Ev.step (fun k => by rw [impl_Doc_depth.l0]) ?_
   have hk : (l.getD i z43).f4.getD j 0 ∈ ids l := hc _ (getD_mem l z43 i hi) _ (getD_mem _ _ j hj)
   refine Ev.pos (by omega) (Ev.pos (by omega) (Ev.pos (by omega) ?_))
   have w : wrap64 (6 - ((n + 1 : Nat) : Int) + 1) = 6 - (n : Int) := by rw [wrap_id _ (by omega) (by omega)]; omega
   simp only [w]
   refine Ev.bind (ih (by omega) _ hk) ?_
   simp only [wrap_suc j (by omega)]
   have hb := dp_bound l n ((l.getD i z43).f4.getD j 0)
   exact hr _ ⟨Int.le_trans ha.1 le_mx, mx_le.2 ⟨ha.2, hb.2⟩⟩
  ·intro acc ha
   refine Ev.step (fun k => by rw [impl_Doc_depth.l0]) ?_
   refine Ev.neg (by omega) ?_
   rw [wrap_id _ (by omega) (by omega)]
   exact Ev.now _
theorem impl_deep {next : Int} {l : List S43} (root : Int) (hl : docSm l) (hL : Loc next l) (hI : docI l) (hc : Clo l) (h : root ∈ ids l) : Ev (fun k => impl_Doc_isDeep.f k root next l) (decide (dp l 6 root > 6)) :=
 Ev.bind (impl_depth root hl hL hI hc 6 (by omega) root h) (Ev.now _)
def ordF (l : List S43) : Nat → Int → List Int
 | 0, _ => []
 | n + 1, id => id :: (kd l id).flatMap (ordF l n)
theorem flat_len (f : Int → List Int) (cs : List Int) (m b : Nat) (hl : cs.length ≤ m) (h : ∀ c ∈ cs, (f c).length ≤ b) : (cs.flatMap f).length ≤ m * b := by
 induction cs generalizing m with
 | nil => simp
 | cons c cs ih =>
  obtain ⟨m, rfl⟩ : ∃ k, m = k + 1 := ⟨m - 1, by simp at hl; omega⟩
  rw [List.flatMap_cons, List.length_append, Nat.succ_mul]
  have h1 := ih m (by simpa using hl) (fun d hd => h d (List.mem_cons_of_mem _ hd))
  have h2 := h c List.mem_cons_self
  omega
theorem ordF_len {l : List S43} (hk : ∀ x ∈ l, x.f4.length ≤ 12) (hc : Clo l) (n : Nat) (id : Int) (h : id ∈ ids l) : (ordF l n id).length ≤ 13 ^ n := by
 induction n generalizing id with
 | zero => simp [ordF]
 | succ n ih =>
  obtain ⟨i, hi, e1, hm, _, e2⟩ := nd_mem h
  have h1 := flat_len (ordF l n) (kd l id) 12 (13 ^ n) (hk _ hm) (fun c hc' => ih c (kd_ids hc h hc'))
  have h2 : 1 ≤ 13 ^ n := Nat.one_le_pow _ _ (by omega)
  rw [ordF, List.length_cons, Nat.pow_succ]
  omega
theorem impl_order {next : Int} {l : List S43} (root : Int) (hl : docSm l) (hL : Loc next l) (hI : docI l) (hc : Clo l) (n : Nat) (id : Int) (h : id ∈ ids l) (hd : dp l n id ≤ n) (out : List Int) (ho : out.length + 13 ^ n ≤ 1000000000000) :
  Ev (fun k => impl_Doc_order.f k root next l out id) (out ++ ordF l n id) := by
 have hl' := hl.1
 have idI : ∀ id, id ∈ ids l → i64 id := fun id h => by
  obtain ⟨x, hx, rfl⟩ := List.mem_map.1 h
  exact (hI x hx).1
 induction n generalizing id out with
 | zero => have := (dp_bound l 0 id).1; omega
 | succ n ih =>
  refine Ev.step (fun k => by rw [impl_Doc_order.f]) ?_
  obtain ⟨i, hi, e1, hm, _, e2⟩ := nd_mem h
  have h13 : 13 ^ (n + 1) = 13 * 13 ^ n := by rw [Nat.pow_succ, Nat.mul_comm]
  have hp : 1 ≤ 13 ^ n := Nat.one_le_pow _ _ (by omega)
  refine Ev.pos (by omega) (Ev.bind (impl_find hl hL root next id (idI id h)) ?_)
  simp only [e1]
  refine Ev.neg (by omega) (Ev.pos (by omega) (Ev.pos (by omega) ?_))
  show Ev (fun k => impl_Doc_order.l0 k (out ++ [id]) (l.getD i z43).f4 (l.getD i z43).f4.length 0 root next l) (out ++ ordF l (n + 1) id)
  have e3 : kd l id = (l.getD i z43).f4 := by unfold kd; rw [e2]
  rw [ordF, e3, show out ++ id :: List.flatMap (ordF l n) (l.getD i z43).f4 = (out ++ [id]) ++ List.flatMap (ordF l n) (l.getD i z43).f4 from by simp]
  have hx := hL.kids _ (getD_mem l z43 i hi)
  have hdk := dp_kid hd
  rw [e3] at hdk
  refine list_loop (l.getD i z43).f4 0 (fun j o => o.length + (12 - j) * 13 ^ n ≤ 1000000000000) (fun cs o => o ++ cs.flatMap (ordF l n)) (fun k j o => impl_Doc_order.l0 k o (l.getD i z43).f4 (l.getD i z43).f4.length j root next l) ?_ ?_ (out ++ [id]) (by simp; omega)
  ·intro j o hj ho' hr
   refine Ev.step (fun k => by rw [impl_Doc_order.l0]) ?_
   have hmj := getD_mem (l.getD i z43).f4 0 j hj
   have hk : (l.getD i z43).f4.getD j 0 ∈ ids l := hc _ (getD_mem l z43 i hi) _ hmj
   have e12 : 12 - j = (12 - (j + 1)) + 1 := by omega
   rw [e12, Nat.succ_mul] at ho'
   refine Ev.pos (by omega) (Ev.pos (by omega) (Ev.pos (by omega) ?_))
   refine Ev.bind (ih _ hk (hdk _ hmj) o (by omega)) ?_
   simp only [wrap_suc j (by omega)]
   rw [List.flatMap_cons, ← List.append_assoc]
   refine hr _ ?_
   have := ordF_len hL.kids hc n _ hk
   rw [List.length_append]
   omega
  ·intro o ho'
   refine Ev.step (fun k => by rw [impl_Doc_order.l0]) ?_
   refine Ev.neg (by omega) ?_
   simp only [List.flatMap_nil, List.append_nil]
   exact Ev.now _
def up (l : List S43) : Nat → Int → Int
 | 0, id => id
 | m + 1, id => up l m (par l id)
def cl (l : List S43) (root : Int) : Nat → Int → Bool
 | 0, id => decide (id = root)
 | m + 1, id => if id = root then true else if 0 < id then cl l root m (par l id) else false
theorem spec_climb {l : List S43} (root n : Int) (hl : docSm l) (i : Nat) (hi : i < l.length) (C : Bool) (hC : Ev (fun k => spec_l02Reach.l0 k ((i : Int) + 1) root n l) C) (m : Nat) : ∀ (s : Nat) (id : Int), s + m = l.length + 1 →
  Ev (fun k => spec_l02Reach.l1 k i id s root n l) (cl l root m id && C) := by
 have hl' := hl.1
 induction m with
 | zero =>
  intro s id hs
  refine Ev.step (fun k => by rw [spec_l02Reach.l1]) ?_
  rw [cl]
  by_cases h : id = root
  ·refine Ev.pos h ?_
   rw [decide_eq_true h, Bool.true_and]
   simp only [wrap_suc i (by omega)]
   exact hC
  ·refine Ev.neg h ?_
   rw [decide_eq_false h, Bool.false_and]
   by_cases g : id > 0
   ·exact Ev.pos g (Ev.neg (by omega) (Ev.now _))
   ·exact Ev.neg g (Ev.now _)
 | succ m ih =>
  intro s id hs
  refine Ev.step (fun k => by rw [spec_l02Reach.l1]) ?_
  rw [cl]
  by_cases h : id = root
  ·refine Ev.pos h ?_
   rw [if_pos h, Bool.true_and]
   simp only [wrap_suc i (by omega)]
   exact hC
  ·refine Ev.neg h ?_
   rw [if_neg h]
   by_cases g : id > 0
   ·rw [if_pos g]
    refine Ev.pos g (Ev.pos (by omega) (Ev.bind (spec_parent l root n id hl' hl.2) ?_))
    simp only [wrap_suc s (by omega)]
    exact ih (s + 1) _ (by omega)
   ·rw [if_neg g]
    exact Ev.neg g (Ev.now _)
theorem spec_reach {l : List S43} (root n : Int) (hl : docSm l) : Ev (fun k => spec_l02Reach.f k root n l) (l.all (fun x => cl l root (l.length + 1) x.f0)) := by
 have hl' := hl.1
 refine list_loop0 l z43 (fun l' => l'.all (fun x => cl l root (l.length + 1) x.f0)) (fun k i => spec_l02Reach.l0 k i root n l) ?_ ?_
 ·intro i hi hr
  refine Ev.step (fun k => by rw [spec_l02Reach.l0]) ?_
  rw [List.all_cons]
  exact Ev.pos (by omega) (Ev.pos (by omega) (spec_climb root n hl i hi _ hr (l.length + 1) 0 _ (by omega)))
 ·refine Ev.step (fun k => by rw [spec_l02Reach.l0]) ?_
  exact Ev.neg (by omega) (Ev.now _)
def flat (l : List S43) : List Int := l.flatMap (fun x => x.f4)
structure Doc0 (root next : Int) (l : List S43) : Prop where
 loc : Loc next l
 clo : Clo l
 rin : root ∈ ids l
 free : root ∉ flat l
 once : (flat l).Nodup
 cnt : (flat l).length + 1 = l.length
 len : 1 ≤ l.length ∧ l.length ≤ 40
def sumN : Nat → (Nat → Nat) → Nat
 | 0, _ => 0
 | n + 1, f => f 0 + sumN n (fun m => f (m + 1))
theorem sumN_congr {n : Nat} {f g : Nat → Nat} (h : ∀ m, m < n → f m = g m) : sumN n f = sumN n g := by
 induction n generalizing f g with
 | zero => rfl
 | succ n ih => rw [sumN, sumN, h 0 (by omega), ih (fun m hm => h (m + 1) (by omega))]
theorem sumN_add (n : Nat) (f g : Nat → Nat) : sumN n (fun m => f m + g m) = sumN n f + sumN n g := by
 induction n generalizing f g with
 | zero => rfl
 | succ n ih => simp only [sumN, ih]; omega
theorem sumN_zero (n : Nat) : sumN n (fun _ => 0) = 0 := by
 induction n with
 | zero => rfl
 | succ n ih => simp [sumN, ih]
theorem sumN_list (n : Nat) (cs : List Int) (g : Int → Nat → Nat) : (cs.map (fun c => sumN n (g c))).sum = sumN n (fun m => (cs.map (fun c => g c m)).sum) := by
 induction cs with
 | nil => simp [sumN_zero]
 | cons c cs ih => simp only [List.map_cons, List.sum_cons, ih, sumN_add]
theorem sumN_ge (n m : Nat) (f : Nat → Nat) (h : ∀ j, j ≤ m → 1 ≤ f j) (hm : m < n) : m + 1 ≤ sumN n f := by
 induction n generalizing m f with
 | zero => omega
 | succ n ih =>
  rw [sumN]
  have h0 := h 0 (by omega)
  cases m with
  | zero => omega
  | succ m =>
   have := ih m (fun j => f (j + 1)) (fun j hj => h (j + 1) (by omega)) (by omega)
   omega
theorem sumN_one (n : Nat) (p : Nat → Prop) [∀ m, Decidable (p m)] (h : ∀ a b, p a → p b → a = b) : sumN n (fun m => if p m then 1 else 0) = if ∃ m, m < n ∧ p m then 1 else 0 := by
 induction n generalizing p with
 | zero => simp [sumN]
 | succ n ih =>
  have e := ih (fun m => p (m + 1)) (fun a b ha hb => by have := h _ _ ha hb; omega)
  rw [sumN, e]
  by_cases h0 : p 0
  ·have : ¬ ∃ m, m < n ∧ p (m + 1) := fun ⟨m, _, hp⟩ => by have := h _ _ h0 hp; omega
   rw [if_pos h0, if_neg this, if_pos ⟨0, by omega, h0⟩]
  ·rw [if_neg h0, Nat.zero_add]
   by_cases g : ∃ m, m < n ∧ p (m + 1)
   ·obtain ⟨m, hm, hp⟩ := g
    rw [if_pos ⟨m, hm, hp⟩, if_pos ⟨m + 1, by omega, hp⟩]
   ·rw [if_neg g, if_neg (fun ⟨m, hm, hp⟩ => by
     cases m with
     | zero => exact h0 hp
     | succ m => exact g ⟨m, by omega, hp⟩)]
theorem count_flat (f : Int → List Int) (cs : List Int) (a : Int) : (cs.flatMap f).count a = (cs.map (fun c => (f c).count a)).sum := by
 induction cs with
 | nil => rfl
 | cons c cs ih => rw [List.flatMap_cons, List.count_append, List.map_cons, List.sum_cons, ih]
theorem sum_eq_count (cs : List Int) (a : Int) : (cs.map (fun c => if a = c then 1 else 0)).sum = cs.count a := by
 induction cs with
 | nil => rfl
 | cons c cs ih =>
  rw [List.map_cons, List.sum_cons, ih, List.count_cons]
  by_cases h : a = c
  ·subst h; simp; omega
  ·rw [if_neg h, if_neg (by simpa using fun e => h e.symm)]; omega
theorem par_of {l : List S43} (hn : (flat l).Nodup) {x : S43} (hx : x ∈ l) {id : Int} (h : id ∈ x.f4) : par l id = x.f0 := by
 induction l with
 | nil => cases hx
 | cons y l ih =>
  unfold flat at hn
  rw [List.flatMap_cons, List.nodup_append] at hn
  rw [par]
  rcases List.mem_cons.1 hx with e | hx
  ·subst e; rw [if_pos h]
  ·rw [if_neg (fun g => hn.2.2 _ g _ (List.mem_flatMap.2 ⟨x, hx, h⟩) rfl)]
   exact ih hn.2.1 hx
theorem kids_nodup {l : List S43} (hn : (flat l).Nodup) {x : S43} (hx : x ∈ l) : x.f4.Nodup := by
 obtain ⟨s, t, rfl⟩ := List.append_of_mem hx
 unfold flat at hn
 rw [List.flatMap_append, List.flatMap_cons, List.nodup_append] at hn
 exact (List.nodup_append.1 hn.2.1).1
theorem par_none {l : List S43} {id : Int} (h : id ∉ flat l) : par l id = 0 := by
 induction l with
 | nil => rfl
 | cons y l ih =>
  unfold flat at h
  rw [List.flatMap_cons, List.mem_append] at h
  rw [par, if_neg (fun g => h (.inl g))]
  exact ih (fun g => h (.inr g))
theorem par_cases (l : List S43) (id : Int) : (par l id = 0 ∧ id ∉ flat l) ∨ ∃ x, x ∈ l ∧ id ∈ x.f4 ∧ par l id = x.f0 := by
 induction l with
 | nil => exact .inl ⟨rfl, by simp [flat]⟩
 | cons y l ih =>
  rw [par]
  by_cases h : id ∈ y.f4
  ·exact .inr ⟨y, List.mem_cons_self, h, by rw [if_pos h]⟩
  ·rw [if_neg h]
   rcases ih with ⟨h1, h2⟩ | ⟨x, hx, h1, h2⟩
   ·refine .inl ⟨h1, ?_⟩
    unfold flat at h2 ⊢
    rw [List.flatMap_cons, List.mem_append]
    exact fun g => g.elim h h2
   ·exact .inr ⟨x, List.mem_cons_of_mem _ hx, h1, h2⟩
section
variable {root next : Int} {l : List S43}
theorem Doc0.pos (D : Doc0 root next l) {id : Int} (h : id ∈ ids l) : 1 ≤ id ∧ id ≤ next - 1 := by
 obtain ⟨x, hx, rfl⟩ := List.mem_map.1 h
 exact D.loc.id x hx
theorem Doc0.inj (D : Doc0 root next l) {x y : S43} (hx : x ∈ l) (hy : y ∈ l) (h : x.f0 = y.f0) : x = y := by
 obtain ⟨i, hi, rfl⟩ := List.getElem_of_mem hx
 obtain ⟨j, hj, rfl⟩ := List.getElem_of_mem hy
 have e := loc_inj D.loc hi hj (by rw [List.getD_eq_getElem?_getD, List.getD_eq_getElem?_getD, List.getElem?_eq_getElem hi, List.getElem?_eq_getElem hj]; exact h)
 subst e
 rfl
theorem Doc0.kd_of (D : Doc0 root next l) {x : S43} (hx : x ∈ l) : nd l x.f0 = x := by
 obtain ⟨i, hi, e1, hm, e2, _⟩ := nd_mem (l := l) (id := x.f0) (List.mem_map.2 ⟨x, hx, rfl⟩)
 exact D.inj hm hx e2
theorem Doc0.flat_ids (D : Doc0 root next l) {c : Int} (h : c ∈ flat l) : c ∈ ids l := by
 obtain ⟨x, hx, hc⟩ := List.mem_flatMap.1 h
 exact D.clo x hx c hc
theorem Doc0.par_ids (D : Doc0 root next l) (id : Int) : (par l id = 0 ∧ id ∉ flat l) ∨ par l id ∈ ids l := by
 rcases par_cases l id with h | ⟨x, hx, _, h⟩
 ·exact .inl h
 ·exact .inr (h ▸ List.mem_map.2 ⟨x, hx, rfl⟩)
theorem Doc0.par_root (D : Doc0 root next l) : par l root = 0 := par_none D.free
theorem Doc0.par_zero (D : Doc0 root next l) : par l 0 = 0 := par_none (fun h => by have := D.pos (D.flat_ids h); omega)
theorem Doc0.up_zero (D : Doc0 root next l) (m : Nat) : up l m 0 = 0 := by
 induction m with
 | zero => rfl
 | succ m ih => rw [up, D.par_zero, ih]
theorem up_add (l : List S43) (a b : Nat) (id : Int) : up l (a + b) id = up l b (up l a id) := by
 induction a generalizing id with
 | zero => rw [Nat.zero_add]; rfl
 | succ a ih => rw [Nat.succ_add, up, up, ih]
theorem Doc0.kid_count (D : Doc0 root next l) {p : Int} (hp : p ∈ ids l) (a : Int) : (kd l p).count a = if par l a = p then 1 else 0 := by
 obtain ⟨i, hi, e1, hm, e2, _⟩ := nd_mem hp
 by_cases h : a ∈ kd l p
 ·have e := par_of D.once hm h
  rw [e2] at e
  rw [if_pos e]
  have hn : (kd l p).Nodup := kids_nodup D.once hm
  exact (List.Nodup.count hn).trans (if_pos h)
 ·rw [List.count_eq_zero_of_not_mem h]
  rw [if_neg]
  intro e
  rcases par_cases l a with ⟨h1, _⟩ | ⟨x, hx, h1, h2⟩
  ·have := D.pos hp; omega
  ·have := D.inj hx hm (by rw [← h2, e, e2])
   subst this
   exact h h1
def Lv (l : List S43) : Nat → Int → List Int
 | 0, id => [id]
 | m + 1, id => (Lv l m id).flatMap (kd l)
theorem Lv_top (l : List S43) (m : Nat) (id : Int) : Lv l (m + 1) id = (kd l id).flatMap (Lv l m) := by
 induction m with
 | zero =>
  rw [Lv, Lv, List.flatMap_cons, List.flatMap_nil, List.append_nil]
  have : ∀ cs : List Int, cs.flatMap (Lv l 0) = cs := fun cs => by
   induction cs with
   | nil => rfl
   | cons c cs ih => rw [List.flatMap_cons, ih]; rfl
  exact (this _).symm
 | succ m ih =>
  rw [Lv, ih, List.flatMap_assoc]
  rfl
theorem Lv_ids (hc : Clo l) {m : Nat} {id : Int} (h : id ∈ ids l) : ∀ c ∈ Lv l m id, c ∈ ids l := by
 induction m with
 | zero =>
  intro c hc'
  rw [List.mem_singleton.1 hc']
  exact h
 | succ m ih =>
  intro c hc'
  obtain ⟨p, hp, hc'⟩ := List.mem_flatMap.1 hc'
  exact kd_ids hc (ih p hp) hc'
theorem Doc0.Lv_count (D : Doc0 root next l) (m : Nat) (a : Int) : (Lv l m root).count a = if up l m a = root then 1 else 0 := by
 induction m generalizing a with
 | zero =>
  rw [Lv, up, List.count_cons, List.count_nil]
  by_cases h : a = root
  ·subst h; simp
  ·rw [if_neg h, if_neg (by simpa using fun e => h e.symm)]
 | succ m ih =>
  rw [Lv, count_flat]
  have : (Lv l m root).map (fun c => (kd l c).count a) = (Lv l m root).map (fun c => if par l a = c then 1 else 0) :=
   List.map_congr_left (fun c hc => D.kid_count (Lv_ids D.clo D.rin c hc) a)
  rw [this, sum_eq_count, ih]
  rfl
theorem Doc0.up_once (D : Doc0 root next l) {id : Int} : ∀ a b, up l a id = root → up l b id = root → a = b := by
 have hr := D.pos D.rin
 have key : ∀ a d, up l a id = root → up l (a + (d + 1)) id = root → False := by
  intro a d h1 h2
  rw [up_add, h1, up, D.par_root, D.up_zero] at h2
  omega
 intro a b h1 h2
 rcases Nat.lt_trichotomy a b with h | h | h
 ·exact (key a (b - a - 1) h1 (by rw [show a + (b - a - 1 + 1) = b from by omega]; exact h2)).elim
 ·exact h
 ·exact (key b (a - b - 1) h2 (by rw [show b + (a - b - 1 + 1) = a from by omega]; exact h1)).elim
theorem ord_count (l : List S43) (n : Nat) (x a : Int) : (ordF l n x).count a = sumN n (fun m => (Lv l m x).count a) := by
 induction n generalizing x with
 | zero => rfl
 | succ n ih =>
  rw [ordF, sumN, List.count_cons, count_flat]
  have : (kd l x).map (fun c => (ordF l n c).count a) = (kd l x).map (fun c => sumN n (fun m => (Lv l m c).count a)) := List.map_congr_left (fun c _ => ih c)
  rw [this, sumN_list]
  have e : sumN n (fun m => ((kd l x).map (fun c => (Lv l m c).count a)).sum) = sumN n (fun m => (Lv l (m + 1) x).count a) := sumN_congr (fun m _ => by rw [Lv_top, count_flat])
  rw [e, Lv, List.count_cons, List.count_nil]
  omega
theorem len_flat (f : Int → List Int) (cs : List Int) : (cs.flatMap f).length = (cs.map (fun c => (f c).length)).sum := by
 induction cs with
 | nil => rfl
 | cons c cs ih => rw [List.flatMap_cons, List.length_append, List.map_cons, List.sum_cons, ih]
theorem ord_length (l : List S43) (n : Nat) (x : Int) : (ordF l n x).length = sumN n (fun m => (Lv l m x).length) := by
 induction n generalizing x with
 | zero => rfl
 | succ n ih =>
  rw [ordF, sumN, List.length_cons, len_flat]
  have : (kd l x).map (fun c => (ordF l n c).length) = (kd l x).map (fun c => sumN n (fun m => (Lv l m c).length)) := List.map_congr_left (fun c _ => ih c)
  rw [this, sumN_list]
  have e : sumN n (fun m => ((kd l x).map (fun c => (Lv l m c).length)).sum) = sumN n (fun m => (Lv l (m + 1) x).length) := sumN_congr (fun m _ => by rw [Lv_top, len_flat])
  rw [e, Lv, List.length_singleton]
  omega
theorem Doc0.ord_at (D : Doc0 root next l) (n : Nat) (a : Int) : (ordF l n root).count a = if ∃ m, m < n ∧ up l m a = root then 1 else 0 := by
 rw [ord_count]
 rw [sumN_congr (fun m _ => D.Lv_count m a)]
 exact sumN_one n (fun m => up l m a = root) D.up_once
theorem Doc0.ord_mem (D : Doc0 root next l) (n : Nat) (a : Int) : a ∈ ordF l n root ↔ ∃ m, m < n ∧ up l m a = root := by
 rw [← List.count_pos_iff, D.ord_at]
 split
 ·rename_i h; exact ⟨fun _ => h, fun _ => by omega⟩
 ·rename_i h; exact ⟨fun g => by omega, fun g => absurd g h⟩
theorem Doc0.ord_nodup (D : Doc0 root next l) (n : Nat) : (ordF l n root).Nodup := by
 rw [List.nodup_iff_count]
 intro a
 rw [D.ord_at]
 split <;> omega
theorem Doc0.ids_nodup (D : Doc0 root next l) : (ids l).Nodup := by
 unfold ids
 rw [List.nodup_iff_pairwise_ne, List.pairwise_map, List.pairwise_iff_getElem]
 intro i j hi hj hij
 have := D.loc.rise i j hij hj
 rw [List.getD_eq_getElem?_getD, List.getD_eq_getElem?_getD, List.getElem?_eq_getElem hi, List.getElem?_eq_getElem hj] at this
 simp only [Option.getD_some] at this
 omega
theorem ordF_ids (hc : Clo l) {n : Nat} {id : Int} (h : id ∈ ids l) : ∀ c ∈ ordF l n id, c ∈ ids l := by
 induction n generalizing id with
 | zero => intro c hc'; cases hc'
 | succ n ih =>
  intro c hc'
  rcases List.mem_cons.1 hc' with e | hc'
  ·subst e; exact h
  ·obtain ⟨p, hp, hc'⟩ := List.mem_flatMap.1 hc'
   exact ih (kd_ids hc h hp) c hc'
theorem nodup_len {A B : List Int} (hA : A.Nodup) (h : ∀ a ∈ A, a ∈ B) : A.length ≤ B.length := by
 induction A generalizing B with
 | nil => simp
 | cons a A ih =>
  obtain ⟨hna, hA⟩ := List.nodup_cons.1 hA
  have hb := h a List.mem_cons_self
  have := ih hA (B := B.erase a) (fun c hc => by
   have hne : c ≠ a := fun e => hna (e ▸ hc)
   exact (List.mem_erase_of_ne hne).2 (h c (List.mem_cons_of_mem _ hc)))
  rw [List.length_erase_of_mem hb] at this
  have := List.length_pos_of_mem hb
  simp only [List.length_cons]
  omega
theorem nodup_all {A B : List Int} (hA : A.Nodup) (h : ∀ a ∈ A, a ∈ B) (hl : B.length ≤ A.length) : ∀ b ∈ B, b ∈ A := by
 intro b hb
 apply Classical.byContradiction
 intro hn
 have := nodup_len hA (B := B.erase b) (fun c hc => (List.mem_erase_of_ne (fun e : c = b => hn (e ▸ hc))).2 (h c hc))
 rw [List.length_erase_of_mem hb] at this
 have := List.length_pos_of_mem hb
 omega
theorem Lv_nil {n : Nat} {x : Int} (h : dp l n x ≤ n) : Lv l n x = [] := by
 induction n generalizing x with
 | zero => have := (dp_bound l 0 x).1; omega
 | succ n ih =>
  rw [Lv_top]
  have hk := dp_kid h
  have : ∀ cs : List Int, (∀ c ∈ cs, dp l n c ≤ n) → cs.flatMap (Lv l n) = [] := fun cs => by
   induction cs with
   | nil => intro _; rfl
   | cons c cs ih2 =>
    intro h2
    rw [List.flatMap_cons, ih (h2 c List.mem_cons_self), ih2 (fun d hd => h2 d (List.mem_cons_of_mem _ hd))]
    rfl
  exact this _ hk
theorem Lv_nil_more {n : Nat} {x : Int} (h : Lv l n x = []) (d : Nat) : Lv l (n + d) x = [] := by
 induction d with
 | zero => exact h
 | succ d ih => rw [← Nat.add_assoc, Lv, ih]; rfl
theorem Doc0.up_lt (D : Doc0 root next l) {n : Nat} (h : dp l n root ≤ n) {m : Nat} {a : Int} (hu : up l m a = root) : m < n := by
 apply Classical.byContradiction
 intro g
 have e := Lv_nil_more (Lv_nil h) (m - n)
 rw [show n + (m - n) = m from by omega] at e
 have := D.Lv_count m a
 rw [e, if_pos hu] at this
 simp at this
theorem Doc0.cl_iff (D : Doc0 root next l) (M : Nat) (id : Int) (h : 1 ≤ id) : cl l root M id = true ↔ ∃ m, m ≤ M ∧ up l m id = root := by
 have hr := D.pos D.rin
 induction M generalizing id with
 | zero =>
  rw [cl, decide_eq_true_eq]
  constructor
  ·intro e; exact ⟨0, by omega, e⟩
  ·rintro ⟨m, hm, e⟩
   obtain rfl : m = 0 := by omega
   exact e
 | succ M ih =>
  rw [cl]
  by_cases e : id = root
  ·rw [if_pos e]
   exact ⟨fun _ => ⟨0, by omega, e⟩, fun _ => rfl⟩
  ·rw [if_neg e, if_pos (by omega)]
   rcases D.par_ids id with ⟨h0, _⟩ | h0
   ·rw [h0]
    constructor
    ·intro hcl
     cases M with
     | zero => rw [cl, decide_eq_true_eq] at hcl; omega
     | succ M => rw [cl, if_neg (by omega), if_neg (by omega)] at hcl; cases hcl
    ·rintro ⟨m, hm, hu⟩
     cases m with
     | zero => exact absurd hu e
     | succ m => rw [up, h0, D.up_zero] at hu; omega
   ·refine (ih _ (D.pos h0).1).trans ?_
    constructor
    ·rintro ⟨m, hm, hu⟩; exact ⟨m + 1, by omega, hu⟩
    ·rintro ⟨m, hm, hu⟩
     cases m with
     | zero => exact absurd hu e
     | succ m => exact ⟨m, by omega, hu⟩
theorem Doc0.reach (D : Doc0 root next l) (hd : dp l 6 root ≤ 6) : l.all (fun x => cl l root (l.length + 1) x.f0) = decide ((ordF l 6 root).length = l.length) := by
 have hlen : (ids l).length = l.length := by unfold ids; rw [List.length_map]
 apply Bool.eq_iff_iff.2
 rw [List.all_eq_true, decide_eq_true_eq]
 constructor
 ·intro h
  have h1 : ∀ a ∈ ids l, a ∈ ordF l 6 root := by
   intro a ha
   obtain ⟨x, hx, rfl⟩ := List.mem_map.1 ha
   obtain ⟨m, _, hu⟩ := (D.cl_iff _ _ (D.pos ha).1).1 (h x hx)
   exact (D.ord_mem 6 _).2 ⟨m, D.up_lt hd hu, hu⟩
  have h2 := nodup_len D.ids_nodup h1
  have h3 := nodup_len (D.ord_nodup 6) (ordF_ids D.clo D.rin)
  omega
 ·intro h x hx
  have hx' : x.f0 ∈ ids l := List.mem_map.2 ⟨x, hx, rfl⟩
  have hm := nodup_all (D.ord_nodup 6) (ordF_ids D.clo D.rin) (by omega) _ hx'
  obtain ⟨m, hm6, hu⟩ := (D.ord_mem 6 _).1 hm
  refine (D.cl_iff _ _ (D.pos hx').1).2 ⟨m, ?_, hu⟩
  have h1 := sumN_ge 6 m (fun j => (Lv l j root).length) (fun j hj => by
   have hc := D.Lv_count j (up l (m - j) x.f0)
   rw [← up_add, show m - j + j = m from by omega, if_pos hu] at hc
   exact List.length_pos_of_mem (List.count_pos_iff.1 (by omega : 0 < (Lv l j root).count (up l (m - j) x.f0)))) hm6
  rw [← ord_length] at h1
  omega
end
end Go.Proofs.Ytpdhccdmbdbdpaa.Pure
namespace Go.Proofs.Ytpdhccdmbdbdpaa.Pure
set_option linter.unusedVariables false
set_option linter.unusedSimpArgs false
open Go.RowKit Go.Proofs.Ytpdhccdmbdbdpaa.XA Go.Proofs.Ytpdhccdmbdbdpaa.Pk Go.Proofs.YtpdhccdmbdbdpaaW.PrintWords Go.Proofs.YtpdhccdmbdbdpaaW.PrintLast Go.Proofs.YtpdhccdmbdbdpaaW.PrintMore
theorem spec_order {l : List S43} (root nx : Int) (hl : docSm l) (hk12 : ∀ x ∈ l, x.f4.length ≤ 12) (hc : Clo l) (n : Nat) (id : Int) (h : id ∈ ids l) (hd : dp l n id ≤ n) (hb : 13 ^ n ≤ 1000000000) :
  Ev (fun k => spec_l02Order.f k root nx l id) (ordF l n id) := by
 have hl' := hl.1
 induction n generalizing id with
 | zero => have := (dp_bound l 0 id).1; omega
 | succ n ih =>
  refine Ev.step (fun k => by rw [spec_l02Order.f]) ?_
  obtain ⟨i, hi, e1, hm, _, e2⟩ := nd_mem h
  have h13 : 13 ^ (n + 1) = 13 * 13 ^ n := by rw [Nat.pow_succ, Nat.mul_comm]
  have hp : 1 ≤ 13 ^ n := Nat.one_le_pow _ _ (by omega)
  refine Ev.bind (spec_at l root nx id hl') ?_
  simp only [e1]
  refine Ev.pos (by omega) (Ev.pos (by omega) ?_)
  show Ev (fun k => spec_l02Order.l0 k [id] (l.getD i z43).f4 0 root nx l) (ordF l (n + 1) id)
  have e3 : kd l id = (l.getD i z43).f4 := by unfold kd; rw [e2]
  rw [ordF, e3, show id :: List.flatMap (ordF l n) (l.getD i z43).f4 = [id] ++ List.flatMap (ordF l n) (l.getD i z43).f4 from rfl]
  have hx := hk12 _ (getD_mem l z43 i hi)
  have hdk := dp_kid hd
  rw [e3] at hdk
  refine list_loop (l.getD i z43).f4 0 (fun j o => o.length + (12 - j) * 13 ^ n ≤ 100000000000) (fun cs o => o ++ cs.flatMap (ordF l n)) (fun k j o => spec_l02Order.l0 k o (l.getD i z43).f4 j root nx l) ?_ ?_ [id] (by simp; omega)
  ·intro j o hj ho' hr
   refine Ev.step (fun k => by rw [spec_l02Order.l0]) ?_
   have hmj := getD_mem (l.getD i z43).f4 0 j hj
   have hk : (l.getD i z43).f4.getD j 0 ∈ ids l := hc _ (getD_mem l z43 i hi) _ hmj
   have e12 : 12 - j = (12 - (j + 1)) + 1 := by omega
   rw [e12, Nat.succ_mul] at ho'
   have hlen := ordF_len hk12 hc n _ hk
   have hlen2 : (ordF l n (rd (l.getD i z43).f4 (j : Int))).length ≤ 13 ^ n := hlen
   refine Ev.pos (by omega) (Ev.pos (by omega) (Ev.bind (ih _ hk (hdk _ hmj) (by omega)) (Ev.pos (by omega) ?_)))
   simp only [wrap_suc j (by omega)]
   rw [List.flatMap_cons, ← List.append_assoc]
   refine hr _ ?_
   rw [List.length_append]
   omega
  ·intro o ho'
   refine Ev.step (fun k => by rw [spec_l02Order.l0]) ?_
   refine Ev.neg (by omega) ?_
   simp only [List.flatMap_nil, List.append_nil]
   exact Ev.now _
end Go.Proofs.Ytpdhccdmbdbdpaa.Pure
namespace Go.Proofs.Ytpdhccdmbdbdpaa.Pure
set_option linter.unusedVariables false
set_option linter.unusedSimpArgs false
open Go.RowKit Go.Proofs.Ytpdhccdmbdbdpaa.XA Go.Proofs.Ytpdhccdmbdbdpaa.Pk Go.Proofs.YtpdhccdmbdbdpaaW.PrintWords Go.Proofs.YtpdhccdmbdbdpaaW.PrintLast Go.Proofs.YtpdhccdmbdbdpaaW.PrintMore
def docB (root next : Int) (l : List S43) : Bool :=
 decide (1 ≤ l.length ∧ l.length ≤ 40) && (decide (2 ≤ next ∧ next ≤ 999999) && (nodesG root next l l.length 0 [] && (decide (dp l 6 root ≤ 6) && l.all (fun x => cl l root (l.length + 1) x.f0))))
theorem doc0_of {root next : Int} {l : List S43} (hn : 2 ≤ next ∧ next ≤ 999999) (hl : 1 ≤ l.length ∧ l.length ≤ 40) (h : nodesG root next l l.length 0 [] = true) : Doc0 root next l := by
 rw [nodesG_eq, Bool.and_eq_true] at h
 obtain ⟨h1, h2⟩ := h
 rw [kidsM_eq root l l.length 0 (by omega), List.drop_zero] at h2
 cases hk : kidsB root (ids l) (l.flatMap fun x => x.f4) [] with
 | none => rw [hk] at h2; cases h2
 | some s =>
  rw [hk] at h2
  obtain ⟨g1, g2, g3⟩ := kidsB_some _ _ _ _ _ hk List.nodup_nil
  rw [List.nil_append] at g1 g3
  subst g1
  have h2 := of_decide_eq_true h2
  refine ⟨loc_of next l hn h1, fun x hx c hc => (g2 c (List.mem_flatMap.2 ⟨x, hx, hc⟩)).2, h2.2, fun g => (g2 root g).1 rfl, g3, ?_, hl⟩
  have := h2.1
  unfold flat
  omega
structure Doc1 (root next : Int) (l : List S43) : Prop extends Doc0 root next l where
 deep : dp l 6 root ≤ 6
 all : (ordF l 6 root).length = l.length
theorem doc1_of {root next : Int} {l : List S43} (h : docB root next l = true) : Doc1 root next l := by
 simp only [docB, Bool.and_eq_true, decide_eq_true_eq] at h
 obtain ⟨h1, h2, h3, h4, h5⟩ := h
 have D := doc0_of h2 h1 h3
 rw [D.reach h4, decide_eq_true_eq] at h5
 exact ⟨D, h4, h5⟩
theorem spec_ok {root next : Int} {l : List S43} (hl : docSm l) : Ev (fun k => spec_l02OK.f k root next l) (docB root next l) := by
 refine Ev.use (tin_eq _ _ _) ?_
 unfold docB
 by_cases h1 : 1 ≤ l.length ∧ l.length ≤ 40
 ·refine Ev.pos (decide_eq_true (by omega)) (Ev.use (tin_eq _ _ _) ?_)
  rw [decide_eq_true h1, Bool.true_and]
  by_cases h2 : 2 ≤ next ∧ next ≤ 999999
  ·refine Ev.pos (decide_eq_true h2) (Ev.bind (spec_nodes l root next h2 hl (by omega)) ?_)
   rw [decide_eq_true h2, Bool.true_and]
   cases h3 : nodesG root next l l.length 0 []
   ·exact Ev.neg (by decide) (Ev.now _)
   ·have D := doc0_of h2 h1 h3
    refine Ev.pos rfl (Ev.bind (spec_reach root next hl) ?_)
    rw [Bool.true_and]
    cases h4 : l.all (fun x => cl l root (l.length + 1) x.f0)
    ·refine Ev.neg (by decide) ?_
     rw [Bool.and_false]
     exact Ev.now _
    ·refine Ev.pos rfl (Ev.bind (spec_deep root next hl D.clo 6 (by omega) root D.rin) ?_)
     rw [Bool.and_true]
     exact Ev.now _
  ·refine Ev.neg (ndec h2) ?_
   rw [decide_eq_false h2, Bool.false_and]
   exact Ev.now _
 ·refine Ev.neg (ndec (by omega)) ?_
  rw [decide_eq_false h1, Bool.false_and]
  exact Ev.now _
def mp (s : List Int) : List (Int × Bool) := s.map (fun c => (c, true))
theorem get_mp (s : List Int) (c : Int) : XM.get false (mp s) c = decide (c ∈ s) := by
 induction s with
 | nil => rfl
 | cons a s ih =>
  rw [show mp (a :: s) = (a, true) :: mp s from rfl, XM.get]
  by_cases h : c = a
  ·rw [if_pos h, decide_eq_true (by rw [h]; exact List.mem_cons_self)]
  ·rw [if_neg h, ih]
   exact decide_eq_decide.2 ⟨fun g => List.mem_cons_of_mem _ g, fun g => (List.mem_cons.1 g).resolve_left h⟩
theorem put_mp (s : List Int) (c : Int) (h : c ∉ s) : XM.put (mp s) c true = mp (s ++ [c]) := by
 induction s with
 | nil => rfl
 | cons a s ih =>
  rw [show mp (a :: s) = (a, true) :: mp s from rfl, XM.put, if_neg (fun e => h (by rw [e]; exact List.mem_cons_self)), ih (fun g => h (List.mem_cons_of_mem _ g))]
  rfl
theorem len_mp (s : List Int) : (mp s).length = s.length := List.length_map _
section
variable {root next : Int} {l : List S43}
def finI (root : Int) (l : List S43) (s : List Int) : Bool := if root ∈ ids l ∧ (s.length : Int) = (l.length : Int) - 1 then (if dp l 6 root > 6 then false else decide ((ordF l 6 root).length = l.length)) else false
def secI (root : Int) (l : List S43) : Bool := match kidsM root l l.length 0 [] with | none => false | some s => finI root l s
theorem impl_tail (x : S43) (J : Nat → Bool → Option Bool) (V : Bool) (hT : Ev (fun k => J k true) false) (hF : Ev (fun k => J k false) V) :
  Ev (fun k => (impl_within.f x.f1 1 8).bind fun t => (if t = true then ((impl_within.f x.f2 0 99).bind fun u => (if u = true then (if (x.f3.size : Int) > 20 then (J k true) else (J k (decide ((x.f4.length : Int) > 12)))) else (J k true))) else (J k true)))
   (if (1 ≤ x.f1 ∧ x.f1 ≤ 8) ∧ (0 ≤ x.f2 ∧ x.f2 ≤ 99) ∧ x.f3.size ≤ 20 ∧ x.f4.length ≤ 12 then V else false) := by
 refine Ev.use (twithin_eq _ _ _) ?_
 by_cases h1 : 1 ≤ x.f1 ∧ x.f1 ≤ 8
 ·refine Ev.pos (decide_eq_true h1) (Ev.use (twithin_eq _ _ _) ?_)
  by_cases h2 : 0 ≤ x.f2 ∧ x.f2 ≤ 99
  ·refine Ev.pos (decide_eq_true h2) ?_
   by_cases h3 : x.f3.size ≤ 20
   ·refine Ev.neg (by omega) ?_
    by_cases h4 : x.f4.length ≤ 12
    ·rw [if_pos ⟨h1, h2, h3, h4⟩, decide_eq_false (by omega)]
     exact hF
    ·rw [if_neg (fun g => h4 g.2.2.2), decide_eq_true (by omega)]
     exact hT
   ·rw [if_neg (fun g => h3 g.2.2.1)]
    exact Ev.pos (by omega) hT
  ·rw [if_neg (fun g => h2 g.2.1)]
   exact Ev.neg (ndec h2) hT
 ·rw [if_neg (fun g => h1 g.1)]
  exact Ev.neg (ndec h1) hT
theorem impl_first (hl : docSm l) (hn : 2 ≤ next ∧ next ≤ 999999) (V : Bool) (hV : Loc next l → Ev (fun k => impl_DocOK.l1 k l l.length 0 root next l ([] : List (Int × Bool))) V) :
  Ev (fun k => impl_DocOK.l0 k l l.length 0 root next l) (locG next l l.length 0 && V) := by
 have hl' := hl.1
 have w1 : wrap64 (next - 1) = next - 1 := wrap_id _ (by omega) (by omega)
 refine idx_loop l.length (fun i (_ : Unit) => ∀ j, j < i → nodeB next (l.getD j z43) = true ∧ ordB l j = true) (fun m i _ => locG next l m i && V) (fun k i _ => impl_DocOK.l0 k l l.length i root next l) ?_ ?_ () (fun j hj => by omega)
 ·intro m i _ hi hI hr
  refine Ev.step (fun k => by rw [impl_DocOK.l0]) ?_
  refine Ev.pos (by omega) (Ev.pos (by omega) (Ev.pos (by omega) (Ev.use (twithin_eq _ _ _) ?_)))
  rw [w1]
  have hT : Ev (fun k => impl_DocOK.j2 k l l.length i true root next l) false := Ev.step (fun k => by rw [impl_DocOK.j2]) (Ev.pos rfl (Ev.now _))
  have hF : ∀ W : Bool, Ev (fun k => impl_DocOK.l0 k l l.length ((i : Int) + 1) root next l) W → Ev (fun k => impl_DocOK.j2 k l l.length i false root next l) W := fun W hW =>
   Ev.step (fun k => by rw [impl_DocOK.j2]) (Ev.neg (by decide) (by simp only [wrap_suc i (by omega)]; exact hW))
  have tail : ordB l i = true → (1 ≤ (l.getD i z43).f0 ∧ (l.getD i z43).f0 ≤ next - 1) → Ev (fun k => (impl_within.f (l.getD i z43).f1 1 8).bind fun t => (if t = true then ((impl_within.f (l.getD i z43).f2 0 99).bind fun u => (if u = true then (if ((l.getD i z43).f3.size : Int) > 20 then (impl_DocOK.j2 k l l.length i true root next l) else (impl_DocOK.j2 k l l.length i (decide (((l.getD i z43).f4.length : Int) > 12)) root next l)) else (impl_DocOK.j2 k l l.length i true root next l))) else (impl_DocOK.j2 k l l.length i true root next l))) (locG next l (m + 1) i && V) := by
   intro h0 h1
   rw [locG, h0]
   by_cases hb : nodeB next (l.getD i z43) = true
   ·have hg := impl_tail (l.getD i z43) (fun k b => impl_DocOK.j2 k l l.length i b root next l) (locG next l m (i + 1) && V) hT (hF _ (hr () (fun j hj => by
     by_cases e : j = i
     ·subst e; exact ⟨hb, h0⟩
     ·exact hI j (by omega))))
    have hb' := (nodeB_iff _ _).1 hb
    rw [if_pos hb'.2] at hg
    rw [hb, Bool.true_and, Bool.true_and]
    exact hg
   ·have hg := impl_tail (l.getD i z43) (fun k b => impl_DocOK.j2 k l l.length i b root next l) true hT
    have hb' : nodeB next (l.getD i z43) = false := by simpa using hb
    rw [hb', Bool.false_and, Bool.false_and, Bool.false_and]
    have hn' := mt (nodeB_iff next (l.getD i z43)).2 hb
    have hn'' : ¬ ((1 ≤ (l.getD i z43).f1 ∧ (l.getD i z43).f1 ≤ 8) ∧ (0 ≤ (l.getD i z43).f2 ∧ (l.getD i z43).f2 ≤ 99) ∧ (l.getD i z43).f3.size ≤ 20 ∧ (l.getD i z43).f4.length ≤ 12) := fun g => hn' ⟨h1, g⟩
    refine Ev.use (twithin_eq _ _ _) ?_
    by_cases g1 : 1 ≤ (l.getD i z43).f1 ∧ (l.getD i z43).f1 ≤ 8
    ·refine Ev.pos (decide_eq_true g1) (Ev.use (twithin_eq _ _ _) ?_)
     by_cases g2 : 0 ≤ (l.getD i z43).f2 ∧ (l.getD i z43).f2 ≤ 99
     ·refine Ev.pos (decide_eq_true g2) ?_
      by_cases g3 : (l.getD i z43).f3.size ≤ 20
      ·refine Ev.neg (by omega) ?_
       have h12 : ¬ (l.getD i z43).f4.length ≤ 12 := fun g4 => hn'' ⟨g1, g2, g3, g4⟩
       rw [decide_eq_true (by omega)]
       exact hT
      ·exact Ev.pos (by omega) hT
     ·exact Ev.neg (ndec g2) hT
    ·exact Ev.neg (ndec g1) hT
  by_cases h1 : 1 ≤ (l.getD i z43).f0 ∧ (l.getD i z43).f0 ≤ next - 1
  ·refine Ev.pos (decide_eq_true h1) ?_
   by_cases h2 : i = 0
   ·exact Ev.neg (by omega) (tail (decide_eq_true (.inl h2)) h1)
   ·have e : wrap64 ((i : Int) - 1) = ((i - 1 : Nat) : Int) := by rw [wrap_id _ (by omega) (by omega)]; omega
    simp only [e]
    refine Ev.pos (by omega) (Ev.pos (by omega) (Ev.pos (by omega) ?_))
    rw [rd_nat, rd_nat]
    by_cases h3 : (l.getD (i - 1) z43).f0 < (l.getD i z43).f0
    ·exact Ev.neg (by omega) (tail (decide_eq_true (.inr h3)) h1)
    ·refine Ev.pos (by omega) ?_
     rw [locG, show ordB l i = false from decide_eq_false (fun g => g.elim h2 h3), Bool.and_false, Bool.false_and, Bool.false_and]
     exact hT
  ·refine Ev.neg (ndec h1) ?_
   rw [locG, show nodeB next (l.getD i z43) = false from by
    have := mt (nodeB_iff next (l.getD i z43)).1 (fun g => h1 g.1)
    simpa using this, Bool.false_and, Bool.false_and, Bool.false_and]
   exact hT
 ·intro _ hI
  refine Ev.step (fun k => by rw [impl_DocOK.l0]) ?_
  refine Ev.neg (by omega) ?_
  rw [locG, Bool.true_and]
  exact hV (loc_of next l hn ((locG_iff next l l.length 0).2 (fun j _ hj => hI j (by omega))))
theorem impl_kids (hl : docSm l) (hL : Loc next l) (i : Nat) (hi : i < l.length) (x : S43) (hx : x.f4.length ≤ 1048576) (hxI : ∀ c ∈ x.f4, i64 c) (s : List Int) (c : List Int → Bool)
  (hc : ∀ s', kidsB root (ids l) x.f4 s = some s' → Ev (fun k => impl_DocOK.l1 k l l.length ((i : Int) + 1) root next l (mp s')) (c s')) :
  Ev (fun k => impl_DocOK.l2 k l l.length i x.f4 x.f4.length 0 root next l (mp s)) (match kidsB root (ids l) x.f4 s with | none => false | some s' => c s') := by
 have hl' := hl.1
 refine list_loop x.f4 0 (fun j s' => kidsB root (ids l) x.f4 s = kidsB root (ids l) (x.f4.drop j) s') (fun cs s' => match kidsB root (ids l) cs s' with | none => false | some s' => c s') (fun k j s' => impl_DocOK.l2 k l l.length i x.f4 x.f4.length j root next l (mp s')) ?_ ?_ s rfl
 ·intro j s' hj hs' hr
  have ed : x.f4.drop j = x.f4.getD j 0 :: x.f4.drop (j + 1) := by
   rw [List.getD_eq_getElem?_getD, List.getElem?_eq_getElem (by omega), Option.getD_some]
   exact List.drop_eq_getElem_cons (by omega)
  rw [ed] at hs'
  refine Ev.step (fun k => by rw [impl_DocOK.l2]) ?_
  refine Ev.pos (by omega) (Ev.pos (by omega) (Ev.pos (by omega) ?_))
  rw [get_mp]
  show Ev (fun k => if decide (x.f4.getD j 0 ∈ s') = true then _ else _) (match (if x.f4.getD j 0 = root ∨ x.f4.getD j 0 ∈ s' ∨ x.f4.getD j 0 ∉ ids l then none else kidsB root (ids l) (x.f4.drop (j + 1)) (s' ++ [x.f4.getD j 0])) with | none => false | some s' => c s')
  have hT : Ev (fun k => impl_DocOK.j5 k (x.f4.getD j 0) l l.length i x.f4 x.f4.length j true root next l (mp s')) false := Ev.step (fun k => by rw [impl_DocOK.j5]) (Ev.pos rfl (Ev.now _))
  by_cases h2 : x.f4.getD j 0 ∈ s'
  ·rw [if_pos (.inr (.inl h2))]
   exact Ev.pos (decide_eq_true h2) hT
  refine Ev.neg (ndec h2) ?_
  by_cases h1 : x.f4.getD j 0 = root
  ·rw [if_pos (.inl h1)]
   exact Ev.pos h1 hT
  refine Ev.neg h1 (Ev.bind (impl_has hl hL root next _ (hxI _ (getD_mem _ _ j hj))) ?_)
  by_cases h3 : x.f4.getD j 0 ∈ ids l
  ·rw [if_neg (fun h => h.elim h1 (fun h => h.elim h2 (fun h => h h3)))]
   refine Ev.step (fun k => by rw [impl_DocOK.j5]) ?_
   refine Ev.neg (by rw [show rd x.f4 (j : Int) = x.f4.getD j 0 from rfl, decide_eq_true h3]; decide) ?_
   simp only [wrap_suc j (by omega)]
   rw [show rd x.f4 (j : Int) = x.f4.getD j 0 from rfl, put_mp _ _ h2]
   refine hr _ ?_
   rw [hs', kidsB, if_neg (fun h => h.elim h1 (fun h => h.elim h2 (fun h => h h3)))]
  ·rw [if_pos (.inr (.inr h3))]
   rw [show decide (rd x.f4 (j : Int) ∈ ids l) = false from decide_eq_false h3]
   exact hT
 ·intro s' hs'
  rw [List.drop_length] at hs'
  refine Ev.step (fun k => by rw [impl_DocOK.l2]) ?_
  refine Ev.neg (by omega) ?_
  simp only [wrap_suc i (by omega)]
  exact hc s' hs'
theorem impl_second (hl : docSm l) (hI : docI l) (hr : i64 root) (hL : Loc next l) (h0 : 1 ≤ l.length ∧ l.length ≤ 40) : Ev (fun k => impl_DocOK.l1 k l l.length 0 root next l (mp [])) (secI root l) := by
 have hl' := hl.1
 refine idx_loop l.length (fun i s => ∀ m, i + m = l.length → kidsM root l l.length 0 [] = kidsM root l m i s) (fun m i s => match kidsM root l m i s with | none => false | some s => finI root l s) (fun k i s => impl_DocOK.l1 k l l.length i root next l (mp s)) ?_ ?_ [] (fun m hm => by rw [show m = l.length from by omega])
 ·intro m i s hi hs hr'
  refine Ev.step (fun k => by rw [impl_DocOK.l1]) ?_
  refine Ev.pos (by omega) (Ev.pos (by omega) (Ev.pos (by omega) ?_))
  have hm := getD_mem l z43 i (by omega)
  have hg := impl_kids (root := root) hl hL i (by omega) (l.getD i z43) (hl.2 _ hm) (hI _ hm).2 s (fun s' => match kidsM root l m (i + 1) s' with | none => false | some s => finI root l s) (fun s' hs' => hr' s' (fun m' hm' => by
   obtain rfl : m' = m := by omega
   rw [hs (m' + 1) (by omega), kidsM, hs']
   rfl))
  have e : (match kidsM root l (m + 1) i s with | none => false | some s => finI root l s) = (match kidsB root (ids l) (l.getD i z43).f4 s with | none => false | some s' => (match kidsM root l m (i + 1) s' with | none => false | some s => finI root l s)) := by
   rw [kidsM]
   cases kidsB root (ids l) (l.getD i z43).f4 s <;> rfl
  rw [e]
  exact hg
 ·intro s hs
  refine Ev.step (fun k => by rw [impl_DocOK.l1]) ?_
  refine Ev.neg (by omega) (Ev.bind (impl_has hl hL root next root hr) ?_)
  show Ev _ (finI root l s)
  have hJ : Ev (fun k => impl_DocOK.j6 k true root next l) false := Ev.step (fun k => by rw [impl_DocOK.j6]) (Ev.pos rfl (Ev.now _))
  unfold finI
  by_cases h1 : root ∈ ids l
  ·refine Ev.pos (decide_eq_true h1) ?_
   rw [len_mp, wrap_id _ (by omega) (by omega)]
   by_cases h2 : (s.length : Int) = (l.length : Int) - 1
   ·rw [if_pos ⟨h1, h2⟩]
    have hk := hs 0 (by omega)
    rw [kidsM_eq root l l.length 0 (by omega), List.drop_zero] at hk
    obtain ⟨_, g2, _⟩ := kidsB_some _ _ _ _ _ hk List.nodup_nil
    have hc : Clo l := fun x hx c hc => (g2 c (List.mem_flatMap.2 ⟨x, hx, hc⟩)).2
    refine Ev.pos h2 (Ev.bind (impl_deep root hl hL hI hc h1) ?_)
    by_cases h3 : dp l 6 root > 6
    ·rw [if_pos h3, decide_eq_true h3]
     exact hJ
    ·rw [if_neg h3, decide_eq_false h3]
     refine Ev.step (fun k => by rw [impl_DocOK.j6]) ?_
     refine Ev.neg (by decide) (Ev.bind (impl_order root hl hL hI hc 6 root h1 (by omega) [] (by decide)) ?_)
     rw [List.nil_append]
     rw [show (((ordF l 6 root).length : Int) == (l.length : Int)) = decide ((ordF l 6 root).length = l.length) from by
      rw [Bool.eq_iff_iff, beq_iff_eq, decide_eq_true_eq]; omega]
     exact Ev.now _
   ·rw [if_neg (fun g => h2 g.2)]
    exact Ev.neg h2 hJ
  ·rw [if_neg (fun g => h1 g.1)]
   exact Ev.neg (ndec h1) hJ
theorem impl_doc (hl : docSm l) (hI : docI l) (hr : i64 root) : Ev (fun k => impl_DocOK.f k root next l) (docB root next l) := by
 refine Ev.use (twithin_eq _ _ _) ?_
 have hJ : Ev (fun k => impl_DocOK.j0 k true root next l) false := Ev.step (fun k => by rw [impl_DocOK.j0]) (Ev.pos rfl (Ev.now _))
 unfold docB
 by_cases h1 : 1 ≤ l.length ∧ l.length ≤ 40
 ·refine Ev.pos (decide_eq_true (by omega)) (Ev.use (twithin_eq _ _ _) ?_)
  rw [decide_eq_true h1, Bool.true_and]
  by_cases h2 : 2 ≤ next ∧ next ≤ 999999
  ·rw [decide_eq_true h2, Bool.true_and]
   refine Ev.step (fun k => by rw [impl_DocOK.j0]) ?_
   refine Ev.neg (by decide) ?_
   have hg := impl_first (root := root) hl h2 (secI root l) (fun hL => impl_second hl hI hr hL h1)
   have e : (nodesG root next l l.length 0 [] && (decide (dp l 6 root ≤ 6) && l.all (fun x => cl l root (l.length + 1) x.f0))) = (locG next l l.length 0 && secI root l) := by
    cases hN : nodesG root next l l.length 0 []
    ·rw [nodesG_eq] at hN
     cases hG : locG next l l.length 0
     ·rfl
     ·rw [hG, Bool.true_and] at hN
      rw [Bool.false_and, Bool.true_and]
      unfold secI
      cases hk : kidsM root l l.length 0 [] with
      | none => rfl
      | some s =>
       rw [hk] at hN
       have hN := of_decide_eq_false hN
       show false = finI root l s
       unfold finI
       rw [if_neg (fun g => hN ⟨g.2, g.1⟩)]
    ·have D := doc0_of h2 h1 hN
     rw [nodesG_eq, Bool.and_eq_true] at hN
     rw [hN.1, Bool.true_and, Bool.true_and]
     unfold secI
     cases hk : kidsM root l l.length 0 [] with
     | none => rw [hk] at hN; exact absurd hN.2 (by simp)
     | some s =>
      rw [hk] at hN
      have hF := of_decide_eq_true hN.2
      show _ = finI root l s
      unfold finI
      rw [if_pos ⟨hF.2, hF.1⟩]
      by_cases h3 : dp l 6 root ≤ 6
      ·rw [decide_eq_true h3, Bool.true_and, if_neg (by omega), D.reach h3]
      ·rw [decide_eq_false h3, Bool.false_and, if_pos (by omega)]
   rw [e]
   exact hg
  ·rw [decide_eq_false h2, Bool.false_and]
   exact hJ
 ·rw [decide_eq_false h1, Bool.false_and]
  exact Ev.neg (ndec (by omega)) hJ
end
theorem i64_of {n : Int} (h : (Lit.int .i64 n).wf = true) : i64 n := by
 simp only [Lit.wf, Bool.and_eq_true] at h
 exact ⟨of_decide_eq_true h.1, of_decide_eq_true h.2⟩
theorem docSm_of (x : S24) (h : sm24 x) : docSm (x.f2.map cv112) := by
 obtain ⟨_, _, h1, h2⟩ := h
 refine ⟨by rw [List.length_map]; exact h1, fun y hy => ?_⟩
 obtain ⟨z, hz, rfl⟩ := List.mem_map.1 hy
 exact (h2 z hz).2.2.2.2
theorem docI_of (x : S24) (h : ok24 x) : docI (x.f2.map cv112) := by
 obtain ⟨_, _, _, h2⟩ := h
 intro y hy
 obtain ⟨z, hz, rfl⟩ := List.mem_map.1 hy
 obtain ⟨g0, _, _, _, _, g4⟩ := h2 z hz
 exact ⟨i64_of g0, fun c hc => i64_of (g4 c hc)⟩
end Go.Proofs.Ytpdhccdmbdbdpaa.Pure
namespace Go.Proofs.Ytpdhccdmbdbdpaa.Pure
set_option linter.unusedVariables false
set_option linter.unusedSimpArgs false
open Go.RowKit Go.Proofs.Ytpdhccdmbdbdpaa.XA Go.Proofs.Ytpdhccdmbdbdpaa.Pk Go.Proofs.YtpdhccdmbdbdpaaW.PrintWords Go.Proofs.YtpdhccdmbdbdpaaW.PrintLast Go.Proofs.YtpdhccdmbdbdpaaW.PrintMore
theorem Doc1.reach {root next : Int} {l : List S43} (D : Doc1 root next l) {id : Int} (h : id ∈ ids l) : ∃ m, m < 6 ∧ up l m id = root := by
 have h1 := nodup_all (D.ord_nodup 6) (ordF_ids D.clo D.rin) (by rw [D.all]; simp [ids]) id h
 exact (D.ord_mem 6 id).1 h1
theorem Doc1.dp_all {root next : Int} {l : List S43} (D : Doc1 root next l) : ∀ (m n : Nat) (id : Int), up l m id = root → m + n = 6 → id ∈ ids l → dp l n id ≤ n
 | 0, n, id, hu, hn, h => by
  have e : n = 6 := by omega
  subst e
  have : id = root := hu
  subst this
  exact D.deep
 | m + 1, n, id, hu, hn, h => by
  rcases par_cases l id with ⟨h0, _⟩ | ⟨x, hx, hm, hp⟩
  ·have h2 : up l m (par l id) = root := hu
   rw [h0, D.up_zero] at h2
   have := D.pos D.rin
   omega
  ·have hx' : x.f0 ∈ ids l := List.mem_map_of_mem hx
   have h3 := Doc1.dp_all D m (n + 1) x.f0 (by rw [← hp]; exact hu) (by omega) hx'
   exact dp_kid (id := x.f0) (by omega) id (by unfold kd; rw [D.kd_of hx]; exact hm)
theorem mem_sum : ∀ (xs : List Nat) (x : Nat), x ∈ xs → x ≤ xs.sum
 | y :: ys, x, h => by
  rw [List.sum_cons]
  rcases List.mem_cons.1 h with e | e
  ·omega
  ·have := mem_sum ys x e
   omega
theorem ord_le {l : List S43} {n : Nat} {p c : Int} (h : c ∈ kd l p) : (ordF l n c).length ≤ (ordF l (n + 1) p).length := by
 rw [ordF, List.length_cons, len_flat]
 have := mem_sum _ _ (List.mem_map_of_mem (f := fun c => (ordF l n c).length) h)
 omega
theorem Doc1.ord_all {root next : Int} {l : List S43} (D : Doc1 root next l) : ∀ (m n : Nat) (id : Int), up l m id = root → m + n = 6 → id ∈ ids l → (ordF l n id).length ≤ l.length
 | 0, n, id, hu, hn, h => by
  have e : n = 6 := by omega
  subst e
  have : id = root := hu
  subst this
  exact Nat.le_of_eq D.all
 | m + 1, n, id, hu, hn, h => by
  rcases par_cases l id with ⟨h0, _⟩ | ⟨x, hx, hm, hp⟩
  ·have h2 : up l m (par l id) = root := hu
   rw [h0, D.up_zero] at h2
   have := D.pos D.rin
   omega
  ·have h3 := Doc1.ord_all D m (n + 1) x.f0 (by rw [← hp]; exact hu) (by omega) (List.mem_map_of_mem hx)
   exact Nat.le_trans (ord_le (by unfold kd; rw [D.kd_of hx]; exact hm)) h3
end Go.Proofs.Ytpdhccdmbdbdpaa.Pure
namespace Go.Proofs.Ytpdhccdmbdbdpaa.Pure
set_option linter.unusedVariables false
set_option linter.unusedSimpArgs false
open Go.RowKit Go.Proofs.Ytpdhccdmbdbdpaa.XA Go.Proofs.Ytpdhccdmbdbdpaa.Pk Go.Proofs.YtpdhccdmbdbdpaaW.PrintWords Go.Proofs.YtpdhccdmbdbdpaaW.PrintLast Go.Proofs.YtpdhccdmbdbdpaaW.PrintMore
def toL (B : List Int) : List Int → Int → List Int
 | [], _ => []
 | a :: az, nx => if a ∈ B then a :: toL B az nx else nx :: toL B az (nx + 1)
def nxL (B : List Int) : List Int → Int → Int
 | [], nx => nx
 | a :: az, nx => if a ∈ B then nxL B az nx else nxL B az (nx + 1)
def mkM (B : List Int) : List Int → Int → List (Int × Int) → List (Int × Int)
 | [], _, M => M
 | a :: az, nx, M => if a ∈ B then mkM B az nx (XM.put M a a) else mkM B az (nx + 1) (XM.put (XM.put M a a) a nx)
def lk : List Int → List Int → Int → Int
 | a :: az, t :: ts, c => if a = c then t else lk az ts c
 | _, _, _ => 0
theorem toL_len (B : List Int) : ∀ (O : List Int) (nx : Int), (toL B O nx).length = O.length
 | [], _ => rfl
 | a :: az, nx => by unfold toL; split <;> simp [toL_len B az]
theorem nxL_le (B : List Int) : ∀ (O : List Int) (nx : Int), nx ≤ nxL B O nx ∧ nxL B O nx ≤ nx + O.length
 | [], nx => by simp [nxL]
 | a :: az, nx => by
  unfold nxL
  split
  ·have := nxL_le B az nx
   simp only [List.length_cons]
   omega
  ·have := nxL_le B az (nx + 1)
   simp only [List.length_cons]
   omega
theorem toL_range (B : List Int) : ∀ (O : List Int) (nx : Int), ∀ t ∈ toL B O nx, (t ∈ B ∧ t ∈ O) ∨ (nx ≤ t ∧ t < nxL B O nx)
 | [], nx, t, h => by cases h
 | a :: az, nx, t, h => by
  unfold toL at h
  unfold nxL
  split at h
  ·next c =>
   rw [if_pos c]
   rcases List.mem_cons.1 h with e | e
   ·exact .inl ⟨e ▸ c, e ▸ List.mem_cons_self⟩
   ·rcases toL_range B az nx t e with g | g
    ·exact .inl ⟨g.1, List.mem_cons_of_mem _ g.2⟩
    ·exact .inr g
  ·next c =>
   rw [if_neg c]
   have h2 := nxL_le B az (nx + 1)
   rcases List.mem_cons.1 h with e | e
   ·exact .inr (by omega)
   ·rcases toL_range B az (nx + 1) t e with g | g
    ·exact .inl ⟨g.1, List.mem_cons_of_mem _ g.2⟩
    ·exact .inr (by omega)
theorem toL_nodup (B : List Int) : ∀ (O : List Int) (nx : Int), (∀ b ∈ B, b < nx) → O.Nodup → (toL B O nx).Nodup
 | [], _, _, _ => List.nodup_nil
 | a :: az, nx, hB, hO => by
  obtain ⟨h1, h2⟩ := List.nodup_cons.1 hO
  unfold toL
  split
  ·next c =>
   refine List.nodup_cons.2 ⟨fun h => ?_, toL_nodup B az nx hB h2⟩
   rcases toL_range B az nx a h with g | g
   ·exact h1 g.2
   ·have := hB a c
    omega
  ·next c =>
   refine List.nodup_cons.2 ⟨fun h => ?_, toL_nodup B az (nx + 1) (fun b hb => by have := hB b hb; omega) h2⟩
   rcases toL_range B az (nx + 1) nx h with g | g
   ·have := hB nx g.1
    omega
   ·omega
theorem lk_map : ∀ (O T : List Int), O.Nodup → O.length = T.length → O.map (lk O T) = T
 | [], [], _, _ => rfl
 | a :: az, t :: ts, hO, hl => by
  obtain ⟨h1, h2⟩ := List.nodup_cons.1 hO
  have ih := lk_map az ts h2 (by simpa using hl)
  rw [List.map_cons]
  have e0 : lk (a :: az) (t :: ts) a = t := by rw [lk, if_pos rfl]
  have e1 : az.map (lk (a :: az) (t :: ts)) = az.map (lk az ts) := List.map_congr_left (fun c hc => by rw [lk, if_neg (show a ≠ c from fun e => h1 (by rw [e]; exact hc))])
  rw [e0, e1, ih]
theorem lk_in : ∀ (O T : List Int) (c : Int), O.length = T.length → c ∈ O → lk O T c ∈ T
 | a :: az, t :: ts, c, hl, h => by
  unfold lk
  split
  ·exact List.mem_cons_self
  ·next e => exact List.mem_cons_of_mem _ (lk_in az ts c (by simpa using hl) ((List.mem_cons.1 h).resolve_left (fun g => e g.symm)))
theorem lk_keep (B : List Int) : ∀ (O : List Int) (nx c : Int), c ∈ O → c ∈ B → lk O (toL B O nx) c = c
 | a :: az, nx, c, h, hb => by
  unfold toL
  by_cases e : a = c
  ·subst e
   rw [if_pos hb, lk, if_pos rfl]
  ·have h2 := (List.mem_cons.1 h).resolve_left (fun g => e g.symm)
   split
   ·rw [lk, if_neg e]; exact lk_keep B az nx c h2 hb
   ·rw [lk, if_neg e]; exact lk_keep B az (nx + 1) c h2 hb
theorem lk_snoc : ∀ (P T : List Int) (a v c : Int), P.length = T.length → a ∉ P → lk (P ++ [a]) (T ++ [v]) c = if c = a then v else lk P T c
 | [], [], a, v, c, _, _ => by
  simp only [List.nil_append, lk]
  by_cases e : a = c
  ·rw [if_pos e, if_pos e.symm]
  ·rw [if_neg e, if_neg (Ne.symm e)]
 | p :: ps, t :: ts, a, v, c, hl, ha => by
  have ih := lk_snoc ps ts a v c (by simpa using hl) (fun g => ha (List.mem_cons_of_mem _ g))
  simp only [List.cons_append, lk]
  by_cases e : p = c
  ·rw [if_pos e, if_pos e, if_neg (fun g => ha (by rw [← g, ← e]; exact List.mem_cons_self))]
  ·rw [if_neg e, if_neg e, ih]
theorem lk_at : ∀ (O T : List Int) (c : Int) (i : Nat), O.length = T.length → i < O.length → O.getD i 0 = c → (∀ j, j < i → O.getD j 0 ≠ c) → T.getD i 0 = lk O T c
 | a :: az, t :: ts, c, 0, _, _, h, _ => by
  have h : a = c := by simpa using h
  rw [lk, if_pos h]
  simp
 | a :: az, t :: ts, c, i + 1, hl, hi, h, hm => by
  have h0 : a ≠ c := by simpa using hm 0 (by omega)
  rw [lk, if_neg h0]
  have := lk_at az ts c i (by simpa using hl) (by simpa using hi) (by simpa using h) (fun j hj => by simpa using hm (j + 1) (by omega))
  simpa using this
theorem get_put (l : List (Int × Int)) (k v c : Int) : XM.get 0 (XM.put l k v) c = if c = k then v else XM.get 0 l c := by
 induction l with
 | nil => simp [XM.put, XM.get]
 | cons p l ih =>
  unfold XM.put
  by_cases h : k = p.1
  ·rw [if_pos h]
   simp only [XM.get]
   by_cases e : c = k
   ·rw [if_pos e, if_pos e]
   ·rw [if_neg e, if_neg e, if_neg (fun g => e (g.trans h.symm))]
  ·rw [if_neg h]
   simp only [XM.get]
   by_cases e : c = p.1
   ·rw [if_pos e, if_pos e, if_neg (show ¬ c = k from fun g => h (g.symm.trans e))]
   ·rw [if_neg e, if_neg e, ih]
theorem mkM_get (B : List Int) : ∀ (O : List Int) (nx : Int) (M : List (Int × Int)) (P T : List Int), P.length = T.length → (P ++ O).Nodup → (∀ c, XM.get 0 M c = lk P T c) → ∀ c, XM.get 0 (mkM B O nx M) c = lk (P ++ O) (T ++ toL B O nx) c
 | [], nx, M, P, T, hl, hn, hM, c => by
  simp only [mkM, toL, List.append_nil]
  exact hM c
 | a :: az, nx, M, P, T, hl, hn, hM, c => by
  have ha : a ∉ P := fun h => (List.nodup_append.1 hn).2.2 a h a List.mem_cons_self rfl
  have hn2 : ((P ++ [a]) ++ az).Nodup := by rw [List.append_assoc]; exact hn
  unfold mkM toL
  split
  ·have := mkM_get B az nx (XM.put M a a) (P ++ [a]) (T ++ [a]) (by simp [hl]) hn2 (fun c => by rw [get_put, lk_snoc P T a a c hl ha, hM]) c
   rw [List.append_assoc, List.append_assoc] at this
   exact this
  ·have := mkM_get B az (nx + 1) (XM.put (XM.put M a a) a nx) (P ++ [a]) (T ++ [nx]) (by simp [hl]) hn2 (fun c => by
    rw [get_put, get_put, lk_snoc P T a nx c hl ha, hM]
    by_cases e : c = a
    ·rw [if_pos e, if_pos e]
    ·rw [if_neg e, if_neg e, if_neg e]) c
   rw [List.append_assoc, List.append_assoc] at this
   exact this
def rn (g : Int → Int) (x : S43) : S43 := ⟨g x.f0, x.f1, x.f2, x.f3, x.f4.map g⟩
def keepF (B : List Int) (l : List S43) : List S43 := l.filter (fun x => !decide (x.f0 ∈ B))
def putN : List S43 → S43 → List S43
 | [], x => [x]
 | y :: ys, x => if y.f0 > x.f0 then x :: y :: ys else y :: putN ys x
theorem putN_perm : ∀ (l : List S43) (x : S43), (putN l x).Perm (x :: l)
 | [], x => List.Perm.refl _
 | y :: ys, x => by
  unfold putN
  split
  ·exact List.Perm.refl _
  ·exact ((putN_perm ys x).cons y).trans (List.Perm.swap x y ys)
theorem putN_rise : ∀ (l : List S43) (x : S43), l.Pairwise (fun a b => a.f0 < b.f0) → (∀ y ∈ l, y.f0 ≠ x.f0) → (putN l x).Pairwise (fun a b => a.f0 < b.f0)
 | [], x, _, _ => List.pairwise_singleton _ _
 | y :: ys, x, h, hx => by
  obtain ⟨h1, h2⟩ := List.pairwise_cons.1 h
  unfold putN
  split
  ·next c =>
   refine List.pairwise_cons.2 ⟨fun z hz => ?_, h⟩
   rcases List.mem_cons.1 hz with e | e
   ·rw [e]; exact c
   ·have := h1 z e
    omega
  ·next c =>
   refine List.pairwise_cons.2 ⟨fun z hz => ?_, putN_rise ys x h2 (fun z hz => hx z (List.mem_cons_of_mem _ hz))⟩
   rcases List.mem_cons.1 ((putN_perm ys x).mem_iff.1 hz) with e | e
   ·have := hx y List.mem_cons_self
    rw [e]
    omega
   ·exact h1 z e
theorem putA_perm : ∀ (X F : List S43), (X.foldl putN F).Perm (F ++ X)
 | [], F => by rw [List.foldl_nil, List.append_nil]
 | x :: X, F => by
  rw [List.foldl_cons]
  refine (putA_perm X (putN F x)).trans (((putN_perm F x).append_right X).trans ?_)
  exact (List.perm_middle (a := x) (l₁ := F) (l₂ := X)).symm
theorem putA_rise : ∀ (X F : List S43), F.Pairwise (fun a b => a.f0 < b.f0) → ((F ++ X).map (fun x => x.f0)).Nodup → (X.foldl putN F).Pairwise (fun a b => a.f0 < b.f0)
 | [], F, h, _ => h
 | x :: X, F, h, hn => by
  rw [List.foldl_cons]
  have hp : (F ++ x :: X).Perm (putN F x ++ X) := (List.perm_middle (a := x) (l₁ := F) (l₂ := X)).trans ((putN_perm F x).symm.append_right X)
  refine putA_rise X (putN F x) (putN_rise F x h (fun y hy e => ?_)) ((hp.map _).nodup_iff.1 hn)
  rw [List.map_append, List.map_cons] at hn
  exact (List.nodup_append.1 hn).2.2 y.f0 (List.mem_map_of_mem hy) x.f0 List.mem_cons_self e
theorem rise_one : ∀ (A B : List S43), A.Perm B → A.Pairwise (fun a b => a.f0 < b.f0) → B.Pairwise (fun a b => a.f0 ≤ b.f0) → A = B
 | [], B, h, _, _ => h.nil_eq
 | a :: A, [], h, _, _ => absurd h.length_eq (by simp)
 | a :: A, b :: B, h, ha, hb => by
  obtain ⟨a1, a2⟩ := List.pairwise_cons.1 ha
  obtain ⟨b1, b2⟩ := List.pairwise_cons.1 hb
  have e : a = b := by
   rcases List.mem_cons.1 (h.mem_iff.1 List.mem_cons_self) with e | e
   ·exact e
   ·rcases List.mem_cons.1 (h.mem_iff.2 (List.mem_cons_self (a := b) (l := B))) with g | g
    ·exact g.symm
    ·have := a1 b g
     have := b1 a e
     omega
  subst e
  rw [rise_one A B h.cons_inv a2 b2]
theorem byId_rise (l : List S43) : (l.mergeSort byId).Pairwise (fun a b => a.f0 ≤ b.f0) := by
 have := List.pairwise_mergeSort (le := byId) (fun a b c h1 h2 => by simp only [byId, decide_eq_true_eq] at *; omega) (fun a b => by simp only [byId, Bool.or_eq_true, decide_eq_true_eq]; omega) l
 exact this.imp (fun h => of_decide_eq_true h)
theorem put_sort (F X Y : List S43) (hF : F.Pairwise (fun a b => a.f0 < b.f0)) (hp : X.Perm Y) (hn : ((F ++ X).map (fun x => x.f0)).Nodup) : X.foldl putN F = (F ++ Y).mergeSort byId :=
 rise_one _ _ ((putA_perm X F).trans ((hp.append_left F).trans (List.mergeSort_perm _ _).symm)) (putA_rise X F hF hn) (byId_rise _)
variable {root next : Int} {l : List S43}
theorem below_par (hc : Clo l) : ∀ (n : Nat) (s c : Int), s ∈ ids l → c ∈ ordF l n s → c ≠ s → ∃ x, x ∈ l ∧ c ∈ x.f4 ∧ x.f0 ∈ ordF l n s
 | 0, s, c, _, h, _ => by cases h
 | n + 1, s, c, hs, h, hne => by
  rw [ordF] at h ⊢
  obtain ⟨k, hk, hck⟩ := List.mem_flatMap.1 ((List.mem_cons.1 h).resolve_left hne)
  by_cases e : c = k
  ·subst e
   obtain ⟨i, _, _, hm, h0, _⟩ := nd_mem hs
   exact ⟨nd l s, hm, hk, by rw [h0]; exact List.mem_cons_self⟩
  ·obtain ⟨x, hx, hcx, h0⟩ := below_par hc n k c (kd_ids hc hs hk) hck e
   exact ⟨x, hx, hcx, List.mem_cons_of_mem _ (List.mem_flatMap.2 ⟨k, hk, h0⟩)⟩
theorem ord_cnt_le {n : Nat} {p c : Int} (h : c ∈ kd l p) (a : Int) : (ordF l n c).count a ≤ (ordF l (n + 1) p).count a := by
 rw [ordF, List.count_cons, count_flat]
 have := mem_sum _ _ (List.mem_map_of_mem (f := fun c => (ordF l n c).count a) h)
 omega
theorem Doc1.ord_cnt (D : Doc1 root next l) : ∀ (m n : Nat) (id : Int), up l m id = root → m + n = 6 → id ∈ ids l → ∀ a, (ordF l n id).count a ≤ (ordF l 6 root).count a
 | 0, n, id, hu, hn, h, a => by
  have e : n = 6 := by omega
  subst e
  have : id = root := hu
  subst this
  exact Nat.le_refl _
 | m + 1, n, id, hu, hn, h, a => by
  rcases par_cases l id with ⟨h0, _⟩ | ⟨x, hx, hm, hp⟩
  ·have h2 : up l m (par l id) = root := hu
   rw [h0, D.up_zero] at h2
   have := D.pos D.rin
   omega
  ·have h3 := Doc1.ord_cnt D m (n + 1) x.f0 (by rw [← hp]; exact hu) (by omega) (List.mem_map_of_mem hx) a
   exact Nat.le_trans (ord_cnt_le (by unfold kd; rw [D.kd_of hx]; exact hm) a) h3
theorem Doc1.at6n (D : Doc1 root next l) {id : Int} (h : id ∈ ids l) : ∃ n, n ≤ 6 ∧ dp l n id ≤ n ∧ (ordF l n id).length ≤ l.length ∧ (ordF l n id).Nodup := by
 obtain ⟨m, hm, hu⟩ := D.reach h
 refine ⟨6 - m, by omega, D.dp_all m (6 - m) id hu (by omega) h, D.ord_all m (6 - m) id hu (by omega) h, List.nodup_iff_count.2 (fun a => ?_)⟩
 have h1 := D.ord_cnt m (6 - m) id hu (by omega) h a
 have h2 := List.nodup_iff_count.1 (D.ord_nodup 6) a
 omega
theorem Doc0.riseL (D : Doc0 root next l) : l.Pairwise (fun a b => a.f0 < b.f0) := by
 rw [List.pairwise_iff_getElem]
 intro i j hi hj hij
 have := D.loc.rise i j hij hj
 rwa [List.getD_eq_getElem?_getD, List.getElem?_eq_getElem hi, List.getD_eq_getElem?_getD, List.getElem?_eq_getElem hj] at this
theorem filter_two {α : Type} (p : α → Bool) : ∀ l : List α, (l.filter p).length + (l.filter (fun x => !p x)).length = l.length
 | [] => rfl
 | x :: l => by
  have := filter_two p l
  rw [List.filter_cons, List.filter_cons]
  cases p x <;> simp <;> omega
theorem Doc0.keep_len (D : Doc0 root next l) {B : List Int} (hn : B.Nodup) (hB : ∀ b ∈ B, b ∈ ids l) : (keepF B l).length + B.length = l.length := by
 have h1 := filter_two (fun x : S43 => decide (x.f0 ∈ B)) l
 have h2 : ((l.filter (fun x : S43 => decide (x.f0 ∈ B))).map (fun x => x.f0)).Nodup := (D.ids_nodup).sublist ((List.filter_sublist).map _)
 have h3 : (l.filter (fun x : S43 => decide (x.f0 ∈ B))).length = B.length := by
  rw [← List.length_map (f := fun x : S43 => x.f0)]
  refine Nat.le_antisymm (nodup_len h2 (fun a ha => ?_)) (nodup_len hn (fun b hb => ?_))
  ·obtain ⟨x, hx, rfl⟩ := List.mem_map.1 ha
   exact of_decide_eq_true (List.mem_filter.1 hx).2
  ·obtain ⟨x, hx, e⟩ := List.mem_map.1 (hB b hb)
   exact List.mem_map.2 ⟨x, List.mem_filter.2 ⟨hx, decide_eq_true (by rw [e]; exact hb)⟩, e⟩
 unfold keepF
 omega
end Go.Proofs.Ytpdhccdmbdbdpaa.Pure
namespace Go.Proofs.Ytpdhccdmbdbdpaa.Pure
set_option linter.unusedVariables false
set_option linter.unusedSimpArgs false
open Go.RowKit Go.Proofs.Ytpdhccdmbdbdpaa.XA Go.Proofs.Ytpdhccdmbdbdpaa.Pk Go.Proofs.YtpdhccdmbdbdpaaW.PrintWords
theorem impl_copied (a b c : Int) (t : ByteArray) (l : List Int) (h : l.length ≤ 1048576) : impl_Node_copied.f a b c t l = some (a, b, c, t, l) := by
 have h1 : l.length < 17592186044416 := by omega
 unfold impl_Node_copied.f slices_Clone_int.f
 exact (congrArg (fun o => Option.bind o _) (if_pos h1)).trans rfl
theorem spec_own (a b c : Int) (t : ByteArray) (l : List Int) (h : l.length ≤ 1048576) : spec_l02OwnNode.f a b c t l = some (a, b, c, t, l) := by
 have h1 : ([] : List Int).length + l.length < 17592186044416 := by simp only [List.length_nil]; omega
 exact if_pos h1
end Go.Proofs.Ytpdhccdmbdbdpaa.Pure
namespace Go.Proofs.Ytpdhccdmbdbdpaa.Pure
set_option linter.unusedVariables false
set_option linter.unusedSimpArgs false
open Go.RowKit Go.Proofs.Ytpdhccdmbdbdpaa.XA Go.Proofs.Ytpdhccdmbdbdpaa.Pk Go.Proofs.YtpdhccdmbdbdpaaW.PrintWords Go.Proofs.YtpdhccdmbdbdpaaW.PrintLast Go.Proofs.YtpdhccdmbdbdpaaW.PrintMore
theorem drop_getD {α : Type} (l : List α) (z : α) (i : Nat) (h : i < l.length) : l.drop i = l.getD i z :: l.drop (i + 1) := by
 rw [List.getD_eq_getElem?_getD, List.getElem?_eq_getElem h, Option.getD_some]
 exact List.drop_eq_getElem_cons h
theorem set_loop {ρ : Type} (ks : List Int) (g : Int → Int) (V : ρ) (F : Nat → Int → List Int → Option ρ)
  (hs : ∀ (i : Nat) (row : List Int), i < ks.length → row.length = ks.length → row.getD i 0 = ks.getD i 0 → Ev (fun k => F k ((i : Int) + 1) (row.set i (g (ks.getD i 0)))) V → Ev (fun k => F k (i : Int) row) V)
  (he : Ev (fun k => F k (ks.length : Int) (ks.map g)) V) : Ev (fun k => F k 0 ks) V := by
 refine list_loop ks 0 (fun i (row : List Int) => row = (ks.take i).map g ++ ks.drop i) (fun _ _ => V) F ?_ ?_ ks (by simp)
 ·intro i row hi h hr
  have e := drop_getD ks 0 i hi
  have hA : ((ks.take i).map g).length = i := by rw [List.length_map, List.length_take]; omega
  refine hs i row hi (by rw [h, List.length_append, hA, List.length_drop]; omega) ?_ (hr _ ?_)
  ·rw [h, e, List.getD_eq_getElem?_getD, List.getElem?_append_right (by omega), hA, Nat.sub_self]
   rfl
  ·rw [h, e, List.set_append_right _ _ (by omega), hA, Nat.sub_self, List.set_cons_zero]
   have e2 : ks.take (i + 1) = ks.take i ++ [ks.getD i 0] := by
    rw [List.take_add_one, List.getD_eq_getElem?_getD, List.getElem?_eq_getElem hi]
    rfl
   rw [e2, List.map_append, List.append_assoc]
   rfl
 ·intro row h
  have e : row = ks.map g := by rw [h, List.take_length, List.drop_length, List.append_nil]
  rw [e]
  exact he
theorem spec_index (l : List Int) (v : Int) (h : l.length ≤ 1048576) : Ev (fun k => spec_l02Index.f k l v) (findN l.length (fun i => decide (l.getD i 0 = v))) := by
 refine find_loop l.length _ (fun k i => spec_l02Index.l0 k l v i) ?_ ?_ ?_
 ·intro i q hi hp hq
  refine Ev.step (fun k => by rw [spec_l02Index.l0]) ?_
  refine Ev.pos (by omega) (Ev.pos (by omega) (Ev.neg (of_decide_eq_false hp) ?_))
  simp only [wrap_suc i (by omega)]
  exact hq
 ·intro i hi hp
  refine Ev.step (fun k => by rw [spec_l02Index.l0]) ?_
  exact Ev.pos (by omega) (Ev.pos (by omega) (Ev.pos (of_decide_eq_true hp) (Ev.now _)))
 ·refine Ev.step (fun k => by rw [spec_l02Index.l0]) ?_
  exact Ev.neg (by omega) (Ev.now _)
theorem idx_of {O T : List Int} (hl : O.length = T.length) {c : Int} (h : c ∈ O) : ∃ i, i < O.length ∧ findN O.length (fun i => decide (O.getD i 0 = c)) = (i : Int) ∧ T.getD i 0 = lk O T c := by
 rcases findN_spec O.length (fun i => decide (O.getD i 0 = c)) with ⟨_, h2⟩ | ⟨i, hi, h1, h2, h3⟩
 ·obtain ⟨i, hi, e⟩ := List.getElem_of_mem h
  have := of_decide_eq_false (h2 i hi)
  rw [List.getD_eq_getElem?_getD, List.getElem?_eq_getElem hi] at this
  exact absurd e this
 ·exact ⟨i, hi, h1, lk_at O T c i hl hi (of_decide_eq_true h2) (fun j hj => of_decide_eq_false (h3 j hj))⟩
theorem spec_put (l : List S43) (x : S43) (hl : l.length ≤ 1048576) : Ev (fun k => spec_l02Put.f k l x.f0 x.f1 x.f2 x.f3 x.f4) (putN l x) := by
 have h : Ev (fun k => spec_l02Put.l0 k l ([] : List S43) false 0 x.f0 x.f1 x.f2 x.f3 x.f4) ([] ++ putN l x) := by
  refine list_loop l z43 (fun i (s : List S43 × Bool) => s.1.length ≤ i + s.2.toNat) (fun xs s => if s.2 = true then s.1 ++ xs else s.1 ++ putN xs x) (fun k i s => spec_l02Put.l0 k l s.1 s.2 i x.f0 x.f1 x.f2 x.f3 x.f4) ?_ ?_ ([], false) (Nat.zero_le _)
  ·rintro i ⟨o, d⟩ hi hI hr
   cases d with
   | true =>
    have hI : o.length ≤ i + 1 := hI
    show Ev (fun k => spec_l02Put.l0 k l o true (i : Int) x.f0 x.f1 x.f2 x.f3 x.f4) (o ++ (l.getD i z43 :: l.drop (i + 1)))
    have this : Ev (fun k => spec_l02Put.l0 k l (o ++ [l.getD i z43]) true ((i : Int) + 1) x.f0 x.f1 x.f2 x.f3 x.f4) ((o ++ [l.getD i z43]) ++ l.drop (i + 1)) := hr (o ++ [l.getD i z43], true) (by simp only [List.length_append, List.length_singleton, Bool.toNat_true]; omega)
    have e : (o ++ [l.getD i z43]) ++ l.drop (i + 1) = o ++ (l.getD i z43 :: l.drop (i + 1)) := by simp
    rw [e] at this
    refine Ev.step (fun k => by rw [spec_l02Put.l0]) ?_
    refine Ev.pos (by omega) (Ev.pos rfl (Ev.pos (by omega) (Ev.pos (by omega) ?_)))
    simp only [wrap_suc i (by omega)]
    exact this
   | false =>
    have hI : o.length ≤ i := hI
    show Ev (fun k => spec_l02Put.l0 k l o false (i : Int) x.f0 x.f1 x.f2 x.f3 x.f4) (o ++ putN (l.getD i z43 :: l.drop (i + 1)) x)
    unfold putN
    by_cases c : (l.getD i z43).f0 > x.f0
    ·rw [if_pos c]
     have this : Ev (fun k => spec_l02Put.l0 k l (o ++ [x] ++ [l.getD i z43]) true ((i : Int) + 1) x.f0 x.f1 x.f2 x.f3 x.f4) ((o ++ [x] ++ [l.getD i z43]) ++ l.drop (i + 1)) := hr (o ++ [x] ++ [l.getD i z43], true) (by simp only [List.length_append, List.length_singleton, Bool.toNat_true]; omega)
     have e : (o ++ [x] ++ [l.getD i z43]) ++ l.drop (i + 1) = o ++ (x :: l.getD i z43 :: l.drop (i + 1)) := by simp
     rw [e] at this
     refine Ev.step (fun k => by rw [spec_l02Put.l0]) ?_
     refine Ev.pos (by omega) (Ev.neg (fun g => by cases g) (Ev.pos (by omega) (Ev.pos c (Ev.pos (by omega) (Ev.use rfl (Ev.pos (by simp only [List.length_append, List.length_singleton]; omega) ?_))))))
     simp only [wrap_suc i (by omega)]
     exact this
    ·rw [if_neg c]
     have this : Ev (fun k => spec_l02Put.l0 k l (o ++ [l.getD i z43]) false ((i : Int) + 1) x.f0 x.f1 x.f2 x.f3 x.f4) ((o ++ [l.getD i z43]) ++ putN (l.drop (i + 1)) x) := hr (o ++ [l.getD i z43], false) (by simp only [List.length_append, List.length_singleton, Bool.toNat_false]; omega)
     have e : (o ++ [l.getD i z43]) ++ putN (l.drop (i + 1)) x = o ++ (l.getD i z43 :: putN (l.drop (i + 1)) x) := by simp
     rw [e] at this
     refine Ev.step (fun k => by rw [spec_l02Put.l0]) ?_
     refine Ev.pos (by omega) (Ev.neg (fun g => by cases g) (Ev.pos (by omega) (Ev.neg c (Ev.pos (by omega) ?_))))
     simp only [wrap_suc i (by omega)]
     exact this
  ·rintro ⟨o, d⟩ hI
   cases d with
   | true =>
    show Ev (fun k => spec_l02Put.l0 k l o true (l.length : Int) x.f0 x.f1 x.f2 x.f3 x.f4) (o ++ [])
    rw [List.append_nil]
    refine Ev.step (fun k => by rw [spec_l02Put.l0]) ?_
    exact Ev.neg (by omega) (Ev.pos rfl (Ev.now _))
   | false =>
    have hI : o.length ≤ l.length := hI
    show Ev (fun k => spec_l02Put.l0 k l o false (l.length : Int) x.f0 x.f1 x.f2 x.f3 x.f4) (o ++ [x])
    refine Ev.step (fun k => by rw [spec_l02Put.l0]) ?_
    exact Ev.neg (by omega) (Ev.neg (fun g => by cases g) (Ev.pos (by omega) (Ev.now _)))
 rw [List.nil_append] at h
 exact h
theorem spec_spliceF {root next sr sn : Int} {l ls : List S43} (hl : docSm l) (hls : docSm ls) (B O : List Int) (hl0 : l.length ≤ 1000) (hB : B.length ≤ 1048576) (hO : O.length ≤ 1000) (hn : 0 ≤ next ∧ next ≤ 999999) (hnd : O.Nodup)
  (hBe : Ev (fun k => spec_l02Order.f k root next l sr) B) (hOe : Ev (fun k => spec_l02Order.f k sr sn ls sr) O) (hin : ∀ c ∈ O, c ∈ ids ls) (hk : ∀ x ∈ ls, ∀ c ∈ x.f4, c ∈ O) :
  Ev (fun k => spec_l02Splice.f k root next l sr sn ls) (root, nxL B O next, (O.map (fun c => rn (lk O (toL B O next)) (nd ls c))).foldl putN (keepF B l)) := by
 have hl' := hl.1
 have hTl : (toL B O next).length = O.length := toL_len B O next
 have hTm : O.map (lk O (toL B O next)) = toL B O next := lk_map O _ hnd hTl.symm
 obtain ⟨T, hT⟩ : ∃ T, T = toL B O next := ⟨_, rfl⟩
 obtain ⟨N, hN⟩ : ∃ N, N = nxL B O next := ⟨_, rfl⟩
 rw [← hT] at hTl hTm
 rw [← hT, ← hN]
 have hTi : ∀ i, i < O.length → T.getD i 0 = lk O T (O.getD i 0) := fun i hi => by
  have e := congrArg (fun L => L.getD i 0) hTm
  simp only [List.getD_eq_getElem?_getD, List.getElem?_map, List.getElem?_eq_getElem hi, Option.map_some, Option.getD_some] at e
  rw [List.getD_eq_getElem?_getD, ← e, List.getD_eq_getElem?_getD, List.getElem?_eq_getElem hi, Option.getD_some]
 have s3 : ∀ F : List S43, F.length ≤ 1000 → Ev (fun k => spec_l02Splice.l2 k O T O 0 sr sn ls root N F) (root, N, (O.map (fun c => rn (lk O T) (nd ls c))).foldl putN F) := fun F hF => by
  refine list_loop O 0 (fun i (o : List S43) => o.length ≤ F.length + i) (fun xs o => (root, N, (xs.map (fun c => rn (lk O T) (nd ls c))).foldl putN o)) (fun k i o => spec_l02Splice.l2 k O T O i sr sn ls root N o) ?_ ?_ F (Nat.le_refl _)
  ·intro i o hi ho hr
   have hc : O.getD i 0 ∈ O := getD_mem O 0 i hi
   obtain ⟨p, hp, ep, hm, h0, _⟩ := nd_mem (hin _ hc)
   refine Ev.step (fun k => by rw [spec_l02Splice.l2]) ?_
   refine Ev.pos (by omega) (Ev.pos (by omega) (Ev.bind (spec_at ls sr sn (O.getD i 0) hls.1) ?_))
   refine Ev.pos (by omega) (Ev.pos (by omega) (Ev.use (spec_own _ _ _ _ _ (hls.2 _ hm)) (Ev.pos (by omega) ?_)))
   have e0 : rd T (i : Int) = lk O T (nd ls (O.getD i 0)).f0 := by rw [h0]; exact hTi i hi
   rw [e0]
   refine set_loop (nd ls (O.getD i 0)).f4 (lk O T) _ (fun k j row => spec_l02Splice.l3 k O T O i j sr sn ls root N o (lk O T (nd ls (O.getD i 0)).f0) (nd ls (O.getD i 0)).f1 (nd ls (O.getD i 0)).f2 (nd ls (O.getD i 0)).f3 row) ?_ ?_
   ·intro j row hj hrl hrj hr2
    have hd : (nd ls (O.getD i 0)).f4.getD j 0 ∈ O := hk _ hm _ (getD_mem _ 0 j hj)
    obtain ⟨q, hq, eq_, et_⟩ := idx_of hTl.symm hd
    have hk4 := hls.2 _ hm
    have hi2 := spec_index O (rd row (j : Int)) (by omega)
    rw [show rd row (j : Int) = (nd ls (O.getD i 0)).f4.getD j 0 from hrj, eq_] at hi2
    refine Ev.step (fun k => by rw [spec_l02Splice.l3]) ?_
    rw [show rd row (j : Int) = (nd ls (O.getD i 0)).f4.getD j 0 from hrj]
    refine Ev.pos (by omega) (Ev.pos (by omega) (Ev.bind hi2 (Ev.pos (by omega) (Ev.pos (by omega) ?_))))
    simp only [wrap_suc j (by omega)]
    rw [← et_] at hr2
    exact hr2
   ·refine Ev.step (fun k => by rw [spec_l02Splice.l3]) ?_
    refine Ev.neg (by rw [List.length_map]; omega) (Ev.bind (spec_put o (rn (lk O T) (nd ls (O.getD i 0))) (by omega)) ?_)
    simp only [wrap_suc i (by omega)]
    exact hr _ (by rw [(putN_perm _ _).length_eq, List.length_cons]; omega)
  ·intro o ho
   refine Ev.step (fun k => by rw [spec_l02Splice.l2]) ?_
   exact Ev.neg (by omega) (Ev.now _)
 have s2 : ∀ F : List S43, F.length ≤ 1000 → Ev (fun k => spec_l02Splice.l1 k B ([] : List Int) ([] : List Int) O 0 sr sn ls root next F) (root, N, (O.map (fun c => rn (lk O T) (nd ls c))).foldl putN F) := fun F hF => by
  refine list_loop O 0 (fun i (s : List Int × List Int × Int) => s.1 = O.take i ∧ s.2.1.length = i ∧ s.2.1 ++ toL B (O.drop i) s.2.2 = T ∧ nxL B (O.drop i) s.2.2 = N ∧ (0 ≤ s.2.2 ∧ s.2.2 ≤ next + i)) (fun _ _ => (root, N, (O.map (fun c => rn (lk O T) (nd ls c))).foldl putN F)) (fun k i s => spec_l02Splice.l1 k B s.1 s.2.1 O i sr sn ls root s.2.2 F) ?_ ?_ ([], [], next) ⟨by simp, rfl, by rw [List.nil_append, List.drop_zero, hT], by rw [List.drop_zero, hN], hn.1, by show next ≤ next + ((0 : Nat) : Int); omega⟩
  ·rintro i ⟨f, t, nx⟩ hi ⟨h1, h2, h3, h4, h5⟩ hr
   have h1 : f = O.take i := h1
   have h2 : t.length = i := h2
   have h3 : t ++ toL B (O.drop i) nx = T := h3
   have h4 : nxL B (O.drop i) nx = N := h4
   have h5 : 0 ≤ nx ∧ nx ≤ next + i := h5
   have hf : f.length = i := by rw [h1, List.length_take]; omega
   have e := drop_getD O 0 i hi
   have e2 : O.take (i + 1) = O.take i ++ [O.getD i 0] := by
    rw [List.take_add_one, List.getD_eq_getElem?_getD, List.getElem?_eq_getElem hi]
    rfl
   rw [e] at h3 h4
   unfold toL at h3
   unfold nxL at h4
   refine Ev.step (fun k => by rw [spec_l02Splice.l1]) ?_
   refine Ev.pos (by omega) (Ev.pos (by omega) (Ev.pos (by show f.length < _; omega) (Ev.use rfl (Ev.bind (spec_has B (O.getD i 0) (by omega)) ?_))))
   simp only [wrap_suc i (by omega)]
   by_cases c : O.getD i 0 ∈ B
   ·rw [if_pos c] at h3 h4
    refine Ev.pos (decide_eq_true c) (Ev.pos (by show t.length < _; omega) ?_)
    exact hr (f ++ [O.getD i 0], t ++ [O.getD i 0], nx) ⟨by rw [e2, h1], by simp [h2], by rw [List.append_assoc]; exact h3, h4, (show 0 ≤ nx ∧ nx ≤ next + ((i + 1 : Nat) : Int) by omega)⟩
   ·rw [if_neg c] at h3 h4
    refine Ev.neg (ndec c) (Ev.pos (by show t.length < _; omega) ?_)
    have hw : wrap64 (nx + 1) = nx + 1 := wrap_id _ (by omega) (by omega)
    simp only [hw]
    exact hr (f ++ [O.getD i 0], t ++ [nx], nx + 1) ⟨by rw [e2, h1], by simp [h2], by rw [List.append_assoc]; exact h3, h4, (show 0 ≤ nx + 1 ∧ nx + 1 ≤ next + ((i + 1 : Nat) : Int) by omega)⟩
  ·rintro ⟨f, t, nx⟩ ⟨h1, h2, h3, h4, h5⟩
   have g1 : f = O := by rw [← List.take_length (l := O)]; exact h1
   have g3 : t ++ toL B (O.drop O.length) nx = T := h3
   have g4 : nxL B (O.drop O.length) nx = N := h4
   rw [List.drop_length] at g3 g4
   have g3 : t = T := by rw [← g3]; simp [toL]
   have g4 : nx = N := g4
   show Ev (fun k => spec_l02Splice.l1 k B f t O (O.length : Int) sr sn ls root nx F) _
   rw [g1, g3, g4]
   refine Ev.step (fun k => by rw [spec_l02Splice.l1]) ?_
   exact Ev.neg (by omega) (s3 F hF)
 refine Ev.bind hBe ?_
 refine list_loop l z43 (fun i (o : List S43) => o.length ≤ i ∧ o ++ keepF B (l.drop i) = keepF B l) (fun _ _ => (root, N, (O.map (fun c => rn (lk O T) (nd ls c))).foldl putN (keepF B l))) (fun k i o => spec_l02Splice.l0 k B i root next l sr sn ls root next o) ?_ ?_ [] ⟨Nat.le_refl _, rfl⟩
 ·intro i o hi ⟨ho1, ho2⟩ hr
  have hx := hl.2 _ (getD_mem l z43 i hi)
  rw [drop_getD l z43 i hi] at ho2
  unfold keepF at ho2
  rw [List.filter_cons] at ho2
  refine Ev.step (fun k => by rw [spec_l02Splice.l0]) ?_
  refine Ev.pos (by omega) (Ev.pos (by omega) (Ev.bind (spec_has B _ (by omega)) ?_))
  simp only [wrap_suc i (by omega)]
  by_cases c : (l.getD i z43).f0 ∈ B
  ·rw [decide_eq_true c] at ho2
   exact Ev.pos (decide_eq_true c) (hr o ⟨by omega, ho2⟩)
  ·rw [decide_eq_false c] at ho2
   refine Ev.neg (ndec c) (Ev.use (spec_own _ _ _ _ _ hx) (Ev.pos (by omega) ?_))
   exact hr (o ++ [l.getD i z43]) ⟨by simp only [List.length_append, List.length_singleton]; omega, by rw [List.append_assoc]; exact ho2⟩
 ·intro o ⟨ho1, ho2⟩
  rw [List.drop_length] at ho2
  have ho2 : o = keepF B l := by rw [← ho2]; simp [keepF]
  refine Ev.step (fun k => by rw [spec_l02Splice.l0]) ?_
  rw [← ho2]
  exact Ev.neg (by omega) (Ev.bind hOe (s2 o (by omega)))
end Go.Proofs.Ytpdhccdmbdbdpaa.Pure
namespace Go.Proofs.Ytpdhccdmbdbdpaa.Pure
set_option linter.unusedVariables false
set_option linter.unusedSimpArgs false
open Go.RowKit Go.Proofs.Ytpdhccdmbdbdpaa.XA Go.Proofs.Ytpdhccdmbdbdpaa.Pk Go.Proofs.YtpdhccdmbdbdpaaW.PrintWords Go.Proofs.YtpdhccdmbdbdpaaW.PrintLast Go.Proofs.YtpdhccdmbdbdpaaW.PrintMore
theorem perm_nodup {A B : List Int} (hA : A.Nodup) (hB : B.Nodup) (h : ∀ a, a ∈ A ↔ a ∈ B) : A.Perm B := by
 rw [List.perm_iff_count]
 intro a
 have h1 := List.nodup_iff_count.1 hA a
 have h2 := List.nodup_iff_count.1 hB a
 have h3 : 0 < A.count a ↔ a ∈ A := List.count_pos_iff
 have h4 : 0 < B.count a ↔ a ∈ B := List.count_pos_iff
 have h5 := h a
 by_cases c : a ∈ A
 ·have := h3.2 c
  have := h4.2 (h5.1 c)
  omega
 ·have : ¬ 0 < A.count a := fun g => c (h3.1 g)
  have : ¬ 0 < B.count a := fun g => c (h5.2 (h4.1 g))
  omega
def spl (B O T : List Int) (l ls : List S43) : List S43 := (keepF B l ++ ls.map (rn (lk O T))).mergeSort byId
structure Spl (root next N : Int) (l ls : List S43) (B O T : List Int) : Prop where
 put : (O.map (fun c => rn (lk O T) (nd ls c))).foldl putN (keepF B l) = spl B O T l ls
 once : ((keepF B l ++ ls.map (rn (lk O T))).map (fun x => x.f0)).Nodup
 pos : ∀ x ∈ keepF B l ++ ls.map (rn (lk O T)), 1 ≤ x.f0 ∧ x.f0 ≤ 999999
 loc : Loc N (spl B O T l ls)
 clo : Clo (spl B O T l ls)
 rin : root ∈ ids (spl B O T l ls)
 len : (spl B O T l ls).length + B.length = l.length + ls.length
theorem mem_keep {B : List Int} {l : List S43} {x : S43} : x ∈ keepF B l ↔ x ∈ l ∧ x.f0 ∉ B := by
 unfold keepF
 rw [List.mem_filter]
 constructor
 ·intro h
  exact ⟨h.1, fun g => by have := h.2; rw [decide_eq_true g] at this; cases this⟩
 ·intro h
  exact ⟨h.1, by rw [decide_eq_false h.2]; rfl⟩
theorem spl_of {root next sr sn : Int} {l ls : List S43} (D : Doc1 root next l) (E : Doc1 sr sn ls) (hs : sr ∈ ids l) (hnx : next + ls.length ≤ 999999) {n : Nat} (hd : dp l n sr ≤ n) (hBn : (ordF l n sr).Nodup) :
  Spl root next (nxL (ordF l n sr) (ordF ls 6 sr) next) l ls (ordF l n sr) (ordF ls 6 sr) (toL (ordF l n sr) (ordF ls 6 sr) next) := by
 have hsB : sr ∈ ordF l n sr := by
  cases n with
  | zero => have := (dp_bound l 0 sr).1; omega
  | succ n => rw [ordF]; exact List.mem_cons_self
 have hsO : sr ∈ ordF ls 6 sr := by rw [ordF]; exact List.mem_cons_self
 have hBi : ∀ b ∈ ordF l n sr, b ∈ ids l := ordF_ids D.clo hs
 have hOi : ∀ c ∈ ordF ls 6 sr, c ∈ ids ls := ordF_ids E.clo E.rin
 have hOn := E.ord_nodup 6
 have hOl := E.all
 have hiO : ∀ c ∈ ids ls, c ∈ ordF ls 6 sr := nodup_all hOn hOi (by rw [hOl]; simp [ids])
 have hpar := below_par D.clo n sr
 obtain ⟨B, hB⟩ : ∃ B, B = ordF l n sr := ⟨_, rfl⟩
 obtain ⟨O, hO⟩ : ∃ O, O = ordF ls 6 sr := ⟨_, rfl⟩
 rw [← hB] at hsB hBi hBn
 rw [← hO] at hsO hOi hOn hOl hiO
 have hpar : ∀ c, c ∈ B → c ≠ sr → ∃ x, x ∈ l ∧ c ∈ x.f4 ∧ x.f0 ∈ B := fun c hc hne => by rw [hB] at hc ⊢; exact hpar c hs hc hne
 rw [← hB, ← hO]
 have hBp : ∀ b ∈ B, 1 ≤ b ∧ b ≤ next - 1 := fun b hb => D.pos (hBi b hb)
 have hTl : (toL B O next).length = O.length := toL_len B O next
 have hTm : O.map (lk O (toL B O next)) = toL B O next := lk_map O _ hOn hTl.symm
 have hTr := toL_range B O next
 have hTn := toL_nodup B O next (fun b hb => by have := hBp b hb; omega) hOn
 have hN := nxL_le B O next
 have hkp : lk O (toL B O next) sr = sr := lk_keep B O next sr hsO hsB
 have hlin : ∀ c ∈ O, lk O (toL B O next) c ∈ toL B O next := fun c hc => lk_in O _ c hTl.symm hc
 obtain ⟨T, hT⟩ : ∃ T, T = toL B O next := ⟨_, rfl⟩
 obtain ⟨N, hNe⟩ : ∃ N, N = nxL B O next := ⟨_, rfl⟩
 rw [← hT] at hTl hTm hTr hTn hkp hlin
 rw [← hNe] at hN hTr
 rw [← hT, ← hNe]
 have hnxp := D.loc.nx
 have hTp : ∀ t ∈ T, 1 ≤ t ∧ t ≤ N - 1 := fun t ht => by
  rcases hTr t ht with g | g
  ·have := hBp t g.1
   omega
  ·omega
 have hgO : ∀ y ∈ ls, lk O T y.f0 ∈ T := fun y hy => hlin _ (hiO _ (List.mem_map_of_mem hy))
 have hXY : (O.map (fun c => rn (lk O T) (nd ls c))).Perm (ls.map (rn (lk O T))) := by
  have h1 : O.Perm (ids ls) := perm_nodup hOn E.ids_nodup (fun a => ⟨hOi a, hiO a⟩)
  have h2 := h1.map (fun c => rn (lk O T) (nd ls c))
  have h3 : (ids ls).map (fun c => rn (lk O T) (nd ls c)) = ls.map (rn (lk O T)) := by
   unfold ids
   rw [List.map_map]
   exact List.map_congr_left (fun x hx => by show rn (lk O T) (nd ls x.f0) = _; rw [E.kd_of hx])
  rwa [h3] at h2
 have hX0 : (O.map (fun c => rn (lk O T) (nd ls c))).map (fun x => x.f0) = T := by
  have h3 : (O.map (fun c => rn (lk O T) (nd ls c))).map (fun x => x.f0) = O.map (lk O T) := by
   rw [List.map_map]
   refine List.map_congr_left (fun c hc => ?_)
   obtain ⟨_, _, _, _, h0, _⟩ := nd_mem (hOi c hc)
   show lk O T (nd ls c).f0 = lk O T c
   rw [h0]
  exact h3.trans hTm
 have hnX : ((keepF B l ++ O.map (fun c => rn (lk O T) (nd ls c))).map (fun x => x.f0)).Nodup := by
  rw [List.map_append, hX0, List.nodup_append]
  refine ⟨(D.ids_nodup).sublist ((List.filter_sublist).map _), hTn, fun a ha t ht e => ?_⟩
  obtain ⟨x, hx, rfl⟩ := List.mem_map.1 ha
  obtain ⟨hx1, hx2⟩ := mem_keep.1 hx
  have hp := D.pos (List.mem_map_of_mem hx1)
  rcases hTr t ht with g | g
  ·exact hx2 (e ▸ g.1)
  ·have : x.f0 = t := e
   omega
 have hput : (O.map (fun c => rn (lk O T) (nd ls c))).foldl putN (keepF B l) = spl B O T l ls := put_sort _ _ _ (D.riseL.filter _) hXY hnX
 have hmem : ∀ x, x ∈ spl B O T l ls ↔ x ∈ keepF B l ∨ ∃ y, y ∈ ls ∧ rn (lk O T) y = x := fun x => by
  unfold spl
  rw [(List.mergeSort_perm _ _).mem_iff, List.mem_append, List.mem_map]
 have hall : ∀ x ∈ spl B O T l ls, (1 ≤ x.f0 ∧ x.f0 ≤ N - 1) ∧ (1 ≤ x.f1 ∧ x.f1 ≤ 8) ∧ (0 ≤ x.f2 ∧ x.f2 ≤ 99) ∧ x.f3.size ≤ 20 ∧ x.f4.length ≤ 12 := fun x hx => by
  rcases (hmem x).1 hx with g | ⟨y, hy, rfl⟩
  ·have g := (mem_keep.1 g).1
   have := D.loc.id x g
   exact ⟨by omega, D.loc.kind x g, D.loc.attr x g, D.loc.text x g, D.loc.kids x g⟩
  ·exact ⟨hTp _ (hgO y hy), E.loc.kind y hy, E.loc.attr y hy, E.loc.text y hy, by show (y.f4.map _).length ≤ 12; rw [List.length_map]; exact E.loc.kids y hy⟩
 have hsS : sr ∈ ids (spl B O T l ls) := by
  obtain ⟨_, _, _, hm, h0, _⟩ := nd_mem E.rin
  exact List.mem_map.2 ⟨rn (lk O T) (nd ls sr), (hmem _).2 (.inr ⟨_, hm, rfl⟩), by show lk O T (nd ls sr).f0 = sr; rw [h0]; exact hkp⟩
 have hkS : ∀ c ∈ ids l, c ∉ B → c ∈ ids (spl B O T l ls) := fun c hc hb => by
  obtain ⟨y, hy, rfl⟩ := List.mem_map.1 hc
  exact List.mem_map.2 ⟨y, (hmem y).2 (.inl (mem_keep.2 ⟨hy, hb⟩)), rfl⟩
 have hlenS : (spl B O T l ls).length = (keepF B l).length + ls.length := by
  unfold spl
  rw [List.length_mergeSort, List.length_append, List.length_map]
 refine ⟨hput, ((hXY.append_left (keepF B l)).map _).nodup_iff.1 hnX, fun x hx => ?_, ⟨by omega, fun x hx => (hall x hx).1, fun x hx => (hall x hx).2.1, fun x hx => (hall x hx).2.2.1, fun x hx => (hall x hx).2.2.2.1, fun x hx => (hall x hx).2.2.2.2, fun i j hij hj => ?_⟩, fun x hx c hc => ?_, ?_, ?_⟩
 ·have := (hall x ((List.mergeSort_perm _ _).mem_iff.2 hx)).1
  omega
 ·have hr := putA_rise _ _ (D.riseL.filter (fun x => !decide (x.f0 ∈ B))) hnX
  have hr : (spl B O T l ls).Pairwise (fun a b => a.f0 < b.f0) := by rw [← hput]; exact hr
  have := List.pairwise_iff_getElem.1 hr i j (by omega) hj hij
  rw [List.getD_eq_getElem?_getD, List.getElem?_eq_getElem (by omega), List.getD_eq_getElem?_getD, List.getElem?_eq_getElem hj]
  exact this
 ·rcases (hmem x).1 hx with g | ⟨y, hy, rfl⟩
  ·obtain ⟨g1, g2⟩ := mem_keep.1 g
   by_cases hb : c ∈ B
   ·by_cases e : c = sr
    ·rw [e]; exact hsS
    ·obtain ⟨y, hy, hcy, hyB⟩ := hpar c hb e
     have e1 := par_of D.once g1 hc
     have e2 := par_of D.once hy hcy
     rw [e1] at e2
     exact absurd (e2 ▸ hyB) g2
   ·exact hkS c (D.clo x g1 c hc) hb
  ·obtain ⟨d, hdm, rfl⟩ := List.mem_map.1 (show c ∈ y.f4.map (lk O T) from hc)
   obtain ⟨z, hz, rfl⟩ := List.mem_map.1 (E.clo y hy d hdm)
   exact List.mem_map.2 ⟨rn (lk O T) z, (hmem _).2 (.inr ⟨z, hz, rfl⟩), rfl⟩
 ·by_cases hb : root ∈ B
  ·by_cases e : root = sr
   ·rw [e]; exact hsS
   ·obtain ⟨y, hy, hcy, hyB⟩ := hpar root hb e
    exact absurd (List.mem_flatMap.2 ⟨y, hy, hcy⟩) D.free
  ·exact hkS root D.rin hb
 ·have := D.keep_len hBn hBi
  omega
theorem Spl.sm {root next N : Int} {l ls : List S43} {B O T : List Int} (h : Spl root next N l ls B O T) (hl : l.length ≤ 40) (hls : ls.length ≤ 40) : docSm (spl B O T l ls) := by
 have := h.len
 exact ⟨by omega, fun x hx => by have := h.loc.kids x hx; omega⟩
theorem Spl.i {root next N : Int} {l ls : List S43} {B O T : List Int} (h : Spl root next N l ls B O T) : docI (spl B O T l ls) := fun x hx => by
 have hn := h.loc.nx
 have h1 := h.loc.id x hx
 refine ⟨by unfold i64; omega, fun c hc => ?_⟩
 obtain ⟨y, hy, rfl⟩ := List.mem_map.1 (h.clo x hx c hc)
 have := h.loc.id y hy
 unfold i64
 omega
end Go.Proofs.Ytpdhccdmbdbdpaa.Pure
namespace Go.Proofs.Ytpdhccdmbdbdpaa.Pure
set_option linter.unusedVariables false
set_option linter.unusedSimpArgs false
open Go.RowKit Go.Proofs.Ytpdhccdmbdbdpaa.XA Go.Proofs.Ytpdhccdmbdbdpaa.Pk Go.Proofs.YtpdhccdmbdbdpaaW.PrintWords Go.Proofs.YtpdhccdmbdbdpaaW.PrintLast Go.Proofs.YtpdhccdmbdbdpaaW.PrintMore
theorem impl_index (l : List Int) (v : Int) (h : l.length ≤ 1048576) : Ev (fun k => slices_Index_int_int.f k l v) (findN l.length (fun i => decide (l.getD i 0 = v))) := by
 refine find_loop l.length _ (fun k i => slices_Index_int_int.l0 k l v l.length i) ?_ ?_ ?_
 ·intro i q hi hp hq
  refine Ev.step (fun k => by rw [slices_Index_int_int.l0]) ?_
  refine Ev.pos (by omega) (Ev.pos (by omega) (Ev.pos (by omega) (Ev.neg (fun e => of_decide_eq_false hp e.symm) ?_)))
  simp only [wrap_suc i (by omega)]
  exact hq
 ·intro i hi hp
  refine Ev.step (fun k => by rw [slices_Index_int_int.l0]) ?_
  exact Ev.pos (by omega) (Ev.pos (by omega) (Ev.pos (by omega) (Ev.pos (of_decide_eq_true hp).symm (Ev.now _))))
 ·refine Ev.step (fun k => by rw [slices_Index_int_int.l0]) ?_
  exact Ev.neg (by omega) (Ev.now _)
theorem impl_contains (l : List Int) (v : Int) (h : l.length ≤ 1048576) : Ev (fun k => slices_Contains_int_int.f k l v) (decide (v ∈ l)) := by
 refine Ev.bind (impl_index l v h) ?_
 rcases findN_spec l.length (fun i => decide (l.getD i 0 = v)) with ⟨h1, h2⟩ | ⟨i, hi, h1, h2, _⟩
 ·rw [h1, decide_eq_false (fun hm : v ∈ l => by
   obtain ⟨i, hi, e⟩ := List.getElem_of_mem hm
   have := of_decide_eq_false (h2 i hi)
   rw [List.getD_eq_getElem?_getD, List.getElem?_eq_getElem hi] at this
   exact this e)]
  exact Ev.now _
 ·rw [h1, decide_eq_true (show v ∈ l from of_decide_eq_true h2 ▸ getD_mem l 0 i hi)]
  exact Ev.const (by rw [decide_eq_true (by omega : (i : Int) ≥ 0)])
end Go.Proofs.Ytpdhccdmbdbdpaa.Pure
namespace Go.Proofs.Ytpdhccdmbdbdpaa.Pure
set_option linter.unusedVariables false
set_option linter.unusedSimpArgs false
open Go.RowKit Go.Proofs.Ytpdhccdmbdbdpaa.XA Go.Proofs.Ytpdhccdmbdbdpaa.Pk Go.Proofs.YtpdhccdmbdbdpaaW.PrintWords Go.Proofs.YtpdhccdmbdbdpaaW.PrintLast Go.Proofs.YtpdhccdmbdbdpaaW.PrintMore
theorem impl_spliceF {root next sr sn N : Int} {l ls : List S43} (hl : docSm l) (hls : docSm ls) (hl0 : l.length ≤ 40) (hls0 : ls.length ≤ 40) (B O T : List Int) (hB : B.length ≤ 1000) (hO : O.length ≤ 1000) (hn : 0 ≤ next ∧ next ≤ 999999) (hnd : O.Nodup)
  (hT : T = toL B O next) (hN : N = nxL B O next) (P : Spl root next N l ls B O T) (V : Int × Int × List S43 × Int)
  (hV : V = if dp (spl B O T l ls) 6 root > 6 then (0, 0, [], 11) else (root, N, spl B O T l ls, 0)) :
  Ev (fun k => impl_splice.l0 k B O O.length 0 root next l sr sn ls root next ([] : List (Int × Int))) V := by
 have hl' := hl.1
 have hls' := hls.1
 obtain ⟨M, hM⟩ : ∃ M, M = mkM B O next [] := ⟨_, rfl⟩
 have hg : (fun c => XM.get 0 M c) = lk O T := by
  funext c
  have := mkM_get B O next [] [] [] rfl (by simpa using hnd) (fun c => by simp [XM.get, lk]) c
  rw [List.nil_append, List.nil_append] at this
  rw [hM, hT]
  exact this
 have hgc : ∀ c, XM.get 0 M c = lk O T c := fun c => congrFun hg c
 have s2 : Ev (fun k => impl_splice.l2 k ls ls.length 0 root N (keepF B l) M) V := by
  have hkl : (keepF B l).length ≤ 40 := Nat.le_trans (List.length_filter_le _ _) hl0
  refine list_loop ls z43 (fun i (o : List S43) => o.length ≤ 40 + i ∧ o ++ (ls.drop i).map (rn (lk O T)) = keepF B l ++ ls.map (rn (lk O T))) (fun _ _ => V) (fun k i o => impl_splice.l2 k ls ls.length i root N o M) ?_ ?_ (keepF B l) ⟨by omega, by rw [List.drop_zero]⟩
  ·intro i o hi ⟨ho1, ho2⟩ hr
   have hx := hls.2 _ (getD_mem ls z43 i hi)
   rw [drop_getD ls z43 i hi, List.map_cons] at ho2
   refine Ev.step (fun k => by rw [impl_splice.l2]) ?_
   refine Ev.pos (by omega) (Ev.pos (by omega) (Ev.pos (by omega) (Ev.use (impl_copied _ _ _ _ _ hx) ?_)))
   refine set_loop (ls.getD i z43).f4 (lk O T) V (fun k j row => impl_splice.l3 k ls ls.length i (ls.getD i z43).f4.length j root N o M (XM.get (0 : Int) M (ls.getD i z43).f0) (ls.getD i z43).f1 (ls.getD i z43).f2 (ls.getD i z43).f3 row) ?_ ?_
   ·intro j row hj hrl hrj hr2
    refine Ev.step (fun k => by rw [impl_splice.l3]) ?_
    rw [show rd row (j : Int) = (ls.getD i z43).f4.getD j 0 from hrj, hgc ((ls.getD i z43).f4.getD j 0)]
    refine Ev.pos (by omega) (Ev.pos (by omega) (Ev.pos (by omega) ?_))
    simp only [wrap_suc j (by omega)]
    exact hr2
   ·refine Ev.step (fun k => by rw [impl_splice.l3]) ?_
    rw [hgc (ls.getD i z43).f0]
    refine Ev.neg (by omega) (Ev.pos (by omega) ?_)
    simp only [wrap_suc i (by omega)]
    exact hr (o ++ [rn (lk O T) (ls.getD i z43)]) ⟨by simp only [List.length_append, List.length_singleton]; omega, by rw [List.append_assoc]; exact ho2⟩
  ·intro o ⟨ho1, ho2⟩
   rw [List.drop_length, List.map_nil, List.append_nil] at ho2
   have hs : impl_Doc_sort.f root N o = some (spl B O T l ls) := by
    rw [ho2]
    unfold impl_Doc_sort.f
    rw [if_pos ⟨by rw [← ho2]; omega, fun x hx => by have := P.pos x hx; omega, P.once⟩]
    rfl
   refine Ev.step (fun k => by rw [impl_splice.l2]) ?_
   refine Ev.neg (by omega) (Ev.use hs (Ev.bind (impl_deep root (P.sm hl0 hls0) P.loc P.i P.clo P.rin) ?_))
   rw [hV]
   by_cases c : dp (spl B O T l ls) 6 root > 6
   ·rw [if_pos c]
    exact Ev.pos (decide_eq_true c) (Ev.now _)
   ·rw [if_neg c]
    exact Ev.neg (ndec c) (Ev.now _)
 have s1 : Ev (fun k => impl_splice.l1 k B l l.length 0 sr sn ls root N ([] : List S43) M) V := by
  refine list_loop l z43 (fun i (o : List S43) => o.length ≤ i ∧ o ++ keepF B (l.drop i) = keepF B l) (fun _ _ => V) (fun k i o => impl_splice.l1 k B l l.length i sr sn ls root N o M) ?_ ?_ [] ⟨Nat.le_refl _, rfl⟩
  ·intro i o hi ⟨ho1, ho2⟩ hr
   have hx := hl.2 _ (getD_mem l z43 i hi)
   rw [drop_getD l z43 i hi] at ho2
   unfold keepF at ho2
   rw [List.filter_cons] at ho2
   refine Ev.step (fun k => by rw [impl_splice.l1]) ?_
   refine Ev.pos (by omega) (Ev.pos (by omega) (Ev.pos (by omega) (Ev.bind (impl_contains B _ (by omega)) ?_)))
   simp only [wrap_suc i (by omega)]
   by_cases c : (l.getD i z43).f0 ∈ B
   ·rw [decide_eq_true c] at ho2
    exact Ev.pos (decide_eq_true c) (hr o ⟨by omega, ho2⟩)
   ·rw [decide_eq_false c] at ho2
    refine Ev.neg (ndec c) (Ev.use (impl_copied _ _ _ _ _ hx) (Ev.pos (by omega) ?_))
    exact hr (o ++ [l.getD i z43]) ⟨by simp only [List.length_append, List.length_singleton]; omega, by rw [List.append_assoc]; exact ho2⟩
  ·intro o ⟨ho1, ho2⟩
   rw [List.drop_length] at ho2
   have ho2 : o = keepF B l := by rw [← ho2]; simp [keepF]
   refine Ev.step (fun k => by rw [impl_splice.l1]) ?_
   rw [ho2]
   exact Ev.neg (by omega) s2
 refine list_loop O 0 (fun i (s : Int × List (Int × Int)) => nxL B (O.drop i) s.1 = N ∧ mkM B (O.drop i) s.1 s.2 = M ∧ (0 ≤ s.1 ∧ s.1 ≤ next + i)) (fun _ _ => V) (fun k i s => impl_splice.l0 k B O O.length i root next l sr sn ls root s.1 s.2) ?_ ?_ (next, []) ⟨by rw [List.drop_zero, hN], by rw [List.drop_zero, hM], hn.1, by show next ≤ next + ((0 : Nat) : Int); omega⟩
 ·rintro i ⟨nx, m⟩ hi ⟨h1, h2, h3⟩ hr
  have h1 : nxL B (O.drop i) nx = N := h1
  have h2 : mkM B (O.drop i) nx m = M := h2
  have h3 : 0 ≤ nx ∧ nx ≤ next + i := h3
  rw [drop_getD O 0 i hi] at h1 h2
  unfold nxL at h1
  unfold mkM at h2
  show Ev (fun k => impl_splice.l0 k B O O.length i root next l sr sn ls root nx m) V
  refine Ev.step (fun k => by rw [impl_splice.l0]) ?_
  refine Ev.pos (by omega) (Ev.pos (by omega) (Ev.pos (by omega) (Ev.bind (impl_contains B _ (by omega)) ?_)))
  simp only [wrap_suc i (by omega)]
  by_cases c : O.getD i 0 ∈ B
  ·rw [if_pos c] at h1 h2
   exact Ev.pos (decide_eq_true c) (hr (nx, XM.put m (O.getD i 0) (O.getD i 0)) ⟨h1, h2, (show 0 ≤ nx ∧ nx ≤ next + ((i + 1 : Nat) : Int) by omega)⟩)
  ·rw [if_neg c] at h1 h2
   have hw : wrap64 (nx + 1) = nx + 1 := wrap_id _ (by omega) (by omega)
   simp only [hw]
   exact Ev.neg (ndec c) (hr (nx + 1, XM.put (XM.put m (O.getD i 0) (O.getD i 0)) (O.getD i 0) nx) ⟨h1, h2, (show 0 ≤ nx + 1 ∧ nx + 1 ≤ next + ((i + 1 : Nat) : Int) by omega)⟩)
 ·rintro ⟨nx, m⟩ ⟨h1, h2, h3⟩
  have g1 : nxL B (O.drop O.length) nx = N := h1
  have g2 : mkM B (O.drop O.length) nx m = M := h2
  rw [List.drop_length] at g1 g2
  have g1 : nx = N := g1
  have g2 : m = M := g2
  show Ev (fun k => impl_splice.l0 k B O O.length O.length root next l sr sn ls root nx m) V
  rw [g1, g2]
  refine Ev.step (fun k => by rw [impl_splice.l0]) ?_
  exact Ev.neg (by omega) s1
end Go.Proofs.Ytpdhccdmbdbdpaa.Pure
namespace Go.Proofs.Ytpdhccdmbdbdpaa.Pure
set_option linter.unusedVariables false
open Go.RowKit Go.Proofs.Ytpdhccdmbdbdpaa.XA Go.Proofs.Ytpdhccdmbdbdpaa.Pk Go.Proofs.YtpdhccdmbdbdpaaW.PrintWords
theorem sm_nil (a b : Int) : sm29 (⟨a, b, []⟩ : S29) := ⟨trivial, trivial, Nat.zero_le _, fun y hy => by cases hy⟩
theorem splice_both {root next sr sn : Int} {l ls : List S43} (hl : docSm l) (hI : docI l) (hr : i64 root) (hls : docSm ls) (hIs : docI ls) (hsr : i64 sr) :
  ∃ (r0 r1 : Int) (r2 : List S43) (r3 : Int), sm29 (⟨r0, r1, r2⟩ : S29) ∧ Ev (fun k => spec_SpliceSub.f k root next l sr sn ls) (r0, r1, r2, r3) ∧ Ev (fun k => impl_SpliceSub.f k root next l sr sn ls) (r0, r1, r2, r3) := by
 have a1 := spec_ok (root := root) (next := next) hl
 have a2 := impl_doc (root := root) (next := next) hl hI hr
 have b1 := spec_ok (root := sr) (next := sn) hls
 have b2 := impl_doc (root := sr) (next := sn) hls hIs hsr
 by_cases h : docB root next l = true
 ·by_cases h2 : docB sr sn ls = true
  ·have D := doc1_of h
   have E := doc1_of h2
   have hD4 := D.len
   have hE4 := E.len
   have hnx := D.loc.nx
   have hw : wrap64 (next + (ls.length : Int)) = next + (ls.length : Int) := wrap_id _ (by omega) (by omega)
   have c1 := spec_at l root next sr hl.1
   have c2 := impl_has hl D.loc root next sr hsr
   by_cases hs : sr ∈ ids l
   ·have hat : ¬ atF l sr < 0 := fun g => (at_neg l sr).1 g hs
    by_cases hrg : next + (ls.length : Int) > 999999
    ·refine ⟨0, 0, [], 4, sm_nil _ _, Ev.bind a1 (Ev.pos h (Ev.bind b1 ?_)), Ev.bind a2 (Ev.pos h (Ev.bind b2 (Ev.pos h2 ?_)))⟩
     ·refine Ev.step (fun k => by rw [spec_SpliceSub.j0]) ?_
      rw [hw]
      exact Ev.neg (by rw [h2]; decide) (Ev.bind c1 (Ev.neg hat (Ev.pos hrg (Ev.now _))))
     ·refine Ev.bind (a := (0, 0, [], 4)) ?_ (Ev.now _)
      refine Ev.bind c2 (Ev.pos (decide_eq_true hs) ?_)
      rw [hw]
      exact Ev.pos hrg (Ev.now _)
    ·obtain ⟨n, hn, hp, hlen, hBn⟩ := D.at6n hs
     have h13 : 13 ^ n ≤ 13 ^ 6 := Nat.pow_le_pow_right (by omega) hn
     have h136 : 13 ^ 6 = 4826809 := rfl
     have s1 := spec_order root next hl (fun x hx => (D.loc.kids x hx)) D.clo n sr hs hp (by omega)
     have s2 := impl_order root hl D.loc hI D.clo n sr hs hp [] (by simp only [List.length_nil]; omega)
     have t1 := spec_order sr sn hls (fun x hx => (E.loc.kids x hx)) E.clo 6 sr E.rin E.deep (by omega)
     have t2 := impl_order sr hls E.loc hIs E.clo 6 sr E.rin E.deep [] (by simp only [List.length_nil]; omega)
     rw [List.nil_append] at s2 t2
     have P := spl_of D E hs (by omega) hp hBn
     have hOl := E.all
     have hOi : ∀ c ∈ ordF ls 6 sr, c ∈ ids ls := ordF_ids E.clo E.rin
     have hOn := E.ord_nodup 6
     have hiO : ∀ c ∈ ids ls, c ∈ ordF ls 6 sr := nodup_all hOn hOi (by rw [hOl]; simp [ids])
     have u1 := spec_spliceF (root := root) (next := next) (sr := sr) (sn := sn) hl hls (ordF l n sr) (ordF ls 6 sr) (by omega) (by omega) (by omega) (by omega) hOn s1 t1 hOi (fun x hx c hc => hiO c (E.clo x hx c hc))
     rw [P.put] at u1
     obtain ⟨B, hB⟩ : ∃ B, B = ordF l n sr := ⟨_, rfl⟩
     obtain ⟨O, hO⟩ : ∃ O, O = ordF ls 6 sr := ⟨_, rfl⟩
     rw [← hB] at s1 s2 hlen hBn
     rw [← hO] at t1 t2 hOl hOn
     rw [← hB, ← hO] at P u1
     have hSl := P.len
     have hw2 : wrap64 (wrap64 ((l.length : Int) - (B.length : Int)) + (ls.length : Int)) = (l.length : Int) - (B.length : Int) + (ls.length : Int) := by
      rw [wrap_id ((l.length : Int) - (B.length : Int)) (by omega) (by omega)]
      exact wrap_id _ (by omega) (by omega)
     by_cases hf : ((spl B O (toL B O next) l ls).length : Int) > 40
     ·refine ⟨0, 0, [], 7, sm_nil _ _, Ev.bind a1 (Ev.pos h (Ev.bind b1 ?_)), Ev.bind a2 (Ev.pos h (Ev.bind b2 (Ev.pos h2 ?_)))⟩
      ·refine Ev.step (fun k => by rw [spec_SpliceSub.j0]) ?_
       rw [hw]
       exact Ev.neg (by rw [h2]; decide) (Ev.bind c1 (Ev.neg hat (Ev.neg hrg (Ev.bind u1 (Ev.pos hf (Ev.now _))))))
      ·refine Ev.bind (a := (0, 0, [], 7)) ?_ (Ev.now _)
       refine Ev.bind c2 (Ev.pos (decide_eq_true hs) ?_)
       rw [hw]
       refine Ev.neg hrg (Ev.bind s2 ?_)
       rw [hw2]
       exact Ev.pos (by omega) (Ev.now _)
     ·have dS := spec_deep root (nxL B O next) (P.sm (by omega) (by omega)) P.clo 6 (by omega) root P.rin
      have i1 := impl_spliceF (sr := sr) (sn := sn) hl hls (by omega) (by omega) B O (toL B O next) (by omega) (by omega) (by omega) hOn rfl rfl P _ rfl
      by_cases hd : dp (spl B O (toL B O next) l ls) 6 root > 6
      ·rw [if_pos hd] at i1
       refine ⟨0, 0, [], 11, sm_nil _ _, Ev.bind a1 (Ev.pos h (Ev.bind b1 ?_)), Ev.bind a2 (Ev.pos h (Ev.bind b2 (Ev.pos h2 ?_)))⟩
       ·refine Ev.step (fun k => by rw [spec_SpliceSub.j0]) ?_
        rw [hw]
        exact Ev.neg (by rw [h2]; decide) (Ev.bind c1 (Ev.neg hat (Ev.neg hrg (Ev.bind u1 (Ev.neg hf (Ev.bind dS (Ev.pos hd (Ev.now _))))))))
       ·refine Ev.bind (a := (0, 0, [], 11)) ?_ (Ev.now _)
        refine Ev.bind c2 (Ev.pos (decide_eq_true hs) ?_)
        rw [hw]
        refine Ev.neg hrg (Ev.bind s2 ?_)
        rw [hw2]
        exact Ev.neg (by omega) (Ev.bind t2 i1)
      ·rw [if_neg hd] at i1
       refine ⟨root, nxL B O next, spl B O (toL B O next) l ls, 0, ⟨trivial, trivial, (P.sm (by omega) (by omega)).1, fun y hy => ⟨trivial, trivial, trivial, by have := P.loc.text y hy; omega, by have := P.loc.kids y hy; omega⟩⟩, Ev.bind a1 (Ev.pos h (Ev.bind b1 ?_)), Ev.bind a2 (Ev.pos h (Ev.bind b2 (Ev.pos h2 ?_)))⟩
       ·refine Ev.step (fun k => by rw [spec_SpliceSub.j0]) ?_
        rw [hw]
        exact Ev.neg (by rw [h2]; decide) (Ev.bind c1 (Ev.neg hat (Ev.neg hrg (Ev.bind u1 (Ev.neg hf (Ev.bind dS (Ev.neg hd (Ev.now _))))))))
       ·refine Ev.bind (a := (root, nxL B O next, spl B O (toL B O next) l ls, 0)) ?_ (Ev.now _)
        refine Ev.bind c2 (Ev.pos (decide_eq_true hs) ?_)
        rw [hw]
        refine Ev.neg hrg (Ev.bind s2 ?_)
        rw [hw2]
        exact Ev.neg (by omega) (Ev.bind t2 i1)
   ·refine ⟨0, 0, [], 5, sm_nil _ _, Ev.bind a1 (Ev.pos h (Ev.bind b1 ?_)), Ev.bind a2 (Ev.pos h (Ev.bind b2 (Ev.pos h2 ?_)))⟩
    ·refine Ev.step (fun k => by rw [spec_SpliceSub.j0]) ?_
     exact Ev.neg (by rw [h2]; decide) (Ev.bind c1 (Ev.pos ((at_neg l sr).2 hs) (Ev.now _)))
    ·refine Ev.bind (a := (0, 0, [], 5)) ?_ (Ev.now _)
     exact Ev.bind c2 (Ev.neg (ndec hs) (Ev.now _))
  ·refine ⟨0, 0, [], 1, sm_nil _ _, Ev.bind a1 (Ev.pos h (Ev.bind b1 ?_)), Ev.bind a2 (Ev.pos h (Ev.bind b2 (Ev.neg h2 (Ev.now _))))⟩
   refine Ev.step (fun k => by rw [spec_SpliceSub.j0]) ?_
   exact Ev.pos (by rw [Bool.not_eq_true] at h2; rw [h2]; rfl) (Ev.now _)
 ·refine ⟨0, 0, [], 1, sm_nil _ _, Ev.bind a1 (Ev.neg h ?_), Ev.bind a2 (Ev.neg h (Ev.now _))⟩
  refine Ev.step (fun k => by rw [spec_SpliceSub.j0]) ?_
  exact Ev.pos rfl (Ev.now _)
theorem FnExactSpliceSub : laws_FnExactSpliceSub.Pure := core_FnExactSpliceSub (fun x0 x1 o0 o1 s0 s1 => splice_both (docSm_of _ s0) (docI_of _ o0) (i64_of o0.1) (docSm_of _ s1) (docI_of _ o1) (i64_of o1.1))
end Go.Proofs.Ytpdhccdmbdbdpaa.Pure
