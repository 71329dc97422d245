/- Small words for contracts of the program's functions: what is read beside rows that are written. Conditions: the theorems' own premises. -/
import Derived.Test.YthkbgbkglgmpoaaWWords
import Derived.Test.YthkbgbkglgmpoaaWKept
import Derived.Test.YthkbgbkglgmpoaaWMore
import Derived.Test.YthkbgbkglgmpoaaWLast
import Derived.Test.YthkbgbkglgmpoaaWTab
namespace Go.Proofs.Ythkbgbkglgmpoaa.XW
open Go.RowKit Go.Proofs.YthkbgbkglgmpoaaW.PrintWords Go.Proofs.YthkbgbkglgmpoaaW.PrintLast
set_option linter.unusedVariables false
set_option linter.unusedSimpArgs false
def bs (n m : Nat) : Array Bool := ((List.range n).map (fun i => m.testBit i)).toArray
theorem q0 (l : List Value) (d : List Deferred) (N : Nat) (v : Value) : Act.put ⟨l.toArray, d⟩ (some N) v = ⟨(l.set N v).toArray, d⟩ := by simp only [Act.put, List.setIfInBounds_toArray]
theorem q1 {α : Type} (a b : α) (l : List α) : (a :: l).set 0 b = b :: l := rfl
theorem q2 {α : Type} (a b : α) (l : List α) (n : Nat) : (a :: l).set (n + 1) b = a :: l.set n b := rfl
theorem i0 {a : Value} {l : List Value} : (a :: l).toArray[0]? = some a := rfl
theorem i1 {a b : Value} {l : List Value} : (a :: b :: l).toArray[1]? = some b := rfl
theorem i2 {a b c : Value} {l : List Value} : (a :: b :: c :: l).toArray[2]? = some c := rfl
theorem bN {B : Nat} {a w : World} (h : Below B a w) (n : Nat) : Below B a (w.drewN n) := pw_below_drewN h n
theorem bD {B : Nat} {a w : World} (h : Below B a w) : Below B a w.drew := below_drew1 h
section
variable {P Q : Prop}
theorem Xr (h : P := by first | rfl | (simp; done) | (simp [*]; done)) : P := h
theorem Xe (h : P := by first | rfl | (simp <;> rfl) | (simp [*] <;> rfl)) : P := h
theorem Xi (h : P := by repeat first | (with_reducible first | exact HB.out | apply below_alloc | apply XW.bN | apply XW.bD | refine below_set ?_ (Aside0.out (by assumption))) | exact HB.out) : P := h
theorem Xa (h : P := by first | (with_reducible assumption) | assumption) : P := h
theorem Xdr (h : P := by repeat (first | exact Drawn0.refl _ | apply Drawn0.step)) : P := h
theorem Xdd (h : P := by first | exact ⟨rfl, _, World.drewN_drewN _ _ _⟩ | exact ⟨rfl, _, Eq.trans (World.drewN_drewN _ _ _) (congrArg (World.drewN _) (Nat.add_assoc _ _ _))⟩) : P := h
theorem Xk1 (h : P := by have := HK1.out; omega) : Aside0 P := ⟨h⟩
theorem Xko (h : P := by first | omega | exact Nat.le_refl _) : Aside0 P := ⟨h⟩
theorem Xkr {n : Nat} : Aside0 (n ≤ n) := ⟨Nat.le_refl n⟩
theorem Xp (h : Aside0 Q) (k : Q → P := by intro h_; (with_reducible repeat (first | refine blk_drewN ?_ _ | refine blk_drew ?_ | refine blk_alloc ?_ _)); exact h_) : Aside0 P := ⟨k h.out⟩
theorem Xp' (h : Aside0 Q) (k : Q → P := by intro h_; (with_reducible repeat (first | apply Kd.R_alloc | apply Kd.R_drewN | apply Kd.R_drew | apply Kd.S_alloc | apply Kd.S_drewN | apply Kd.S_drew | apply Kd.Q_alloc | apply Kd.Q_drewN | apply Kd.Q_drew | apply Kd.N_alloc | apply Kd.N_drewN | apply Kd.N_drew)); exact h_) : Aside0 P := ⟨k h.out⟩
theorem Xq (h : Aside0 Q) (k : Q → P := by intro h_; (with_reducible repeat (first | apply Kd.R_alloc | apply Kd.R_drewN | apply Kd.R_drew | apply Kd.S_alloc | apply Kd.S_drewN | apply Kd.S_drew | apply Kd.Q_alloc | apply Kd.Q_drewN | apply Kd.Q_drew | apply Kd.N_alloc | apply Kd.N_drewN | apply Kd.N_drew)); exact h_) : P := k h.out
theorem Xq' (h : Aside0 Q) (k : Q → P := by intro h_; (with_reducible repeat (first | refine blk_drewN ?_ _ | refine blk_drew ?_ | refine blk_alloc ?_ _)); exact h_) : P := k h.out
end
section
variable {w W w1 : World} {g g' : Nat} {o : Obj} {Q : Prop}
theorem Xge (hg : g = W.heap.size) (h : Below w.heap.size w W) : Aside0 (w.heap.size ≤ g) := ⟨hg ▸ h.size⟩
theorem Xnb (hg : g' = W.heap.size) (h : Aside0 Q) (k : Q → W.heap[g]? = some o := by intro h_; (with_reducible repeat (first | refine blk_drewN ?_ _ | refine blk_drew ?_ | refine blk_alloc ?_ _)); exact h_) : Aside0 (g ≠ g') := ⟨by rw [hg]; exact Nat.ne_of_lt (blk_lt (k h.out))⟩
theorem Xns (h : Aside0 (g ≠ g')) : Aside0 (g' ≠ g) := ⟨h.out.symm⟩
theorem Xbb (h : Aside0 Q) (hb : Below W.heap.size W w1) (k : Q → W.heap[g]? = some o := by intro h_; (with_reducible repeat (first | refine blk_drewN ?_ _ | refine blk_drew ?_ | refine blk_alloc ?_ _)); exact h_) : Aside0 (w1.heap[g]? = some o) := ⟨blk_below (k h.out) hb⟩
theorem Xm {p : Addr} {v : Value} (hb : Aside0 (Below w.heap.size w W)) (h : w.cell? p = some v) : W.cell? p = some v := (hb.out.cell (World.block_lt_of_cell? w _ h)).trans h
theorem Xn {p : Addr} {v : Value} (h : w.cell? p = some v) (k : Below w.heap.size w W := by repeat first | (with_reducible first | exact HB.out | apply below_alloc | apply XW.bN | apply XW.bD | refine below_set ?_ (Aside0.out (by assumption))) | exact HB.out) : W.cell? p = some v := Xm ⟨k⟩ h
theorem Xc {α : Type} {d : Kd α} {A : Option Addr} {n : Nat} {xs : List α} (h : Aside0 (d.C w A n xs)) (k : Below w.heap.size w W := by repeat first | (with_reducible first | exact HB.out | apply below_alloc | apply XW.bN | apply XW.bD | refine below_set ?_ (Aside0.out (by assumption))) | exact HB.out) : d.C W A n xs := Kd.C_below h.out k
theorem Xif {α : Type} {p : Prop} [Decidable p] {a : Option α} {r : α} (h : (if p then a else none) = some r) : p ∧ a = some r := by
  by_cases hp : p
  · rw [if_pos hp] at h; exact ⟨hp, h⟩
  · rw [if_neg hp] at h; cases h
theorem Xid {α : Type} {p : Prop} [Decidable p] {a : Option α} {r : α} (h : (if p then a else none) = some r) : decide p = true ∧ a = some r := ⟨decide_eq_true (Xif h).1, (Xif h).2⟩
theorem Xiu {α : Type} {p : Prop} [Decidable p] {a b : Option α} {r : α} (h : (if p then a else b) = some r) : (p ∧ a = some r) ∨ (¬ p ∧ b = some r) := by
  by_cases hp : p
  · rw [if_pos hp] at h; exact .inl ⟨hp, h⟩
  · rw [if_neg hp] at h; exact .inr ⟨hp, h⟩
theorem Xit {α : Type} {p : Prop} [Decidable p] {a b : Option α} {r : α} (h : (if p then a else b) = some r) : (decide p = true ∧ a = some r) ∨ (decide p = false ∧ b = some r) := (Xiu h).imp (fun g => ⟨decide_eq_true g.1, g.2⟩) (fun g => ⟨decide_eq_false g.1, g.2⟩)
theorem Xbi {α β : Type} {a : Option α} {f : α → Option β} {r : β} (h : a.bind f = some r) : ∃ x, Aside0 (a = some x) ∧ f x = some r := by
  obtain ⟨x, h1, h2⟩ := Option.bind_eq_some_iff.mp h
  exact ⟨x, ⟨h1⟩, h2⟩
end
section
variable {w : World} {g t : Nat}
theorem Xc2 {v0 v1 : Value} (h : Aside0 (w.heap[g]? = some (.cells #[v0, v1] t (0, 0)))) : w.cell? ⟨g, 0, none⟩ = some v0 ∧ w.cell? ⟨g, 1, none⟩ = some v1 := ⟨(blk_cell h.out 0).trans i0, (blk_cell h.out 1).trans i1⟩
theorem Xf2 {cs : Array Value} (h : Aside0 (w.heap[g]? = some (.cells cs t (0, 0)))) : w.frozen? ⟨g, 0, none⟩ = false ∧ w.frozen? ⟨g, 1, none⟩ = false := ⟨blk_frozen h.out 0, blk_frozen h.out 1⟩
theorem Xc3 {v0 v1 v2 : Value} (h : Aside0 (w.heap[g]? = some (.cells #[v0, v1, v2] t (0, 0)))) : w.cell? ⟨g, 0, none⟩ = some v0 ∧ w.cell? ⟨g, 1, none⟩ = some v1 ∧ w.cell? ⟨g, 2, none⟩ = some v2 := ⟨(blk_cell h.out 0).trans i0, (blk_cell h.out 1).trans i1, (blk_cell h.out 2).trans i2⟩
theorem Xf3 {cs : Array Value} (h : Aside0 (w.heap[g]? = some (.cells cs t (0, 0)))) : w.frozen? ⟨g, 0, none⟩ = false ∧ w.frozen? ⟨g, 1, none⟩ = false ∧ w.frozen? ⟨g, 2, none⟩ = false := ⟨blk_frozen h.out 0, blk_frozen h.out 1, blk_frozen h.out 2⟩
end
section
variable {P : Program} {ops : Array Oper} {rest : List Oper} {o oi : Oper} {a a' : Act} {Q : Exit → Act → World → Prop} {W w : World} {v : Value}
theorem Xbox (N : Tmp) (cs : Array Value) (t : TypeId)
    (h : ∀ g, g = W.heap.size → ∀ w1, w1.heap[g]? = some (.cells cs t (0, 0)) → Below W.heap.size W w1 → wpList P ops Q rest (a.put o.dst (.pointer (some ⟨g, 0, none⟩))) w1)
    (hgd : o.guard = none := by rfl) (hd : o.dst = some N := by rfl)
    (hr : (execOp a.eval o).run P W = .ok (.value (.pointer (some ⟨W.heap.size, 0, none⟩))) (W.alloc (.cells cs t (0, 0))) := by first | (go_simp; done) | (go_simp; rfl)) : wpList P ops Q (o :: rest) a W := box_event hgd hd hr h
theorem Xgo {f : FuncId} {fn : Func} {as : Array Operand} {ts : Array TypeId} (N : Tmp) (hf : P.funcs[f]? = some fn) (args : Array Value)
    (h : Calls P f args w fun e w' => ∃ v, e = .returned v ∧ wpList P ops Q rest (a.put (some N) v) w')
    (hd : oi.dst = some N := by rfl) (hg : oi.guard = none := by rfl) (hname : (fn.name == "runtime.NumGoroutine") = false := by kernel_rfl) (hb : fn.body.isSome = true := by rfl)
    (hop : oi.op = .call { callee := .value (.func f), args := as, argTypes := ts } := by rfl)
    (hargs : as.map a.eval = args := by (try simp only [List.map_toArray, List.map_cons, List.map_nil]); first | done | rfl | (simp only [List.length_drop, List.length_take]; rfl)) : wpList P ops Q (oi :: rest) a w := goesL_ (some N) hd hg hf hname hb args hop hargs h
variable {md : Region.Mode} {S : World → Prop} {ds : List Nat} {fuel : Nat} {l : Array Bool} {T : Bool × List (List Nat × List Nat)} {B : List Nat}
theorem Xpu (i : Nat) (N : Tmp) (l' : Array Bool) (hT : rtab md ops = T) (h : wpAnyLast P md ops Q S ds fuel l' a' w)
    (hi : ops[i]? = some oi := by rfl) (hN : oi.dst = some N := by rfl) (hc : anyT T l.toList l'.toList i = true := by kernel_rfl) (hQ : ∀ c a w, Q (.panic c) (a.put oi.dst v) w → Q (.panic c) a w := by exact fun _ _ _ h => h)
    (hw : Region.wanted oi (yielded ops a.tmps) = true := by rfl) (hy : ∀ w, (execOp a.eval oi).run P w = .ok (.value v) w := by intro w'; go_simp; with_reducible rfl)
    (ha : a.put (some N) v = a' := by simp only [XW.q0, XW.q1, XW.q2, i64_w, i32_w]; rfl) : wpAnyLast P md ops Q S ds (fuel + 1) l a w :=
  pure_ l' hi hN (any_of hT hc) hQ (Or.inl ⟨hw, hy⟩) ha h
theorem Xta (i : Nat) (N : Tmp) (l' : Array Bool) (hT : rtab md ops = T) (hW : waitsOk T.2 B = true) (hS : S w) (h : wpAnyLast P md ops Q S ds fuel l' a' w)
    (hi : ops[i]? = some oi := by rfl) (hN : oi.dst = some N := by rfl) (hc : takeW T B ds l.toList l'.toList i = true := by kernel_rfl) (hQ : ∀ c a w, Q (.panic c) (a.put oi.dst v) w → Q (.panic c) a w := by exact fun _ _ _ h => h)
    (hw : Region.wanted oi (yielded ops a.tmps) = true := by rfl) (hy : ∀ w, S w → (execOp a.eval oi).run P w = .ok (.value v) w := by rintro w' hs_; (repeat (obtain ⟨s_, hs_⟩ := hs_)); go_simp; with_reducible rfl)
    (ha : a.put (some N) v = a' := by simp only [XW.q0, XW.q1, XW.q2, i64_w, i32_w]; rfl) : wpAnyLast P md ops Q S ds (fuel + 1) l a w :=
  take_ l' hi hN (take_ofW hT hW hc) hQ (Or.inl ⟨hw, hy⟩) hS ha h
theorem Xno (h : wpAnyLast P md ops Q S ds fuel l a' w) (ha : a = a' := by show Act.put _ (some _) _ = _; simp only [XW.q0, XW.q1, XW.q2, i64_w, i32_w]; rfl) : wpAnyLast P md ops Q S ds fuel l a w := norm_ ha h
end
end Go.Proofs.Ythkbgbkglgmpoaa.XW
