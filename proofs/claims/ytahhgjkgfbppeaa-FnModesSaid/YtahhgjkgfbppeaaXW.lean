/- Small words for contracts of the program's functions: what is read beside rows that are written. Conditions: the theorems' own premises. -/
import Derived.Test.YtahhgjkgfbppeaaWWords
import Derived.Test.YtahhgjkgfbppeaaWKept
import Derived.Test.YtahhgjkgfbppeaaWMore
import Derived.Test.YtahhgjkgfbppeaaWLast
import Derived.Test.YtahhgjkgfbppeaaWTab
namespace Go.Proofs.Ytahhgjkgfbppeaa.XW
open Go.RowKit Go.Proofs.YtahhgjkgfbppeaaW.PrintWords Go.Proofs.YtahhgjkgfbppeaaW.PrintLast
set_option linter.unusedVariables false
set_option linter.unusedSimpArgs false
def bs (n m : Nat) : Array Bool := ((List.range n).map (fun i => m.testBit i)).toArray
theorem q0 (l : List Value) (d : List Deferred) (N : Nat) (v : Value) : Act.put ⟨l.toArray, d⟩ (some N) v = ⟨(l.set N v).toArray, d⟩ := by simp only [Act.put, List.setIfInBounds_toArray]
theorem q1 {α : Type} (a b : α) (l : List α) : (a :: l).set 0 b = b :: l := rfl
theorem q2 {α : Type} (a b : α) (l : List α) (n : Nat) : (a :: l).set (n + 1) b = a :: l.set n b := rfl
theorem i0 {a : Value} {l : List Value} : (a :: l).toArray[0]? = some a := rfl
theorem bN {B : Nat} {a w : World} (h : Below B a w) (n : Nat) : Below B a (w.drewN n) := pw_below_drewN h n
theorem bD {B : Nat} {a w : World} (h : Below B a w) : Below B a w.drew := below_drew1 h
section
variable {P Q : Prop}
theorem Xr (h : P := by first | rfl | (simp; done) | (simp [*]; done)) : P := h
theorem Xe (h : P := by first | rfl | (simp <;> rfl) | (simp [*] <;> rfl)) : P := h
theorem Xi (h : P := by repeat first | (with_reducible first | exact HB.out | apply below_alloc | apply XW.bN | apply XW.bD | refine below_set ?_ (Aside0.out (by assumption))) | exact HB.out) : P := h
theorem Xdr (h : P := by repeat (first | exact Drawn0.refl _ | apply Drawn0.step)) : P := h
theorem Xko (h : P := by first | omega | exact Nat.le_refl _) : Aside0 P := ⟨h⟩
theorem Xkr {n : Nat} : Aside0 (n ≤ n) := ⟨Nat.le_refl n⟩
end
section
variable {w W w1 : World} {g g' : Nat} {o : Obj} {Q : Prop}
theorem Xiu {α : Type} {p : Prop} [Decidable p] {a b : Option α} {r : α} (h : (if p then a else b) = some r) : (p ∧ a = some r) ∨ (¬ p ∧ b = some r) := by
  by_cases hp : p
  · rw [if_pos hp] at h; exact .inl ⟨hp, h⟩
  · rw [if_neg hp] at h; exact .inr ⟨hp, h⟩
theorem Xit {α : Type} {p : Prop} [Decidable p] {a b : Option α} {r : α} (h : (if p then a else b) = some r) : (decide p = true ∧ a = some r) ∨ (decide p = false ∧ b = some r) := (Xiu h).imp (fun g => ⟨decide_eq_true g.1, g.2⟩) (fun g => ⟨decide_eq_false g.1, g.2⟩)
theorem Xbi {α β : Type} {a : Option α} {f : α → Option β} {r : β} (h : a.bind f = some r) : ∃ x, Aside0 (a = some x) ∧ f x = some r := by
  obtain ⟨x, h1, h2⟩ := Option.bind_eq_some_iff.mp h
  exact ⟨x, ⟨h1⟩, h2⟩
end
section
variable {P : Program} {ops : Array Oper} {rest : List Oper} {o oi : Oper} {a a' : Act} {Q : Exit → Act → World → Prop} {W w : World} {v : Value}
theorem Xgo {f : FuncId} {fn : Func} {as : Array Operand} {ts : Array TypeId} (N : Tmp) (hf : P.funcs[f]? = some fn) (args : Array Value)
    (h : Calls P f args w fun e w' => ∃ v, e = .returned v ∧ wpList P ops Q rest (a.put (some N) v) w')
    (hd : oi.dst = some N := by rfl) (hg : oi.guard = none := by rfl) (hname : (fn.name == "runtime.NumGoroutine") = false := by kernel_rfl) (hb : fn.body.isSome = true := by rfl)
    (hop : oi.op = .call { callee := .value (.func f), args := as, argTypes := ts } := by rfl)
    (hargs : as.map a.eval = args := by (try simp only [List.map_toArray, List.map_cons, List.map_nil]); first | done | rfl | (simp only [List.length_drop, List.length_take]; rfl)) : wpList P ops Q (oi :: rest) a w := goesL_ (some N) hd hg hf hname hb args hop hargs h
variable {md : Region.Mode} {S : World → Prop} {ds : List Nat} {fuel : Nat} {l : Array Bool} {T : Bool × List (List Nat × List Nat)} {B : List Nat}
end
end Go.Proofs.Ytahhgjkgfbppeaa.XW
