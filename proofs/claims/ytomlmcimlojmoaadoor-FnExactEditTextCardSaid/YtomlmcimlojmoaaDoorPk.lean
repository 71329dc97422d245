/- Words for the pure statements: what comes to a value from some number of rounds on; loops that fill, sum and compare rows. Conditions: each theorem's own premises. -/
import Derived.Test.YtomlmcimlojmoaaDoorWWords
import Derived.Test.YtomlmcimlojmoaaDoorWLast
import Derived.Test.YtomlmcimlojmoaaDoorWMore
namespace Go.Proofs.YtomlmcimlojmoaaDoor.Pk
open Go.RowKit Go.Proofs.YtomlmcimlojmoaaDoorW.PrintWords
set_option linter.unusedVariables false
theorem wrap_id (n : Int) (h0 : -9223372036854775808 ≤ n) (h1 : n ≤ 9223372036854775807) : wrap64 n = n := by unfold wrap64; omega
theorem Ev.pos {α : Type} {c : Prop} [Decidable c] {f g : Nat → Option α} {r : α} (h : c) (e : Ev f r) : Ev (fun k => if c then f k else g k) r := by
  obtain ⟨K, e⟩ := e
  exact ⟨K, fun k hk => by show (if c then f k else g k) = some r; rw [if_pos h]; exact e k hk⟩
theorem Ev.neg {α : Type} {c : Prop} [Decidable c] {f g : Nat → Option α} {r : α} (h : ¬ c) (e : Ev g r) : Ev (fun k => if c then f k else g k) r := by
  obtain ⟨K, e⟩ := e
  exact ⟨K, fun k hk => by show (if c then f k else g k) = some r; rw [if_neg h]; exact e k hk⟩
end Go.Proofs.YtomlmcimlojmoaaDoor.Pk
