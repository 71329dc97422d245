/- Words for laws that are walked straight: rows told apart by when they were made. Conditions: each theorem's own premises. -/
import Derived.Test.YthkbgbkglgmpoaaMark
import Derived.Test.YthkbgbkglgmpoaaXW
import Derived.Test.YthkbgbkglgmpoaaWShare
namespace Go.Proofs.Ythkbgbkglgmpoaa.HL
open Go.RowKit Go.Proofs.YthkbgbkglgmpoaaW.PrintWords Go.Proofs.YthkbgbkglgmpoaaW.PrintWords.Kd
set_option linter.unusedVariables false
section
variable {α : Type} {d : Kd α} {e : Nat} {w w0 w' : World} {b z z' : Nat} {ok : Nat → Prop} {v : Value} {xs : List α}
theorem S_new (h : Kd.S d e w' b ok v xs) (hz : z ≤ b) (hb : w0.heap.size ≤ b) (hz' : z' = w'.heap.size) : Kd.S d e w' w0.heap.size (fun k => z ≤ k ∧ k < z') v xs :=
  S_lower (S_mono (S_bound h) (fun k hk => ⟨Nat.le_trans hz hk.2.1, by rw [hz']; exact hk.2.2.1⟩)) hb
theorem R_new (h : d.R e w' b ok v xs) (hz : z ≤ b) (hb : w0.heap.size ≤ b) (hz' : z' = w'.heap.size) : d.R e w' w0.heap.size (fun k => z ≤ k ∧ k < z') v xs :=
  R_lower (R_mono (R_bound h) (fun k hk => ⟨Nat.le_trans hz hk.2.1, by rw [hz']; exact hk.2.2.1⟩)) hb
theorem N_new (h : Kd.N d e w' b ok v xs) (hz : z ≤ b) (hb : w0.heap.size ≤ b) (hz' : z' = w'.heap.size) (hok : ∀ k, ok k → b ≤ k := by intro k_ h_; first | exact h_ | exact h_.1) : Kd.N d e w' w0.heap.size (fun k => z ≤ k ∧ k < z') v xs :=
  N_lower (N_mono (N_bound h) (fun k hk => ⟨Nat.le_trans hz (hok k hk.1), by rw [hz']; exact hk.2⟩)) hb
end
/-- A variable in memory that is filled. -/
theorem filled_far (g : Nat) : ∀ (vs : List Value) (o : Nat) (w : World) (k : Nat), k ≠ g → (w.setCells g o vs).heap[k]? = w.heap[k]?
  | [], _, _, _, _ => rfl
  | v :: r, o, w, k, h => (filled_far g r (o + 1) (w.setCell ⟨g, o, none⟩ v) k h).trans (Below.heap_setCell w ⟨g, o, none⟩ v k h)
theorem filled_size (g : Nat) : ∀ (vs : List Value) (o : Nat) (w : World), (w.setCells g o vs).heap.size = w.heap.size
  | [], _, _ => rfl
  | v :: r, o, w => (filled_size g r (o + 1) (w.setCell ⟨g, o, none⟩ v)).trans (by simp [World.setCell])
def over (cs : Array Value) : Nat → List Value → Array Value
  | _, [] => cs
  | o, v :: r => over (cs.setIfInBounds o v) (o + 1) r
theorem filled_blk {g t : Nat} : ∀ (vs : List Value) (o : Nat) (w : World) (cs : Array Value), w.heap[g]? = some (.cells cs t (0, 0)) → (w.setCells g o vs).heap[g]? = some (.cells (over cs o vs) t (0, 0))
  | [], _, _, _, h => h
  | v :: r, o, w, cs, h => filled_blk r (o + 1) (w.setCell ⟨g, o, none⟩ v) _ (blk_set h o v)
theorem filled_below {g : Nat} : ∀ (vs : List Value) (o : Nat) (w0 w : World), Below w0.heap.size w0 w → w0.heap.size ≤ g → Below w0.heap.size w0 (w.setCells g o vs)
  | [], _, _, _, h, _ => h
  | v :: r, o, w0, w, h, hg => filled_below r (o + 1) w0 (w.setCell ⟨g, o, none⟩ v) (below_set h hg) hg
theorem filled {g t : Nat} {w w' : World} {cs : Array Value} {vs : List Value} (hw : w' = w.setCells g 0 vs) (h : w.heap[g]? = some (.cells cs t (0, 0))) :
    w'.heap[g]? = some (.cells (over cs 0 vs) t (0, 0)) ∧ Kept w w' (fun k => k = g) ∧ ∀ w0 : World, Below w0.heap.size w0 w → w0.heap.size ≤ g → Below w0.heap.size w0 w' := by
  subst hw
  exact ⟨filled_blk vs 0 w cs h, ⟨Nat.le_of_eq (filled_size g vs 0 w).symm, fun i _ hn => filled_far g vs 0 w i hn⟩, fun w0 hb hg => filled_below vs 0 w0 w hb hg⟩
theorem filled1 {g t : Nat} {w w' : World} {a0 b0 : Value} (hw : w' = w.setCells g 0 [b0]) (h : w.heap[g]? = some (.cells #[a0] t (0, 0))) :
    w'.heap[g]? = some (.cells #[b0] t (0, 0)) ∧ Kept w w' (fun k => k = g) ∧ ∀ w0 : World, Below w0.heap.size w0 w → w0.heap.size ≤ g → Below w0.heap.size w0 w' := by
  have e : over #[a0] 0 [b0] = #[b0] := by simp [over]
  have h' := filled hw h
  rwa [e] at h'
theorem filled2 {g t : Nat} {w w' : World} {a0 a1 b0 b1 : Value} (hw : w' = w.setCells g 0 [b0, b1]) (h : w.heap[g]? = some (.cells #[a0, a1] t (0, 0))) :
    w'.heap[g]? = some (.cells #[b0, b1] t (0, 0)) ∧ Kept w w' (fun k => k = g) ∧ ∀ w0 : World, Below w0.heap.size w0 w → w0.heap.size ≤ g → Below w0.heap.size w0 w' := by
  have e : over #[a0, a1] 0 [b0, b1] = #[b0, b1] := by simp [over]
  have h' := filled hw h
  rwa [e] at h'
theorem filled3 {g t : Nat} {w w' : World} {a0 a1 a2 b0 b1 b2 : Value} (hw : w' = w.setCells g 0 [b0, b1, b2]) (h : w.heap[g]? = some (.cells #[a0, a1, a2] t (0, 0))) :
    w'.heap[g]? = some (.cells #[b0, b1, b2] t (0, 0)) ∧ Kept w w' (fun k => k = g) ∧ ∀ w0 : World, Below w0.heap.size w0 w → w0.heap.size ≤ g → Below w0.heap.size w0 w' := by
  have e : over #[a0, a1, a2] 0 [b0, b1, b2] = #[b0, b1, b2] := by simp [over]
  have h' := filled hw h
  rwa [e] at h'
theorem filled4 {g t : Nat} {w w' : World} {a0 a1 a2 a3 b0 b1 b2 b3 : Value} (hw : w' = w.setCells g 0 [b0, b1, b2, b3]) (h : w.heap[g]? = some (.cells #[a0, a1, a2, a3] t (0, 0))) :
    w'.heap[g]? = some (.cells #[b0, b1, b2, b3] t (0, 0)) ∧ Kept w w' (fun k => k = g) ∧ ∀ w0 : World, Below w0.heap.size w0 w → w0.heap.size ≤ g → Below w0.heap.size w0 w' := by
  have e : over #[a0, a1, a2, a3] 0 [b0, b1, b2, b3] = #[b0, b1, b2, b3] := by simp [over]
  have h' := filled hw h
  rwa [e] at h'
theorem filled5 {g t : Nat} {w w' : World} {a0 a1 a2 a3 a4 b0 b1 b2 b3 b4 : Value} (hw : w' = w.setCells g 0 [b0, b1, b2, b3, b4]) (h : w.heap[g]? = some (.cells #[a0, a1, a2, a3, a4] t (0, 0))) :
    w'.heap[g]? = some (.cells #[b0, b1, b2, b3, b4] t (0, 0)) ∧ Kept w w' (fun k => k = g) ∧ ∀ w0 : World, Below w0.heap.size w0 w → w0.heap.size ≤ g → Below w0.heap.size w0 w' := by
  have e : over #[a0, a1, a2, a3, a4] 0 [b0, b1, b2, b3, b4] = #[b0, b1, b2, b3, b4] := by simp [over]
  have h' := filled hw h
  rwa [e] at h'
theorem filled6 {g t : Nat} {w w' : World} {a0 a1 a2 a3 a4 a5 b0 b1 b2 b3 b4 b5 : Value} (hw : w' = w.setCells g 0 [b0, b1, b2, b3, b4, b5]) (h : w.heap[g]? = some (.cells #[a0, a1, a2, a3, a4, a5] t (0, 0))) :
    w'.heap[g]? = some (.cells #[b0, b1, b2, b3, b4, b5] t (0, 0)) ∧ Kept w w' (fun k => k = g) ∧ ∀ w0 : World, Below w0.heap.size w0 w → w0.heap.size ≤ g → Below w0.heap.size w0 w' := by
  have e : over #[a0, a1, a2, a3, a4, a5] 0 [b0, b1, b2, b3, b4, b5] = #[b0, b1, b2, b3, b4, b5] := by simp [over]
  have h' := filled hw h
  rwa [e] at h'
end Go.Proofs.Ythkbgbkglgmpoaa.HL
