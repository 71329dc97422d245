/- Words and contracts of this claim, put together out of several texts by a program of this session's. Conditions: each theorem's own premises. -/
import Derived.Test.YtpdhccdmbdbdpaaZ0
section
namespace Go.Proofs.Ytpdhccdmbdbdpaa.XR
open Go.RowKit Go.Proofs.YtpdhccdmbdbdpaaW.PrintWords Go.Proofs.YtpdhccdmbdbdpaaW.PrintWords.Kd
set_option linter.unusedVariables false
section
variable {α : Type} {d : Kd α} {e : Nat} {ws w0 w w1 : World} {base g n cap : Nat} {P oki : Nat → Prop} {xs : List α} {i : Int} {c : List Value} {v4 : Value} {ks : List Int}
theorem H_cells (h : H d e w base P (.slice (some ⟨g, 0, none⟩) n cap) xs i oki c) (h0 : 0 ≤ i) (h1 : i < n) :
    (∀ j u, c[j]? = some u → w.cell? ⟨g, i.toNat * d.sz + j, none⟩ = some u) ∧ (∀ j, w.frozen? ⟨g, i.toNat * d.sz + j, none⟩ = false) := by
  obtain ⟨rows, _, hraw, _, _, hcc, _⟩ := H_raw h h0 h1
  obtain ⟨cells, hc⟩ := R_typed hraw g (by simp [Value.ownBlock])
  exact ⟨hcc, fun j => blk_frozen hc _⟩
theorem H_put (h : H d e w base P (.slice (some ⟨g, 0, none⟩) n cap) xs i oki c) (h0 : 0 ≤ i) (h1 : i < n) (hcl : c.length = d.sz) (j : Nat) (hj : j < d.sz) (u : Value) (hu : u.oneCell' = true) :
    H d e (w.setCell ⟨g, i.toNat * d.sz + j, none⟩ u) base P (.slice (some ⟨g, 0, none⟩) n cap) xs i oki (c.set j u) := by
  have h2 := (H_seg h h0 h1 (seg := [u]) (j := j) (by simp; omega) (by simpa using hu)).1
  rw [show c.take j ++ [u] ++ c.drop (j + [u].length) = c.set j u from by rw [List.set_eq_take_append_cons_drop, if_pos (by omega)]; simp] at h2
  exact h2
def zlt (z k : Nat) : Nat := if k < z then k + 1 else k
def zge (z k : Nat) : Nat := if z ≤ k then k + 1 else k
theorem zlt_of {z k : Nat} (h : k < z) : k ≠ zlt z k := by unfold zlt; rw [if_pos h]; omega
theorem zge_of {z k : Nat} (h : z ≤ k) : k ≠ zge z k := by unfold zge; rw [if_pos h]; omega
theorem zno {z k : Nat} (h1 : k ≠ zge z k) (h2 : k ≠ zlt z k) : False := by
  unfold zge at h1
  unfold zlt at h2
  by_cases h : k < z
  · rw [if_neg (by omega)] at h1; exact h1 rfl
  · rw [if_neg h] at h2; exact h2 rfl
section
variable {α : Type} {d : Kd α} {e base z : Nat} {W w1 : World} {ok : Nat → Prop} {u v : Value} {xs : List α}
theorem zat (_ : Kd.S d e w1 base ok v xs) : ∃ z, base = z := ⟨_, rfl⟩
theorem S_newZ (h : Kd.S d e w1 base ok v xs) (hz : base = z) : Kd.S d e w1 base (fun k => ok k ∧ k ≠ zge z k) v xs := S_mono (S_bound h) (fun _ hk => ⟨hk.1, zge_of (by have := hk.2.1; omega)⟩)
theorem S_elderZ (h : Kd.S d e W base ok u xs) (hbase : ∀ k, v.ownBlock = some k → W.heap.size ≤ k) (hb : Below W.heap.size W w1) (hz : W.heap.size = z) : Kd.S d e w1 base (fun k => (ok k ∧ some k ≠ v.ownBlock) ∧ k ≠ zlt z k) u xs :=
  S_mono (S_elder' (S_bound h) hbase hb) (fun _ hk => ⟨⟨hk.1.1, hk.2⟩, zlt_of (by have := hk.1.2.2.1; omega)⟩)
theorem N_elderZ (h : Kd.N d e W base ok u xs) (hbase : ∀ k, v.ownBlock = some k → W.heap.size ≤ k) (hb : Below W.heap.size W w1) (hz : W.heap.size = z) : Kd.N d e w1 base (fun k => (ok k ∧ some k ≠ v.ownBlock) ∧ k ≠ zlt z k) u xs :=
  N_mono (N_elder' (N_bound h) hbase hb) (fun _ hk => ⟨⟨hk.1.1, hk.2⟩, zlt_of (by have := hk.1.2; omega)⟩)
end
structure MS (d : Kd α) (e : Nat) (ws w0 w : World) (P oki : Nat → Prop) (g n cap : Nat) (xs : List α) (i : Int) (c : List Value) (v4 : Value) (ks : List Int) : Prop where
  h : H d e w w0.heap.size P (.slice (some ⟨g, 0, none⟩) n cap) xs i oki c
  r : (Kd.int .i64).R 3 w w0.heap.size oki v4 ks
  ne : ∀ k, oki k → k ≠ g
  pg : P g
  len : c.length = d.sz
  h0 : 0 ≤ i
  h1 : i < n
  kept : Kept ws w P
  below : Below w0.heap.size w0 w
  old : w0.heap.size ≤ g
theorem MS.put (m : MS d e ws w0 w P oki g n cap xs i c v4 ks) (j : Nat) (hj : j < d.sz) (u : Value) (hu : u.oneCell' = true) {off : Nat} (ho : off = i.toNat * d.sz + j) (hw : w1 = w.setCell ⟨g, off, none⟩ u) :
    MS d e ws w0 w1 P oki g n cap xs i (c.set j u) v4 ks := by
  subst hw
  subst ho
  exact ⟨H_put m.h m.h0 m.h1 m.len j hj u hu, R_far m.r m.ne u, m.ne, m.pg, by rw [List.length_set]; exact m.len, m.h0, m.h1, m.kept.setCell (.inl m.pg) u, below_set m.below m.old, m.old⟩
theorem MS.over (m : MS d e ws w0 w P oki g n cap xs i c v4 ks) (hb : Below w.heap.size w w1) : MS d e ws w0 w1 P oki g n cap xs i c v4 ks :=
  ⟨H_below m.h hb, R_below m.r hb, m.ne, m.pg, m.len, m.h0, m.h1, m.kept.below hb, below_step m.below hb, m.old⟩
theorem MS.kids (m : MS d e ws w0 w P oki g n cap xs i c v4 ks) {ks' : List Int} (hr : (Kd.int .i64).R 3 w1 w0.heap.size (fun k => oki k ∨ w.heap.size ≤ k) v4 ks') (hb : Below w0.heap.size w0 w1) (hk : Kept w w1 (fun k => oki k)) :
    MS d e ws w0 w1 P oki g n cap xs i c v4 ks' :=
  ⟨H_kept m.h hk (fun k _ hn => hn), R_reok rfl hr (fun k e_ => m.r.1 k e_), m.ne, m.pg, m.len, m.h0, m.h1, m.kept.then_ hk (fun k hk' => .inl (m.h.1 k hk')), hb, m.old⟩
theorem MS.cell (m : MS d e ws w0 w P oki g n cap xs i c v4 ks) (j : Nat) {u : Value} (hu : c[j]? = some u) : w.cell? ⟨g, i.toNat * d.sz + j, none⟩ = some u := (H_cells m.h m.h0 m.h1).1 j u hu
theorem MS.thaw (m : MS d e ws w0 w P oki g n cap xs i c v4 ks) (j : Nat) : w.frozen? ⟨g, i.toNat * d.sz + j, none⟩ = false := (H_cells m.h m.h0 m.h1).2 j
theorem MS.five {a b x y z : Value} (m : MS d e ws w0 w P oki g n cap xs i [a, b, x, y, z] v4 ks) (h5 : d.sz = 5) :
    (w.cell? ⟨g, i.toNat * 5, none⟩ = some a ∧ w.cell? ⟨g, i.toNat * 5 + 1, none⟩ = some b ∧ w.cell? ⟨g, i.toNat * 5 + 2, none⟩ = some x ∧ w.cell? ⟨g, i.toNat * 5 + 3, none⟩ = some y ∧ w.cell? ⟨g, i.toNat * 5 + 4, none⟩ = some z) ∧
    (w.frozen? ⟨g, i.toNat * 5, none⟩ = false ∧ w.frozen? ⟨g, i.toNat * 5 + 1, none⟩ = false ∧ w.frozen? ⟨g, i.toNat * 5 + 2, none⟩ = false ∧ w.frozen? ⟨g, i.toNat * 5 + 3, none⟩ = false) := by
  have hc := m.cell
  have hf := m.thaw
  rw [h5] at hc hf
  exact ⟨⟨hc 0 rfl, hc 1 rfl, hc 2 rfl, hc 3 rfl, hc 4 rfl⟩, hf 0, hf 1, hf 2, hf 3⟩
end
section
variable {P : Program} {ops : Array Oper} {rest : List Oper} {o : Oper} {a : Act} {Q : Exit → Act → World → Prop} {W : World}
theorem Xst (t : TypeId) (p : Tmp) (A : Addr) (u : Value) {v : Operand} (h : ∀ w', w' = W.setCell A u → wpList P ops Q rest a w') (hgd : o.guard = none := by rfl) (ho : o.op = .store t (.tmp p) v := by rfl) (hN : o.dst = none := by rfl)
    (hr : (execOp a.eval o).run P W = .ok .skip (W.setCell A u) := by first | (go_simp; done) | (go_simp; rfl)) : wpList P ops Q (o :: rest) a W := store_event hgd ho hN hr h
end
end Go.Proofs.Ytpdhccdmbdbdpaa.XR
end
