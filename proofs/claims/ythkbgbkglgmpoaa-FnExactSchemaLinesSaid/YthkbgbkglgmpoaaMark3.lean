/- Rows of structs whose inner rows are told apart, element by element, and the elements of the inner rows too. Conditions: each theorem's own premises. -/
import Derived.Test.YthkbgbkglgmpoaaMark
namespace Go.Proofs.Ythkbgbkglgmpoaa.XR
open Go.RowKit Go.Proofs.YthkbgbkglgmpoaaW.PrintWords Go.Proofs.YthkbgbkglgmpoaaW.PrintWords.Kd
set_option linter.unusedVariables false
/-- A row inside an element, its own elements told apart. -/
def sliceS {α : Type} (e : Nat) (d : Kd α) : Kd (List α) where
  sz := 1
  E := e :: d.E
  K := (Kd.slice e d).K
  M := fun w base ok xs cs => ∃ v, cs = [v] ∧ Kd.S d e w base ok v xs
  K_len := (Kd.slice e d).K_len
  K_one := (Kd.slice e d).K_one
  K_below := (Kd.slice e d).K_below
  K_of_M := by
    rintro w base ok x cs ⟨v, rfl, h⟩
    exact (Kd.slice e d).K_of_M ⟨v, rfl, Kd.S_R h⟩
  M_mono := by
    rintro w base ok ok' x cs hok ⟨v, rfl, h⟩
    exact ⟨v, rfl, Kd.S_mono h hok⟩
  M_bound := by
    rintro w base ok x cs ⟨v, rfl, h⟩
    exact ⟨v, rfl, Kd.S_bound h⟩
  M_move := by
    rintro w w1 base ok x cs hm ⟨v, rfl, h⟩
    exact ⟨v, rfl, Kd.S_move h hm⟩
  M_lower := by
    rintro w base base' ok x cs hb ⟨v, rfl, h⟩
    exact ⟨v, rfl, Kd.S_lower h hb⟩
section
variable {α β : Type} {d : Kd α} {d' : Kd β} {e e' : Nat} {ws w0 w w1 W : World} {base g n cap : Nat} {P oki : Nat → Prop} {xs : List α} {i : Int} {c : List Value} {v4 : Value} {ks ks' : List β}
/-- An element that is lent out: all else of the row, the element's cells, its inner row (told apart too). -/
structure MT (d : Kd α) (e : Nat) (d' : Kd β) (e' : Nat) (ws w0 w : World) (P oki : Nat → Prop) (g n cap : Nat) (xs : List α) (i : Int) (c : List Value) (v4 : Value) (ks : List β) : Prop where
  h : H d e w w0.heap.size P (.slice (some ⟨g, 0, none⟩) n cap) xs i oki c
  r : Kd.S d' e' w w0.heap.size oki v4 ks
  ne : ∀ k, oki k → k ≠ g
  pg : P g
  len : c.length = d.sz
  h0 : 0 ≤ i
  h1 : i < n
  kept : Kept ws w P
  below : Below w0.heap.size w0 w
  old : w0.heap.size ≤ g
theorem MT.put (m : MT d e d' e' ws w0 w P oki g n cap xs i c v4 ks) (j : Nat) (hj : j < d.sz) (u : Value) (hu : u.oneCell' = true) {off : Nat} (ho : off = i.toNat * d.sz + j) (hw : w1 = w.setCell ⟨g, off, none⟩ u) :
    MT d e d' e' ws w0 w1 P oki g n cap xs i (c.set j u) v4 ks := by
  subst hw
  subst ho
  exact ⟨H_put m.h m.h0 m.h1 m.len j hj u hu, S_far m.r m.ne u, m.ne, m.pg, by rw [List.length_set]; exact m.len, m.h0, m.h1, m.kept.setCell (.inl m.pg) u, below_set m.below m.old, m.old⟩
theorem MT.over (m : MT d e d' e' ws w0 w P oki g n cap xs i c v4 ks) (hb : Below w.heap.size w w1) : MT d e d' e' ws w0 w1 P oki g n cap xs i c v4 ks :=
  ⟨H_below m.h hb, S_below m.r hb, m.ne, m.pg, m.len, m.h0, m.h1, m.kept.below hb, below_step m.below hb, m.old⟩
theorem MT.kids (m : MT d e d' e' ws w0 w P oki g n cap xs i c v4 ks) (hr : Kd.S d' e' w1 w0.heap.size oki v4 ks') (hb : Below w0.heap.size w0 w1) (hk : Kept w w1 oki) :
    MT d e d' e' ws w0 w1 P oki g n cap xs i c v4 ks' :=
  ⟨H_kept m.h hk (fun k _ hn => hn), hr, m.ne, m.pg, m.len, m.h0, m.h1, m.kept.then_ hk (fun k hk' => .inl (m.h.1 k hk')), hb, m.old⟩
theorem MT.three {a b x : Value} (m : MT d e d' e' ws w0 w P oki g n cap xs i [a, b, x] v4 ks) (h3 : d.sz = 3) :
    (w.cell? ⟨g, i.toNat * 3, none⟩ = some a ∧ w.cell? ⟨g, i.toNat * 3 + 1, none⟩ = some b ∧ w.cell? ⟨g, i.toNat * 3 + 2, none⟩ = some x) ∧
    (w.frozen? ⟨g, i.toNat * 3, none⟩ = false ∧ w.frozen? ⟨g, i.toNat * 3 + 1, none⟩ = false ∧ w.frozen? ⟨g, i.toNat * 3 + 2, none⟩ = false) := by
  have hc := (H_cells m.h m.h0 m.h1).1
  have hf := (H_cells m.h m.h0 m.h1).2
  rw [h3] at hc hf
  exact ⟨⟨hc 0 a rfl, hc 1 b rfl, hc 2 x rfl⟩, hf 0, hf 1, hf 2⟩
/-- An element laid in, its rows made just now. -/
theorem S_fill {A : Option Addr} (hs : Kd.S d e W base (fun _ => True) (.slice A n cap) xs) (hb : Below W.heap.size W w1) (z : α) (h0 : 0 ≤ i) (h1 : i < n) :
    ∃ g, A = some ⟨g, 0, none⟩ ∧ base ≤ g ∧ (∃ c0 : List Value, c0.length = d.sz ∧ ∀ j u, c0[j]? = some u → w1.cell? ⟨g, i.toNat * d.sz + j, none⟩ = some u) ∧ (∀ j, w1.frozen? ⟨g, i.toNat * d.sz + j, none⟩ = false) ∧
      ∀ (x' : α) (seg : List Value), seg.length = d.sz → d.M w1 base (fun k => W.heap.size ≤ k) x' seg → Kd.S d e (w1.setCells g (i.toNat * d.sz + 0) seg) base (fun _ => True) (.slice A n cap) (xs.set i.toNat x') := by
  obtain ⟨hn, _, _⟩ := Kd.S_reads' hs
  obtain ⟨g, cap', e_, hg, _, cells, hc⟩ := Kd.S_form hs (by omega)
  injection e_ with e1 e2 e3
  subst e1
  have hgl : g < W.heap.size := Kd.S_lt hs g (by simp [Value.ownBlock])
  have HX : Kd.S d e w1 base (fun k => True ∧ ¬ (W.heap.size ≤ k)) (.slice (some ⟨g, 0, none⟩) n cap) xs := Kd.S_mono (Kd.S_old hs hb) (fun k hk => ⟨trivial, by have := hk.2; omega⟩)
  obtain ⟨oki, ce, hcl, _, hcc, hfr, hoki, hH⟩ := Kd.S_elem HX z i h0 h1
  refine ⟨g, rfl, hg, ⟨ce, hcl, hcc⟩, hfr, fun x' seg hsl hM => ?_⟩
  refine (Kd.S_seg (okp := fun k => W.heap.size ≤ k) hH h0 h1 (seg := seg) (j := 0) (by omega) (x' := x') ?_ (fun k hk => .inr hk) (fun k hk => ⟨trivial, by omega⟩)).1
  rw [List.take_zero, List.nil_append, List.drop_of_length_le (by omega), List.append_nil]
  exact hM
theorem S_made (h : Kd.S d e w1 W.heap.size P v4 xs) : Kd.S d e w1 W.heap.size (fun k => W.heap.size ≤ k) v4 xs := Kd.S_mono (Kd.S_bound h) (fun _ hk => hk.2.1)
end
end Go.Proofs.Ythkbgbkglgmpoaa.XR
