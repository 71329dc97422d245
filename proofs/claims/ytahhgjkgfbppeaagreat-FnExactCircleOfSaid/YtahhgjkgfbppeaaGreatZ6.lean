/- Words and contracts of this claim, put together out of several texts by a program of this session's. Conditions: each theorem's own premises. -/
import Derived.Sort.Grow
import Derived.Shelf.SlicesG.CompactI
import Derived.Shelf.SortM.Plain
import Derived.Shelf.SortM.SortNone
import Derived.Shelf.SlGeneric
import Derived.Ground.SlgnProg
import Derived.Ground.SlgmProg
import Derived.Test.YtahhgjkgfbppeaaGreatProg
import Derived.Test.YtahhgjkgfbppeaaGreatZ0
section
namespace Go.Proofs
open Go.Shelf
shelf_lay_g SlLaysN.n43 Slgn 43 at Tryz 112 as Tryz.lCompact
shelf_lay_g SlLaysM.n5 Slgm 5 at Tryz 111 as Tryz.lSort
end Go.Proofs
namespace Go.Proofs.YtahhgjkgfbppeaaGreat.XA
open Go.RowKit Go.Sort Go.Proofs.YtahhgjkgfbppeaaGreatW.PrintWords Go.Proofs.YtahhgjkgfbppeaaGreatW.PrintWords.Kd
theorem put_heap (enc : Int → Value) (w : World) (n g : Nat) (ys : Array Int) (os : Array Obj) {cur : Array Value} {e : TypeId} (hg : w.heap[g]? = some (.cells cur e (0, 0))) :
    (Go.Sort.grow (putRow enc (Sort.ahead w n) g 0 ys) os).heap[g]? = some (.cells (putCells enc 0 ys cur) e (0, 0)) ∧
    (∀ k, k < w.heap.size → k ≠ g → (Go.Sort.grow (putRow enc (Sort.ahead w n) g 0 ys) os).heap[k]? = w.heap[k]?) ∧ w.heap.size ≤ (Go.Sort.grow (putRow enc (Sort.ahead w n) g 0 ys) os).heap.size := by
  have hsz : (putRow enc (Sort.ahead w n) g 0 ys).heap.size = w.heap.size := by simp [putRow, mapBlock, Sort.ahead]
  have hlt := blk_lt hg
  refine ⟨?_, ?_, ?_⟩
  · rw [heap_grow_old _ _ (by rw [hsz]; exact hlt)]
    simp [putRow, mapBlock, Sort.ahead, Array.getElem?_modify, hg, onCells]
  · intro k hk hne
    rw [heap_grow_old _ _ (by rw [hsz]; exact hk)]
    simp [putRow, mapBlock, Sort.ahead, Array.getElem?_modify, Ne.symm hne]
  · rw [size_grow, hsz]; omega
theorem R_over {e : Nat} {ok : Nat → Prop} {w0 w : World} {l0 ys : List Int} {g cap : Nat} (n : Nat) (os : Array Obj) (hB : Below w0.heap.size w0 w) (ho : (Kd.int .i64).R e w w0.heap.size ok (.slice (some ⟨g, 0, none⟩) l0.length cap) l0) (hy : ys.length = l0.length) (m : Nat) (hm : m ≤ ys.length) :
    (Kd.int .i64).R e (Go.Sort.grow (putRow (Value.int .i64) (Sort.ahead w n) g 0 ys.toArray) os) w0.heap.size (fun k => ok k ∨ w.heap.size ≤ k) (.slice (some ⟨g, 0, none⟩) m cap) (ys.take m) ∧
    Below w0.heap.size w0 (Go.Sort.grow (putRow (Value.int .i64) (Sort.ahead w n) g 0 ys.toArray) os) ∧ Kept w (Go.Sort.grow (putRow (Value.int .i64) (Sort.ahead w n) g 0 ys.toArray) os) (fun k => ok k) := by
  obtain ⟨hk, inner, ⟨hl, hcase⟩, hreps⟩ := ho
  rcases hcase with ⟨hv, _⟩ | ⟨g', cap', cur, hv, hbase, hheap, hncap, hcapm, hcur, htake⟩
  · cases hv
  · injection hv with h1 h2 h3
    injection h1 with h1
    injection h1 with h1 _ _
    subst h1 h3
    obtain ⟨a1, a2, a3⟩ := put_heap (Value.int .i64) w n g ys.toArray os hheap
    have hps : (putCells (Value.int .i64) 0 ys.toArray cur).size = cur.size := by simp [putCells]
    refine ⟨⟨fun k e_ => .inl (hk k e_), (ys.take m).map (Value.int .i64), ⟨by simp [Kd.int, Kd.scalar], .inr ⟨g, cap, _, by simp [Nat.min_eq_left hm], hbase, a1, by simp; omega, hcapm, by rw [hps]; exact hcur, ?_⟩⟩, by simp [Kd.int, Kd.scalar], ?_⟩, ?_, ?_⟩
    · have hcs : cur.size = cap * 1 := hcur
      apply List.ext_getElem?
      intro j
      show ((putCells (Value.int .i64) 0 ys.toArray cur).toList.take ((ys.take m).length * 1))[j]? = _
      rw [List.getElem?_take]
      split
      · next hj =>
        have hj' : j < m := by simp at hj; omega
        simp [putCells, hj', show j < ys.length by omega, show j < cur.size by omega]
      · next hj =>
        simp at hj
        simp
        omega
    · intro j p hp
      show ((((ys.take m).map (Value.int .i64)).drop (j * 1)).take 1) = [Value.int .i64 p]
      have hj : j < (ys.take m).length := by
        rcases Nat.lt_or_ge j (ys.take m).length with h | h
        · exact h
        · rw [List.getElem?_eq_none h] at hp; cases hp
      rw [List.getElem?_eq_getElem hj] at hp
      injection hp with hp
      rw [Nat.mul_one, List.drop_eq_getElem_cons (by simpa using hj), List.take_succ_cons, List.take_zero, List.getElem_map, hp]
    · refine ⟨hB.os, hB.tape, hB.output, Nat.le_trans hB.size a3, fun k hk' => ?_⟩
      rw [a2 k (Nat.lt_of_lt_of_le hk' hB.size) (by omega)]
      exact hB.block k hk'
    · exact ⟨a3, fun k hk' hn => a2 k hk' (fun e_ => hn (e_ ▸ hk g rfl))⟩
theorem R_holds {e : Nat} {ok : Nat → Prop} {w0 w : World} {l0 : List Int} {g cap : Nat} (ho : (Kd.int .i64).R e w w0.heap.size ok (.slice (some ⟨g, 0, none⟩) l0.length cap) l0) : Holds (Value.int .i64) w g 0 l0.toArray := by
  intro j hj
  have hj' : j < l0.length := by simpa using hj
  have h := R_cell (0 : Int) ho (j : Int) (by omega) (by omega)
  rw [Nat.zero_add]
  have e1 : l0.toArray[j]! = rdOf 0 l0 (j : Int) := by simp [rdOf, hj', List.getD_eq_getElem?_getD]
  rw [e1]
  exact h
theorem R_two {e : Nat} {ok : Nat → Prop} {w0 w : World} {l0 : List Int} {v : Value} (ho : (Kd.int .i64).R e w w0.heap.size ok v l0) : (v = .slice none 0 0 ∧ l0 = []) ∨ ∃ g cap, v = .slice (some ⟨g, 0, none⟩) l0.length cap ∧ l0.length ≤ cap ∧ g < w.heap.size := by
  obtain ⟨hk, inner, ⟨hl, hcase⟩, hreps⟩ := ho
  rcases hcase with ⟨hv, hn⟩ | ⟨g', cap', cur, hv, hbase, hheap, hncap, hcapm, hcur, htake⟩
  · exact .inl ⟨hv, List.eq_nil_of_length_eq_zero hn⟩
  · exact .inr ⟨g', cap', hv, hncap, blk_lt hheap⟩
def slices_Compact_int_int.f (l0 : List Int) : Option (List Int) := if l0.length < 4611686018427387904 then some (Lib.compact l0) else none
theorem compact_le (l : List Int) : (Lib.compact l).length ≤ l.length := by
  unfold Lib.compact Lib.compactUpTo
  rw [List.length_map]
  exact Nat.le_trans (List.length_filter_le _ _) (by simp)
theorem slices_Compact_int_int.calls (P0_ : Nat → Prop) (u_ : Value) (l0 r : List Int) (w0 w : World) (hB : Below w0.heap.size w0 w) (ho : (Kd.int .i64).R 3 w w0.heap.size P0_ u_ l0) (h : slices_Compact_int_int.f l0 = some r) :
    Calls Tryz.prog 112 #[u_] w fun e w' => ∃ v0_ : Value, e = .returned v0_ ∧ (Kd.int .i64).R 3 w' w0.heap.size (fun k_ => (P0_ k_ ∨ w.heap.size ≤ k_)) v0_ r ∧ Below w0.heap.size w0 w' ∧ Kept w w' (fun k_ => P0_ k_) := by
  have hb : l0.length < 4611686018427387904 ∧ Lib.compact l0 = r := by
    unfold slices_Compact_int_int.f at h
    split at h
    · next hb => exact ⟨hb, Option.some.inj h⟩
    · cases h
  obtain ⟨hb, rfl⟩ := hb
  rcases R_two ho with ⟨rfl, rfl⟩ | ⟨g, cap, rfl, hc, hg⟩
  · refine Calls.mono (AnyG.slices_Compact_int_empty Tryz.lCompact none 0 w) ?_
    rintro e w' ⟨rfl, rfl⟩
    exact ⟨_, rfl, R_nil _ _ _ _ _, hB, Kept.refl _ _⟩
  · refine Calls.mono (AnyG.slices_Compact_int Tryz.lCompact g 0 cap l0 w (R_holds ho) (by omega) hc) ?_
    rintro e w' ⟨rfl, q, rfl⟩
    have hl := compact_le l0
    have ho2 := R_over (ys := Lib.compact l0 ++ List.replicate (l0.length - (Lib.compact l0).length) 0) q #[] hB ho (by simp; omega) (Lib.compact l0).length (by simp)
    rw [List.take_left' rfl] at ho2
    simp only [Go.Sort.grow_empty] at ho2
    exact ⟨_, rfl, ho2.1, ho2.2.1, ho2.2.2⟩
def slices_Sort_int_int.f (l0 : List Int) : Option (List Int) := if l0.length < 4611686018427387904 then some (l0.mergeSort fun x y => decide (x ≤ y)) else none
theorem slices_Sort_int_int.calls (P0_ : Nat → Prop) (u_ : Value) (l0 r : List Int) (w0 w : World) (hB : Below w0.heap.size w0 w) (ho : (Kd.int .i64).R 3 w w0.heap.size P0_ u_ l0) (h : slices_Sort_int_int.f l0 = some r) :
    Calls Tryz.prog 111 #[u_] w fun e w' => e = .returned (.tuple #[]) ∧ (Kd.int .i64).R 3 w' w0.heap.size (fun k_ => (P0_ k_ ∨ w.heap.size ≤ k_)) u_ r ∧ Below w0.heap.size w0 w' ∧ Kept w w' (fun k_ => P0_ k_) := by
  have hb : l0.length < 4611686018427387904 ∧ (l0.mergeSort fun x y => decide (x ≤ y)) = r := by
    unfold slices_Sort_int_int.f at h
    split at h
    · next hb => exact ⟨hb, Option.some.inj h⟩
    · cases h
  obtain ⟨hb, rfl⟩ := hb
  rcases R_two ho with ⟨rfl, rfl⟩ | ⟨g, cap, rfl, hc, hg⟩
  · refine Calls.mono (AnyM.slices_Sort_int_none Tryz.lSort none 0 w) ?_
    rintro e w' ⟨rfl, rfl⟩
    exact ⟨rfl, by rw [List.mergeSort_nil]; exact R_nil _ _ _ _ _, hB, Kept.refl _ _⟩
  · refine Calls.mono (AnyM.slices_Sort_int Tryz.lSort g 0 cap l0 w (R_holds ho) hg hb) ?_
    rintro e w' ⟨rfl, n, os, rfl⟩
    have hl : (l0.mergeSort fun x y => decide (x ≤ y)).length = l0.length := List.length_mergeSort _
    have ho2 := R_over (ys := l0.mergeSort fun x y => decide (x ≤ y)) n os hB ho hl l0.length (by omega)
    rw [List.take_of_length_le (by omega)] at ho2
    exact ⟨rfl, ho2.1, ho2.2.1, ho2.2.2⟩
end Go.Proofs.YtahhgjkgfbppeaaGreat.XA
end
