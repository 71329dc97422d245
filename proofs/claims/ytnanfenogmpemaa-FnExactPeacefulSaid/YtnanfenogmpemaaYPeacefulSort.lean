/- slices.Sort and slices.Compact at []int, in place, over the shelf's contracts (which walk the library's own text). Conditions: each contract's own premises. -/
import Derived.Sort.Grow
import Derived.Shelf.SlicesG.CompactI
import Derived.Shelf.SortM.Plain
import Derived.Shelf.SortM.SortNone
import Derived.Shelf.SlGeneric
import Derived.Ground.SlgnProg
import Derived.Ground.SlgmProg
import Derived.Test.YtnanfenogmpemaaProg
import Derived.Test.YtnanfenogmpemaaWKept
import Derived.Test.YtnanfenogmpemaaWMore
namespace Go.Proofs
open Go.Shelf
def Try.lCompact_ren : Go.Shelf.Ren := ⟨fun | 43 => 134 | n => n, fun | 22 => 65 | 23 => 3 | 3 => 3 | 4 => 4 | 0 => 0 | n => n, fun | n => n⟩
theorem Try.lCompact : Go.Proofs.SlLaysN.n43 Try.prog Try.lCompact_ren := {
  mixed := by kernel_rfl
  f43 := ⟨Try.f134.name, by decide, Try.func134.trans (congrArg some (by kernel_rfl))⟩
  t0 := Try.underlying0
  a0 := Try.isAgg0
  z0 := Try.sizeOf0
  v0 := Try.zeroValue0
  t3 := Try.underlying3
  a3 := Try.isAgg3
  z3 := Try.sizeOf3
  v3 := Try.zeroValue3
  t4 := Try.underlying4
  a4 := Try.isAgg4
  z4 := Try.sizeOf4
  v4 := Try.zeroValue4
  t22 := Try.underlying65
  a22 := Try.isAgg65
  z22 := Try.sizeOf65
  v22 := Try.zeroValue65
  t23 := Try.underlying3
  a23 := Try.isAgg3
  z23 := Try.sizeOf3
  v23 := Try.zeroValue3
  i23 := by kernel_rfl }
def Try.lSort_ren : Go.Shelf.Ren := ⟨fun | 5 => 133 | 8 => 151 | 7 => 150 | 19 => 167 | 20 => 168 | 10 => 158 | 11 => 159 | 12 => 160 | 13 => 161 | 14 => 162 | 15 => 163 | 16 => 164 | 17 => 165 | 18 => 166 | 30 => 171 | 31 => 172 | 32 => 173 | 33 => 174 | 34 => 175 | 35 => 147 | 40 => 180 | n => n, fun | 23 => 65 | 25 => 3 | 3 => 3 | 32 => 136 | 22 => 65 | 0 => 0 | 44 => 167 | 46 => 169 | 4 => 4 | 36 => 161 | 35 => 160 | 41 => 116 | 5 => 5 | 9 => 9 | 53 => 177 | 57 => 181 | 63 => 188 | 64 => 43 | n => n, fun | n => n⟩
theorem Try.lSort : Go.Proofs.SlLaysM.n5 Try.prog Try.lSort_ren := {
  mixed := by kernel_rfl
  f5 := ⟨Try.f133.name, by decide, Try.func133.trans (congrArg some (by kernel_rfl))⟩
  f7 := ⟨Try.f150.name, by decide, Try.func150.trans (congrArg some (by kernel_rfl))⟩
  f8 := Try.func151.trans (congrArg some (by kernel_rfl))
  f10 := ⟨Try.f158.name, by decide, Try.func158.trans (congrArg some (by kernel_rfl))⟩
  f11 := ⟨Try.f159.name, by decide, Try.func159.trans (congrArg some (by kernel_rfl))⟩
  f12 := ⟨Try.f160.name, by decide, Try.func160.trans (congrArg some (by kernel_rfl))⟩
  f13 := ⟨Try.f161.name, by decide, Try.func161.trans (congrArg some (by kernel_rfl))⟩
  f14 := ⟨Try.f162.name, by decide, Try.func162.trans (congrArg some (by kernel_rfl))⟩
  f15 := ⟨Try.f163.name, by decide, Try.func163.trans (congrArg some (by kernel_rfl))⟩
  f16 := ⟨Try.f164.name, by decide, Try.func164.trans (congrArg some (by kernel_rfl))⟩
  f17 := ⟨Try.f165.name, by decide, Try.func165.trans (congrArg some (by kernel_rfl))⟩
  f18 := ⟨Try.f166.name, by decide, Try.func166.trans (congrArg some (by kernel_rfl))⟩
  f19 := Try.func167.trans (congrArg some (by kernel_rfl))
  f20 := Try.func168.trans (congrArg some (by kernel_rfl))
  f30 := ⟨Try.f171.name, by decide, Try.func171.trans (congrArg some (by kernel_rfl))⟩
  f31 := Try.func172.trans (congrArg some (by kernel_rfl))
  f32 := Try.func173.trans (congrArg some (by kernel_rfl))
  f33 := ⟨Try.f174.name, by decide, Try.func174.trans (congrArg some (by kernel_rfl))⟩
  f34 := ⟨Try.f175.name, by decide, Try.func175.trans (congrArg some (by kernel_rfl))⟩
  f35 := ⟨Try.f147.name, by decide, Try.func147.trans (congrArg some (by kernel_rfl))⟩
  f40 := ⟨Try.f180.name, by decide, Try.func180.trans (congrArg some (by kernel_rfl))⟩
  t0 := Try.underlying0
  a0 := Try.isAgg0
  z0 := Try.sizeOf0
  v0 := Try.zeroValue0
  t3 := Try.underlying3
  a3 := Try.isAgg3
  z3 := Try.sizeOf3
  v3 := Try.zeroValue3
  t4 := Try.underlying4
  a4 := Try.isAgg4
  z4 := Try.sizeOf4
  v4 := Try.zeroValue4
  t5 := Try.underlying5
  a5 := Try.isAgg5
  z5 := Try.sizeOf5
  v5 := Try.zeroValue5
  t9 := Try.underlying9
  a9 := Try.isAgg9
  z9 := Try.sizeOf9
  v9 := Try.zeroValue9
  t22 := Try.underlying65
  a22 := Try.isAgg65
  z22 := Try.sizeOf65
  v22 := Try.zeroValue65
  t23 := Try.underlying65
  a23 := Try.isAgg65
  z23 := Try.sizeOf65
  v23 := Try.zeroValue65
  t25 := Try.underlying3
  a25 := Try.isAgg3
  z25 := Try.sizeOf3
  v25 := Try.zeroValue3
  t32 := Try.underlying136
  a32 := Try.isAgg136
  z32 := Try.sizeOf136
  v32 := Try.zeroValue136
  t35 := Try.underlying160
  a35 := Try.isAgg160
  z35 := Try.sizeOf160
  v35 := Try.zeroValue160
  t36 := Try.underlying161
  a36 := Try.isAgg161
  z36 := Try.sizeOf161
  v36 := Try.zeroValue161
  t41 := Try.underlying116
  a41 := Try.isAgg116
  z41 := Try.sizeOf116
  v41 := Try.zeroValue116
  t44 := Try.underlying167
  a44 := Try.isAgg167
  z44 := Try.sizeOf167
  v44 := Try.zeroValue167
  t46 := Try.underlying169
  a46 := Try.isAgg169
  z46 := Try.sizeOf169
  v46 := Try.zeroValue169
  t53 := Try.underlying177
  a53 := Try.isAgg177
  z53 := Try.sizeOf177
  v53 := Try.zeroValue177
  t57 := Try.underlying181
  a57 := Try.isAgg181
  z57 := Try.sizeOf181
  v57 := Try.zeroValue181
  t63 := Try.underlying188
  a63 := Try.isAgg188
  z63 := Try.sizeOf188
  v63 := Try.zeroValue188
  t64 := Try.underlying43
  a64 := Try.isAgg43
  z64 := Try.sizeOf43
  v64 := Try.zeroValue43 }
end Go.Proofs
namespace Go.Proofs.Ytnanfenogmpemaa.XA
open Go.RowKit Go.Sort Go.Proofs.YtnanfenogmpemaaW.PrintWords Go.Proofs.YtnanfenogmpemaaW.PrintWords.Kd
theorem put_heap (enc : Int → Value) (w : World) (n g : Nat) (ys : Array Int) (os : Array Obj) {cur : Array Value} {e : TypeId} (hg : w.heap[g]? = some (.cells cur e (0, 0))) :
    (Go.Sort.grow (putRow enc (Sort.ahead w n) g 0 ys) os).heap[g]? = some (.cells (putCells enc 0 ys cur) e (0, 0)) ∧
    (∀ k, k < w.heap.size → k ≠ g → (Go.Sort.grow (putRow enc (Sort.ahead w n) g 0 ys) os).heap[k]? = w.heap[k]?) ∧ w.heap.size ≤ (Go.Sort.grow (putRow enc (Sort.ahead w n) g 0 ys) os).heap.size := by
  have hsz : (putRow enc (Sort.ahead w n) g 0 ys).heap.size = w.heap.size := by simp [putRow, mapBlock, Sort.ahead]
  have hlt := blk_lt hg
  refine ⟨?_, ?_, ?_⟩
  · rw [heap_grow_old _ _ (by rw [hsz]; exact hlt)]
    simp [putRow, mapBlock, Sort.ahead, Array.getElem?_modify, hg, onCells]
  · intro k hk hne
    rw [heap_grow_old _ _ (by rw [hsz]; exact hk)]
    simp [putRow, mapBlock, Sort.ahead, Array.getElem?_modify, Ne.symm hne]
  · rw [size_grow, hsz]; omega
/-- A row of one's own whose cells have been written over, from its head on. -/
theorem R_over {e : Nat} {ok : Nat → Prop} {w0 w : World} {l0 ys : List Int} {g cap : Nat} (n : Nat) (os : Array Obj) (hB : Below w0.heap.size w0 w) (ho : (Kd.int .i64).R e w w0.heap.size ok (.slice (some ⟨g, 0, none⟩) l0.length cap) l0) (hy : ys.length = l0.length) (m : Nat) (hm : m ≤ ys.length) :
    (Kd.int .i64).R e (Go.Sort.grow (putRow (Value.int .i64) (Sort.ahead w n) g 0 ys.toArray) os) w0.heap.size (fun k => ok k ∨ w.heap.size ≤ k) (.slice (some ⟨g, 0, none⟩) m cap) (ys.take m) ∧
    Below w0.heap.size w0 (Go.Sort.grow (putRow (Value.int .i64) (Sort.ahead w n) g 0 ys.toArray) os) ∧ Kept w (Go.Sort.grow (putRow (Value.int .i64) (Sort.ahead w n) g 0 ys.toArray) os) (fun k => ok k) := by
  obtain ⟨hk, inner, ⟨hl, hcase⟩, hreps⟩ := ho
  rcases hcase with ⟨hv, _⟩ | ⟨g', cap', cur, hv, hbase, hheap, hncap, hcapm, hcur, htake⟩
  · cases hv
  · injection hv with h1 h2 h3
    injection h1 with h1
    injection h1 with h1 _ _
    subst h1 h3
    obtain ⟨a1, a2, a3⟩ := put_heap (Value.int .i64) w n g ys.toArray os hheap
    have hps : (putCells (Value.int .i64) 0 ys.toArray cur).size = cur.size := by simp [putCells]
    refine ⟨⟨fun k e_ => .inl (hk k e_), (ys.take m).map (Value.int .i64), ⟨by simp [Kd.int, Kd.scalar], .inr ⟨g, cap, _, by simp [Nat.min_eq_left hm], hbase, a1, by simp; omega, hcapm, by rw [hps]; exact hcur, ?_⟩⟩, by simp [Kd.int, Kd.scalar], ?_⟩, ?_, ?_⟩
    · have hcs : cur.size = cap * 1 := hcur
      apply List.ext_getElem?
      intro j
      show ((putCells (Value.int .i64) 0 ys.toArray cur).toList.take ((ys.take m).length * 1))[j]? = _
      rw [List.getElem?_take]
      split
      · next hj =>
        have hj' : j < m := by simp at hj; omega
        simp [putCells, hj', show j < ys.length by omega, show j < cur.size by omega]
      · next hj =>
        simp at hj
        simp
        omega
    · intro j p hp
      show ((((ys.take m).map (Value.int .i64)).drop (j * 1)).take 1) = [Value.int .i64 p]
      have hj : j < (ys.take m).length := by
        rcases Nat.lt_or_ge j (ys.take m).length with h | h
        · exact h
        · rw [List.getElem?_eq_none h] at hp; cases hp
      rw [List.getElem?_eq_getElem hj] at hp
      injection hp with hp
      rw [Nat.mul_one, List.drop_eq_getElem_cons (by simpa using hj), List.take_succ_cons, List.take_zero, List.getElem_map, hp]
    · refine ⟨hB.os, hB.tape, hB.output, Nat.le_trans hB.size a3, fun k hk' => ?_⟩
      rw [a2 k (Nat.lt_of_lt_of_le hk' hB.size) (by omega)]
      exact hB.block k hk'
    · exact ⟨a3, fun k hk' hn => a2 k hk' (fun e_ => hn (e_ ▸ hk g rfl))⟩
theorem R_holds {e : Nat} {ok : Nat → Prop} {w0 w : World} {l0 : List Int} {g cap : Nat} (ho : (Kd.int .i64).R e w w0.heap.size ok (.slice (some ⟨g, 0, none⟩) l0.length cap) l0) : Holds (Value.int .i64) w g 0 l0.toArray := by
  intro j hj
  have hj' : j < l0.length := by simpa using hj
  have h := R_cell (0 : Int) ho (j : Int) (by omega) (by omega)
  rw [Nat.zero_add]
  have e1 : l0.toArray[j]! = rdOf 0 l0 (j : Int) := by simp [rdOf, hj', List.getD_eq_getElem?_getD]
  rw [e1]
  exact h
theorem R_two {e : Nat} {ok : Nat → Prop} {w0 w : World} {l0 : List Int} {v : Value} (ho : (Kd.int .i64).R e w w0.heap.size ok v l0) : (v = .slice none 0 0 ∧ l0 = []) ∨ ∃ g cap, v = .slice (some ⟨g, 0, none⟩) l0.length cap ∧ l0.length ≤ cap ∧ g < w.heap.size := by
  obtain ⟨hk, inner, ⟨hl, hcase⟩, hreps⟩ := ho
  rcases hcase with ⟨hv, hn⟩ | ⟨g', cap', cur, hv, hbase, hheap, hncap, hcapm, hcur, htake⟩
  · exact .inl ⟨hv, List.eq_nil_of_length_eq_zero hn⟩
  · exact .inr ⟨g', cap', hv, hncap, blk_lt hheap⟩
def slices_Compact_int_int.f (l0 : List Int) : Option (List Int) := if l0.length < 4611686018427387904 then some (Lib.compact l0) else none
theorem compact_le (l : List Int) : (Lib.compact l).length ≤ l.length := by
  unfold Lib.compact Lib.compactUpTo
  rw [List.length_map]
  exact Nat.le_trans (List.length_filter_le _ _) (by simp)
theorem slices_Compact_int_int.calls (P0_ : Nat → Prop) (u_ : Value) (l0 r : List Int) (w0 w : World) (hB : Below w0.heap.size w0 w) (ho : (Kd.int .i64).R 3 w w0.heap.size P0_ u_ l0) (h : slices_Compact_int_int.f l0 = some r) :
    Calls Try.prog 134 #[u_] w fun e w' => ∃ v0_ : Value, e = .returned v0_ ∧ (Kd.int .i64).R 3 w' w0.heap.size (fun k_ => (P0_ k_ ∨ w.heap.size ≤ k_)) v0_ r ∧ Below w0.heap.size w0 w' ∧ Kept w w' (fun k_ => P0_ k_) := by
  have hb : l0.length < 4611686018427387904 ∧ Lib.compact l0 = r := by
    unfold slices_Compact_int_int.f at h
    split at h
    · next hb => exact ⟨hb, Option.some.inj h⟩
    · cases h
  obtain ⟨hb, rfl⟩ := hb
  rcases R_two ho with ⟨rfl, rfl⟩ | ⟨g, cap, rfl, hc, hg⟩
  · refine Calls.mono (AnyG.slices_Compact_int_empty Try.lCompact none 0 w) ?_
    rintro e w' ⟨rfl, rfl⟩
    exact ⟨_, rfl, R_nil _ _ _ _ _, hB, Kept.refl _ _⟩
  · refine Calls.mono (AnyG.slices_Compact_int Try.lCompact g 0 cap l0 w (R_holds ho) (by omega) hc) ?_
    rintro e w' ⟨rfl, q, rfl⟩
    have hl := compact_le l0
    have ho2 := R_over (ys := Lib.compact l0 ++ List.replicate (l0.length - (Lib.compact l0).length) 0) q #[] hB ho (by simp; omega) (Lib.compact l0).length (by simp)
    rw [List.take_left' rfl] at ho2
    simp only [Go.Sort.grow_empty] at ho2
    exact ⟨_, rfl, ho2.1, ho2.2.1, ho2.2.2⟩
def slices_Sort_int_int.f (l0 : List Int) : Option (List Int) := if l0.length < 4611686018427387904 then some (l0.mergeSort fun x y => decide (x ≤ y)) else none
theorem slices_Sort_int_int.calls (P0_ : Nat → Prop) (u_ : Value) (l0 r : List Int) (w0 w : World) (hB : Below w0.heap.size w0 w) (ho : (Kd.int .i64).R 3 w w0.heap.size P0_ u_ l0) (h : slices_Sort_int_int.f l0 = some r) :
    Calls Try.prog 133 #[u_] w fun e w' => e = .returned (.tuple #[]) ∧ (Kd.int .i64).R 3 w' w0.heap.size (fun k_ => (P0_ k_ ∨ w.heap.size ≤ k_)) u_ r ∧ Below w0.heap.size w0 w' ∧ Kept w w' (fun k_ => P0_ k_) := by
  have hb : l0.length < 4611686018427387904 ∧ (l0.mergeSort fun x y => decide (x ≤ y)) = r := by
    unfold slices_Sort_int_int.f at h
    split at h
    · next hb => exact ⟨hb, Option.some.inj h⟩
    · cases h
  obtain ⟨hb, rfl⟩ := hb
  rcases R_two ho with ⟨rfl, rfl⟩ | ⟨g, cap, rfl, hc, hg⟩
  · refine Calls.mono (AnyM.slices_Sort_int_none Try.lSort none 0 w) ?_
    rintro e w' ⟨rfl, rfl⟩
    exact ⟨rfl, by rw [List.mergeSort_nil]; exact R_nil _ _ _ _ _, hB, Kept.refl _ _⟩
  · refine Calls.mono (AnyM.slices_Sort_int Try.lSort g 0 cap l0 w (R_holds ho) hg hb) ?_
    rintro e w' ⟨rfl, n, os, rfl⟩
    have hl : (l0.mergeSort fun x y => decide (x ≤ y)).length = l0.length := List.length_mergeSort _
    have ho2 := R_over (ys := l0.mergeSort fun x y => decide (x ≤ y)) n os hB ho hl l0.length (by omega)
    rw [List.take_of_length_le (by omega)] at ho2
    exact ⟨rfl, ho2.1, ho2.2.1, ho2.2.2⟩
end Go.Proofs.Ytnanfenogmpemaa.XA
