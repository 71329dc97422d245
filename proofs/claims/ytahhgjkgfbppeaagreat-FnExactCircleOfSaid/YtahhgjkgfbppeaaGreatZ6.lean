/- Words and contracts of this claim. Conditions: each theorem's own premises. -/
import Derived.Sort.Grow
import Derived.Shelf.SlicesG.CompactI
import Derived.Shelf.SortM.Plain
import Derived.Shelf.SortM.SortNone
import Derived.Shelf.SlGeneric
import Derived.Ground.SlgnProg
import Derived.Ground.SlgmProg
import Derived.Test.YtahhgjkgfbppeaaGreatProg
import Derived.Test.YtahhgjkgfbppeaaGreatZ0
section
namespace Go.Proofs
open Go.Shelf
def Tryz.lCompact_ren : Go.Shelf.Ren := ⟨fun | 43 => 112 | n => n, fun | 22 => 30 | 23 => 3 | 3 => 3 | 4 => 4 | 0 => 0 | n => n, fun | n => n⟩
theorem Tryz.lCompact : Go.Proofs.SlLaysN.n43 Tryz.prog Tryz.lCompact_ren := {
  mixed := by kernel_rfl
  f43 := ⟨Tryz.f112.name, by decide, Tryz.func112.trans (congrArg some (by kernel_rfl))⟩
  t0 := Tryz.underlying0
  a0 := Tryz.isAgg0
  z0 := Tryz.sizeOf0
  v0 := Tryz.zeroValue0
  t3 := Tryz.underlying3
  a3 := Tryz.isAgg3
  z3 := Tryz.sizeOf3
  v3 := Tryz.zeroValue3
  t4 := Tryz.underlying4
  a4 := Tryz.isAgg4
  z4 := Tryz.sizeOf4
  v4 := Tryz.zeroValue4
  t22 := Tryz.underlying30
  a22 := Tryz.isAgg30
  z22 := Tryz.sizeOf30
  v22 := Tryz.zeroValue30
  t23 := Tryz.underlying3
  a23 := Tryz.isAgg3
  z23 := Tryz.sizeOf3
  v23 := Tryz.zeroValue3
  i23 := by kernel_rfl }
def Tryz.lSort_ren : Go.Shelf.Ren := ⟨fun | 5 => 111 | 8 => 152 | 7 => 151 | 19 => 181 | 20 => 182 | 10 => 172 | 11 => 173 | 12 => 174 | 13 => 175 | 14 => 176 | 15 => 177 | 16 => 178 | 17 => 179 | 18 => 180 | 30 => 189 | 31 => 190 | 32 => 191 | 33 => 192 | 34 => 193 | 35 => 164 | 40 => 198 | n => n, fun | 23 => 30 | 25 => 3 | 3 => 3 | 32 => 147 | 22 => 30 | 0 => 0 | 44 => 174 | 46 => 176 | 4 => 4 | 36 => 168 | 35 => 167 | 41 => 139 | 5 => 5 | 9 => 9 | 53 => 181 | 57 => 185 | 63 => 195 | 64 => 65 | n => n, fun | n => n⟩
theorem Tryz.lSort : Go.Proofs.SlLaysM.n5 Tryz.prog Tryz.lSort_ren := {
  mixed := by kernel_rfl
  f5 := ⟨Tryz.f111.name, by decide, Tryz.func111.trans (congrArg some (by kernel_rfl))⟩
  f7 := ⟨Tryz.f151.name, by decide, Tryz.func151.trans (congrArg some (by kernel_rfl))⟩
  f8 := Tryz.func152.trans (congrArg some (by kernel_rfl))
  f10 := ⟨Tryz.f172.name, by decide, Tryz.func172.trans (congrArg some (by kernel_rfl))⟩
  f11 := ⟨Tryz.f173.name, by decide, Tryz.func173.trans (congrArg some (by kernel_rfl))⟩
  f12 := ⟨Tryz.f174.name, by decide, Tryz.func174.trans (congrArg some (by kernel_rfl))⟩
  f13 := ⟨Tryz.f175.name, by decide, Tryz.func175.trans (congrArg some (by kernel_rfl))⟩
  f14 := ⟨Tryz.f176.name, by decide, Tryz.func176.trans (congrArg some (by kernel_rfl))⟩
  f15 := ⟨Tryz.f177.name, by decide, Tryz.func177.trans (congrArg some (by kernel_rfl))⟩
  f16 := ⟨Tryz.f178.name, by decide, Tryz.func178.trans (congrArg some (by kernel_rfl))⟩
  f17 := ⟨Tryz.f179.name, by decide, Tryz.func179.trans (congrArg some (by kernel_rfl))⟩
  f18 := ⟨Tryz.f180.name, by decide, Tryz.func180.trans (congrArg some (by kernel_rfl))⟩
  f19 := Tryz.func181.trans (congrArg some (by kernel_rfl))
  f20 := Tryz.func182.trans (congrArg some (by kernel_rfl))
  f30 := ⟨Tryz.f189.name, by decide, Tryz.func189.trans (congrArg some (by kernel_rfl))⟩
  f31 := Tryz.func190.trans (congrArg some (by kernel_rfl))
  f32 := Tryz.func191.trans (congrArg some (by kernel_rfl))
  f33 := ⟨Tryz.f192.name, by decide, Tryz.func192.trans (congrArg some (by kernel_rfl))⟩
  f34 := ⟨Tryz.f193.name, by decide, Tryz.func193.trans (congrArg some (by kernel_rfl))⟩
  f35 := ⟨Tryz.f164.name, by decide, Tryz.func164.trans (congrArg some (by kernel_rfl))⟩
  f40 := ⟨Tryz.f198.name, by decide, Tryz.func198.trans (congrArg some (by kernel_rfl))⟩
  t0 := Tryz.underlying0
  a0 := Tryz.isAgg0
  z0 := Tryz.sizeOf0
  v0 := Tryz.zeroValue0
  t3 := Tryz.underlying3
  a3 := Tryz.isAgg3
  z3 := Tryz.sizeOf3
  v3 := Tryz.zeroValue3
  t4 := Tryz.underlying4
  a4 := Tryz.isAgg4
  z4 := Tryz.sizeOf4
  v4 := Tryz.zeroValue4
  t5 := Tryz.underlying5
  a5 := Tryz.isAgg5
  z5 := Tryz.sizeOf5
  v5 := Tryz.zeroValue5
  t9 := Tryz.underlying9
  a9 := Tryz.isAgg9
  z9 := Tryz.sizeOf9
  v9 := Tryz.zeroValue9
  t22 := Tryz.underlying30
  a22 := Tryz.isAgg30
  z22 := Tryz.sizeOf30
  v22 := Tryz.zeroValue30
  t23 := Tryz.underlying30
  a23 := Tryz.isAgg30
  z23 := Tryz.sizeOf30
  v23 := Tryz.zeroValue30
  t25 := Tryz.underlying3
  a25 := Tryz.isAgg3
  z25 := Tryz.sizeOf3
  v25 := Tryz.zeroValue3
  t32 := Tryz.underlying147
  a32 := Tryz.isAgg147
  z32 := Tryz.sizeOf147
  v32 := Tryz.zeroValue147
  t35 := Tryz.underlying167
  a35 := Tryz.isAgg167
  z35 := Tryz.sizeOf167
  v35 := Tryz.zeroValue167
  t36 := Tryz.underlying168
  a36 := Tryz.isAgg168
  z36 := Tryz.sizeOf168
  v36 := Tryz.zeroValue168
  t41 := Tryz.underlying139
  a41 := Tryz.isAgg139
  z41 := Tryz.sizeOf139
  v41 := Tryz.zeroValue139
  t44 := Tryz.underlying174
  a44 := Tryz.isAgg174
  z44 := Tryz.sizeOf174
  v44 := Tryz.zeroValue174
  t46 := Tryz.underlying176
  a46 := Tryz.isAgg176
  z46 := Tryz.sizeOf176
  v46 := Tryz.zeroValue176
  t53 := Tryz.underlying181
  a53 := Tryz.isAgg181
  z53 := Tryz.sizeOf181
  v53 := Tryz.zeroValue181
  t57 := Tryz.underlying185
  a57 := Tryz.isAgg185
  z57 := Tryz.sizeOf185
  v57 := Tryz.zeroValue185
  t63 := Tryz.underlying195
  a63 := Tryz.isAgg195
  z63 := Tryz.sizeOf195
  v63 := Tryz.zeroValue195
  t64 := Tryz.underlying65
  a64 := Tryz.isAgg65
  z64 := Tryz.sizeOf65
  v64 := Tryz.zeroValue65 }
end Go.Proofs
namespace Go.Proofs.YtahhgjkgfbppeaaGreat.XA
open Go.RowKit Go.Sort Go.Proofs.YtahhgjkgfbppeaaGreatW.PrintWords Go.Proofs.YtahhgjkgfbppeaaGreatW.PrintWords.Kd
theorem put_heap (enc : Int → Value) (w : World) (n g : Nat) (ys : Array Int) (os : Array Obj) {cur : Array Value} {e : TypeId} (hg : w.heap[g]? = some (.cells cur e (0, 0))) :
    (Go.Sort.grow (putRow enc (Sort.ahead w n) g 0 ys) os).heap[g]? = some (.cells (putCells enc 0 ys cur) e (0, 0)) ∧
    (∀ k, k < w.heap.size → k ≠ g → (Go.Sort.grow (putRow enc (Sort.ahead w n) g 0 ys) os).heap[k]? = w.heap[k]?) ∧ w.heap.size ≤ (Go.Sort.grow (putRow enc (Sort.ahead w n) g 0 ys) os).heap.size := by
  have hsz : (putRow enc (Sort.ahead w n) g 0 ys).heap.size = w.heap.size := by simp [putRow, mapBlock, Sort.ahead]
  have hlt := blk_lt hg
  refine ⟨?_, ?_, ?_⟩
  · rw [heap_grow_old _ _ (by rw [hsz]; exact hlt)]
    simp [putRow, mapBlock, Sort.ahead, Array.getElem?_modify, hg, onCells]
  · intro k hk hne
    rw [heap_grow_old _ _ (by rw [hsz]; exact hk)]
    simp [putRow, mapBlock, Sort.ahead, Array.getElem?_modify, Ne.symm hne]
  · rw [size_grow, hsz]; omega
theorem R_over {e : Nat} {ok : Nat → Prop} {w0 w : World} {l0 ys : List Int} {g cap : Nat} (n : Nat) (os : Array Obj) (hB : Below w0.heap.size w0 w) (ho : (Kd.int .i64).R e w w0.heap.size ok (.slice (some ⟨g, 0, none⟩) l0.length cap) l0) (hy : ys.length = l0.length) (m : Nat) (hm : m ≤ ys.length) :
    (Kd.int .i64).R e (Go.Sort.grow (putRow (Value.int .i64) (Sort.ahead w n) g 0 ys.toArray) os) w0.heap.size (fun k => ok k ∨ w.heap.size ≤ k) (.slice (some ⟨g, 0, none⟩) m cap) (ys.take m) ∧
    Below w0.heap.size w0 (Go.Sort.grow (putRow (Value.int .i64) (Sort.ahead w n) g 0 ys.toArray) os) ∧ Kept w (Go.Sort.grow (putRow (Value.int .i64) (Sort.ahead w n) g 0 ys.toArray) os) (fun k => ok k) := by
  obtain ⟨hk, inner, ⟨hl, hcase⟩, hreps⟩ := ho
  rcases hcase with ⟨hv, _⟩ | ⟨g', cap', cur, hv, hbase, hheap, hncap, hcapm, hcur, htake⟩
  · cases hv
  · injection hv with h1 h2 h3
    injection h1 with h1
    injection h1 with h1 _ _
    subst h1 h3
    obtain ⟨a1, a2, a3⟩ := put_heap (Value.int .i64) w n g ys.toArray os hheap
    have hps : (putCells (Value.int .i64) 0 ys.toArray cur).size = cur.size := by simp [putCells]
    refine ⟨⟨fun k e_ => .inl (hk k e_), (ys.take m).map (Value.int .i64), ⟨by simp [Kd.int, Kd.scalar], .inr ⟨g, cap, _, by simp [Nat.min_eq_left hm], hbase, a1, by simp; omega, hcapm, by rw [hps]; exact hcur, ?_⟩⟩, by simp [Kd.int, Kd.scalar], ?_⟩, ?_, ?_⟩
    · have hcs : cur.size = cap * 1 := hcur
      apply List.ext_getElem?
      intro j
      show ((putCells (Value.int .i64) 0 ys.toArray cur).toList.take ((ys.take m).length * 1))[j]? = _
      rw [List.getElem?_take]
      split
      · next hj =>
        have hj' : j < m := by simp at hj; omega
        simp [putCells, hj', show j < ys.length by omega, show j < cur.size by omega]
      · next hj =>
        simp at hj
        simp
        omega
    · intro j p hp
      show ((((ys.take m).map (Value.int .i64)).drop (j * 1)).take 1) = [Value.int .i64 p]
      have hj : j < (ys.take m).length := by
        rcases Nat.lt_or_ge j (ys.take m).length with h | h
        · exact h
        · rw [List.getElem?_eq_none h] at hp; cases hp
      rw [List.getElem?_eq_getElem hj] at hp
      injection hp with hp
      rw [Nat.mul_one, List.drop_eq_getElem_cons (by simpa using hj), List.take_succ_cons, List.take_zero, List.getElem_map, hp]
    · refine ⟨hB.os, hB.tape, hB.output, Nat.le_trans hB.size a3, fun k hk' => ?_⟩
      rw [a2 k (Nat.lt_of_lt_of_le hk' hB.size) (by omega)]
      exact hB.block k hk'
    · exact ⟨a3, fun k hk' hn => a2 k hk' (fun e_ => hn (e_ ▸ hk g rfl))⟩
theorem R_holds {e : Nat} {ok : Nat → Prop} {w0 w : World} {l0 : List Int} {g cap : Nat} (ho : (Kd.int .i64).R e w w0.heap.size ok (.slice (some ⟨g, 0, none⟩) l0.length cap) l0) : Holds (Value.int .i64) w g 0 l0.toArray := by
  intro j hj
  have hj' : j < l0.length := by simpa using hj
  have h := R_cell (0 : Int) ho (j : Int) (by omega) (by omega)
  rw [Nat.zero_add]
  have e1 : l0.toArray[j]! = rdOf 0 l0 (j : Int) := by simp [rdOf, hj', List.getD_eq_getElem?_getD]
  rw [e1]
  exact h
theorem R_two {e : Nat} {ok : Nat → Prop} {w0 w : World} {l0 : List Int} {v : Value} (ho : (Kd.int .i64).R e w w0.heap.size ok v l0) : (v = .slice none 0 0 ∧ l0 = []) ∨ ∃ g cap, v = .slice (some ⟨g, 0, none⟩) l0.length cap ∧ l0.length ≤ cap ∧ g < w.heap.size := by
  obtain ⟨hk, inner, ⟨hl, hcase⟩, hreps⟩ := ho
  rcases hcase with ⟨hv, hn⟩ | ⟨g', cap', cur, hv, hbase, hheap, hncap, hcapm, hcur, htake⟩
  · exact .inl ⟨hv, List.eq_nil_of_length_eq_zero hn⟩
  · exact .inr ⟨g', cap', hv, hncap, blk_lt hheap⟩
def slices_Compact_int_int.f (l0 : List Int) : Option (List Int) := if l0.length < 4611686018427387904 then some (Lib.compact l0) else none
theorem compact_le (l : List Int) : (Lib.compact l).length ≤ l.length := by
  unfold Lib.compact Lib.compactUpTo
  rw [List.length_map]
  exact Nat.le_trans (List.length_filter_le _ _) (by simp)
theorem slices_Compact_int_int.calls (P0_ : Nat → Prop) (u_ : Value) (l0 r : List Int) (w0 w : World) (hB : Below w0.heap.size w0 w) (ho : (Kd.int .i64).R 3 w w0.heap.size P0_ u_ l0) (h : slices_Compact_int_int.f l0 = some r) :
    Calls Tryz.prog 112 #[u_] w fun e w' => ∃ v0_ : Value, e = .returned v0_ ∧ (Kd.int .i64).R 3 w' w0.heap.size (fun k_ => (P0_ k_ ∨ w.heap.size ≤ k_)) v0_ r ∧ Below w0.heap.size w0 w' ∧ Kept w w' (fun k_ => P0_ k_) := by
  have hb : l0.length < 4611686018427387904 ∧ Lib.compact l0 = r := by
    unfold slices_Compact_int_int.f at h
    split at h
    · next hb => exact ⟨hb, Option.some.inj h⟩
    · cases h
  obtain ⟨hb, rfl⟩ := hb
  rcases R_two ho with ⟨rfl, rfl⟩ | ⟨g, cap, rfl, hc, hg⟩
  · refine Calls.mono (AnyG.slices_Compact_int_empty Tryz.lCompact none 0 w) ?_
    rintro e w' ⟨rfl, rfl⟩
    exact ⟨_, rfl, R_nil _ _ _ _ _, hB, Kept.refl _ _⟩
  · refine Calls.mono (AnyG.slices_Compact_int Tryz.lCompact g 0 cap l0 w (R_holds ho) (by omega) hc) ?_
    rintro e w' ⟨rfl, q, rfl⟩
    have hl := compact_le l0
    have ho2 := R_over (ys := Lib.compact l0 ++ List.replicate (l0.length - (Lib.compact l0).length) 0) q #[] hB ho (by simp; omega) (Lib.compact l0).length (by simp)
    rw [List.take_left' rfl] at ho2
    simp only [Go.Sort.grow_empty] at ho2
    exact ⟨_, rfl, ho2.1, ho2.2.1, ho2.2.2⟩
def slices_Sort_int_int.f (l0 : List Int) : Option (List Int) := if l0.length < 4611686018427387904 then some (l0.mergeSort fun x y => decide (x ≤ y)) else none
theorem slices_Sort_int_int.calls (P0_ : Nat → Prop) (u_ : Value) (l0 r : List Int) (w0 w : World) (hB : Below w0.heap.size w0 w) (ho : (Kd.int .i64).R 3 w w0.heap.size P0_ u_ l0) (h : slices_Sort_int_int.f l0 = some r) :
    Calls Tryz.prog 111 #[u_] w fun e w' => e = .returned (.tuple #[]) ∧ (Kd.int .i64).R 3 w' w0.heap.size (fun k_ => (P0_ k_ ∨ w.heap.size ≤ k_)) u_ r ∧ Below w0.heap.size w0 w' ∧ Kept w w' (fun k_ => P0_ k_) := by
  have hb : l0.length < 4611686018427387904 ∧ (l0.mergeSort fun x y => decide (x ≤ y)) = r := by
    unfold slices_Sort_int_int.f at h
    split at h
    · next hb => exact ⟨hb, Option.some.inj h⟩
    · cases h
  obtain ⟨hb, rfl⟩ := hb
  rcases R_two ho with ⟨rfl, rfl⟩ | ⟨g, cap, rfl, hc, hg⟩
  · refine Calls.mono (AnyM.slices_Sort_int_none Tryz.lSort none 0 w) ?_
    rintro e w' ⟨rfl, rfl⟩
    exact ⟨rfl, by rw [List.mergeSort_nil]; exact R_nil _ _ _ _ _, hB, Kept.refl _ _⟩
  · refine Calls.mono (AnyM.slices_Sort_int Tryz.lSort g 0 cap l0 w (R_holds ho) hg hb) ?_
    rintro e w' ⟨rfl, n, os, rfl⟩
    have hl : (l0.mergeSort fun x y => decide (x ≤ y)).length = l0.length := List.length_mergeSort _
    have ho2 := R_over (ys := l0.mergeSort fun x y => decide (x ≤ y)) n os hB ho hl l0.length (by omega)
    rw [List.take_of_length_le (by omega)] at ho2
    exact ⟨rfl, ho2.1, ho2.2.1, ho2.2.2⟩
end Go.Proofs.YtahhgjkgfbppeaaGreat.XA
end
