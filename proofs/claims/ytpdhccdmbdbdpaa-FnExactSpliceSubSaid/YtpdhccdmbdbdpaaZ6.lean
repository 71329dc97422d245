/- Words and contracts of this claim, put together out of several texts by a program of this session's. Conditions: each theorem's own premises. -/
import Derived.Test.YtpdhccdmbdbdpaaZ1
import Derived.Shelf.SlSortCmp.NoneTotal
import Derived.Shelf.SlGeneric
import Derived.Ground.SlsfProg
import Derived.Test.YtpdhccdmbdbdpaaZ0
section
namespace Go.Proofs
open Go.Shelf
def Try.lSortFunc_ren : Go.Shelf.Ren := ⟨fun | 6 => 147 | 15 => 163 | 14 => 162 | 28 => 174 | 29 => 175 | 20 => 166 | 21 => 167 | 22 => 168 | 23 => 169 | 24 => 170 | 25 => 171 | 26 => 172 | 27 => 173 | 46 => 176 | 47 => 177 | 48 => 178 | 49 => 179 | 50 => 180 | 57 => 181 | n => n, fun | 22 => 27 | 24 => 43 | 25 => 157 | 3 => 3 | 39 => 140 | 0 => 0 | 53 => 178 | 55 => 180 | 4 => 4 | 46 => 172 | 45 => 171 | 50 => 102 | 5 => 5 | 9 => 9 | 66 => 181 | 70 => 185 | 76 => 187 | 77 => 32 | n => n, fun | n => n⟩
theorem Try.lSortFunc : Go.Proofs.SlLaysF0.n6 Try.prog Try.lSortFunc_ren := {
  mixed := by kernel_rfl
  f6 := ⟨Try.f147.name, by decide, Try.func147.trans (congrArg some (by kernel_rfl))⟩
  f14 := ⟨Try.f162.name, by decide, Try.func162.trans (congrArg some (by kernel_rfl))⟩
  f15 := Try.func163.trans (congrArg some (by kernel_rfl))
  f20 := ⟨Try.f166.name, by decide, Try.func166.trans (congrArg some (by kernel_rfl))⟩
  f21 := ⟨Try.f167.name, by decide, Try.func167.trans (congrArg some (by kernel_rfl))⟩
  f22 := ⟨Try.f168.name, by decide, Try.func168.trans (congrArg some (by kernel_rfl))⟩
  f23 := ⟨Try.f169.name, by decide, Try.func169.trans (congrArg some (by kernel_rfl))⟩
  f24 := ⟨Try.f170.name, by decide, Try.func170.trans (congrArg some (by kernel_rfl))⟩
  f25 := ⟨Try.f171.name, by decide, Try.func171.trans (congrArg some (by kernel_rfl))⟩
  f26 := ⟨Try.f172.name, by decide, Try.func172.trans (congrArg some (by kernel_rfl))⟩
  f27 := ⟨Try.f173.name, by decide, Try.func173.trans (congrArg some (by kernel_rfl))⟩
  f28 := Try.func174.trans (congrArg some (by kernel_rfl))
  f29 := Try.func175.trans (congrArg some (by kernel_rfl))
  f46 := ⟨Try.f176.name, by decide, Try.func176.trans (congrArg some (by kernel_rfl))⟩
  f47 := Try.func177.trans (congrArg some (by kernel_rfl))
  f48 := Try.func178.trans (congrArg some (by kernel_rfl))
  f49 := ⟨Try.f179.name, by decide, Try.func179.trans (congrArg some (by kernel_rfl))⟩
  f50 := ⟨Try.f180.name, by decide, Try.func180.trans (congrArg some (by kernel_rfl))⟩
  f57 := ⟨Try.f181.name, by decide, Try.func181.trans (congrArg some (by kernel_rfl))⟩
  t0 := Try.underlying0
  a0 := Try.isAgg0
  z0 := Try.sizeOf0
  v0 := Try.zeroValue0
  t3 := Try.underlying3
  a3 := Try.isAgg3
  z3 := Try.sizeOf3
  v3 := Try.zeroValue3
  t4 := Try.underlying4
  a4 := Try.isAgg4
  z4 := Try.sizeOf4
  v4 := Try.zeroValue4
  t5 := Try.underlying5
  a5 := Try.isAgg5
  z5 := Try.sizeOf5
  v5 := Try.zeroValue5
  t9 := Try.underlying9
  a9 := Try.isAgg9
  z9 := Try.sizeOf9
  v9 := Try.zeroValue9
  t22 := Try.underlying27
  a22 := Try.isAgg27
  z22 := Try.sizeOf27
  v22 := Try.zeroValue27
  t25 := Try.underlying157
  a25 := Try.isAgg157
  z25 := Try.sizeOf157
  v25 := Try.zeroValue157
  t39 := Try.underlying140
  a39 := Try.isAgg140
  z39 := Try.sizeOf140
  v39 := Try.zeroValue140
  t45 := Try.underlying171
  a45 := Try.isAgg171
  z45 := Try.sizeOf171
  v45 := Try.zeroValue171
  t46 := Try.underlying172
  a46 := Try.isAgg172
  z46 := Try.sizeOf172
  v46 := Try.zeroValue172
  t50 := Try.underlying102
  a50 := Try.isAgg102
  z50 := Try.sizeOf102
  v50 := Try.zeroValue102
  t53 := Try.underlying178
  a53 := Try.isAgg178
  z53 := Try.sizeOf178
  v53 := Try.zeroValue178
  t55 := Try.underlying180
  a55 := Try.isAgg180
  z55 := Try.sizeOf180
  v55 := Try.zeroValue180
  t66 := Try.underlying181
  a66 := Try.isAgg181
  z66 := Try.sizeOf181
  v66 := Try.zeroValue181
  t70 := Try.underlying185
  a70 := Try.isAgg185
  z70 := Try.sizeOf185
  v70 := Try.zeroValue185
  t76 := Try.underlying187
  a76 := Try.isAgg187
  z76 := Try.sizeOf187
  v76 := Try.zeroValue187
  t77 := Try.underlying32
  a77 := Try.isAgg32
  z77 := Try.sizeOf32
  v77 := Try.zeroValue32 }
end Go.Proofs
namespace Go.Proofs.Ytpdhccdmbdbdpaa.XA
open Go.RowKit Go.Sort Go.Lib Go.Proofs.YtpdhccdmbdbdpaaW.PrintWords Go.Proofs.YtpdhccdmbdbdpaaW.PrintWords.Kd
set_option linter.unusedVariables false
set_option linter.unusedSimpArgs false
section
variable {α : Type} [Inhabited α]
theorem sort_heap (enc : α → List Value) (k : Nat) (w : World) (n g : Nat) (d : Array α) (os : Array Obj) {cur : Array Value} {e : TypeId} (hg : w.heap[g]? = some (.cells cur e (0, 0))) :
    (sortWorldK enc k w g 0 n d os).heap[g]? = some (.cells (putCells id 0 (flatK enc k d) cur) e (0, 0)) ∧
    (∀ j, j < w.heap.size → j ≠ g → (sortWorldK enc k w g 0 n d os).heap[j]? = w.heap[j]?) ∧ w.heap.size ≤ (sortWorldK enc k w g 0 n d os).heap.size := by
  have hsz : (putRow id (Sort.ahead w n) g 0 (flatK enc k d)).heap.size = w.heap.size := by simp [putRow, mapBlock, Sort.ahead]
  have hlt := blk_lt hg
  unfold sortWorldK putRowK
  refine ⟨?_, ?_, ?_⟩
  · rw [heap_grow_old _ _ (by rw [hsz]; exact hlt)]
    simp [putRow, mapBlock, Sort.ahead, Array.getElem?_modify, hg, onCells]
  · intro j hj hne
    rw [heap_grow_old _ _ (by rw [hsz]; exact hj)]
    simp [putRow, mapBlock, Sort.ahead, Array.getElem?_modify, Ne.symm hne]
  · rw [size_grow, hsz]; omega
theorem flat_bound {k n j : Nat} (hj : j < n) : j * k + k ≤ n * k := by
  have := Nat.mul_le_mul_right k (show j + 1 ≤ n from hj)
  rwa [Nat.add_mul, Nat.one_mul] at this
theorem flat_chunk (enc : α → List Value) (k : Nat) (hk : ∀ x, (enc x).length = k) (d : Array α) (j : Nat) (hj : j < d.size) : ((flatK enc k d).toList.drop (j * k)).take k = enc d[j]! := by
  have hb := flat_bound (k := k) hj
  apply List.ext_getElem
  · simp [hk]; omega
  · intro t h1 h2
    have ht : t < k := by rw [hk] at h2; exact h2
    rw [List.getElem_take, List.getElem_drop, Array.getElem_toList]
    have e := get_flatK enc k d (j * k + t) (by omega)
    rw [getElem!_pos _ _ (by simp; omega)] at e
    have e2 : (j * k + t) % k = t := by rw [Nat.mul_comm, Nat.mul_add_mod, Nat.mod_eq_of_lt ht]
    rw [e, (blk_iff k j (j * k + t) (by omega)).1 ⟨by omega, by omega⟩, e2, getElem!_pos (enc d[j]!) t h2]
end
theorem sort_cmp (a b x1 x2 y1 y2 : Int) (x3 y3 : ByteArray) (xA yA : Option Addr) (xn xc yn yc : Nat) (W : World) (h0 : -9223372036854775808 ≤ a - b) (h1 : a - b ≤ 9223372036854775807) :
    Calls Try.prog 148 #[.agg #[.int .i64 a, .int .i64 x1, .int .i64 x2, .string x3, .slice xA xn xc], .agg #[.int .i64 b, .int .i64 y1, .int .i64 y2, .string y3, .slice yA yn yc]] W fun e w' => e = .returned (.int .i64 (a - b)) ∧ ∃ q os', w' = Go.Sort.grow (W.drewN q) os' := by
  have hw : wrap64 (a - b) = a - b := by unfold wrap64; omega
  go_enter Try.func148, Try.ntmps148
  go_wp2
  go_ret
  refine ⟨by first | (rw [hw]) | (simp [hw]; done) | rfl, 0, _, by rw [alloc_eq_grow, alloc_eq_grow, grow_grow]; rfl⟩
def byId (a b : S43) : Bool := decide (a.f0 ≤ b.f0)
def impl_Doc_sort.f (a0_0 a0_1 : Int) (l0 : List S43) : Option (List S43) :=
  if l0.length < 4611686018427387904 ∧ (∀ x ∈ l0, 0 ≤ x.f0 ∧ x.f0 < 4611686018427387904) ∧ (l0.map (·.f0)).Nodup then some (l0.mergeSort byId) else none
set_option maxHeartbeats 4000000 in
theorem sort_func (P_ : Nat → Prop) (u_ : Value) (l0 r : List S43) (w0 w : World) (hB : Below w0.heap.size w0 w) (ho : Kd.S k43 43 w w0.heap.size P_ u_ l0) (h : impl_Doc_sort.f 0 0 l0 = some r) :
    Calls Try.prog 147 #[u_, .func (.func 148) #[] #[]] w fun e w' => e = .returned (.tuple #[]) ∧ Kd.S k43 43 w' w0.heap.size P_ u_ r ∧ Below w0.heap.size w0 w' ∧ Kept w w' P_ := by
  unfold impl_Doc_sort.f at h
  split at h
  · next hb =>
    obtain ⟨hb1, hb2, hb3⟩ := hb
    injection h with h
    subst h
    rcases Nat.eq_zero_or_pos l0.length with hz | hz
    · obtain ⟨A, c, rfl⟩ := Kd.S_slice ho
      have e0 : l0 = [] := List.eq_nil_of_length_eq_zero hz
      subst e0
      refine Calls.mono (AnyF.slices_SortFunc_none (P := Try.prog) Try.lSortFunc A c (.func (.func 148) #[] #[]) w) ?_
      rintro e w' ⟨rfl, rfl⟩
      exact ⟨rfl, by rw [List.mergeSort_nil]; exact ho, hB, Kept.refl _ _⟩
    · obtain ⟨m, hm⟩ : ∃ m, l0.length = m + 1 := ⟨l0.length - 1, by omega⟩
      obtain ⟨f, hk0, inner, ⟨hl, hcase⟩, hreps⟩ := ho
      rw [List.length_zipIdx] at hl hcase
      rcases hcase with ⟨_, hn⟩ | ⟨g, cap, cur, rfl, hbase, hheap, hncap, hcapm, hcur, htake⟩
      · omega
      · rw [hm] at hl hncap htake ⊢
        replace hl : inner.length = (m + 1) * 5 := hl
        replace hcur : cur.size = cap * 5 := hcur
        replace htake : cur.toList.take ((m + 1) * 5) = inner := htake
        have hpl : ∀ i : Fin (m + 1), i.val < l0.length := fun i => by rw [hm]; exact i.isLt
        have hM : ∀ i : Fin (m + 1), k43.M w w0.heap.size (fun k => (P_ k ∧ some k ≠ (Value.slice (some ⟨g, 0, none⟩) l0.length cap).ownBlock) ∧ f k = i.val) (l0[i.val]'(hpl i)) ((inner.drop (i.val * 5)).take 5) := fun i =>
          hreps.2 i.val (l0[i.val]'(hpl i), i.val) (zip_at (List.getElem?_eq_getElem (hpl i)))
        let enc : Fin (m + 1) → List Value := fun i => (inner.drop (i.val * 5)).take 5
        let cf : Fin (m + 1) → Fin (m + 1) → Int := fun i j => (l0[i.val]'(hpl i)).f0 - (l0[j.val]'(hpl j)).f0
        have hk : ∀ i, (enc i).length = 5 := fun i => by
          have := i.isLt
          simp only [enc, List.length_take, List.length_drop, hl]
          omega
        have h1 : ∀ i, ∀ v ∈ enc i, v.oneCell' = true := fun i => k43.K_one (k43.K_of_M (hM i))
        have hid : ∀ i : Fin (m + 1), 0 ≤ (l0[i.val]'(hpl i)).f0 ∧ (l0[i.val]'(hpl i)).f0 < 4611686018427387904 := fun i => hb2 _ (List.getElem_mem _)
        have hO : SWO (ltOf cf) := {
          irrefl := fun x => by simp [ltOf, cf]
          trans := fun x y z a b => by simp [ltOf, cf] at *; omega
          ntrans := fun x y z a b => by simp [ltOf, cf] at *; omega }
        have hT : ∀ x y, (ltOf cf) x y = false → (ltOf cf) y x = false → x = y := fun x y a b => by
          have e : (l0[x.val]'(hpl x)).f0 = (l0[y.val]'(hpl y)).f0 := by simp [ltOf, cf] at a b; omega
          have hx : x.val < (l0.map (·.f0)).length := by rw [List.length_map]; exact hpl x
          have hy : y.val < (l0.map (·.f0)).length := by rw [List.length_map]; exact hpl y
          rcases Nat.lt_trichotomy x.val y.val with q | q | q
          · exact absurd (by rw [List.getElem_map, List.getElem_map]; exact e) (List.pairwise_iff_getElem.1 hb3 _ _ hx hy q)
          · exact Fin.ext q
          · exact absurd (by rw [List.getElem_map, List.getElem_map]; exact e.symm) (List.pairwise_iff_getElem.1 hb3 _ _ hy hx q)
        let D : Array (Fin (m + 1)) := Array.ofFn fun i => i
        have hDs : D.size = m + 1 := by simp [D]
        have hDg : ∀ j (hj : j < m + 1), D[j]! = ⟨j, hj⟩ := fun j hj => by rw [getElem!_pos _ _ (by rw [hDs]; exact hj)]; simp [D]
        have hcmp : CmpLays Try.prog 148 #[] enc 5 cf g 0 D.size w := fun _ _ _ _ x y => by
          obtain ⟨vx, ex, rx⟩ := k43_openM (hM x)
          obtain ⟨vy, ey, ry⟩ := k43_openM (hM y)
          obtain ⟨xA, xc, rfl⟩ := Kd.R_slice rx
          obtain ⟨yA, yc, rfl⟩ := Kd.R_slice ry
          have bx := hid x
          have by_ := hid y
          have e1 : enc x = _ := ex
          have e2 : enc y = _ := ey
          rw [e1, e2]
          exact sort_cmp _ _ _ _ _ _ _ _ _ _ _ _ _ _ _ (by omega) (by omega)
        have hflat : ∀ j, j < (m + 1) * 5 → (flatK enc 5 D)[j]! = inner[j]! := fun j hj => by
          rw [get_flatK _ _ _ _ (by rw [hDs]; exact hj), hDg _ (by omega)]
          simp only [enc]
          have q : j / 5 * 5 + j % 5 = j := by omega
          rw [getElem!_pos _ _ (by simp [hl]; omega), List.getElem_take, List.getElem_drop, getElem!_pos _ _ (by rw [hl]; exact hj)]
          congr 1
        have hH : HoldsK enc 5 w g 0 D := fun j hj => by
          have hj5 : j < (m + 1) * 5 := by rw [size_flatK, hDs] at hj; exact hj
          have hjc : j < cur.size := by rw [hcur]; have := Nat.mul_le_mul_right 5 hncap; omega
          refine ⟨?_, blk_frozen hheap _⟩
          rw [Nat.zero_add, blk_cell hheap, hflat j hj5, Array.getElem?_eq_getElem hjc]
          have e := List.getElem_of_eq htake (i := j) (by simp; omega)
          rw [List.getElem_take, Array.getElem_toList] at e
          rw [e, getElem!_pos _ _ (by rw [hl]; exact hj5)]
          rfl
        have hcon := AnyQ.slices_SortFunc_total (P := Try.prog) Try.lSortFunc 5 Try.isAgg43 Try.sizeOf43 enc hk h1 cf hO 148 #[] g 0 cap D w (enters_of Try.func148 (by kernel_rfl) rfl) hcmp hH (blk_lt hheap) (by rw [hDs, ← hm]; exact hb1) hT
        rw [hDs] at hcon
        refine Calls.mono hcon ?_
        rintro e w' ⟨rfl, n, os, rfl⟩
        generalize hσ : (D.toList.mergeSort fun x y => !(ltOf cf) y x) = σ
        have hσp : σ.Perm D.toList := by rw [← hσ]; exact List.mergeSort_perm _ _
        have hσl : σ.length = m + 1 := by rw [hσp.length_eq, Array.length_toList, hDs]
        have hDt : ∀ j (hj : j < D.toList.length), (D.toList[j]'hj).val = j := fun j hj => by
          have hj2 : j < D.size := by simpa using hj
          have := hDg j (by rw [← hDs]; exact hj2)
          rw [getElem!_pos D j hj2] at this
          rw [Array.getElem_toList, this]
        have hDl : D.toList.map (fun i => l0[i.val]'(hpl i)) = l0 := by
          apply List.ext_getElem
          · simp [hDs, hm]
          · intro j a b
            simp only [List.getElem_map, hDt]
        have hr : l0.mergeSort byId = σ.map (fun i => l0[i.val]'(hpl i)) := by
          rw [← hσ, List.map_mergeSort (s := byId), hDl]
          intro a _ b _
          simp only [ltOf, cf, byId]
          rw [← decide_not]
          exact decide_eq_decide.2 (by omega)
        have hnd : σ.Nodup := by
          rw [hσp.nodup_iff, List.nodup_iff_pairwise_ne, List.pairwise_iff_getElem]
          intro i j hi hj hij e
          have := congrArg Fin.val e
          rw [hDt i hi, hDt j hj] at this
          omega
        obtain ⟨b1, b2, b3⟩ := sort_heap enc 5 w n g σ.toArray os hheap
        have hrl : (l0.mergeSort byId).length = l0.length := List.length_mergeSort _
        refine ⟨rfl, ⟨fun k => σ.findIdx (fun i => i.val == f k), hk0, (flatK enc 5 σ.toArray).toList, ⟨?_, .inr ⟨g, cap, _, by rw [List.length_zipIdx, hrl, hm], hbase, b1, ?_, hcapm, ?_, ?_⟩⟩, ?_, ?_⟩, ?_, ?_⟩
        · simp [hrl, hm, hσl]; rfl
        · rw [List.length_zipIdx, hrl, hm]; exact hncap
        · simp [putCells]; exact hcur
        · rw [List.length_zipIdx, hrl, hm]
          show (putCells id 0 (flatK enc 5 σ.toArray) cur).toList.take ((m + 1) * 5) = _
          apply List.ext_getElem
          · simp [putCells, hσl, hcur]
            have := Nat.mul_le_mul_right 5 hncap
            omega
          · intro j a b
            have hj : j < (m + 1) * 5 := by simpa [hσl] using b
            rw [List.getElem_take, Array.getElem_toList, Array.getElem_toList]
            simp [putCells, hσl, hj]
        · simp [hrl, hm, hσl]; rfl
        · intro j p hp
          have hj : j < (l0.mergeSort byId).length := by
            rcases Nat.lt_or_ge j (l0.mergeSort byId).length with q | q
            · exact q
            · rw [List.getElem?_eq_none (by rw [List.length_zipIdx]; exact q)] at hp
              cases hp
          have hjσ : j < σ.length := by rw [hσl, ← hm, ← hrl]; exact hj
          have hp' : p = ((l0.mergeSort byId)[j], j) := by
            rw [List.getElem?_zipIdx, List.getElem?_eq_getElem hj] at hp
            simpa using hp.symm
          subst hp'
          have ec : ((flatK enc 5 σ.toArray).toList.drop (j * 5)).take 5 = enc σ[j] := by
            rw [flat_chunk enc 5 hk _ j (by simpa using hjσ), getElem!_pos _ _ (by simpa using hjσ)]
            simp
          show k43.M _ _ _ (l0.mergeSort byId)[j] (((flatK enc 5 σ.toArray).toList.drop (j * 5)).take 5)
          rw [ec]
          have er : (l0.mergeSort byId)[j] = l0[(σ[j]).val]'(hpl _) := by
            have := List.getElem_of_eq hr (i := j) hj
            rw [this, List.getElem_map]
          rw [er]
          refine k43.M_mono (fun k hk_ => ⟨hk_.1, ?_⟩) (Kd.M_step (hM σ[j]) (fun k hk_ hlt => b2 k hlt (fun e_ => hk_.1.2 (by rw [e_]; rfl))))
          show σ.findIdx (fun i => i.val == f k) = j
          rw [show f k = (σ[j]).val from hk_.2]
          rw [List.findIdx_eq hjσ]
          refine ⟨by simp, fun i hi => ?_⟩
          have := List.pairwise_iff_getElem.1 hnd i j (by omega) hjσ hi
          simp
          exact fun e_ => this (Fin.ext e_)
        · refine ⟨hB.os, hB.tape, hB.output, Nat.le_trans hB.size b3, fun k hk' => ?_⟩
          rw [b2 k (Nat.lt_of_lt_of_le hk' hB.size) (by omega)]
          exact hB.block k hk'
        · exact ⟨b3, fun k hk' hn => b2 k hk' (fun e_ => hn (e_ ▸ hk0 g rfl))⟩
  · cases h
set_option maxHeartbeats 4000000 in
theorem impl_Doc_sort.calls (g0_ : Nat) (a0_0 a0_1 : Int) (P_ : Nat → Prop) (u_ : Value) (l0 r : List S43) (w0 w : World) (hB : Below w0.heap.size w0 w) (hg0_ : w.heap[g0_]? = some (.cells #[.int .i64 a0_0, .int .i64 a0_1, u_] 29 (0, 0))) (ho : Kd.S k43 43 w w0.heap.size P_ u_ l0) (h : impl_Doc_sort.f a0_0 a0_1 l0 = some r) :
    Calls Try.prog 126 #[.pointer (some ⟨g0_, 0, none⟩)] w fun e w' => e = .returned (.tuple #[]) ∧ Kd.S k43 43 w' w0.heap.size P_ u_ r ∧ Below w0.heap.size w0 w' ∧ Kept w w' P_ := by
  obtain ⟨A, c0, rfl⟩ := Kd.S_slice ho
  have hcon := sort_func P_ _ l0 r w0 w hB ho h
  have BK := Aside0.mk hg0_
  obtain ⟨hx0, hx1, hx2⟩ := XW.Xc3 BK
  clear hB ho h hg0_
  go_enter Try.func126, Try.ntmps126
  go_wp2_with (go_at_call 147; refine hcon.mono ?_; rintro e w' ⟨rfl, hs, hb, hk⟩)
  go_end0
  exact ⟨rfl, hs, hb, hk⟩
end Go.Proofs.Ytpdhccdmbdbdpaa.XA
end
