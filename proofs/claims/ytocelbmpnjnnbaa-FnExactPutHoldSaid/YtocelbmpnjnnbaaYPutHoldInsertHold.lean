/- slices.Insert at a row of locks of one's own: one more lock, at a place. The library's own text is walked; slices.overlaps is the model's entry. Conditions: the premises. -/
import Derived.Test.YtocelbmpnjnnbaaYPutHold0
import Derived.Test.YtocelbmpnjnnbaaHL
import Derived.Shelf.Spec.SlicesInsertGrow
namespace Go.Proofs.Ytocelbmpnjnnbaa.XA
set_option linter.unusedVariables false
set_option linter.unusedSimpArgs false
open Go.Lib Go.RowKit Go.Proofs.YtocelbmpnjnnbaaW.PrintWords Go.Proofs.YtocelbmpnjnnbaaW.PrintLast Go.Proofs.YtocelbmpnjnnbaaW.PrintMore
section
variable {P : Program}
theorem run_copy_k (w : World) (dT sT ty elem : TypeId) (b o dLen dCap : Nat) (a : Addr) (sLen sCap k : Nat) (cs : List Value)
    (hu : P.underlying dT = some (.slice elem)) (hs : (P.info? elem).map (·.size) = some k) (hn : cs.length = Nat.min sLen dLen * k)
    (hsrc : ∀ j v, cs[j]? = some v → w.cell? (a.add j) = some v) (hc : ∀ j, j < cs.length → (w.cell? ⟨b, o + j, none⟩).isSome = true) (hf : ∀ j, j < cs.length → w.frozen? ⟨b, o + j, none⟩ = false) (h1 : ∀ v ∈ cs, v.oneCell' = true) :
    (Builtin.copy_ #[dT, sT] ty #[.slice (some ⟨b, o, none⟩) dLen dCap, .slice (some a) sLen sCap]).run P w = .ok (goInt (Nat.min sLen dLen)) (w.setCells b o cs) := by
  have hl := run_loadCells_list (P := P) w a cs hsrc
  have hst := run_storeCells_cells (P := P) b o cs 0 w (by simpa using hc) (by simpa using hf) h1
  cases hq : P.info? elem with
  | none => simp [hq] at hs
  | some i =>
    have hi : i.size = k := by simpa [hq] using hs
    simp [Builtin.copy_, run_underlying hu, Builtin.lenOf, Builtin.firstCells, sizeOf, typeInfo, hq, hi, ← hn, hl, hst]
end
theorem infoInsHold : (Try.prog.info? 38).map (fun i => (i.zero, i.size, i.bytes)) = some (some (.agg #[.int .i64 0, .int .i64 0, .int .i64 0]), 3, 24) := by kernel_rfl
theorem sizeInsHold : (Try.prog.info? 38).map (·.size) = some 3 := by kernel_rfl
theorem sizeofHold (w : World) : (Go.sizeOf 38).run Try.prog w = .ok 3 w := by
  have h := sizeInsHold
  cases hq : Try.prog.info? 38 with
  | none => rw [hq] at h; cases h
  | some i =>
    rw [hq] at h
    have hi : i.size = 3 := by simpa using h
    simp [Go.sizeOf, typeInfo, hq, hi]
theorem shape_blk {w : World} {g t : Nat} {cs : Array Value} (h : w.heap[g]? = some (.cells cs t (0, 0))) : w.shape? g = some (t, cs.size) := by simp [World.shape?, h]
set_option maxHeartbeats 8000000 in
set_option maxRecDepth 100000 in
theorem ins_shift (b n c i vb vc : Nat) (A B V : List Value) (cur cv : Array Value) (w : World) (hi : i < n) (hroom : n + 1 ≤ c) (hc63 : c ≤ 9223372036854775807) (hvb : vb ≠ b)
    (hb : w.heap[b]? = some (.cells cur 38 (0, 0))) (hcur : cur.toList.take (n * 3) = A ++ B) (hA : A.length = i * 3) (hB : B.length = (n - i) * 3) (hsz : cur.size = c * 3)
    (hv : w.heap[vb]? = some (.cells cv 38 (0, 0))) (hcv : cv.toList.take 3 = V) (hV : V.length = 3) (h1B : ∀ v ∈ B, v.oneCell' = true) (h1V : ∀ v ∈ V, v.oneCell' = true) :
    Calls Try.prog 123 #[.slice (some ⟨b, 0, none⟩) n c, .int .i64 i, .slice (some ⟨vb, 0, none⟩) 1 vc] w fun e w' =>
      e = .returned (.slice (some ⟨b, 0, none⟩) (n + 1) c) ∧ w' = (w.drew.setCells b ((i + 1) * 3) B).setCells b (i * 3) V := by
  have u30 := run_underlying Try.underlying30
  have zE := sizeofHold
  have hz1 : ¬ ((1 : Int) = 0) := by omega
  have hz2 : ¬ ((i : Int) = (n : Int)) := by omega
  have hov : ∀ lb cb, (callFunc 181 #[.slice (some ⟨vb, 0, none⟩) 1 vc, .slice (some ⟨b, (i + 1) * 3, none⟩) lb cb]).run Try.prog w = .ok (.value (.bool false)) w := fun lb cb => by
    rw [run_callFunc_extern Try.func181 (by kernel_rfl) (by kernel_rfl) (by kernel_rfl) (e := Extern.SlicesOverlaps.overlaps #[30, 30] #[4]) (by kernel_rfl),
      Lib.run_overlaps_apart w 30 4 38 Try.underlying30 3 zE ⟨vb, 0, none⟩ ⟨b, (i + 1) * 3, none⟩ 1 vc lb cb hvb 38 38 cv.size cur.size (shape_blk hv) (shape_blk hb) (by omega) (blk_frozen hv 0) (blk_frozen hv _)]
    rfl
  have hlen : (A ++ B).length = n * 3 := by rw [List.length_append, hA, hB, Nat.sub_mul]; have := Nat.mul_le_mul_right 3 (Nat.le_of_lt hi); omega
  have hn3 : n * 3 ≤ cur.size := by rw [hsz]; exact Nat.mul_le_mul_right 3 (by omega)
  have hcB : ∀ j v, B[j]? = some v → w.cell? ⟨b, i * 3 + j, none⟩ = some v := fun j v hj => by
    rw [blk_cell hb, ← Array.getElem?_toList]
    have h1 : (A ++ B)[i * 3 + j]? = some v := by rw [List.getElem?_append_right (by omega), hA, Nat.add_sub_cancel_left]; exact hj
    rw [← hcur, List.getElem?_take] at h1
    split at h1
    · exact h1
    · cases h1
  have hcV : ∀ j v, V[j]? = some v → w.cell? ⟨vb, 0 + j, none⟩ = some v := fun j v hj => by
    rw [Nat.zero_add, blk_cell hv, ← Array.getElem?_toList]
    rw [← hcv, List.getElem?_take] at hj
    split at hj
    · exact hj
    · cases hj
  have hsp : ∀ j, j < (n + 1) * 3 → (w.cell? ⟨b, j, none⟩).isSome = true := fun j hj => by
    have : (n + 1) * 3 ≤ cur.size := by rw [hsz]; exact Nat.mul_le_mul_right 3 hroom
    rw [blk_cell hb, Array.getElem?_eq_getElem (by omega)]; rfl
  have hfz : ∀ j, w.frozen? ⟨b, j, none⟩ = false := fun j => blk_frozen hb j
  have mixed : Try.prog.follows Departure.mixedOrders = true := by kernel_rfl
  have hw1 : IntKind.i64.wrap ((i : Int) + 1) = (i : Int) + 1 := by rw [IntKind.wrap_i64]; omega
  have hw2 : IntKind.i64.wrap ((n : Int) + 1) = (n : Int) + 1 := by rw [IntKind.wrap_i64]; omega
  have hb1 : (0 : Int) ≤ (i : Int) + 1 := by omega
  have hin : i ≤ n := by omega
  have htn : ((i : Int) + 1).toNat = i + 1 := by omega
  have htm : ((n : Int) + 1).toNat = n + 1 := by omega
  have hb2 : ¬ (c = i + 1) := by omega
  have hb3 : (i : Int) ≤ (n : Int) + 1 := by omega
  have hb4 : ¬ (c = i) := by omega
  have hmn : Nat.min (n + 1 - i) (n - i) = n - i := by simp only [Nat.min_def]; split <;> omega
  have hmv : Nat.min 1 (n + 1 - i) = 1 := by simp only [Nat.min_def]; split <;> omega
  have hcp1 : ∀ ty dc sc, (Builtin.copy_ #[30, 30] ty #[  .slice (some ⟨b, (i + 1) * 3, none⟩) (n - i) dc, .slice (some ⟨b, i * 3, none⟩) (n + 1 - i) sc]).run Try.prog w.drew = .ok (goInt (n - i : Nat)) (w.drew.setCells b ((i + 1) * 3) B) := fun ty dc sc => by
    have h := run_copy_k (P := Try.prog) w.drew 30 30 ty 38 b ((i + 1) * 3) (n - i) dc ⟨b, i * 3, none⟩ (n + 1 - i) sc 3 B Try.underlying30 sizeInsHold (by rw [hB, hmn])
      (fun j v hj => by rw [Addr.add_lit]; exact hcB j v hj)
      (fun j hj => hsp _ (by rw [hB, Nat.sub_mul] at hj; have := Nat.mul_le_mul_right 3 hin; omega)) (fun j hj => hfz _) h1B
    rwa [hmn] at h
  obtain ⟨W1, hW1⟩ : ∃ W1, W1 = w.drew.setCells b ((i + 1) * 3) B := ⟨_, rfl⟩
  have hsp1 : ∀ k, k < (n + 1) * 3 → (W1.cell? ⟨b, k, none⟩).isSome = true := fun k hk => by
    rw [hW1]
    exact isSome_setCells b B ((i + 1) * 3) w.drew (fun j hj => hsp ((i + 1) * 3 + j) (by rw [hB, Nat.sub_mul] at hj; have := Nat.mul_le_mul_right 3 hin; omega)) _ (hsp k hk)
  have hcp2 : ∀ (W : World), (∀ x, W.cell? x = W1.cell? x) → (∀ x, W.frozen? x = W1.frozen? x) → ∀ ty dc, (Builtin.copy_ #[30, 30] ty #[.slice (some ⟨b, i * 3, none⟩) (n + 1 - i) dc, .slice (some ⟨vb, 0, none⟩) 1 vc]).run Try.prog W = .ok (goInt 1) (W.setCells b (i * 3) V) := fun W hWc hWf ty dc => by
    have h := run_copy_k (P := Try.prog) W 30 30 ty 38 b (i * 3) (n + 1 - i) dc ⟨vb, 0, none⟩ 1 vc 3 V Try.underlying30 sizeInsHold (by rw [hV, hmv])
      (fun j v hj => by
        rw [Addr.add_lit, hWc, hW1, World.cell?_setCells_out b _ _ _ _ (fun h _ => absurd h hvb)]
        exact hcV j v hj)
      (fun j hj => by rw [hWc]; exact hsp1 _ (by rw [hV] at hj; have := Nat.mul_le_mul_right 3 (show i + 1 ≤ n from hi); omega)) (fun j hj => by rw [hWf, hW1, World.frozen?_setCells]; exact hfz _) h1V
    rwa [hmv] at h
  rw [← hW1] at hcp1
  clear hlen hn3 hcB hcV hsp hfz hsp1
  go_enter Try.func123, Try.ntmps123
  go_wp2_with (simp only [hov])
  go_region_law_o (refine step_copy_runI rfl _ _ 30 30 rfl _ _ (by simp [Act.eval, Act.put]) (by simp [Act.eval, Act.put]) (hcp1 _ _ _) ?_)
  go_wp2_with (at_builtin; refine wpList_copy_runI _ rfl _ _ 30 30 rfl _ _ rfl rfl (hcp2 _ (fun _ => rfl) (fun _ => rfl) _ _) ?_)
  go_ret
  first | exact ⟨rfl, rfl⟩ | exact ⟨rfl, by rw [hW1]⟩
set_option maxHeartbeats 8000000 in
set_option maxRecDepth 100000 in
theorem ins_grow (b n c i vb vc : Nat) (A B V : List Value) (cur cv : Array Value) (w : World) (hi : i < n) (hnc : n ≤ c) (hroom : c < n + 1) (hbig : (n + 1) * 24 ≤ 140737488355328)
    (hb : w.heap[b]? = some (.cells cur 38 (0, 0))) (hcur : cur.toList.take (n * 3) = A ++ B) (hA : A.length = i * 3) (hB : B.length = (n - i) * 3) (hsz : cur.size = c * 3)
    (hv : w.heap[vb]? = some (.cells cv 38 (0, 0))) (hcv : cv.toList.take 3 = V) (hV : V.length = 3) (h1B : ∀ v ∈ B, v.oneCell' = true) (h1V : ∀ v ∈ V, v.oneCell' = true) :
    Calls Try.prog 123 #[.slice (some ⟨b, 0, none⟩) n c, .int .i64 i, .slice (some ⟨vb, 0, none⟩) 1 vc] w fun e w' => ∃ (G : Nat) (ROW : Array Value), n + 1 ≤ G ∧ G ≤ maxLen ∧ ROW.size = G * 3 ∧ ROW.toList.take (i * 3) = A ∧
      e = .returned (.slice (some ⟨w.heap.size, 0, none⟩) (n + 1) G) ∧
      w' = (((w.alloc (.cells ROW 38)).drew.setCells w.heap.size (i * 3) V).drew).setCells w.heap.size ((i + 1) * 3) B := by
  have u30 := run_underlying Try.underlying30
  have zE := sizeofHold
  have mixed : Try.prog.follows Departure.mixedOrders = true := by kernel_rfl
  obtain ⟨i0, hi0, hzz⟩ := Option.map_eq_some_iff.1 infoInsHold
  simp only [Prod.mk.injEq] at hzz
  obtain ⟨hz0, hzs, hzb⟩ := hzz
  have hz1 : ¬ ((1 : Int) = 0) := by omega
  have hz2 : ¬ ((i : Int) = (n : Int)) := by omega
  have hz3 : (c : Int) < (n : Int) + 1 := by omega
  have hbw : b < w.heap.size := blk_lt hb
  have hvw : vb < w.heap.size := blk_lt hv
  have hlen : (A ++ B).length = n * 3 := by rw [List.length_append, hA, hB, Nat.sub_mul]; have := Nat.mul_le_mul_right 3 (Nat.le_of_lt hi); omega
  have hn3 : n * 3 ≤ cur.size := by rw [hsz]; exact Nat.mul_le_mul_right 3 (by omega)
  have hcA : ∀ j v, (A ++ B)[j]? = some v → w.cell? ⟨b, j, none⟩ = some v := fun j v hj => by
    rw [blk_cell hb, ← Array.getElem?_toList]
    rw [← hcur, List.getElem?_take] at hj
    split at hj
    · exact hj
    · cases hj
  have hcB : ∀ j v, B[j]? = some v → w.cell? ⟨b, i * 3 + j, none⟩ = some v := fun j v hj => hcA _ v (by rw [List.getElem?_append_right (by omega), hA, Nat.add_sub_cancel_left]; exact hj)
  have hcV : ∀ j v, V[j]? = some v → w.cell? ⟨vb, 0 + j, none⟩ = some v := fun j v hj => by
    rw [Nat.zero_add, blk_cell hv, ← Array.getElem?_toList]
    rw [← hcv, List.getElem?_take] at hj
    split at hj
    · exact hj
    · cases hj
  have hkk : (n : Int) + 1 - (i : Int) = ((n + 1 - i : Nat) : Int) := by omega
  have hik : i + (n + 1 - i) = n + 1 := by omega
  have hold : (Builtin.firstCells i0.size i (.slice (some ⟨b, 0, none⟩) i c)).run Try.prog w.drew = .ok A.toArray w.drew := by
    rw [hzs]
    exact run_firstCells_some w.drew 3 i ⟨b, 0, none⟩ i c A hA (fun j v hj => by
      rw [add_plain]
      exact hcA j v (by rw [List.getElem?_append_left (List.getElem?_eq_some_iff.1 hj).1]; exact hj))
  have hrz : ∀ ty, (Builtin.append_ #[30, 3] ty #[.slice (some ⟨b, 0, none⟩) i c, .int .i64 ((n : Int) + 1 - (i : Int))]).run Try.prog w =
      .ok (.slice (some ⟨w.heap.size, 0, none⟩) (n + 1) (grownCap w (n + 1) c 38)) (w.drew.alloc (.cells (A.toArray ++ Builtin.zeroCells (Value.agg #[.int .i64 0, .int .i64 0, .int .i64 0]).cells (n + 1 - i) ++ Builtin.zeroCells (Value.agg #[.int .i64 0, .int .i64 0, .int .i64 0]).cells (grownCap w (n + 1) c 38 - (n + 1))) 38)) := fun ty => by
    have h := Lib.run_append_grow_zeros w 30 3 ty 38 i0 _ .i64 .i64 Try.underlying30 Try.underlying3 hi0 hz0 (some ⟨b, 0, none⟩) i c A hold (n + 1 - i) (by omega) (by omega) (by omega) (by omega) (by rw [hzb]; omega) (by rw [hzb, hik]; exact growslice_fits hroom hbig)
    rw [hik] at h
    rw [hkk]
    exact h
  obtain ⟨G, hG⟩ : ∃ G, G = grownCap w (n + 1) c 38 := ⟨_, rfl⟩
  obtain ⟨ROW, hROW⟩ : ∃ ROW : Array Value, ROW = A.toArray ++ Builtin.zeroCells (Value.agg #[.int .i64 0, .int .i64 0, .int .i64 0]).cells (n + 1 - i) ++ Builtin.zeroCells (Value.agg #[.int .i64 0, .int .i64 0, .int .i64 0]).cells (G - (n + 1)) := ⟨_, rfl⟩
  rw [← hG] at hrz
  rw [← hROW] at hrz
  have hGn : n + 1 ≤ G := by rw [hG]; exact grownCap_ge w _ _ _
  have hGm : G ≤ maxLen := by
    have := grownCap_le_maxLen w (n + 1) c 38 (by unfold maxLen; omega)
    rwa [← hG] at this
  have hG63 : G ≤ 9223372036854775807 := hGm
  have hRl : ROW.size = G * 3 := by
    rw [hROW]
    simp [Builtin.zeroCells, Value.cells, hA]
    omega
  have hRA : ROW.toList.take (i * 3) = A := by
    rw [hROW]
    simp only [Array.toList_append, List.append_assoc]
    rw [← hA, List.take_left']
    simp
  obtain ⟨W1, hW1⟩ : ∃ W1, W1 = w.drew.alloc (.cells ROW 38) := ⟨_, rfl⟩
  rw [← hW1] at hrz
  have hN : ∀ j, j < (n + 1) * 3 → (W1.cell? ⟨w.heap.size, j, none⟩).isSome = true := fun j hj => by
    have := Nat.mul_le_mul_right 3 hGn
    rw [hW1, World.cell?_alloc_at (w := w.drew) ROW _ w.heap.size j rfl, Array.getElem?_eq_getElem (by omega)]; rfl
  have hNf : ∀ j, W1.frozen? ⟨w.heap.size, j, none⟩ = false := fun j => by rw [hW1]; exact World.frozen?_alloc_at (w := w.drew) ROW _ w.heap.size j rfl
  have hOb : ∀ j v, w.cell? ⟨b, j, none⟩ = some v → W1.cell? ⟨b, j, none⟩ = some v := fun j v h => by rw [hW1, World.cell?_alloc_past (w := w.drew) _ b j hbw]; exact h
  have hOv : ∀ j v, w.cell? ⟨vb, j, none⟩ = some v → W1.cell? ⟨vb, j, none⟩ = some v := fun j v h => by rw [hW1, World.cell?_alloc_past (w := w.drew) _ vb j hvw]; exact h
  have hmv : Nat.min 1 (n + 1 - i) = 1 := by simp only [Nat.min_def]; split <;> omega
  have hmn : Nat.min (n - i) (n - i) = n - i := Nat.min_self _
  have hcpA : ∀ (W : World), (∀ x, W.cell? x = W1.cell? x) → (∀ x, W.frozen? x = W1.frozen? x) → ∀ ty dc, (Builtin.copy_ #[30, 30] ty #[.slice (some ⟨w.heap.size, i * 3, none⟩) (n + 1 - i) dc, .slice (some ⟨vb, 0, none⟩) 1 vc]).run Try.prog W = .ok (goInt 1) (W.setCells w.heap.size (i * 3) V) := fun W hWc hWf ty dc => by
    have h := run_copy_k (P := Try.prog) W 30 30 ty 38 w.heap.size (i * 3) (n + 1 - i) dc ⟨vb, 0, none⟩ 1 vc 3 V Try.underlying30 sizeInsHold (by rw [hV, hmv])
      (fun j v hj => by rw [Addr.add_lit, hWc]; exact hOv _ v (hcV j v hj))
      (fun j hj => by rw [hWc]; exact hN _ (by rw [hV] at hj; have := Nat.mul_le_mul_right 3 (show i + 1 ≤ n from hi); omega)) (fun j hj => by rw [hWf]; exact hNf _) h1V
    rwa [hmv] at h
  have hGi : ¬ (G = i) := by omega
  have hGim : ¬ (G = i + 1) := by omega
  have hci : ¬ (c = i) := by omega
  have hbN : b ≠ w.heap.size := by omega
  have hcpB : ∀ (W : World), (∀ x, W.cell? x = (W1.setCells w.heap.size (i * 3) V).cell? x) → (∀ x, W.frozen? x = (W1.setCells w.heap.size (i * 3) V).frozen? x) → ∀ ty dc sc, (Builtin.copy_ #[30, 30] ty #[.slice (some ⟨w.heap.size, (i + 1) * 3, none⟩) (n - i) dc, .slice (some ⟨b, i * 3, none⟩) (n - i) sc]).run Try.prog W = .ok (goInt (n - i : Nat)) (W.setCells w.heap.size ((i + 1) * 3) B) := fun W hWc hWf ty dc sc => by
    have h := run_copy_k (P := Try.prog) W 30 30 ty 38 w.heap.size ((i + 1) * 3) (n - i) dc ⟨b, i * 3, none⟩ (n - i) sc 3 B Try.underlying30 sizeInsHold (by rw [hB, hmn])
      (fun j v hj => by
        rw [Addr.add_lit, hWc, World.cell?_setCells_out _ _ _ _ _ (fun h _ => absurd h hbN)]
        exact hOb _ v (hcB j v hj))
      (fun j hj => by
        rw [hWc]
        have hj2 : (i + 1) * 3 + j < (n + 1) * 3 := by rw [hB, Nat.sub_mul] at hj; have := Nat.mul_le_mul_right 3 (Nat.le_of_lt hi); omega
        exact isSome_setCells w.heap.size V (i * 3) W1 (fun t ht => hN (i * 3 + t) (by rw [hV] at ht; have := Nat.mul_le_mul_right 3 (show i + 1 ≤ n from hi); omega)) _ (hN _ hj2))
      (fun j hj => by rw [hWf, World.frozen?_setCells]; exact hNf _) h1B
    rwa [hmn] at h
  subst hW1
  have hE1 : ∀ x, ((w.alloc (.cells ROW 38)).drew).cell? x = (w.drew.alloc (.cells ROW 38)).cell? x := fun x => rfl
  have hE2 : ∀ x, ((w.alloc (.cells ROW 38)).drew).frozen? x = (w.drew.alloc (.cells ROW 38)).frozen? x := fun x => rfl
  have hF1 : ∀ x, (((w.alloc (.cells ROW 38)).drew.setCells w.heap.size (i * 3) V).drew).cell? x = ((w.drew.alloc (.cells ROW 38)).setCells w.heap.size (i * 3) V).cell? x := fun x => rfl
  have hF2 : ∀ x, (((w.alloc (.cells ROW 38)).drew.setCells w.heap.size (i * 3) V).drew).frozen? x = ((w.drew.alloc (.cells ROW 38)).setCells w.heap.size (i * 3) V).frozen? x := fun x => rfl
  have hw1 : IntKind.i64.wrap ((i : Int) + 1) = (i : Int) + 1 := by rw [IntKind.wrap_i64]; omega
  have hw2 : IntKind.i64.wrap ((n : Int) + 1) = (n : Int) + 1 := by rw [IntKind.wrap_i64]; omega
  have hw3 : IntKind.i64.wrap ((n : Int) + 1 - (i : Int)) = (n : Int) + 1 - (i : Int) := by rw [IntKind.wrap_i64]; omega
  have hb1 : (0 : Int) ≤ (i : Int) + 1 := by omega
  have hin : i ≤ n := by omega
  have htn : ((i : Int) + 1).toNat = i + 1 := by omega
  have hb3 : (i : Int) ≤ (n : Int) := by omega
  have hfin : ∃ (G' : Nat) (ROW' : Array Value), n + 1 ≤ G' ∧ G' ≤ maxLen ∧ ROW'.size = G' * 3 ∧ ROW'.toList.take (i * 3) = A ∧ G' = G ∧ ROW' = ROW := ⟨G, ROW, hGn, hGm, hRl, hRA, rfl, rfl⟩
  clear hkk hik hold hROW hG hRl hRA hlen hn3 hcA hcB hcV hOb hOv hN hNf
  go_enter Try.func123, Try.ntmps123
  go_wp2_with (first
    | (at_builtin; refine Lib.wpList_append_run _ rfl _ _ _ _ rfl _ _ rfl rfl _ _ (hrz _) ?_)
    | (at_builtin; refine wpList_copy_runI _ rfl _ _ 30 30 rfl _ _ rfl rfl (hcpA _ hE1 hE2 _ _) ?_))
  go_region_law_o (refine step_copy_runI rfl _ _ 30 30 rfl (.slice (some ⟨w.heap.size, (i + 1) * 3, none⟩) (n - i) (G - (i + 1))) (.slice (some ⟨b, i * 3, none⟩) (n - i) (c - i)) (by simp [Act.eval, Act.put]) (by simp [Act.eval, Act.put]) (hcpB _ hF1 hF2 3 (G - (i + 1)) (c - i)) ?_)
  go_wp2
  go_ret
  obtain ⟨G', ROW', f1, f2, f3, f4, rfl, rfl⟩ := hfin
  exact ⟨_, _, f1, f2, f3, f4, rfl, rfl⟩
/-! Rows of structs without rows, as cells. -/
theorem reps_flat {α : Type} {R : α → List Value → Prop} {enc : α → List Value} {sz : Nat} (hR : ∀ x c, R x c → c = enc x) : ∀ (ps : List α) (cs : List Value), Reps R sz ps cs → cs = ps.flatMap enc
  | [], cs, h => List.eq_nil_of_length_eq_zero (by simpa using h.1)
  | p :: ps, cs, h => by
    have h0 := hR p _ (h.2 0 p rfl)
    rw [Nat.zero_mul, List.drop_zero] at h0
    have ht : Reps R sz ps (cs.drop sz) := ⟨by rw [List.length_drop, h.1, List.length_cons, Nat.succ_mul, Nat.add_sub_cancel], fun j q hq => by
      have := h.2 (j + 1) q hq
      rw [List.drop_drop, show sz + j * sz = (j + 1) * sz by rw [Nat.succ_mul, Nat.add_comm]]
      exact this⟩
    rw [List.flatMap_cons, ← reps_flat hR ps _ ht, ← h0, List.take_append_drop]
theorem flat_len {α : Type} {enc : α → List Value} {sz : Nat} (hs : ∀ x, (enc x).length = sz) : ∀ ps : List α, (ps.flatMap enc).length = ps.length * sz
  | [] => by simp
  | p :: ps => by rw [List.flatMap_cons, List.length_append, hs, flat_len hs ps, List.length_cons, Nat.succ_mul, Nat.add_comm]
theorem flat_reps {α : Type} {R : α → List Value → Prop} {enc : α → List Value} {sz : Nat} (hs : ∀ x, (enc x).length = sz) (hR : ∀ x, R x (enc x)) : ∀ (ps : List α), Reps R sz ps (ps.flatMap enc)
  | [] => ⟨by simp, fun j p h => by simp at h⟩
  | p :: ps => by
    obtain ⟨h1, h2⟩ := flat_reps hs hR ps
    refine ⟨flat_len hs (p :: ps), fun j q hq => ?_⟩
    rw [List.flatMap_cons]
    cases j with
    | zero =>
      obtain rfl : p = q := by simpa using hq
      rw [Nat.zero_mul, List.drop_zero, ← hs p, List.take_left']
      · exact hR p
      · rfl
    | succ j =>
      rw [show (j + 1) * sz = (enc p).length + j * sz by rw [hs, Nat.succ_mul, Nat.add_comm], ← List.drop_drop, List.drop_left]
      exact h2 j q hq
theorem over_size : ∀ (vs : List Value) (o : Nat) (cs : Array Value), (HL.over cs o vs).size = cs.size
  | [], _, _ => rfl
  | v :: r, o, cs => (over_size r (o + 1) (cs.setIfInBounds o v)).trans (by simp)
theorem over_list : ∀ (vs : List Value) (o : Nat) (cs : Array Value), o + vs.length ≤ cs.size → (HL.over cs o vs).toList = cs.toList.take o ++ vs ++ cs.toList.drop (o + vs.length)
  | [], o, cs, _ => by simp [HL.over]
  | v :: r, o, cs, h => by
    rw [List.length_cons] at h
    have ih := over_list r (o + 1) (cs.setIfInBounds o v) (by simp; omega)
    show (HL.over (cs.setIfInBounds o v) (o + 1) r).toList = _
    rw [ih, Array.toList_setIfInBounds]
    have ho : o < cs.toList.length := by simp; omega
    rw [List.set_eq_take_append_cons_drop, if_pos ho]
    have e1 : (cs.toList.take o ++ v :: cs.toList.drop (o + 1)).take (o + 1) = cs.toList.take o ++ [v] := by
      rw [List.take_append, List.take_of_length_le (by rw [List.length_take]; omega), List.length_take, Nat.min_eq_left (Nat.le_of_lt ho), Nat.add_sub_cancel_left]
      rfl
    have e2 : (cs.toList.take o ++ v :: cs.toList.drop (o + 1)).drop (o + 1 + r.length) = cs.toList.drop (o + (r.length + 1)) := by
      rw [List.drop_append, List.drop_of_length_le (by rw [List.length_take]; omega), List.length_take, Nat.min_eq_left (Nat.le_of_lt ho), show o + 1 + r.length - o = r.length + 1 by omega, List.nil_append, List.drop_succ_cons, List.drop_drop]
      congr 1
      omega
    rw [e1, e2, List.length_cons]
    simp
def eh (x : S38) : List Value := [.int .i64 x.f0, .int .i64 x.f1, .int .i64 x.f2]
theorem eh_len (x : S38) : (eh x).length = 3 := rfl
theorem eh_one (xs : List S38) : ∀ v ∈ xs.flatMap eh, v.oneCell' = true := by
  intro v hv
  obtain ⟨x, _, hx⟩ := List.mem_flatMap.1 hv
  simp only [eh, List.mem_cons, List.not_mem_nil, or_false] at hx
  rcases hx with rfl | rfl | rfl <;> rfl
theorem row_of {e base g n cap : Nat} {w : World} {ok : Nat → Prop} {xs : List S38} (h : k38.R e w base ok (.slice (some ⟨g, 0, none⟩) n cap) xs) :
    base ≤ g ∧ n = xs.length ∧ n ≤ cap ∧ cap ≤ maxLen ∧ ∃ cur, w.heap[g]? = some (.cells cur e (0, 0)) ∧ cur.size = cap * 3 ∧ cur.toList.take (n * 3) = xs.flatMap eh := by
  have hn := (Kd.R_reads' h).1
  obtain ⟨hk, inner, ⟨hl, hcase⟩, hreps⟩ := h
  have hin := reps_flat (enc := eh) (fun x c hc => k38_openM hc) xs inner hreps
  rcases hcase with ⟨hv, _⟩ | ⟨g', cap', cur, hv, hbase, hheap, hncap, hcapm, hcur, htake⟩
  · cases hv
  · injection hv with h1 h2 h3
    injection h1 with h1
    injection h1 with h1 _ _
    subst h1 h3
    exact ⟨hbase, hn, by omega, hcapm, cur, hheap, hcur, by rw [hn, ← hin]; exact htake⟩
theorem of_row {e base g cap : Nat} {w : World} {ok : Nat → Prop} {xs : List S38} {cur : Array Value} (hbase : base ≤ g) (hn : xs.length ≤ cap) (hm : cap ≤ maxLen) (hg : w.heap[g]? = some (.cells cur e (0, 0))) (hs : cur.size = cap * 3) (ht : cur.toList.take (xs.length * 3) = xs.flatMap eh) (hok : ok g) :
    k38.R e w base ok (.slice (some ⟨g, 0, none⟩) xs.length cap) xs :=
  ⟨fun k hk => by
    have : g = k := by simpa [Value.ownBlock] using hk
    subst this
    exact hok, xs.flatMap eh, ⟨flat_len eh_len xs, .inr ⟨g, cap, cur, rfl, hbase, hg, hn, hm, hs, ht⟩⟩, flat_reps eh_len (fun x => k38_mkM w base _ x) xs⟩
def slices_Insert_Hold.f (l0 : List S38) (a1 : Int) (l2 : List S38) : Option (List S38) := if 0 ≤ a1 ∧ a1 ≤ (l0.length : Int) ∧ l2.length = 1 ∧ l0.length < 1000000 then some (l0.take a1.toNat ++ l2 ++ l0.drop a1.toNat) else none
set_option maxHeartbeats 8000000 in
set_option maxRecDepth 100000 in
theorem slices_Insert_Hold.calls (P0_ : Nat → Prop) (u9000_ : Value) (l0 : List S38) (a1 : Int) (P2_ : Nat → Prop) (u9001_ : Value) (l2 : List S38) (r : List S38) (w0 w : World) (hB : Below w0.heap.size w0 w) (ho0 : k38.R 38 w w0.heap.size P0_ u9000_ l0) (hp0_2 : ∀ k_, P0_ k_ → ¬ P2_ k_) (ho2 : k38.R 38 w w0.heap.size P2_ u9001_ l2) (hp2_0 : ∀ k_, P2_ k_ → ¬ P0_ k_) (h : slices_Insert_Hold.f l0 a1 l2 = some r) :
    Calls Try.prog 123 #[u9000_, .int .i64 a1, u9001_] w fun e w' => ∃ v0_ : Value, e = .returned (v0_) ∧ k38.R 38 w' w0.heap.size (fun k_ => ((P0_ k_ ∨ P2_ k_) ∨ w.heap.size ≤ k_)) v0_ r ∧ Below w0.heap.size w0 w' ∧ Kept w w' (fun k_ => P0_ k_ ∨ P2_ k_) := by
  have hf : (0 ≤ a1 ∧ a1 ≤ (l0.length : Int) ∧ l2.length = 1 ∧ l0.length < 1000000) ∧ l0.take a1.toNat ++ l2 ++ l0.drop a1.toNat = r := by
    unfold slices_Insert_Hold.f at h
    split at h
    · next hc => exact ⟨hc, Option.some.inj h⟩
    · cases h
  obtain ⟨⟨ha0, ha1, h21, hbg⟩, rfl⟩ := hf
  clear h
  obtain ⟨i, rfl⟩ := Int.eq_ofNat_of_zero_le ha0
  rw [Int.toNat_natCast]
  have hin : i ≤ l0.length := by omega
  obtain ⟨vb, vc, rfl, hvbase, hvlt, hvc⟩ := Kd.R_form ho2 (by omega)
  obtain ⟨_, hvn, hvcap, hvm, cv, hvh, hvs, hvt⟩ := row_of ho2
  have hP2 : P2_ vb := ho2.1 vb (by simp [Value.ownBlock])
  rcases Nat.lt_or_ge i l0.length with hlt | hge
  · obtain ⟨b, c, rfl, hbbase, hblt, _⟩ := Kd.R_form ho0 (by omega)
    obtain ⟨_, hbn, hbcap, hbm, cur, hbh, hbs, hbt⟩ := row_of ho0
    have hP0 : P0_ b := ho0.1 b (by simp [Value.ownBlock])
    have hne : vb ≠ b := fun e => hp0_2 b hP0 (e ▸ hP2)
    obtain ⟨A, hA⟩ : ∃ A, A = (l0.take i).flatMap eh := ⟨_, rfl⟩
    obtain ⟨B, hB'⟩ : ∃ B, B = (l0.drop i).flatMap eh := ⟨_, rfl⟩
    obtain ⟨V, hV⟩ : ∃ V, V = l2.flatMap eh := ⟨_, rfl⟩
    have hAB : l0.flatMap eh = A ++ B := by rw [hA, hB', ← List.flatMap_append, List.take_append_drop]
    have hAl : A.length = i * 3 := by rw [hA, flat_len eh_len, List.length_take, Nat.min_eq_left hin]
    have hBl : B.length = (l0.length - i) * 3 := by rw [hB', flat_len eh_len, List.length_drop]
    have hVl : V.length = 3 := by rw [hV, flat_len eh_len, h21]
    have hB1 : ∀ v ∈ B, v.oneCell' = true := by rw [hB']; exact eh_one _
    have hV1 : ∀ v ∈ V, v.oneCell' = true := by rw [hV]; exact eh_one _
    have hrl : (l0.take i ++ l2 ++ l0.drop i).length = l0.length + 1 := by simp; omega
    have hrf : (l0.take i ++ l2 ++ l0.drop i).flatMap eh = A ++ V ++ B := by rw [List.flatMap_append, List.flatMap_append, ← hA, ← hB', ← hV]
    have hcv : cv.toList.take 3 = V := by rw [hV, ← hvt, h21]
    rw [hAB] at hbt
    have hi3 := Nat.mul_le_mul_right 3 (show i + 1 ≤ l0.length from hlt)
    rw [h21]
    rcases Nat.lt_or_ge c (l0.length + 1) with hroom | hroom
    · refine Calls.mono (ins_grow b l0.length c i vb vc A B V cur cv w hlt hbcap hroom (by omega) hbh hbt hAl hBl hbs hvh hcv hVl hB1 hV1) ?_
      rintro e w' ⟨G, ROW, hG1, hG2, hG3, hG4, rfl, rfl⟩
      have hG5 := Nat.mul_le_mul_right 3 hG1
      have hnew : (w.alloc (.cells ROW 38 (0, 0))).heap[w.heap.size]? = some (.cells ROW 38 (0, 0)) := heap_alloc_new w _
      have hb1 := HL.filled_blk (g := w.heap.size) V (i * 3) (w.alloc (.cells ROW 38)).drew ROW hnew
      have hb2 := HL.filled_blk (g := w.heap.size) B ((i + 1) * 3) ((w.alloc (.cells ROW 38)).drew.setCells w.heap.size (i * 3) V).drew _ hb1
      have hbel : Below w0.heap.size w0 (((w.alloc (.cells ROW 38)).drew.setCells w.heap.size (i * 3) V).drew.setCells w.heap.size ((i + 1) * 3) B) :=
        HL.filled_below B _ w0 _ (below_drew (HL.filled_below V _ w0 _ (below_drew (hB.alloc hB.size _)) hB.size)) hB.size
      refine ⟨_, rfl, ?_, hbel, ⟨?_, fun k hk _ => ?_⟩⟩
      · have hl1 : (HL.over ROW (i * 3) V).toList = A ++ V ++ ROW.toList.drop (i * 3 + 3) := by rw [over_list V (i * 3) ROW (by omega), hG4, hVl]
        have hl2 := over_list B ((i + 1) * 3) (HL.over ROW (i * 3) V) (by rw [over_size, hG3, hBl, Nat.sub_mul]; omega)
        rw [← hrl]
        refine of_row (cur := HL.over (HL.over ROW (i * 3) V) ((i + 1) * 3) B) hB.size (by rw [hrl]; exact hG1) hG2 hb2 (by rw [over_size, over_size, hG3]) ?_ (.inr (Nat.le_refl _))
        rw [hl2, hl1, hrf, hrl]
        have e1 : (A ++ V ++ ROW.toList.drop (i * 3 + 3)).take ((i + 1) * 3) = A ++ V := by rw [List.take_left' (by rw [List.length_append, hAl, hVl]; omega)]
        rw [e1, List.take_left' (by rw [List.length_append, List.length_append, hAl, hVl, hBl, Nat.sub_mul]; omega)]
      · rw [HL.filled_size]
        show w.heap.size ≤ ((w.alloc (.cells ROW 38)).drew.setCells w.heap.size (i * 3) V).heap.size
        rw [HL.filled_size]
        exact (below_alloc (Below.refl w.heap.size w) _).size
      · rw [HL.filled_far _ _ _ _ _ (by omega)]
        show ((w.alloc (.cells ROW 38)).drew.setCells w.heap.size (i * 3) V).heap[k]? = _
        rw [HL.filled_far _ _ _ _ _ (by omega)]
        exact Below.heap_alloc w _ k hk
    · refine Calls.mono (ins_shift b l0.length c i vb vc A B V cur cv w hlt hroom (by unfold maxLen at hbm; omega) hne hbh hbt hAl hBl hbs hvh hcv hVl hB1 hV1) ?_
      rintro e w' ⟨rfl, rfl⟩
      have hc3 := Nat.mul_le_mul_right 3 hroom
      have hb1 := HL.filled_blk (g := b) B ((i + 1) * 3) w.drew cur hbh
      have hb2 := HL.filled_blk (g := b) V (i * 3) (w.drew.setCells b ((i + 1) * 3) B) _ hb1
      have hbel : Below w0.heap.size w0 ((w.drew.setCells b ((i + 1) * 3) B).setCells b (i * 3) V) := HL.filled_below V _ w0 _ (HL.filled_below B _ w0 _ (below_drew hB) hbbase) hbbase
      refine ⟨_, rfl, ?_, hbel, ⟨?_, fun k hk hn => ?_⟩⟩
      · have hl1 : (HL.over cur ((i + 1) * 3) B).toList = cur.toList.take ((i + 1) * 3) ++ B ++ cur.toList.drop ((i + 1) * 3 + B.length) := over_list B ((i + 1) * 3) cur (by rw [hbs, hBl, Nat.sub_mul]; omega)
        have hl2 := over_list V (i * 3) (HL.over cur ((i + 1) * 3) B) (by rw [over_size, hbs, hVl]; omega)
        have hlen1 : (cur.toList.take ((i + 1) * 3)).length = (i + 1) * 3 := by rw [List.length_take, Nat.min_eq_left (by rw [Array.length_toList, hbs]; omega)]
        have hcA : cur.toList.take (i * 3) = A := by
          have := congrArg (List.take (i * 3)) hbt
          rwa [List.take_take, Nat.min_eq_left (by omega), List.take_left' hAl] at this
        rw [← hrl]
        refine of_row (cur := HL.over (HL.over cur ((i + 1) * 3) B) (i * 3) V) hbbase (by rw [hrl]; exact hroom) hbm hb2 (by rw [over_size, over_size, hbs]) ?_ (.inl (.inl hP0))
        rw [hl2, hl1, hrf, hrl, hVl]
        have e1 : (cur.toList.take ((i + 1) * 3) ++ B ++ cur.toList.drop ((i + 1) * 3 + B.length)).take (i * 3) = A := by rw [List.append_assoc, List.take_append_of_le_length (by rw [hlen1]; omega), List.take_take, Nat.min_eq_left (by omega), hcA]
        have e2 : (cur.toList.take ((i + 1) * 3) ++ B ++ cur.toList.drop ((i + 1) * 3 + B.length)).drop (i * 3 + 3) = B ++ cur.toList.drop ((i + 1) * 3 + B.length) := by rw [List.append_assoc, List.drop_left' (by rw [hlen1]; omega)]
        rw [e1, e2, ← List.append_assoc, List.take_left' (by rw [List.length_append, List.length_append, hAl, hVl, hBl, Nat.sub_mul]; omega)]
      · rw [HL.filled_size, HL.filled_size]
        exact Nat.le_refl _
      · have hkb : k ≠ b := fun e => hn (.inl (e ▸ hP0))
        rw [HL.filled_far _ _ _ _ _ hkb, HL.filled_far _ _ _ _ _ hkb]
        rfl
  · obtain rfl : i = l0.length := by omega
    obtain ⟨A0, c0, rfl⟩ := Kd.R_slice ho0
    rw [List.take_length, List.drop_length, List.append_nil]
    have HO := Aside0.mk ho0
    have HC := (Kd.R_reads' ho2).2.2
    have hlt0 := Kd.R_lt ho0
    have hb0 := Kd.R_base ho0
    have hf0 := ho0.1
    have hz1 : ¬ ((1 : Int) = 0) := by omega
    have u30 := run_underlying Try.underlying30
    have zE := sizeofHold
    rw [h21] at HC ⊢
    clear ho0
    have hle : l0.length ≤ c0 := (Kd.R_reads' HO.out).2.1
    go_enter Try.func123, Try.ntmps123
    cases A0 with
    | none =>
      go_wp2_with (first
        | ((with_reducible refine gate_builtin (b := .append) (xs := #[.tmp 23, .tmp 24]) rfl ?_); at_builtin; refine Kd.R_append_rows k38 (w0 := w0) w0.heap.size rfl (.tmp 23) (.tmp 24) 30 38 (.agg #[.int .i64 0, .int .i64 0, .int .i64 0]) 24 rfl Try.underlying30 infoInsHold rfl (by decide) (by omega) _ l0 l2 _ _ _ (fun k_ => ((P0_ k_ ∨ P2_ k_) ∨ w.heap.size ≤ k_)) (fun _ => False) rfl rfl (Kd.R_mono HO.out (fun _ q_ => .inl (.inl q_))) HC (fun x cs hx => by rw [k38_open hx]; exact k38_mkM _ _ _ x) (fun _ q_ => q_.elim) (fun _ q_ => .inr q_) hB hB.size (by omega) ?_; intro v1 w1 ho1 hb1 hg1 hat1))
      go_ret
      exact ⟨_, rfl, ho1, hb1, Kept.of_grown hg1 (Kept.refl _ _) (fun k e_ => .inl (.inl (hf0 k e_)))⟩
    | some ad =>
      obtain ⟨ab, ao, asp⟩ := ad
      go_wp2_with (first
        | ((with_reducible refine gate_builtin (b := .append) (xs := #[.tmp 23, .tmp 24]) rfl ?_); at_builtin; refine Kd.R_append_rows k38 (w0 := w0) w0.heap.size rfl (.tmp 23) (.tmp 24) 30 38 (.agg #[.int .i64 0, .int .i64 0, .int .i64 0]) 24 rfl Try.underlying30 infoInsHold rfl (by decide) (by omega) _ l0 l2 _ _ _ (fun k_ => ((P0_ k_ ∨ P2_ k_) ∨ w.heap.size ≤ k_)) (fun _ => False) rfl rfl (Kd.R_mono HO.out (fun _ q_ => .inl (.inl q_))) HC (fun x cs hx => by rw [k38_open hx]; exact k38_mkM _ _ _ x) (fun _ q_ => q_.elim) (fun _ q_ => .inr q_) hB hB.size (by omega) ?_; intro v1 w1 ho1 hb1 hg1 hat1))
      all_goals (go_ret; exact ⟨_, rfl, ho1, hb1, Kept.of_grown hg1 (Kept.refl _ _) (fun k e_ => .inl (.inl (hf0 k e_)))⟩)
end Go.Proofs.Ytocelbmpnjnnbaa.XA
