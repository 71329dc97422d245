/- Words and contracts of this claim, put together out of several texts by a program of this session's. Conditions: each theorem's own premises. -/
import Derived.Test.YthkbgbkglgmpoaaZ7
import Derived.Shelf.Spec.SlicesInsertGrow
import Derived.Ground.Names2Prog
import Derived.Test.YthkbgbkglgmpoaaProg
section
namespace Go.Proofs
open Go.Shelf
def Try.lInsertI_ren : Go.Shelf.Ren := ⟨fun | 21 => 125 | 27 => 151 | 28 => 152 | 35 => 163 | 39 => 169 | n => n, fun | 22 => 39 | 3 => 3 | 4 => 4 | 0 => 0 | n => n, fun | n => n⟩
theorem Try.lInsertI : Go.Proofs.Lays2.n21 Try.prog Try.lInsertI_ren := {
  mixed := by kernel_rfl
  f21 := Try.func125.trans (congrArg some (by kernel_rfl))
  f27 := Try.func151.trans (congrArg some (by kernel_rfl))
  f28 := Try.func152.trans (congrArg some (by kernel_rfl))
  f35 := Try.func163.trans (congrArg some (by kernel_rfl))
  f39 := Try.func169.trans (congrArg some (by kernel_rfl))
  t0 := Try.underlying0
  a0 := Try.isAgg0
  z0 := Try.sizeOf0
  v0 := Try.zeroValue0
  t3 := Try.underlying3
  a3 := Try.isAgg3
  z3 := Try.sizeOf3
  v3 := Try.zeroValue3
  t4 := Try.underlying4
  a4 := Try.isAgg4
  z4 := Try.sizeOf4
  v4 := Try.zeroValue4
  t22 := Try.underlying39
  a22 := Try.isAgg39
  z22 := Try.sizeOf39
  v22 := Try.zeroValue39
  i3 := by kernel_rfl }
end Go.Proofs
namespace Go.Proofs.Ythkbgbkglgmpoaa.XA
set_option linter.unusedVariables false
set_option linter.unusedSimpArgs false
open Go.Lib Go.RowKit Go.Proofs.YthkbgbkglgmpoaaW.PrintWords
theorem ii_size : ∀ (vs : List Value) (o : Nat) (cs : Array Value), (HL.over cs o vs).size = cs.size
  | [], _, _ => rfl
  | v :: r, o, cs => (ii_size r (o + 1) (cs.setIfInBounds o v)).trans (by simp)
theorem ii_list : ∀ (vs : List Value) (o : Nat) (cs : Array Value), o + vs.length ≤ cs.size → (HL.over cs o vs).toList = cs.toList.take o ++ vs ++ cs.toList.drop (o + vs.length)
  | [], o, cs, _ => by simp [HL.over]
  | v :: r, o, cs, h => by
    rw [List.length_cons] at h
    have ih := ii_list r (o + 1) (cs.setIfInBounds o v) (by simp; omega)
    show (HL.over (cs.setIfInBounds o v) (o + 1) r).toList = _
    rw [ih, Array.toList_setIfInBounds]
    have ho : o < cs.toList.length := by simp; omega
    rw [List.set_eq_take_append_cons_drop, if_pos ho]
    have e1 : (cs.toList.take o ++ v :: cs.toList.drop (o + 1)).take (o + 1) = cs.toList.take o ++ [v] := by
      rw [List.take_append, List.take_of_length_le (by rw [List.length_take]; omega), List.length_take, Nat.min_eq_left (Nat.le_of_lt ho), Nat.add_sub_cancel_left]
      rfl
    have e2 : (cs.toList.take o ++ v :: cs.toList.drop (o + 1)).drop (o + 1 + r.length) = cs.toList.drop (o + (r.length + 1)) := by
      rw [List.drop_append, List.drop_of_length_le (by rw [List.length_take]; omega), List.length_take, Nat.min_eq_left (Nat.le_of_lt ho), show o + 1 + r.length - o = r.length + 1 by omega, List.nil_append, List.drop_succ_cons, List.drop_drop]
      congr 1
      omega
    rw [e1, e2, List.length_cons]
    simp
theorem ii_row {base g n cap : Nat} {w : World} {ok : Nat → Prop} {xs : List Int} (h : (Kd.int .i64).R 3 w base ok (.slice (some ⟨g, 0, none⟩) n cap) xs) :
    base ≤ g ∧ n = xs.length ∧ n ≤ cap ∧ cap ≤ maxLen ∧ ∃ cur, w.heap[g]? = some (.cells cur 3 (0, 0)) ∧ cur.size = cap ∧ cur.toList.take n = xs.map (Value.int .i64) := by
  have hn := (Kd.R_reads' h).1
  obtain ⟨hk, inner, ⟨hl, hcase⟩, hreps⟩ := h
  have hil : inner.length = xs.length := by rw [hreps.1]; exact Nat.mul_one _
  have hin : inner = xs.map (Value.int .i64) := by
    apply List.ext_getElem?
    intro j
    rw [List.getElem?_map]
    cases hj : xs[j]? with
    | none =>
      rw [List.getElem?_eq_none_iff] at hj
      rw [List.getElem?_eq_none (by omega)]
      rfl
    | some x =>
      have hx : (inner.drop (j * 1)).take 1 = [Value.int .i64 x] := hreps.2 j x hj
      have h0 := congrArg (fun l => l[0]?) hx
      simp only [List.getElem?_take, List.getElem?_drop, Nat.mul_one, Nat.add_zero, Nat.lt_one_iff, if_true, List.getElem?_cons_zero] at h0
      rw [Option.map_some]
      exact h0
  rcases hcase with ⟨hv, _⟩ | ⟨g', cap', cur, hv, hbase, hheap, hncap, hcapm, hcur, htake⟩
  · cases hv
  · injection hv with h1 h2 h3
    injection h1 with h1
    injection h1 with h1 _ _
    subst h1 h3
    have hcur' : cur.size = cap * 1 := hcur
    have htake' : cur.toList.take (xs.length * 1) = inner := htake
    exact ⟨hbase, hn, by omega, hcapm, cur, hheap, by omega, by rw [hn, ← hin, ← htake', Nat.mul_one]⟩
theorem ii_of {base g cap : Nat} {w : World} {ok : Nat → Prop} {xs : List Int} {cur : Array Value} (hbase : base ≤ g) (hn : xs.length ≤ cap) (hm : cap ≤ maxLen) (hg : w.heap[g]? = some (.cells cur 3 (0, 0))) (hs : cur.size = cap) (ht : cur.toList.take xs.length = xs.map (Value.int .i64)) (hok : ok g) :
    (Kd.int .i64).R 3 w base ok (.slice (some ⟨g, 0, none⟩) xs.length cap) xs := by
  refine ⟨fun k hk => ?_, xs.map (Value.int .i64), ⟨by simp [Kd.int, Kd.scalar], .inr ⟨g, cap, cur, rfl, hbase, hg, hn, hm, ?_, ?_⟩⟩, by simp [Kd.int, Kd.scalar], ?_⟩
  · have : g = k := by simpa [Value.ownBlock] using hk
    subst this
    exact hok
  · show cur.size = cap * 1
    omega
  · show cur.toList.take (xs.length * 1) = _
    rw [Nat.mul_one]
    exact ht
  · intro j p hp
    show (((xs.map (Value.int .i64)).drop (j * 1)).take 1) = [Value.int .i64 p]
    obtain ⟨hj, hp⟩ := List.getElem?_eq_some_iff.1 hp
    rw [Nat.mul_one, List.drop_eq_getElem_cons (by simpa using hj), List.take_succ_cons, List.take_zero, List.getElem_map, hp]
theorem ii_one (xs : List Int) : ∀ v ∈ xs.map (Value.int .i64), v.oneCell' = true := by
  intro v hv
  obtain ⟨x, _, rfl⟩ := List.mem_map.1 hv
  rfl
theorem ii_cell {w : World} {g : Nat} {cur : Array Value} {l : List Value} {n : Nat} (hg : w.heap[g]? = some (.cells cur 3 (0, 0))) (ht : cur.toList.take n = l) : ∀ j v, l[j]? = some v → w.cell? ⟨g, 0 + j, none⟩ = some v := fun j v hj => by
  rw [Nat.zero_add, blk_cell hg, ← Array.getElem?_toList]
  rw [← ht, List.getElem?_take] at hj
  split at hj
  · exact hj
  · cases hj
theorem ii_shape {w : World} {g t : Nat} {cs : Array Value} (h : w.heap[g]? = some (.cells cs t (0, 0))) : w.shape? g = some (t, cs.size) := by simp [World.shape?, h]
def slices_Insert_int_int.f (l0 : List Int) (a1 : Int) (l2 : List Int) : Option (List Int) := if 0 ≤ a1 ∧ a1 ≤ (l0.length : Int) ∧ l2.length = 1 ∧ l0.length < 1000000 then some (l0.take a1.toNat ++ l2 ++ l0.drop a1.toNat) else none
set_option maxHeartbeats 4000000 in
theorem slices_Insert_int_int.calls (P0_ : Nat → Prop) (u9000_ : Value) (l0 : List Int) (a1 : Int) (P2_ : Nat → Prop) (u9001_ : Value) (l2 : List Int) (r : List Int) (w0 w : World) (hB : Below w0.heap.size w0 w) (ho0 : (Kd.int .i64).R 3 w w0.heap.size P0_ u9000_ l0) (hp0_2 : ∀ k_, P0_ k_ → ¬ P2_ k_) (ho2 : (Kd.int .i64).R 3 w w0.heap.size P2_ u9001_ l2) (hp2_0 : ∀ k_, P2_ k_ → ¬ P0_ k_) (h : slices_Insert_int_int.f l0 a1 l2 = some r) :
    Calls Try.prog 125 #[u9000_, .int .i64 a1, u9001_] w fun e w' => ∃ v0_ : Value, e = .returned (v0_) ∧ (Kd.int .i64).R 3 w' w0.heap.size (fun k_ => ((P0_ k_ ∨ P2_ k_) ∨ w.heap.size ≤ k_)) v0_ r ∧ Below w0.heap.size w0 w' ∧ Kept w w' (fun k_ => P0_ k_ ∨ P2_ k_) := by
  have hf : (0 ≤ a1 ∧ a1 ≤ (l0.length : Int) ∧ l2.length = 1 ∧ l0.length < 1000000) ∧ l0.take a1.toNat ++ l2 ++ l0.drop a1.toNat = r := by
    unfold slices_Insert_int_int.f at h
    split at h
    · next hc => exact ⟨hc, Option.some.inj h⟩
    · cases h
  obtain ⟨⟨ha0, ha1, h21, hbg⟩, rfl⟩ := hf
  clear h
  obtain ⟨i, rfl⟩ := Int.eq_ofNat_of_zero_le ha0
  rw [Int.toNat_natCast]
  have hin : i ≤ l0.length := by omega
  obtain ⟨vb, vc, rfl, hvbase, hvlt, hvc⟩ := Kd.R_form ho2 (by omega)
  obtain ⟨_, hvn, hvcap, hvm, cv, hvh, hvs, hvt⟩ := ii_row ho2
  have hP2 : P2_ vb := ho2.1 vb (by simp [Value.ownBlock])
  rw [h21] at hvt ⊢
  have hvl : (l2.map (Value.int .i64)).length = 1 := by rw [List.length_map, h21]
  have hcv := ii_cell hvh hvt
  have hrl : (l0.take i ++ l2 ++ l0.drop i).length = l0.length + 1 := by simp; omega
  have hrm : (l0.take i ++ l2 ++ l0.drop i).map (Value.int .i64) = (l0.map (Value.int .i64)).take i ++ l2.map (Value.int .i64) ++ (l0.map (Value.int .i64)).drop i := by rw [List.map_append, List.map_append, List.map_take, List.map_drop]
  have hcl : (l0.map (Value.int .i64)).length = l0.length := List.length_map _
  have hdl : ((l0.map (Value.int .i64)).drop i).length = l0.length - i := by rw [List.length_drop, hcl]
  have htl : ((l0.map (Value.int .i64)).take i).length = i := by rw [List.length_take, hcl, Nat.min_eq_left hin]
  rcases Nat.lt_or_ge i l0.length with hlt | hge
  · obtain ⟨b, c, rfl, hbbase, hblt, _⟩ := Kd.R_form ho0 (by omega)
    obtain ⟨_, hbn, hbcap, hbm, cur, hbh, hbs, hbt⟩ := ii_row ho0
    have hP0 : P0_ b := ho0.1 b (by simp [Value.ownBlock])
    have hne : vb ≠ b := fun e => hp0_2 b hP0 (e ▸ hP2)
    have hcc := ii_cell hbh hbt
    have hbm' : c ≤ 9223372036854775807 := hbm
    rcases Nat.lt_or_ge c (l0.length + 1) with hroom | hroom
    · refine Calls.mono (Any2.slices_Insert_int_grow Try.lInsertI b 0 l0.length c i vb 0 1 vc (l0.map (Value.int .i64)) (l2.map (Value.int .i64)) w hlt (by omega) hbcap hroom (by omega) hcl hvl hcc hcv (ii_one _) (ii_one _)) ?_
      rintro e w' ⟨rfl, hw⟩
      obtain ⟨G, hG⟩ : ∃ G, G = grownCap w (l0.length + 1) c 3 := ⟨_, rfl⟩
      have hGn : l0.length + 1 ≤ G := by rw [hG]; exact grownCap_ge w _ _ _
      have hGm : G ≤ maxLen := by
        have := grownCap_le_maxLen w (l0.length + 1) c 3 (by unfold maxLen; omega)
        rwa [← hG] at this
      obtain ⟨ROW, hROW⟩ : ∃ ROW : Array Value, ROW = (((l0.map (Value.int .i64)).take i).toArray ++ Builtin.zeroCells (Value.int .i64 0).cells (l0.length + 1 - i) ++ Builtin.zeroCells (Value.int .i64 0).cells (G - (l0.length + 1))) := ⟨_, rfl⟩
      replace hw : w' = (((w.alloc (.cells ROW 3)).drew.setCells w.heap.size i (l2.map (Value.int .i64))).drew).setCells w.heap.size (i + 1) ((l0.map (Value.int .i64)).drop i) := by rw [hROW, hG]; exact hw
      have hRl : ROW.size = G := by
        rw [hROW]
        simp [Builtin.zeroCells, Value.cells, Nat.min_eq_left hin]
        omega
      have hRA : ROW.toList.take i = (l0.map (Value.int .i64)).take i := by
        rw [hROW]
        simp only [Array.toList_append, List.append_assoc]
        rw [List.take_left' (by simp [Nat.min_eq_left hin])]
      clear hROW
      have hnew : (w.alloc (.cells ROW 3 (0, 0))).heap[w.heap.size]? = some (.cells ROW 3 (0, 0)) := heap_alloc_new w _
      have hb1 := HL.filled_blk (g := w.heap.size) (l2.map (Value.int .i64)) i (w.alloc (.cells ROW 3)).drew ROW hnew
      have hb2 := HL.filled_blk (g := w.heap.size) ((l0.map (Value.int .i64)).drop i) (i + 1) ((w.alloc (.cells ROW 3)).drew.setCells w.heap.size i (l2.map (Value.int .i64))).drew _ hb1
      have hbel : Below w0.heap.size w0 (((w.alloc (.cells ROW 3)).drew.setCells w.heap.size i (l2.map (Value.int .i64))).drew.setCells w.heap.size (i + 1) ((l0.map (Value.int .i64)).drop i)) :=
        HL.filled_below _ _ w0 _ (below_drew (HL.filled_below _ _ w0 _ (below_drew (hB.alloc hB.size _)) hB.size)) hB.size
      rw [← hw] at hb2 hbel
      refine ⟨_, rfl, ?_, hbel, ⟨?_, fun k hk _ => ?_⟩⟩
      · show (Kd.int .i64).R 3 w' w0.heap.size _ (.slice (some ⟨w.heap.size, 0, none⟩) (l0.length + 1) (grownCap w (l0.length + 1) c 3)) _
        rw [← hG, ← hrl]
        refine ii_of hB.size (by rw [hrl]; exact hGn) hGm hb2 (by rw [ii_size, ii_size, hRl]) ?_ (.inr (Nat.le_refl _))
        have hl1 := ii_list (l2.map (Value.int .i64)) i ROW (by rw [hvl, hRl]; omega)
        have hl2 := ii_list ((l0.map (Value.int .i64)).drop i) (i + 1) (HL.over ROW i (l2.map (Value.int .i64))) (by rw [ii_size, hRl, hdl]; omega)
        rw [hl2, hl1, hrm, hrl, hRA]
        rw [show ((l0.map (Value.int .i64)).take i ++ l2.map (Value.int .i64) ++ ROW.toList.drop (i + (l2.map (Value.int .i64)).length)).take (i + 1) = (l0.map (Value.int .i64)).take i ++ l2.map (Value.int .i64) from List.take_left' (by rw [List.length_append, htl, hvl])]
        exact List.take_left' (by rw [List.length_append, List.length_append, htl, hvl, hdl]; omega)
      · rw [hw, HL.filled_size]
        show w.heap.size ≤ ((w.alloc (.cells ROW 3)).drew.setCells w.heap.size i (l2.map (Value.int .i64))).heap.size
        rw [HL.filled_size]
        exact (below_alloc (Below.refl w.heap.size w) _).size
      · rw [hw, HL.filled_far _ _ _ _ _ (by omega)]
        show ((w.alloc (.cells ROW 3)).drew.setCells w.heap.size i (l2.map (Value.int .i64))).heap[k]? = _
        rw [HL.filled_far _ _ _ _ _ (by omega)]
        exact Below.heap_alloc w _ k hk
    · refine Calls.mono (Any2.slices_Insert_int_shift Try.lInsertI b 0 l0.length c i vb 0 1 vc (l0.map (Value.int .i64)) (l2.map (Value.int .i64)) w hlt (by omega) hroom hbm' hne hcl hvl hcc
        (fun j hj => by rw [Nat.zero_add, blk_cell hbh, Array.getElem?_eq_getElem (by omega)]; rfl) (fun j _ => blk_frozen hbh _) hcv (ii_one _) (ii_one _) 3 3 cv.size cur.size (ii_shape hvh) (ii_shape hbh) (by omega) (blk_frozen hvh _) (blk_frozen hvh _)) ?_
      rintro e w' ⟨rfl, hw⟩
      simp only [Nat.zero_add] at hw
      have hb1 := HL.filled_blk (g := b) ((l0.map (Value.int .i64)).drop i) (i + 1) w.drew cur hbh
      have hb2 := HL.filled_blk (g := b) (l2.map (Value.int .i64)) i (w.drew.setCells b (i + 1) ((l0.map (Value.int .i64)).drop i)) _ hb1
      have hbel : Below w0.heap.size w0 ((w.drew.setCells b (i + 1) ((l0.map (Value.int .i64)).drop i)).setCells b i (l2.map (Value.int .i64))) := HL.filled_below _ _ w0 _ (HL.filled_below _ _ w0 _ (below_drew hB) hbbase) hbbase
      rw [← hw] at hb2 hbel
      refine ⟨_, rfl, ?_, hbel, ⟨?_, fun k hk hn => ?_⟩⟩
      · rw [← hrl]
        refine ii_of hbbase (by rw [hrl]; exact hroom) hbm hb2 (by rw [ii_size, ii_size, hbs]) ?_ (.inl (.inl hP0))
        have hl1 := ii_list ((l0.map (Value.int .i64)).drop i) (i + 1) cur (by rw [hbs, hdl]; omega)
        have hl2 := ii_list (l2.map (Value.int .i64)) i (HL.over cur (i + 1) ((l0.map (Value.int .i64)).drop i)) (by rw [ii_size, hbs, hvl]; omega)
        have hlen1 : (cur.toList.take (i + 1)).length = i + 1 := by rw [List.length_take, Nat.min_eq_left (by rw [Array.length_toList, hbs]; omega)]
        have hcA : cur.toList.take i = (l0.map (Value.int .i64)).take i := by
          have := congrArg (List.take i) hbt
          rwa [List.take_take, Nat.min_eq_left hin] at this
        rw [hl2, hl1, hrm, hrl, hvl]
        have e1 : (cur.toList.take (i + 1) ++ (l0.map (Value.int .i64)).drop i ++ cur.toList.drop (i + 1 + ((l0.map (Value.int .i64)).drop i).length)).take i = (l0.map (Value.int .i64)).take i := by rw [List.append_assoc, List.take_append_of_le_length (by rw [hlen1]; omega), List.take_take, Nat.min_eq_left (by omega), hcA]
        have e2 : (cur.toList.take (i + 1) ++ (l0.map (Value.int .i64)).drop i ++ cur.toList.drop (i + 1 + ((l0.map (Value.int .i64)).drop i).length)).drop (i + 1) = (l0.map (Value.int .i64)).drop i ++ cur.toList.drop (i + 1 + ((l0.map (Value.int .i64)).drop i).length) := by rw [List.append_assoc, List.drop_left' hlen1]
        rw [e1, e2, ← List.append_assoc]
        exact List.take_left' (by rw [List.length_append, List.length_append, htl, hvl, hdl]; omega)
      · rw [hw, HL.filled_size, HL.filled_size]
        exact Nat.le_refl _
      · have hkb : k ≠ b := fun e => hn (.inl (e ▸ hP0))
        rw [hw, HL.filled_far _ _ _ _ _ hkb, HL.filled_far _ _ _ _ _ hkb]
        rfl
  · obtain rfl : i = l0.length := by omega
    rw [List.drop_length, List.append_nil] at hrl hrm ⊢
    rw [List.take_length] at hrl hrm ⊢
    have key : ∀ (base : Option Addr) (c : Nat), l0.length ≤ c → c < l0.length + 1 → (base = none → l0.length = 0) → (∀ a, base = some a → ∀ j v, (l0.map (Value.int .i64))[j]? = some v → w.cell? (a.add j) = some v) →
        Calls Try.prog 125 #[.slice base l0.length c, .int .i64 (l0.length : Int), .slice (some ⟨vb, 0, none⟩) 1 vc] w fun e w' => ∃ v0_ : Value, e = .returned (v0_) ∧ (Kd.int .i64).R 3 w' w0.heap.size (fun k_ => ((P0_ k_ ∨ P2_ k_) ∨ w.heap.size ≤ k_)) v0_ (l0 ++ l2) ∧ Below w0.heap.size w0 w' ∧ Kept w w' (fun k_ => P0_ k_ ∨ P2_ k_) := by
      intro base c hc1 hc2 hnil hcs
      refine Calls.mono (Any2.slices_Insert_int_end_grow Try.lInsertI base l0.length c vb 0 1 vc (l0.map (Value.int .i64)) (l2.map (Value.int .i64)) w (by omega) hc1 hc2 (by omega) hcl hvl hnil hcs hcv (ii_one _)) ?_
      rintro e w' ⟨rfl, hw⟩
      obtain ⟨G, hG⟩ : ∃ G, G = grownCap w (l0.length + 1) c 3 := ⟨_, rfl⟩
      have hGn : l0.length + 1 ≤ G := by rw [hG]; exact grownCap_ge w _ _ _
      have hGm : G ≤ maxLen := by
        have := grownCap_le_maxLen w (l0.length + 1) c 3 (by unfold maxLen; omega)
        rwa [← hG] at this
      obtain ⟨ROW, hROW⟩ : ∃ ROW : Array Value, ROW = ((l0.map (Value.int .i64) ++ l2.map (Value.int .i64)).toArray ++ Builtin.zeroCells (Value.int .i64 0).cells (G - (l0.length + 1))) := ⟨_, rfl⟩
      replace hw : w' = w.drew.alloc (.cells ROW 3) := by rw [hROW, hG]; exact hw
      have hRl : ROW.size = G := by
        rw [hROW]
        simp [Builtin.zeroCells, Value.cells, h21]
        omega
      have hRA : ROW.toList.take (l0.length + 1) = (l0 ++ l2).map (Value.int .i64) := by
        rw [hROW, List.map_append]
        simp only [Array.toList_append]
        exact List.take_left' (by simp [h21])
      clear hROW
      have hnew : w'.heap[w.heap.size]? = some (.cells ROW 3 (0, 0)) := by rw [hw]; exact heap_alloc_new w.drew _
      have hbel : Below w0.heap.size w0 w' := by rw [hw]; exact (below_drew hB).alloc hB.size _
      refine ⟨_, rfl, ?_, hbel, ?_⟩
      · show (Kd.int .i64).R 3 w' w0.heap.size _ (.slice (some ⟨w.heap.size, 0, none⟩) (l0.length + 1) (grownCap w (l0.length + 1) c 3)) _
        rw [← hG, ← hrl]
        exact ii_of hB.size (by rw [hrl]; exact hGn) hGm hnew hRl (by rw [hrl]; exact hRA) (.inr (Nat.le_refl _))
      · rw [hw]
        exact Kept.of_below (below_alloc (below_drew (Below.refl _ _)) _) _
    obtain ⟨A0, c0, rfl⟩ := Kd.R_slice ho0
    have hle : l0.length ≤ c0 := (Kd.R_reads' ho0).2.1
    rcases Nat.eq_zero_or_pos l0.length with hz | hpos
    · have hemp : l0 = [] := List.eq_nil_of_length_eq_zero hz
      cases A0 with
      | none =>
        have hc0 : c0 = 0 := by
          obtain ⟨_, inner, ⟨_, hcase⟩, _⟩ := ho0
          rcases hcase with ⟨hv, _⟩ | ⟨g', cap', cur, hv, _⟩
          · injection hv
          · cases hv
        exact key none c0 hle (by omega) (fun _ => hz) (fun a e => by cases e)
      | some ad =>
        obtain ⟨b, rfl⟩ := Kd.R_head ho0
        obtain ⟨hbbase, hbn, hbcap, hbm, cur, hbh, hbs, hbt⟩ := ii_row ho0
        have hP0 : P0_ b := ho0.1 b (by simp [Value.ownBlock])
        rcases Nat.lt_or_ge c0 (l0.length + 1) with hroom | hroom
        · exact key _ c0 hle hroom (fun e => by cases e) (fun a e j v hj => by rw [hemp] at hj; cases hj)
        · refine Calls.mono (Any2.slices_Insert_int_end_room Try.lInsertI b 0 l0.length c0 vb 0 1 vc (l2.map (Value.int .i64)) w (by omega) hroom hbm hvl
            (fun j hj => by rw [blk_cell hbh, Array.getElem?_eq_getElem (by omega)]; rfl) (fun j _ => blk_frozen hbh _) hcv (ii_one _)) ?_
          rintro e w' ⟨rfl, hw⟩
          rw [Nat.zero_add] at hw
          have hb1 := HL.filled_blk (g := b) (l2.map (Value.int .i64)) l0.length w cur hbh
          have hbel : Below w0.heap.size w0 (w.setCells b l0.length (l2.map (Value.int .i64))) := HL.filled_below _ _ w0 _ hB hbbase
          rw [← hw] at hb1 hbel
          refine ⟨_, rfl, ?_, hbel, ⟨?_, fun k hk hn => ?_⟩⟩
          · rw [← hrl]
            refine ii_of hbbase (by rw [hrl]; exact hroom) hbm hb1 (by rw [ii_size, hbs]) ?_ (.inl (.inl hP0))
            rw [ii_list _ _ _ (by rw [hvl, hbs]; omega), hbt, hrl, List.map_append]
            exact List.take_left' (by simp [h21])
          · rw [hw, HL.filled_size]
            exact Nat.le_refl _
          · have hkb : k ≠ b := fun e => hn (.inl (e ▸ hP0))
            rw [hw, HL.filled_far _ _ _ _ _ hkb]
    · obtain ⟨b, c, e_, hbbase, hblt, _⟩ := Kd.R_form ho0 hpos
      injection e_ with e1 e2 e3
      subst e1 e3
      obtain ⟨_, hbn, hbcap, hbm, cur, hbh, hbs, hbt⟩ := ii_row ho0
      have hP0 : P0_ b := ho0.1 b (by simp [Value.ownBlock])
      rcases Nat.lt_or_ge c0 (l0.length + 1) with hroom | hroom
      · exact key _ c0 hle hroom (fun e => by cases e) (fun a e j v hj => by injection e with e; subst e; rw [Addr.add_lit]; exact ii_cell hbh hbt j v hj)
      · refine Calls.mono (Any2.slices_Insert_int_end_room Try.lInsertI b 0 l0.length c0 vb 0 1 vc (l2.map (Value.int .i64)) w (by omega) hroom hbm hvl
          (fun j hj => by rw [blk_cell hbh, Array.getElem?_eq_getElem (by omega)]; rfl) (fun j _ => blk_frozen hbh _) hcv (ii_one _)) ?_
        rintro e w' ⟨rfl, hw⟩
        rw [Nat.zero_add] at hw
        have hb1 := HL.filled_blk (g := b) (l2.map (Value.int .i64)) l0.length w cur hbh
        have hbel : Below w0.heap.size w0 (w.setCells b l0.length (l2.map (Value.int .i64))) := HL.filled_below _ _ w0 _ hB hbbase
        rw [← hw] at hb1 hbel
        refine ⟨_, rfl, ?_, hbel, ⟨?_, fun k hk hn => ?_⟩⟩
        · rw [← hrl]
          refine ii_of hbbase (by rw [hrl]; exact hroom) hbm hb1 (by rw [ii_size, hbs]) ?_ (.inl (.inl hP0))
          rw [ii_list _ _ _ (by rw [hvl, hbs]; omega), hbt, hrl, List.map_append]
          exact List.take_left' (by simp [h21])
        · rw [hw, HL.filled_size]
          exact Nat.le_refl _
        · have hkb : k ≠ b := fun e => hn (.inl (e ▸ hP0))
          rw [hw, HL.filled_far _ _ _ _ _ hkb]
end Go.Proofs.Ythkbgbkglgmpoaa.XA
end
