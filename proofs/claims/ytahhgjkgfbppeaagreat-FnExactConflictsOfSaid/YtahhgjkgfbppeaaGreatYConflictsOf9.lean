/- Contracts of the program's functions: each Go function that is named below comes to what its Lean function says. Written by xprint.py (a program of this session's, over the kit's print). Conditions: each contract's own premises. -/
import Derived.Test.YtahhgjkgfbppeaaGreatYConflictsOf0
import Derived.Test.YtahhgjkgfbppeaaGreatYConflictsOf4
import Derived.Test.YtahhgjkgfbppeaaGreatYConflictsOf6
import Derived.Test.YtahhgjkgfbppeaaGreatYConflictsOf8
namespace Go.Proofs.YtahhgjkgfbppeaaGreat.XA
open Go.RowKit Go.Proofs.YtahhgjkgfbppeaaGreatW.PrintWords Go.Proofs.YtahhgjkgfbppeaaGreatW.PrintLast Go.Proofs.YtahhgjkgfbppeaaGreatW.PrintMore XW
attribute [local go_sem] max2_int min2_int max_two min_two max_three min_three max_four min_four   -- for this text's walks alone
set_option linter.unusedVariables false
set_option linter.unusedSimpArgs false

/-! ### spec_l07Conflicts: function 47 -/
def spec_l07Conflicts.l0 : Nat → List (S39) → List Int → List Int → Int → Int → Int → List (S113) → Int → Int → Int → Option (List Int)
 | 0, _, _, _, _, _, _, _, _, _, _ => none
 | k + 1, x1, x7, x8, x9, x224000, x224001, x224002, x225000, x225001, x225002 => if x9 < (x8.length : Int) then (if 0 ≤ x9 then (if (rd x8 x9) = x225000 then (spec_l07Conflicts.l0 k x1 x7 x8 (wrap64 (x9 + 1)) x224000 x224001 x224002 x225000 x225001 x225002) else ((spec_l07Clash.f k x224000 x224001 x224002 x1 x225000 x225001 x225002 (rd x8 x9)).bind fun t233 => (if t233 = true then (if x7.length < 17592186044416 then (spec_l07Conflicts.l0 k x1 (x7 ++ [rd x8 x9]) x8 (wrap64 (x9 + 1)) x224000 x224001 x224002 x225000 x225001 x225002) else (none)) else (spec_l07Conflicts.l0 k x1 x7 x8 (wrap64 (x9 + 1)) x224000 x224001 x224002 x225000 x225001 x225002)))) else (none)) else (some x7)
def spec_l07Conflicts.f (k : Nat) (a0_0 : Int) (a0_1 : Int) (l0_2 : List (S113)) (l1 : List (S39)) (a2_0 : Int) (a2_1 : Int) (a2_2 : Int) : Option (List Int) := (spec_l07Sessions.f k l1).bind fun t228 => (spec_l07Conflicts.l0 k l1 (([] : List Int)) t228 0 a0_0 a0_1 l0_2 a2_0 a2_1 a2_2)
def spec_l07Conflicts.T6 : Bool × List (List Nat × List Nat) := (true, [([], []), ([], []), ([0, 1], [0, 1]), ([2], [2]), ([], []), ([4], [4]), ([3, 5], [3, 5]), ([6], [6]), ([7], [7]), ([7], [7]), ([7], [7]), ([7], [7]), ([7], [7]), ([11, 12, 7], [7, 11, 12]), ([13, 7], [7, 13]), ([8, 9, 10, 14, 7, 7], [7, 8, 9, 10, 14]), ([7, 15], [7, 15])])
def spec_l07Conflicts.B6 : List Nat := [0, 0, 3, 7, 0, 16, 63, 127, 255, 255, 255, 255, 255, 6399, 14591, 32767, 65535]
theorem spec_l07Conflicts.tab6 : rtab .any (opsOf Tryz.f47 6) = spec_l07Conflicts.T6 := by kernel_rfl
theorem spec_l07Conflicts.bits6 : waitsOk spec_l07Conflicts.T6.2 spec_l07Conflicts.B6 = true := by kernel_rfl
set_option maxHeartbeats 8000000 in
set_option maxRecDepth 100000 in
theorem spec_l07Conflicts.calls (k : Nat) (a0_0 : Int) (a0_1 : Int) (A0_2 : Option Addr) (c0_2 : Nat) (l0_2 : List (S113)) (A1 : Option Addr) (c1 : Nat) (l1 : List (S39)) (a2_0 : Int) (a2_1 : Int) (a2_2 : Int) (r : List Int) (w : World) (hr0_2 : Kd.C k113 w A0_2 l0_2.length l0_2) (hc0_2 : l0_2.length ≤ c0_2) (hr1 : Kd.C k39 w A1 l1.length l1) (hc1 : l1.length ≤ c1) (h : spec_l07Conflicts.f k a0_0 a0_1 l0_2 l1 a2_0 a2_1 a2_2 = some r) :
  Calls Tryz.prog 47 #[.agg #[.int .i64 a0_0, .int .i64 a0_1, .slice A0_2 l0_2.length c0_2], .slice A1 l1.length c1, .agg #[.int .i64 a2_0, .int .i64 a2_1, .int .i64 a2_2]] w fun e w' => ∃ v0_ : Value, e = .returned (v0_) ∧ Kd.R (Kd.int .i64) 3 w' w.heap.size (fun _ => True) v0_ r ∧ Below w.heap.size w w' := by
 have hu35 := Tryz.underlying35
 have hu39 := Tryz.underlying39
 have HR0_2 := Aside0.mk hr0_2
 have HC0_2 := Aside0.mk hc0_2
 clear hr0_2 hc0_2
 have HR1 := Aside0.mk hr1
 have HC1 := Aside0.mk hc1
 clear hr1 hc1
 have HB := Aside0.mk (Below.refl w.heap.size w)
 have H : ((spec_l07Sessions.f k l1).bind fun t228 => (spec_l07Conflicts.l0 k l1 (([] : List Int)) t228 0 a0_0 a0_1 l0_2 a2_0 a2_1 a2_2)) = some r := h
 clear h
 obtain ⟨y225, hy225⟩ : ∃ y_ : List Int, y_ = (([] : List Int)) := ⟨_, rfl⟩
 replace H : ((spec_l07Sessions.f k l1).bind fun t228 => (spec_l07Conflicts.l0 k l1 y225 t228 0 a0_0 a0_1 l0_2 a2_0 a2_1 a2_2)) = some r := by first | (rw [hy225]; with_reducible exact H) | (have H2_ := (Option.bind_some _ _).symm.trans H; rw [hy225]; with_reducible exact H2_) | (have H2_ := (Option.bind_some _ _).symm.trans H; with_reducible exact H2_) | with_reducible exact H | (rw [hy225]; exact H) | exact H
 have Ny225 := Aside0.mk hy225
 clear hy225
 obtain ⟨t228, A4, H⟩ := Xbi H
 (try dsimp only at H)
 have H' := Aside0.mk H
 clear H
 go_enter Tryz.func47, Tryz.ntmps47
 go_wp2_with (first | ((with_reducible refine gate_dst (N := 3) rfl ?_); refine Xbox 3 #[.int .i64 a0_0, .int .i64 a0_1, .slice A0_2 l0_2.length c0_2] 35 ?_; intro gb223 hg w5 hbox hb; have BK223 := Aside0.mk (hbox); have GE223 := Xge hg Xi; replace HB := Aside0.mk (below_step Xi hb); clear hb hbox hg) | ((with_reducible refine gate_dst (N := 5) rfl ?_); refine Xbox 5 #[.int .i64 a2_0, .int .i64 a2_1, .int .i64 a2_2] 39 ?_; intro gb224 hg w6 hbox hb; have BK224 := Aside0.mk (hbox); have GE224 := Xge hg Xi; replace HB := Aside0.mk (below_step Xi hb); have NB223_224 := Xnb hg BK223; have NB224_223 := Xns NB223_224; replace BK223 := Xbb BK223 hb; clear hb hbox hg) | ((with_reducible refine gate_dst (N := 10) rfl ?_); refine Kd.R_lit (Kd.int .i64) _ 3 ?hg (N := 10) ?hd (xs := ([] : List Int)) (inner := []) (ok := fun _ => True) (okp := fun _ => True) ?hr ?hp (fun _ hk => hk) trivial (Below.refl _ _) (Nat.le_refl _) (by simp) ?_; (case hd => rfl); (case hg => rfl); (case hr => first | (go_simp; done) | (go_simp; rfl)); (case hp => exact (Reps.none _ _)); intro v226 w7 ho8 hb hg_ hnew_; clear hg_ hnew_; (first | rw [← Ny225.out] at ho8 | (simp only [Int.reduceToNat] at ho8; rw [← Ny225.out] at ho8)); have HO227 := Aside0.mk (Kd.R_lower ho8 (below_size Xi)); replace BK223 := Xbb BK223 hb; replace BK224 := Xbb BK224 hb; replace HB := Aside0.mk (below_step Xi hb); clear hb ho8) | ((with_reducible refine gate_callee (f := 90) rfl ?_); refine Xgo 12 Tryz.func90 #[.slice A1 l1.length c1] ?_; (with_reducible refine (spec_l07Sessions.calls k _ _ l1 t228 _ ?side1 ?side2 A4.out).mono ?_); (case side1 => exact Xc HR1); (case side2 => exact HC1.out); rintro e w9 ⟨v229, rfl, ho0, hb⟩; refine ⟨_, rfl, ?_⟩; have HO230 := Aside0.mk (Kd.R_lower (Kd.R_new' ho0 (Kd.R_lt (Xq HO227))) (below_size Xi)); replace HO227 := Aside0.mk (Kd.R_elder' (Xq HO227) (Kd.R_base ho0) hb); replace BK223 := Xbb BK223 hb; replace BK224 := Xbb BK224 hb; replace HB := Aside0.mk (below_step Xi hb); clear hb; (try clear ho0)))
 go_loopg [7, 9] k (fun kq v7 v9 w' => ∃ (x7_1 : List Int) (x9_1 : Int), v9 = .int .i64 x9_1 ∧ Aside0 (spec_l07Conflicts.l0 kq l1 x7_1 t228 x9_1 a0_0 a0_1 l0_2 a2_0 a2_1 a2_2 = some r) ∧ Aside0 (kq ≤ k) ∧ Aside0 (Kd.R (Kd.int .i64) 3 w' w.heap.size (fun k_ => some k_ ≠ (v229 : Value).ownBlock) v7 x7_1) ∧ Aside0 (Kd.R (Kd.int .i64) 3 w' w.heap.size (fun k_ => some k_ ≠ (v7 : Value).ownBlock) v229 t228) ∧ Aside0 (w'.heap[gb223]? = some (.cells #[.int .i64 a0_0, .int .i64 a0_1, (.slice A0_2 l0_2.length c0_2)] 35 (0, 0))) ∧ Aside0 (w'.heap[gb224]? = some (.cells #[.int .i64 a2_0, .int .i64 a2_1, .int .i64 a2_2] 39 (0, 0))) ∧ Aside0 (Below w.heap.size w w'))
 case atStart => exact ⟨(y225), (0), Xr, H', Xkr, ⟨by (with_reducible repeat (first | apply Kd.R_alloc | apply Kd.R_drewN | apply Kd.R_drew)); exact Kd.R_mono HO227.out (fun _ hk => hk.2)⟩, ⟨by (with_reducible repeat (first | apply Kd.R_alloc | apply Kd.R_drewN | apply Kd.R_drew)); exact Kd.R_mono HO230.out (fun _ hk => hk.2)⟩, (Xp BK223), (Xp BK224), ⟨Xi⟩⟩
 case round =>
  clear H'
  (try clear c1)
  obtain ⟨x7_1, x9_1, rfl, HA, HK1, HO_7, HO_8, BK223, BK224, HB⟩ := hrel
  cases gk with
  | zero => cases HA.out
  | succ k1 =>
   have H := HA.out
   clear HA
   simp only [spec_l07Conflicts.l0] at H
   obtain ⟨c10b0, H⟩ | ⟨c10b0, H⟩ := Xit H
   ·obtain ⟨c11b0, H⟩ := Xid H
    obtain ⟨c12, H⟩ | ⟨c12, H⟩ := Xiu H
    ·have c12b0 : ((rd t228 x9_1) == a2_0) = true := beq_iff_eq.mpr c12
     have c12b1 : ((rd t228 x9_1) != a2_0) = false := bne_eq_false_iff_eq.mpr c12
     clear c12
     have H' := Aside0.mk H
     clear H
     obtain ⟨Ao13, co13, eo13⟩ := Kd.R_slice HO_8.out
     subst eo13
     try go_wp2_with (fail)
     replace HO_7 := Aside0.mk (Kd.R_drew HO_7.out)
     replace HO_8 := Aside0.mk (Kd.R_drew HO_8.out)
     replace BK223 := Aside0.mk (blk_drew BK223.out)
     replace BK224 := Aside0.mk (blk_drew BK224.out)
     replace HB := Aside0.mk (below_drew1 HB.out)
     have p231 : 0 ≤ (x9_1 : Int) := of_decide_eq_true Xa
     have q231 : x9_1 < (t228.length : Int) := of_decide_eq_true Xa
     obtain ⟨ad231, e231, hx231_0⟩ := Kd.at_int (Kd.R_reads' HO_8.out).2.2 x9_1 p231 q231
     cases e231
     replace p231 := eq_true p231
     replace q231 := eq_true q231
     refine start_ (n := 17) (S := fun w' => w'.cell? ⟨gb224, 0, none⟩ = some (.int .i64 a2_0) ∧ w'.cell? ⟨gb224, 1, none⟩ = some (.int .i64 a2_1) ∧ w'.cell? ⟨gb224, 2, none⟩ = some (.int .i64 a2_2) ∧ w'.cell? (ad231.add (x9_1).toNat) = some (.int .i64 (rd t228 x9_1))) (ds := []) #[false, false, false, false, false, false, false, false, false, false, false, false, false, false, false, false, false] (by kernel_rfl) rfl rfl ⟨(blk_cell BK224.out 0).trans rfl, (blk_cell BK224.out 1).trans rfl, (blk_cell BK224.out 2).trans rfl, hx231_0⟩ (fun hHeld => ?_); refine with_tabW spec_l07Conflicts.tab6 spec_l07Conflicts.bits6 (fun HT_ HW_ => ?_)
     generalize wr.drew = w14 at HO_7 HO_8 BK223 BK224 HB hx231_0 hHeld ⊢
     refine Xpu 0 19 (XW.bs 17 1) HT_.out ?_
     refine Xpu 1 20 (XW.bs 17 3) HT_.out ?_
     refine Xpu 2 21 (XW.bs 17 7) HT_.out ?_
     refine Xpu 4 23 (XW.bs 17 23) HT_.out ?_
     refine Xta 3 22 (XW.bs 17 31) HT_.out HW_.out hHeld ?_
     refine Xta 5 24 (XW.bs 17 63) HT_.out HW_.out hHeld ?_
     refine Xpu 6 25 (XW.bs 17 127) HT_.out ?_
     refine Xpu 7 26 (XW.bs 17 255) HT_.out ?_
     refine Xpn 8 27 (XW.bs 17 511) HT_.out ?_
     refine Xpn 9 28 (XW.bs 17 1023) HT_.out ?_
     refine Xpn 10 29 (XW.bs 17 2047) HT_.out ?_
     refine Xpn 11 30 (XW.bs 17 4095) HT_.out ?_
     refine Xpn 12 31 (XW.bs 17 8191) HT_.out ?_
     refine Xpn 13 32 (XW.bs 17 16383) HT_.out ?_
     refine Xpn 14 33 (XW.bs 17 32767) HT_.out ?_
     refine Xpn 15 34 (XW.bs 17 65535) HT_.out ?_
     refine Xpu 16 35 (XW.bs 17 131071) HT_.out ?_
     refine done_ (done_of HT_.out (by kernel_rfl)) ?_
     try go_wp2_with (fail)
     go_roundg k1
     case measure => have := HK1.out; omega
     case rel => exact ⟨(x7_1), (wrap64 (x9_1 + 1)), Xr, H', Xk1, (Xp' HO_7), (Xp' HO_8), (Xp BK223), (Xp BK224), ⟨Xi⟩⟩
    ·have c12b0 : ((rd t228 x9_1) == a2_0) = false := beq_eq_false_iff_ne.mpr c12
     have c12b1 : ((rd t228 x9_1) != a2_0) = true := bne_iff_ne.mpr c12
     obtain ⟨t233, A15, H⟩ := Xbi H
     (try dsimp only at H)
     have HC16 := Aside0.mk H
     clear H
     obtain ⟨Ao17, co17, eo17⟩ := Kd.R_slice HO_8.out
     subst eo17
     try go_wp2_with (fail)
     replace HO_7 := Aside0.mk (Kd.R_drew HO_7.out)
     replace HO_8 := Aside0.mk (Kd.R_drew HO_8.out)
     replace BK223 := Aside0.mk (blk_drew BK223.out)
     replace BK224 := Aside0.mk (blk_drew BK224.out)
     replace HB := Aside0.mk (below_drew1 HB.out)
     have p231 : 0 ≤ (x9_1 : Int) := of_decide_eq_true Xa
     have q231 : x9_1 < (t228.length : Int) := of_decide_eq_true Xa
     obtain ⟨ad231, e231, hx231_0⟩ := Kd.at_int (Kd.R_reads' HO_8.out).2.2 x9_1 p231 q231
     cases e231
     replace p231 := eq_true p231
     replace q231 := eq_true q231
     have p232 : 0 ≤ (x9_1 : Int) := of_decide_eq_true Xa
     have q232 : x9_1 < (t228.length : Int) := of_decide_eq_true Xa
     obtain ⟨ad232, e232, hx232_0⟩ := Kd.at_int (Kd.R_reads' HO_8.out).2.2 x9_1 p232 q232
     obtain rfl : ad231 = ad232 := (by injection e232)
     replace p232 := eq_true p232
     replace q232 := eq_true q232
     refine start_ (n := 17) (S := fun w' => w'.cell? ⟨gb224, 0, none⟩ = some (.int .i64 a2_0) ∧ w'.cell? ⟨gb224, 1, none⟩ = some (.int .i64 a2_1) ∧ w'.cell? ⟨gb224, 2, none⟩ = some (.int .i64 a2_2) ∧ w'.cell? ⟨gb223, 0, none⟩ = some (.int .i64 a0_0) ∧ w'.cell? ⟨gb223, 1, none⟩ = some (.int .i64 a0_1) ∧ w'.cell? ⟨gb223, 2, none⟩ = some (.slice A0_2 l0_2.length c0_2) ∧ w'.cell? (ad231.add (x9_1).toNat) = some (.int .i64 (rd t228 x9_1)) ∧ w'.cell? (ad231.add (x9_1).toNat) = some (.int .i64 (rd t228 x9_1))) (ds := []) #[false, false, false, false, false, false, false, false, false, false, false, false, false, false, false, false, false] (by kernel_rfl) rfl rfl ⟨(blk_cell BK224.out 0).trans rfl, (blk_cell BK224.out 1).trans rfl, (blk_cell BK224.out 2).trans rfl, (blk_cell BK223.out 0).trans rfl, (blk_cell BK223.out 1).trans rfl, (blk_cell BK223.out 2).trans rfl, hx231_0, hx232_0⟩ (fun hHeld => ?_); refine with_tabW spec_l07Conflicts.tab6 spec_l07Conflicts.bits6 (fun HT_ HW_ => ?_)
     generalize wr.drew = w18 at HO_7 HO_8 BK223 BK224 HB hx231_0 hx232_0 hHeld ⊢
     refine Xpu 0 19 (XW.bs 17 1) HT_.out ?_
     refine Xpu 1 20 (XW.bs 17 3) HT_.out ?_
     refine Xpu 2 21 (XW.bs 17 7) HT_.out ?_
     refine Xpu 4 23 (XW.bs 17 23) HT_.out ?_
     refine Xta 3 22 (XW.bs 17 31) HT_.out HW_.out hHeld ?_
     refine Xta 5 24 (XW.bs 17 63) HT_.out HW_.out hHeld ?_
     refine Xpu 6 25 (XW.bs 17 127) HT_.out ?_
     refine Xpu 7 26 (XW.bs 17 255) HT_.out ?_
     refine Xpu 9 28 (XW.bs 17 767) HT_.out ?_
     refine Xpu 11 30 (XW.bs 17 2815) HT_.out ?_
     refine Xpu 12 31 (XW.bs 17 6911) HT_.out ?_
     refine Xpu 13 32 (XW.bs 17 15103) HT_.out ?_
     refine Xta 8 27 (XW.bs 17 15359) HT_.out HW_.out hHeld ?_
     refine Xta 10 29 (XW.bs 17 16383) HT_.out HW_.out hHeld ?_
     refine Xta 14 33 (XW.bs 17 32767) HT_.out HW_.out hHeld ?_
     refine one_ (i := 15) (N := some 34) (XW.bs 17 65535) rfl rfl (one_of HT_.out (by kernel_rfl)) (by decide) (fun K hK => ?_)
     refine goes_ Tryz.func91 (by kernel_rfl) rfl #[.agg #[.int .i64 a0_0, .int .i64 a0_1, .slice A0_2 l0_2.length c0_2], .slice A1 l1.length c1, .agg #[.int .i64 a2_0, .int .i64 a2_1, .int .i64 a2_2], .int .i64 (rd t228 x9_1)] (by rfl) rfl rfl (by (try simp only [List.map_toArray, List.map_cons, List.map_nil]); first | done | rfl | (simp only [List.length_drop, List.length_take]; rfl)) ?_
     with_reducible refine (spec_l07Clash.calls k1 a0_0 a0_1 _ _ l0_2 _ _ l1 a2_0 a2_1 a2_2 (rd t228 x9_1) t233 _ ?side1 ?side2 ?side3 ?side4 A15.out).mono ?_
     (case side1 => exact Xc HR0_2)
     (case side2 => exact HC0_2.out)
     (case side3 => exact Xc HR1)
     (case side4 => exact HC1.out)
     rintro e w19 ⟨rfl, hb⟩
     have HS6_ := (hb.cell (World.block_lt_of_cell? _ _ (hHeld.2.2.2.2.2.2.1))).trans (hHeld.2.2.2.2.2.2.1)
     have HS7_ := (hb.cell (World.block_lt_of_cell? _ _ (hHeld.2.2.2.2.2.2.2))).trans (hHeld.2.2.2.2.2.2.2)
     refine ⟨_, rfl, ?_⟩
     replace HO_7 := Aside0.mk (Kd.R_below (Xq HO_7) hb)
     replace HO_8 := Aside0.mk (Kd.R_below (Xq HO_8) hb)
     replace BK223 := Xbb BK223 hb
     replace BK224 := Xbb BK224 hb
     replace HB := Aside0.mk (below_step Xi hb)
     (try clear hb)
     (try clear hb2)
     (try clear hk)
     (try clear hi)
     refine hK.out _ _ ⟨(blk_cell BK224.out 0).trans rfl, (blk_cell BK224.out 1).trans rfl, (blk_cell BK224.out 2).trans rfl, (blk_cell BK223.out 0).trans rfl, (blk_cell BK223.out 1).trans rfl, (blk_cell BK223.out 2).trans rfl, HS6_, HS7_⟩ (fun hHeld => ?_)
     clear hK K
     refine Xno ?_
     refine Xpu 16 35 (XW.bs 17 131071) HT_.out ?_
     refine done_ (done_of HT_.out (by kernel_rfl)) ?_
     go_upto_if 35 with (fail)
     have H := HC16.out
     clear HC16
     by_cases c20 : t233 = true
     ·subst c20
      (first | rw [if_pos rfl] at H | skip)
      obtain ⟨c21, H⟩ := Xif H
      have LMc21 := Aside0.mk c21
      clear c21
      obtain ⟨y235, hy235⟩ : ∃ y_ : List Int, y_ = (x7_1 ++ [rd t228 x9_1]) := ⟨_, rfl⟩
      replace H : (spec_l07Conflicts.l0 k1 l1 y235 t228 (wrap64 (x9_1 + 1)) a0_0 a0_1 l0_2 a2_0 a2_1 a2_2) = some r := by first | (rw [hy235]; with_reducible exact H) | (have H2_ := (Option.bind_some _ _).symm.trans H; rw [hy235]; with_reducible exact H2_) | (have H2_ := (Option.bind_some _ _).symm.trans H; with_reducible exact H2_) | with_reducible exact H | (rw [hy235]; exact H) | exact H
      have Ny235 := Aside0.mk hy235
      clear hy235
      have H' := Aside0.mk H
      clear H
      have p234 : 0 ≤ (x9_1 : Int) := of_decide_eq_true Xa
      have q234 : x9_1 < (t228.length : Int) := of_decide_eq_true Xa
      obtain ⟨ad234, e234, hx234_0⟩ := Kd.at_int (Kd.R_reads' HO_8.out).2.2 x9_1 p234 q234
      obtain rfl : ad231 = ad234 := (by injection e234)
      replace p234 := eq_true p234
      replace q234 := eq_true q234
      go_wp2_with (first | ((with_reducible refine gate_builtin (b := .append) (xs := #[.tmp 36, .tmp 41]) rfl ?_); at_builtin; refine Kd.R_append (Kd.int .i64) (w0 := w) w.heap.size rfl (.tmp 36) (.tmp 41) 30 3 (.int .i64 0) 8 rfl Tryz.underlying30 info3 rfl (by decide) (by omega) u7 x7_1 (rd t228 x9_1) [.int .i64 (rd t228 x9_1)] (fun k_ => some k_ ≠ (.slice (some ad231) t228.length co17 : Value).ownBlock) (fun _ => False) rfl rfl ?aP (fun _ hk => hk.elim) ?aF ?aO ?aB ?aS ?aL ?_; (case aP => exact rfl); (case aB => exact Xi); (case aF => exact (fun k_ hk => Kd.fresh' (Kd.R_lt (Xq HO_8)) k_ hk)); (case aO => exact (Xq HO_7)); (case aS => exact (below_size Xi)); (case aL => have := LMc21.out; omega); intro v236 w22 ho hb hg hat; rw [← Ny235.out] at ho; replace HO_8 := Aside0.mk (Kd.R_after (ok := (fun _ => True)) (by (with_reducible repeat (first | apply Kd.R_alloc | apply Kd.R_drewN | apply Kd.R_drew)); exact Kd.R_mono HO_8.out (fun _ hk => ⟨trivial, hk⟩)) hg hat); replace BK223 := Aside0.mk (blk_grown (g := gb223) (o := .cells #[.int .i64 a0_0, .int .i64 a0_1, .slice A0_2 l0_2.length c0_2] 35 (0, 0)) (Xq' BK223) hg (Kd.R_ne HO_7.out BK223.out (by decide))); replace BK224 := Aside0.mk (blk_grown (g := gb224) (o := .cells #[.int .i64 a2_0, .int .i64 a2_1, .int .i64 a2_2] 39 (0, 0)) (Xq' BK224) hg (Kd.R_ne HO_7.out BK224.out (by decide))); replace HB := Aside0.mk (hb); have HO237 := Aside0.mk (ho); clear HO_7; clear ho hb hg hat))
      go_roundg k1
      case measure => have := HK1.out; omega
      case rel => exact ⟨(y235), (wrap64 (x9_1 + 1)), Xr, H', Xk1, (Xp' HO237), ⟨by (with_reducible repeat (first | apply Kd.R_alloc | apply Kd.R_drewN | apply Kd.R_drew)); exact Kd.R_mono HO_8.out (fun _ hk => hk.2)⟩, (Xp BK223), (Xp BK224), ⟨Xi⟩⟩
     ·replace c20 := Bool.eq_false_iff.mpr c20
      subst c20
      (first | rw [if_neg (show ¬ (false = true) by decide)] at H | skip)
      have H' := Aside0.mk H
      clear H
      go_wp2
      go_roundg k1
      case measure => have := HK1.out; omega
      case rel => exact ⟨(x7_1), (wrap64 (x9_1 + 1)), Xr, H', Xk1, (Xp' HO_7), (Xp' HO_8), (Xp BK223), (Xp BK224), ⟨Xi⟩⟩
   ·obtain rfl := Option.some.inj H
    obtain ⟨Ao23, co23, eo23⟩ := Kd.R_slice HO_8.out
    subst eo23
    go_wp2
    go_ret
    exact ⟨_, Xe, by (with_reducible repeat (first | apply Kd.R_alloc | apply Kd.R_drewN | apply Kd.R_drew)); exact Kd.R_mono HO_7.out (fun _ hk => trivial), Xi⟩

/-! ### spec_ConflictsOf: function 9 -/
def spec_ConflictsOf.f (k : Nat) (a0_0 : Int) (a0_1 : Int) (l0_2 : List (S113)) (l1 : List (S39)) (a2_0 : Int) (a2_1 : Int) (a2_2 : Int) : Option (List Int × Int) := if (l1.length : Int) > 4096 then (some ((([] : List Int)), 2)) else ((spec_l07Ask.f k a0_0 a0_1 l0_2 l1 a2_0 a2_1).bind fun t243 => (if t243 = 0 then ((spec_l07Mode.f a2_2).bind fun t247 => (if t247 = true then ((spec_l07Conflicts.f k a0_0 a0_1 l0_2 l1 a2_0 a2_1 a2_2).bind fun t248 => (some (t248, 0))) else (some ((([] : List Int)), 19)))) else (some ((([] : List Int)), t243))))
set_option maxHeartbeats 8000000 in
set_option maxRecDepth 100000 in
theorem spec_ConflictsOf.calls (k : Nat) (a0_0 : Int) (a0_1 : Int) (A0_2 : Option Addr) (c0_2 : Nat) (l0_2 : List (S113)) (A1 : Option Addr) (c1 : Nat) (l1 : List (S39)) (a2_0 : Int) (a2_1 : Int) (a2_2 : Int) (r1 : List Int) (r2 : Int) (w : World) (hr0_2 : Kd.C k113 w A0_2 l0_2.length l0_2) (hc0_2 : l0_2.length ≤ c0_2) (hr1 : Kd.C k39 w A1 l1.length l1) (hc1 : l1.length ≤ c1) (h : spec_ConflictsOf.f k a0_0 a0_1 l0_2 l1 a2_0 a2_1 a2_2 = some (r1, r2)) :
  Calls Tryz.prog 9 #[.agg #[.int .i64 a0_0, .int .i64 a0_1, .slice A0_2 l0_2.length c0_2], .slice A1 l1.length c1, .agg #[.int .i64 a2_0, .int .i64 a2_1, .int .i64 a2_2]] w fun e w' => ∃ v0_ : Value, e = .returned (.tuple #[v0_, .int .i64 r2]) ∧ Kd.R (Kd.int .i64) 3 w' w.heap.size (fun _ => True) v0_ r1 ∧ Below w.heap.size w w' := by
 have hu35 := Tryz.underlying35
 have hu39 := Tryz.underlying39
 have HR0_2 := Aside0.mk hr0_2
 have HC0_2 := Aside0.mk hc0_2
 clear hr0_2 hc0_2
 have HR1 := Aside0.mk hr1
 have HC1 := Aside0.mk hc1
 clear hr1 hc1
 have HB := Aside0.mk (Below.refl w.heap.size w)
 have H : (if (l1.length : Int) > 4096 then (some ((([] : List Int)), 2)) else ((spec_l07Ask.f k a0_0 a0_1 l0_2 l1 a2_0 a2_1).bind fun t243 => (if t243 = 0 then ((spec_l07Mode.f a2_2).bind fun t247 => (if t247 = true then ((spec_l07Conflicts.f k a0_0 a0_1 l0_2 l1 a2_0 a2_1 a2_2).bind fun t248 => (some (t248, 0))) else (some ((([] : List Int)), 19)))) else (some ((([] : List Int)), t243))))) = some (r1, r2) := h
 clear h
 have HC4 := Aside0.mk H
 clear H
 go_enter Tryz.func9, Tryz.ntmps9
 go_upto_if 11 with (first | ((with_reducible refine gate_dst (N := 3) rfl ?_); refine Xbox 3 #[.int .i64 a0_0, .int .i64 a0_1, .slice A0_2 l0_2.length c0_2] 35 ?_; intro gb238 hg w5 hbox hb; have BK238 := Aside0.mk (hbox); have GE238 := Xge hg Xi; replace HB := Aside0.mk (below_step Xi hb); clear hb hbox hg) | ((with_reducible refine gate_dst (N := 5) rfl ?_); refine Xbox 5 #[.int .i64 a2_0, .int .i64 a2_1, .int .i64 a2_2] 39 ?_; intro gb239 hg w6 hbox hb; have BK239 := Aside0.mk (hbox); have GE239 := Xge hg Xi; replace HB := Aside0.mk (below_step Xi hb); have NB238_239 := Xnb hg BK238; have NB239_238 := Xns NB238_239; replace BK238 := Xbb BK238 hb; clear hb hbox hg))
 have H := HC4.out
 clear HC4
 obtain ⟨c7, H⟩ | ⟨c7, H⟩ := Xiu H
 ·have c7b0 : decide (4096 < (l1.length : Int)) = true := decide_eq_true c7
  have c7b1 : decide (4096 < l1.length) = true := decide_eq_true (by omega)
  clear c7
  (first | rw [c7b0] | (simp only [i64_w, i32_w]; rw [c7b0]) | skip)
  obtain ⟨y240, hy240⟩ : ∃ y_ : List Int, y_ = (([] : List Int)) := ⟨_, rfl⟩
  replace H : (some (y240, 2)) = some (r1, r2) := by first | (rw [hy240]; with_reducible exact H) | (have H2_ := (Option.bind_some _ _).symm.trans H; rw [hy240]; with_reducible exact H2_) | (have H2_ := (Option.bind_some _ _).symm.trans H; with_reducible exact H2_) | with_reducible exact H | (rw [hy240]; exact H) | exact H
  have Ny240 := Aside0.mk hy240
  clear hy240
  simp only [Option.some.injEq, Prod.mk.injEq] at H
  obtain ⟨rfl, rfl⟩ := H
  go_wp2_with (first | ((with_reducible refine gate_dst (N := 12) rfl ?_); refine Kd.R_lit (Kd.int .i64) _ 3 ?hg (N := 12) ?hd (xs := ([] : List Int)) (inner := []) (ok := fun _ => True) (okp := fun _ => True) ?hr ?hp (fun _ hk => hk) trivial (Below.refl _ _) (Nat.le_refl _) (by simp) ?_; (case hd => rfl); (case hg => rfl); (case hr => first | (go_simp; done) | (go_simp; rfl)); (case hp => exact (Reps.none _ _)); intro v241 w8 ho9 hb hg_ hnew_; clear hg_ hnew_; (first | rw [← Ny240.out] at ho9 | (simp only [Int.reduceToNat] at ho9; rw [← Ny240.out] at ho9)); have HO242 := Aside0.mk (Kd.R_lower ho9 (below_size Xi)); replace BK238 := Xbb BK238 hb; replace BK239 := Xbb BK239 hb; replace HB := Aside0.mk (below_step Xi hb); clear hb ho9))
  go_ret2
  exact ⟨_, Xe, Xq HO242, Xi⟩
 ·have c7b0 : decide (4096 < (l1.length : Int)) = false := decide_eq_false c7
  have c7b1 : decide (4096 < l1.length) = false := decide_eq_false (by omega)
  clear c7
  (first | rw [c7b0] | (simp only [i64_w, i32_w]; rw [c7b0]) | skip)
  obtain ⟨t243, A10, H⟩ := Xbi H
  (try dsimp only at H)
  have HC11 := Aside0.mk H
  clear H
  have hnb12 := NB238_239.out
  have hnc12 := NB239_238.out
  obtain ⟨hcz13_0, hcz13_1, hcz13_2⟩ := Xc3 BK238
  obtain ⟨hcz14_0, hcz14_1, hcz14_2⟩ := Xc3 BK239
  go_upto_if 21 with (first | ((with_reducible refine gate_callee (f := 45) rfl ?_); refine Xgo 19 Tryz.func45 #[.agg #[.int .i64 a0_0, .int .i64 a0_1, .slice A0_2 l0_2.length c0_2], .slice A1 l1.length c1, .int .i64 a2_0, .int .i64 a2_1] ?_; (with_reducible refine (spec_l07Ask.calls k a0_0 a0_1 _ _ l0_2 _ _ l1 a2_0 a2_1 t243 _ ?side1 ?side2 ?side3 ?side4 A10.out).mono ?_); (case side1 => exact Xc HR0_2); (case side2 => exact HC0_2.out); (case side3 => exact Xc HR1); (case side4 => exact HC1.out); rintro e w15 ⟨rfl, hb⟩; refine ⟨_, rfl, ?_⟩; replace BK238 := Xbb BK238 hb; replace BK239 := Xbb BK239 hb; replace HB := Aside0.mk (below_step Xi hb); clear hb))
  have H := HC11.out
  clear HC11
  obtain ⟨c16, H⟩ | ⟨c16, H⟩ := Xiu H
  ·have c16b0 : (t243 == 0) = true := beq_iff_eq.mpr c16
   have c16b1 : (t243 != 0) = false := bne_eq_false_iff_eq.mpr c16
   clear c16
   (first | rw [c16b0] | (simp only [i64_w, i32_w]; rw [c16b0]) | skip)
   obtain ⟨t247, A17, H⟩ := Xbi H
   (try dsimp only at H)
   have HC18 := Aside0.mk H
   clear H
   have hnb19 := NB239_238.out
   have hnc19 := NB238_239.out
   obtain ⟨hcz20_0, hcz20_1, hcz20_2⟩ := Xc3 BK239
   go_upto_if 27 with (first | ((with_reducible refine gate_callee (f := 46) rfl ?_); refine Xgo 26 Tryz.func46 #[.int .i64 a2_2] ?_; (with_reducible refine (spec_l07Mode.calls a2_2 t247 _ A17.out).mono ?_); rintro e w' ⟨rfl, ⟨nd, rfl⟩⟩; refine ⟨_, rfl, ?_⟩))
   have H := HC18.out
   clear HC18
   by_cases c21 : t247 = true
   ·subst c21
    (first | rw [if_pos rfl] at H | skip)
    obtain ⟨t248, A22, H⟩ := Xbi H
    (try dsimp only at H)
    simp only [Option.some.injEq, Prod.mk.injEq] at H
    obtain ⟨rfl, rfl⟩ := H
    have hnb23 := NB238_239.out
    have hnc23 := NB239_238.out
    obtain ⟨hcz24_0, hcz24_1, hcz24_2⟩ := Xc3 BK238
    obtain ⟨hcz25_0, hcz25_1, hcz25_2⟩ := Xc3 BK239
    go_wp2_with (first | ((with_reducible refine gate_callee (f := 47) rfl ?_); refine Xgo 32 Tryz.func47 #[.agg #[.int .i64 a0_0, .int .i64 a0_1, .slice A0_2 l0_2.length c0_2], .slice A1 l1.length c1, .agg #[.int .i64 a2_0, .int .i64 a2_1, .int .i64 a2_2]] ?_; (with_reducible refine (spec_l07Conflicts.calls k a0_0 a0_1 _ _ l0_2 _ _ l1 a2_0 a2_1 a2_2 t248 _ ?side1 ?side2 ?side3 ?side4 A22.out).mono ?_); (case side1 => exact Xc HR0_2); (case side2 => exact HC0_2.out); (case side3 => exact Xc HR1); (case side4 => exact HC1.out); rintro e w26 ⟨v249, rfl, ho0, hb⟩; refine ⟨_, rfl, ?_⟩; have HO250 := Aside0.mk (Kd.R_lower ho0 (below_size Xi)); replace BK238 := Xbb BK238 hb; replace BK239 := Xbb BK239 hb; replace HB := Aside0.mk (below_step Xi hb); clear hb; (try clear ho0)))
    go_ret2
    exact ⟨_, Xe, Xq HO250, Xi⟩
   ·replace c21 := Bool.eq_false_iff.mpr c21
    subst c21
    (first | rw [if_neg (show ¬ (false = true) by decide)] at H | skip)
    obtain ⟨y251, hy251⟩ : ∃ y_ : List Int, y_ = (([] : List Int)) := ⟨_, rfl⟩
    replace H : (some (y251, 19)) = some (r1, r2) := by first | (rw [hy251]; with_reducible exact H) | (have H2_ := (Option.bind_some _ _).symm.trans H; rw [hy251]; with_reducible exact H2_) | (have H2_ := (Option.bind_some _ _).symm.trans H; with_reducible exact H2_) | with_reducible exact H | (rw [hy251]; exact H) | exact H
    have Ny251 := Aside0.mk hy251
    clear hy251
    simp only [Option.some.injEq, Prod.mk.injEq] at H
    obtain ⟨rfl, rfl⟩ := H
    go_wp2_with (first | ((with_reducible refine gate_dst (N := 28) rfl ?_); refine Kd.R_lit (Kd.int .i64) _ 3 ?hg (N := 28) ?hd (xs := ([] : List Int)) (inner := []) (ok := fun _ => True) (okp := fun _ => True) ?hr ?hp (fun _ hk => hk) trivial (Below.refl _ _) (Nat.le_refl _) (by simp) ?_; (case hd => rfl); (case hg => rfl); (case hr => first | (go_simp; done) | (go_simp; rfl)); (case hp => exact (Reps.none _ _)); intro v252 w27 ho28 hb hg_ hnew_; clear hg_ hnew_; (first | rw [← Ny251.out] at ho28 | (simp only [Int.reduceToNat] at ho28; rw [← Ny251.out] at ho28)); have HO253 := Aside0.mk (Kd.R_lower ho28 (below_size Xi)); replace BK238 := Xbb BK238 hb; replace BK239 := Xbb BK239 hb; replace HB := Aside0.mk (below_step Xi hb); clear hb ho28))
    go_ret2
    exact ⟨_, Xe, Xq HO253, Xi⟩
  ·have c16b0 : (t243 == 0) = false := beq_eq_false_iff_ne.mpr c16
   have c16b1 : (t243 != 0) = true := bne_iff_ne.mpr c16
   (first | rw [c16b0] | (simp only [i64_w, i32_w]; rw [c16b0]) | skip)
   obtain ⟨y244, hy244⟩ : ∃ y_ : List Int, y_ = (([] : List Int)) := ⟨_, rfl⟩
   replace H : (some (y244, t243)) = some (r1, r2) := by first | (rw [hy244]; with_reducible exact H) | (have H2_ := (Option.bind_some _ _).symm.trans H; rw [hy244]; with_reducible exact H2_) | (have H2_ := (Option.bind_some _ _).symm.trans H; with_reducible exact H2_) | with_reducible exact H | (rw [hy244]; exact H) | exact H
   have Ny244 := Aside0.mk hy244
   clear hy244
   simp only [Option.some.injEq, Prod.mk.injEq] at H
   obtain ⟨rfl, rfl⟩ := H
   go_wp2_with (first | ((with_reducible refine gate_dst (N := 22) rfl ?_); refine Kd.R_lit (Kd.int .i64) _ 3 ?hg (N := 22) ?hd (xs := ([] : List Int)) (inner := []) (ok := fun _ => True) (okp := fun _ => True) ?hr ?hp (fun _ hk => hk) trivial (Below.refl _ _) (Nat.le_refl _) (by simp) ?_; (case hd => rfl); (case hg => rfl); (case hr => first | (go_simp; done) | (go_simp; rfl)); (case hp => exact (Reps.none _ _)); intro v245 w29 ho30 hb hg_ hnew_; clear hg_ hnew_; (first | rw [← Ny244.out] at ho30 | (simp only [Int.reduceToNat] at ho30; rw [← Ny244.out] at ho30)); have HO246 := Aside0.mk (Kd.R_lower ho30 (below_size Xi)); replace BK238 := Xbb BK238 hb; replace BK239 := Xbb BK239 hb; replace HB := Aside0.mk (below_step Xi hb); clear hb ho30))
   go_ret2
   exact ⟨_, Xe, Xq HO246, Xi⟩

/-! ### laws_toIntS: function 147 -/
def laws_toIntS.l0 : Nat → List Int → List Int → Int → Option (List Int)
 | 0, _, _, _ => none
 | k + 1, x0, x3, x4 => if x4 < (x0.length : Int) then (if 0 ≤ x4 then (if x4 < (x3.length : Int) then (laws_toIntS.l0 k x0 (x3.set (x4 : Int).toNat (rd x0 x4)) (wrap64 (x4 + 1))) else (none)) else (none)) else (some x3)
def laws_toIntS.f (k : Nat) (l0 : List Int) : Option (List Int) := if 0 ≤ (l0.length : Int) then (if ((l0.length : Int) : Int).toNat ≤ 35184372088832 then (laws_toIntS.l0 k l0 (List.replicate ((l0.length : Int) : Int).toNat 0) 0) else (none)) else (none)
set_option maxHeartbeats 8000000 in
set_option maxRecDepth 100000 in
theorem laws_toIntS.calls (k : Nat) (A0 : Option Addr) (c0 : Nat) (l0 : List Int) (r : List Int) (w : World) (hr0 : Kd.C (Kd.int .i64) w A0 l0.length l0) (hc0 : l0.length ≤ c0) (h : laws_toIntS.f k l0 = some r) :
  Calls Tryz.prog 147 #[.slice A0 l0.length c0] w fun e w' => ∃ v0_ : Value, e = .returned (v0_) ∧ Kd.R (Kd.int .i64) 3 w' w.heap.size (fun _ => True) v0_ r ∧ Below w.heap.size w w' := by
 have HR0 := Aside0.mk hr0
 have HC0 := Aside0.mk hc0
 clear hr0 hc0
 have HB := Aside0.mk (Below.refl w.heap.size w)
 have H : (if 0 ≤ (l0.length : Int) then (if ((l0.length : Int) : Int).toNat ≤ 35184372088832 then (laws_toIntS.l0 k l0 (List.replicate ((l0.length : Int) : Int).toNat 0) 0) else (none)) else (none)) = some r := h
 clear h
 obtain ⟨c2, H⟩ | ⟨c2, H⟩ := Xiu H
 ·have c2b0 := eq_true c2
  have c2b1 : decide (0 ≤ (l0.length : Int)) = true := decide_eq_true c2
  clear c2
  obtain ⟨c3, H⟩ := Xif H
  have c3b0 := eq_true c3
  have c3b1 : decide (((l0.length : Int) : Int).toNat ≤ 35184372088832) = true := decide_eq_true c3
  clear c3
  obtain ⟨y254, hy254⟩ : ∃ y_ : List Int, y_ = (List.replicate ((l0.length : Int) : Int).toNat 0) := ⟨_, rfl⟩
  replace H : (laws_toIntS.l0 k l0 y254 0) = some r := by first | (rw [hy254]; with_reducible exact H) | (have H2_ := (Option.bind_some _ _).symm.trans H; rw [hy254]; with_reducible exact H2_) | (have H2_ := (Option.bind_some _ _).symm.trans H; with_reducible exact H2_) | with_reducible exact H | (rw [hy254]; exact H) | exact H
  have Ny254 := Aside0.mk hy254
  clear hy254
  have H' := Aside0.mk H
  clear H
  go_enter Tryz.func147, Tryz.ntmps147
  go_wp2_with (first | ((with_reducible refine gate_dst (N := 7) rfl ?_); refine Kd.R_make (Kd.int .i64) _ 3 rfl (N := 7) rfl 30 _ _ rfl (l0.length : Int) rfl rfl Tryz.underlying30 (.int .i64 0) 8 info3 rfl (by decide) (by omega) 0 (ok := fun _ => True) (okp := fun _ => True) rfl (fun _ hk => hk) trivial (of_decide_eq_true Xa) (Nat.le_trans (Nat.mul_le_mul_right _ (of_decide_eq_true Xa : (l0.length : Int).toNat ≤ 35184372088832)) (by omega)) (Below.refl _ _) (Nat.le_refl _) ?_; intro v255 w4 ho5 hb hg_ hnew_; clear hg_ hnew_; (first | rw [← Ny254.out] at ho5 | (simp only [Int.reduceToNat] at ho5; rw [← Ny254.out] at ho5)); have HO256 := Aside0.mk (Kd.R_lower ho5 (below_size Xi)); replace HB := Aside0.mk (below_step Xi hb); clear hb ho5))
  go_loopg [4] k (fun kq v4 w' => ∃ (x3_1 : List Int) (x4_1 : Int), v4 = .int .i64 x4_1 ∧ Aside0 (laws_toIntS.l0 kq l0 x3_1 x4_1 = some r) ∧ Aside0 (kq ≤ k) ∧ Aside0 (Kd.R (Kd.int .i64) 3 w' w.heap.size (fun _ => True) v255 x3_1) ∧ Aside0 (Below w.heap.size w w'))
  case atStart => exact ⟨(y254), (0), Xr, H', Xkr, (Xp' HO256), ⟨Xi⟩⟩
  case round =>
   clear H'
   (try clear c2); (try clear c2b0); (try clear c2b1); (try clear c3); (try clear c3b0); (try clear c3b1)
   obtain ⟨x3_1, x4_1, rfl, HA, HK1, HO_3, HB⟩ := hrel
   cases gk with
   | zero => cases HA.out
   | succ k1 =>
    have H := HA.out
    clear HA
    simp only [laws_toIntS.l0] at H
    obtain ⟨c6b0, H⟩ | ⟨c6b0, H⟩ := Xit H
    ·obtain ⟨c7b0, H⟩ := Xid H
     obtain ⟨c8b0, H⟩ := Xid H
     obtain ⟨y258, hy258⟩ : ∃ y_ : List Int, y_ = (x3_1.set (x4_1 : Int).toNat (rd l0 x4_1)) := ⟨_, rfl⟩
     replace H : (laws_toIntS.l0 k1 l0 y258 (wrap64 (x4_1 + 1))) = some r := by first | (rw [hy258]; with_reducible exact H) | (have H2_ := (Option.bind_some _ _).symm.trans H; rw [hy258]; with_reducible exact H2_) | (have H2_ := (Option.bind_some _ _).symm.trans H; with_reducible exact H2_) | with_reducible exact H | (rw [hy258]; exact H) | exact H
     have Ny258 := Aside0.mk hy258
     clear hy258
     have H' := Aside0.mk H
     clear H
     have p257 : 0 ≤ (x4_1 : Int) := of_decide_eq_true Xa
     have q257 : x4_1 < (l0.length : Int) := of_decide_eq_true Xa
     obtain ⟨ad257, e257, hx257_0⟩ := Kd.at_int HR0.out x4_1 p257 q257
     cases e257
     replace hx257_0 := Xm HB hx257_0
     replace p257 := eq_true p257
     replace q257 := eq_true q257
     have p9 : 0 ≤ (x4_1 : Int) := of_decide_eq_true Xa
     have q9 : (x4_1 : Int) < ((x3_1.length : Int) : Int) := of_decide_eq_true Xa
     obtain ⟨go9, co9, eo9, gb9, gl9, cl9, HG9⟩ := Kd.R_form HO_3.out (by omega)
     (first | cases eo9 | (injection eo9 with ea_ en_ ec_; (first | subst ea_ | (injection ea_ with ea_; subst ea_)); subst ec_; clear en_))
     have GB9 := Aside0.mk gb9
     have GG9 := Aside0.mk HG9
     clear gb9 gl9 HG9
     obtain ⟨hx9_0, hf9_0⟩ := Kd.R_celln 0 HO_3.out (x4_1 : Int) p9 q9
     replace p9 := eq_true p9
     replace q9 := eq_true q9
     have HP10 := Kd.R_putg HO_3.out (x4_1 : Int) (rd l0 x4_1)
     go_wp2_with (first | ((with_reducible refine gate_store (t := 3) (p := 20) rfl ?_); refine store_event (t := 3) (p := 20) (v := ?vo_w11) (w1 := (wr.setCell ⟨go9, (x4_1 : Int).toNat, none⟩ (.int .i64 (rd l0 x4_1)))) ?hg ?ho ?hn ?hr ?_; (case ho => rfl); (case hg => rfl); (case hn => rfl); (case hr => first | (go_simp; done) | (go_simp; rfl)); intro w11 hw; have hg : wr.grownBy w11 (some go9) := (by rw [hw]; exact HP10.2); have hp_ : Kd.R (Kd.int .i64) 3 w11 w.heap.size (fun _ => True) (.slice (some ⟨go9, 0, none⟩) x3_1.length co9) y258 := (by rw [hw, Ny258.out]; exact HP10.1); clear HP10; replace HO_3 := Aside0.mk (hp_); replace HB := Aside0.mk ((by rw [hw]; exact below_set (HB.out) GB9.out : Below w.heap.size w w11)); clear hg hw hp_))
     go_roundg k1
     case measure => have := HK1.out; omega
     case rel => exact ⟨(y258), (wrap64 (x4_1 + 1)), Xr, H', Xk1, (Xp' HO_3), ⟨Xi⟩⟩
    ·obtain rfl := Option.some.inj H
     go_wp2
     go_ret
     exact ⟨_, Xe, Xq HO_3, Xi⟩
 ·exact absurd H (by simp)

end Go.Proofs.YtahhgjkgfbppeaaGreat.XA
