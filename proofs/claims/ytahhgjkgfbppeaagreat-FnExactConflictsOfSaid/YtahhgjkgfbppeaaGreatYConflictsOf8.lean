/- Contracts of the program's functions: each Go function that is named below comes to what its Lean function says. Written by xprint.py (a program of this session's, over the kit's print). Conditions: each contract's own premises. -/
import Derived.Test.YtahhgjkgfbppeaaGreatYConflictsOf0
import Derived.Test.YtahhgjkgfbppeaaGreatYConflictsOf6
import Derived.Test.YtahhgjkgfbppeaaGreatYConflictsOf7
namespace Go.Proofs.YtahhgjkgfbppeaaGreat.XA
open Go.RowKit Go.Proofs.YtahhgjkgfbppeaaGreatW.PrintWords Go.Proofs.YtahhgjkgfbppeaaGreatW.PrintLast Go.Proofs.YtahhgjkgfbppeaaGreatW.PrintMore XW
attribute [local go_sem] max2_int min2_int max_two min_two max_three min_three max_four min_four   -- for this text's walks alone
set_option linter.unusedVariables false
set_option linter.unusedSimpArgs false

/-! ### spec_l07Clash: function 91 -/
def spec_l07Clash.l0 : Nat → List (S39) → Int → List Int → Int → Int → Int → List (S113) → Int → Int → Int → Option (Bool)
 | 0, _, _, _, _, _, _, _, _, _, _ => none
 | k + 1, x1, x3, x9, x10, x211000, x211001, x211002, x212000, x212001, x212002 => if x10 < (x9.length : Int) then (if 0 ≤ x10 then ((spec_l07At.f k x211000 x211001 x211002 x1 x212000 (rd x9 x10)).bind fun t216 => ((spec_l07Need.f x212000 x212001 x212002 (rd x9 x10)).bind fun t218 => ((spec_l07Join.f k t216 t218).bind fun t219 => ((spec_l07At.f k x211000 x211001 x211002 x1 x3 (rd x9 x10)).bind fun t221 => ((spec_l07Fits.f k t219 t221).bind fun t222 => (if t222 = true then (spec_l07Clash.l0 k x1 x3 x9 (wrap64 (x10 + 1)) x211000 x211001 x211002 x212000 x212001 x212002) else (some true))))))) else (none)) else (some false)
def spec_l07Clash.f (k : Nat) (a0_0 : Int) (a0_1 : Int) (l0_2 : List (S113)) (l1 : List (S39)) (a2_0 : Int) (a2_1 : Int) (a2_2 : Int) (a3 : Int) : Option (Bool) := (spec_l02Path.f k a0_0 a0_1 l0_2 a2_1).bind fun t212 => (spec_l07Clash.l0 k l1 a3 t212 0 a0_0 a0_1 l0_2 a2_0 a2_1 a2_2)
def spec_l07Clash.T5 : Bool × List (List Nat × List Nat) := (true, [([], []), ([], []), ([], []), ([2], [2]), ([], []), ([], []), ([4, 5], [4, 5]), ([6], [6]), ([0, 1, 3, 7], [0, 1, 3, 7]), ([], []), ([], []), ([], []), ([10, 11], [10, 11]), ([12], [12]), ([9, 13, 8], [9, 13]), ([8, 14, 14], [8, 14]), ([15, 15, 0, 1, 2, 3, 4, 5, 6, 7, 8, 9, 10, 11, 12, 13, 14, 15], [15])])
def spec_l07Clash.B5 : List Nat := [0, 0, 0, 4, 0, 0, 48, 112, 255, 0, 0, 0, 3072, 7168, 16383, 32767, 65535]
theorem spec_l07Clash.tab5 : rtab .any (opsOf Tryz.f91 5) = spec_l07Clash.T5 := by kernel_rfl
theorem spec_l07Clash.bits5 : waitsOk spec_l07Clash.T5.2 spec_l07Clash.B5 = true := by kernel_rfl
def spec_l07Clash.T6 : Bool × List (List Nat × List Nat) := (true, [([], []), ([], []), ([], []), ([], []), ([], []), ([], []), ([4, 5], [4, 5]), ([6], [6]), ([1, 2, 3, 7], [1, 2, 3, 7]), ([0, 8, 8], [0, 8]), ([9], [9])])
def spec_l07Clash.B6 : List Nat := [0, 0, 0, 0, 0, 0, 48, 112, 254, 511, 1023]
theorem spec_l07Clash.tab6 : rtab .any (opsOf Tryz.f91 6) = spec_l07Clash.T6 := by kernel_rfl
theorem spec_l07Clash.bits6 : waitsOk spec_l07Clash.T6.2 spec_l07Clash.B6 = true := by kernel_rfl
set_option maxHeartbeats 8000000 in
set_option maxRecDepth 100000 in
theorem spec_l07Clash.calls (k : Nat) (a0_0 : Int) (a0_1 : Int) (A0_2 : Option Addr) (c0_2 : Nat) (l0_2 : List (S113)) (A1 : Option Addr) (c1 : Nat) (l1 : List (S39)) (a2_0 : Int) (a2_1 : Int) (a2_2 : Int) (a3 : Int) (r : Bool) (w : World) (hr0_2 : Kd.C k113 w A0_2 l0_2.length l0_2) (hc0_2 : l0_2.length ≤ c0_2) (hr1 : Kd.C k39 w A1 l1.length l1) (hc1 : l1.length ≤ c1) (h : spec_l07Clash.f k a0_0 a0_1 l0_2 l1 a2_0 a2_1 a2_2 a3 = some r) :
  Calls Tryz.prog 91 #[.agg #[.int .i64 a0_0, .int .i64 a0_1, .slice A0_2 l0_2.length c0_2], .slice A1 l1.length c1, .agg #[.int .i64 a2_0, .int .i64 a2_1, .int .i64 a2_2], .int .i64 a3] w fun e w' => e = .returned (.bool r) ∧ Below w.heap.size w w' := by
 have hu35 := Tryz.underlying35
 have hu39 := Tryz.underlying39
 have HR0_2 := Aside0.mk hr0_2
 have HC0_2 := Aside0.mk hc0_2
 clear hr0_2 hc0_2
 have HR1 := Aside0.mk hr1
 have HC1 := Aside0.mk hc1
 clear hr1 hc1
 have HB := Aside0.mk (Below.refl w.heap.size w)
 have H : ((spec_l02Path.f k a0_0 a0_1 l0_2 a2_1).bind fun t212 => (spec_l07Clash.l0 k l1 a3 t212 0 a0_0 a0_1 l0_2 a2_0 a2_1 a2_2)) = some r := h
 clear h
 obtain ⟨t212, A5, H⟩ := Xbi H
 (try dsimp only at H)
 have H' := Aside0.mk H
 clear H
 go_enter Tryz.func91, Tryz.ntmps91
 go_wp2_with (first | ((with_reducible refine gate_dst (N := 4) rfl ?_); refine Xbox 4 #[.int .i64 a0_0, .int .i64 a0_1, .slice A0_2 l0_2.length c0_2] 35 ?_; intro gb210 hg w6 hbox hb; have BK210 := Aside0.mk (hbox); have GE210 := Xge hg Xi; replace HB := Aside0.mk (below_step Xi hb); clear hb hbox hg) | ((with_reducible refine gate_dst (N := 6) rfl ?_); refine Xbox 6 #[.int .i64 a2_0, .int .i64 a2_1, .int .i64 a2_2] 39 ?_; intro gb211 hg w7 hbox hb; have BK211 := Aside0.mk (hbox); have GE211 := Xge hg Xi; replace HB := Aside0.mk (below_step Xi hb); have NB210_211 := Xnb hg BK210; have NB211_210 := Xns NB210_211; replace BK210 := Xbb BK210 hb; clear hb hbox hg; have hnb8 := NB210_211.out; have hnc8 := NB211_210.out; obtain ⟨hcz9_0, hcz9_1, hcz9_2⟩ := Xc3 BK210; obtain ⟨hcz10_0, hcz10_1, hcz10_2⟩ := Xc3 BK211) | ((with_reducible refine gate_callee (f := 134) rfl ?_); refine Xgo 15 Tryz.func134 #[.agg #[.int .i64 a0_0, .int .i64 a0_1, .slice A0_2 l0_2.length c0_2], .int .i64 a2_1] ?_; (with_reducible refine (spec_l02Path.calls k a0_0 a0_1 _ _ l0_2 a2_1 t212 _ ?side1 ?side2 A5.out).mono ?_); (case side1 => exact Xc HR0_2); (case side2 => exact HC0_2.out); rintro e w11 ⟨v213, rfl, ho0, hb⟩; refine ⟨_, rfl, ?_⟩; have HO214 := Aside0.mk (Kd.R_lower ho0 (below_size Xi)); replace BK210 := Xbb BK210 hb; replace BK211 := Xbb BK211 hb; replace HB := Aside0.mk (below_step Xi hb); clear hb; (try clear ho0)))
 go_loopg [10] k (fun kq v10 w' => ∃ (x10_1 : Int), v10 = .int .i64 x10_1 ∧ Aside0 (spec_l07Clash.l0 kq l1 a3 t212 x10_1 a0_0 a0_1 l0_2 a2_0 a2_1 a2_2 = some r) ∧ Aside0 (kq ≤ k) ∧ Aside0 (Kd.R (Kd.int .i64) 3 w' w.heap.size (fun _ => True) v213 t212) ∧ Aside0 (w'.heap[gb210]? = some (.cells #[.int .i64 a0_0, .int .i64 a0_1, (.slice A0_2 l0_2.length c0_2)] 35 (0, 0))) ∧ Aside0 (w'.heap[gb211]? = some (.cells #[.int .i64 a2_0, .int .i64 a2_1, .int .i64 a2_2] 39 (0, 0))) ∧ Aside0 (Below w.heap.size w w'))
 case atStart => exact ⟨(0), Xr, H', Xkr, (Xp' HO214), BK210, BK211, ⟨Xi⟩⟩
 case round =>
  clear H'
  (try clear c1); (try clear hcz10_0); (try clear hcz10_1); (try clear hcz10_2); (try clear hcz9_0); (try clear hcz9_1); (try clear hcz9_2)
  obtain ⟨x10_1, rfl, HA, HK1, HO_9, BK210, BK211, HB⟩ := hrel
  cases gk with
  | zero => cases HA.out
  | succ k1 =>
   have H := HA.out
   clear HA
   simp only [spec_l07Clash.l0] at H
   obtain ⟨c12b0, H⟩ | ⟨c12b0, H⟩ := Xit H
   ·obtain ⟨c13b0, H⟩ := Xid H
    obtain ⟨t216, A14, H⟩ := Xbi H
    (try dsimp only at H)
    obtain ⟨t218, A15, H⟩ := Xbi H
    (try dsimp only at H)
    obtain ⟨t219, A16, H⟩ := Xbi H
    (try dsimp only at H)
    obtain ⟨t221, A17, H⟩ := Xbi H
    (try dsimp only at H)
    obtain ⟨t222, A18, H⟩ := Xbi H
    (try dsimp only at H)
    have HC19 := Aside0.mk H
    clear H
    obtain ⟨Ao20, co20, eo20⟩ := Kd.R_slice HO_9.out
    subst eo20
    try go_wp2_with (fail)
    replace HO_9 := Aside0.mk (Kd.R_drew HO_9.out)
    replace BK210 := Aside0.mk (blk_drew BK210.out)
    replace BK211 := Aside0.mk (blk_drew BK211.out)
    replace HB := Aside0.mk (below_drew1 HB.out)
    have p215 : 0 ≤ (x10_1 : Int) := of_decide_eq_true Xa
    have q215 : x10_1 < (t212.length : Int) := of_decide_eq_true Xa
    obtain ⟨ad215, e215, hx215_0⟩ := Kd.at_int (Kd.R_reads' HO_9.out).2.2 x10_1 p215 q215
    cases e215
    replace p215 := eq_true p215
    replace q215 := eq_true q215
    have p217 : 0 ≤ (x10_1 : Int) := of_decide_eq_true Xa
    have q217 : x10_1 < (t212.length : Int) := of_decide_eq_true Xa
    obtain ⟨ad217, e217, hx217_0⟩ := Kd.at_int (Kd.R_reads' HO_9.out).2.2 x10_1 p217 q217
    obtain rfl : ad215 = ad217 := (by injection e217)
    replace p217 := eq_true p217
    replace q217 := eq_true q217
    refine start_ (n := 17) (S := fun w' => w'.cell? ⟨gb210, 0, none⟩ = some (.int .i64 a0_0) ∧ w'.cell? ⟨gb210, 1, none⟩ = some (.int .i64 a0_1) ∧ w'.cell? ⟨gb210, 2, none⟩ = some (.slice A0_2 l0_2.length c0_2) ∧ w'.cell? ⟨gb211, 0, none⟩ = some (.int .i64 a2_0) ∧ w'.cell? ⟨gb211, 1, none⟩ = some (.int .i64 a2_1) ∧ w'.cell? ⟨gb211, 2, none⟩ = some (.int .i64 a2_2) ∧ w'.cell? (ad215.add (x10_1).toNat) = some (.int .i64 (rd t212 x10_1)) ∧ w'.cell? (ad215.add (x10_1).toNat) = some (.int .i64 (rd t212 x10_1))) (ds := []) #[false, false, false, false, false, false, false, false, false, false, false, false, false, false, false, false, false] (by kernel_rfl) rfl rfl ⟨(blk_cell BK210.out 0).trans rfl, (blk_cell BK210.out 1).trans rfl, (blk_cell BK210.out 2).trans rfl, (blk_cell BK211.out 0).trans rfl, (blk_cell BK211.out 1).trans rfl, (blk_cell BK211.out 2).trans rfl, hx215_0, hx217_0⟩ (fun hHeld => ?_); refine with_tabW spec_l07Clash.tab5 spec_l07Clash.bits5 (fun HT_ HW_ => ?_)
    generalize wr.drew = w21 at HO_9 BK210 BK211 HB hx215_0 hx217_0 hHeld ⊢
    refine Xpu 1 23 (XW.bs 17 2) HT_.out ?_
    refine Xpu 2 24 (XW.bs 17 6) HT_.out ?_
    refine Xpu 4 26 (XW.bs 17 22) HT_.out ?_
    refine Xpu 5 27 (XW.bs 17 54) HT_.out ?_
    refine Xpu 6 28 (XW.bs 17 118) HT_.out ?_
    refine Xpu 10 32 (XW.bs 17 1142) HT_.out ?_
    refine Xpu 11 33 (XW.bs 17 3190) HT_.out ?_
    refine Xpu 12 34 (XW.bs 17 7286) HT_.out ?_
    refine Xta 0 22 (XW.bs 17 7287) HT_.out HW_.out hHeld ?_
    refine Xta 3 25 (XW.bs 17 7295) HT_.out HW_.out hHeld ?_
    refine Xta 7 29 (XW.bs 17 7423) HT_.out HW_.out hHeld ?_
    refine Xta 9 31 (XW.bs 17 7935) HT_.out HW_.out hHeld ?_
    refine Xta 13 35 (XW.bs 17 16127) HT_.out HW_.out hHeld ?_
    refine one_ (i := 8) (N := some 30) (XW.bs 17 16383) rfl rfl (one_of HT_.out (by kernel_rfl)) (by decide) (fun K hK => ?_)
    refine goes_ Tryz.func77 (by kernel_rfl) rfl #[.agg #[.int .i64 a0_0, .int .i64 a0_1, .slice A0_2 l0_2.length c0_2], .slice A1 l1.length c1, .int .i64 a2_0, .int .i64 (rd t212 x10_1)] (by rfl) rfl rfl (by (try simp only [List.map_toArray, List.map_cons, List.map_nil]); first | done | rfl | (simp only [List.length_drop, List.length_take]; rfl)) ?_
    with_reducible refine (spec_l07At.calls k1 a0_0 a0_1 _ _ l0_2 _ _ l1 a2_0 (rd t212 x10_1) t216 _ ?side1 ?side2 ?side3 ?side4 A14.out).mono ?_
    (case side1 => exact Xc HR0_2)
    (case side2 => exact HC0_2.out)
    (case side3 => exact Xc HR1)
    (case side4 => exact HC1.out)
    rintro e w22 ⟨rfl, hb⟩
    have HS6_ := (hb.cell (World.block_lt_of_cell? _ _ (hHeld.2.2.2.2.2.2.1))).trans (hHeld.2.2.2.2.2.2.1)
    have HS7_ := (hb.cell (World.block_lt_of_cell? _ _ (hHeld.2.2.2.2.2.2.2))).trans (hHeld.2.2.2.2.2.2.2)
    refine ⟨_, rfl, ?_⟩
    replace HO_9 := Aside0.mk (Kd.R_below (Xq HO_9) hb)
    replace BK210 := Xbb BK210 hb
    replace BK211 := Xbb BK211 hb
    replace HB := Aside0.mk (below_step Xi hb)
    (try clear hb)
    (try clear hb2)
    (try clear hk)
    (try clear hi)
    refine hK.out _ _ ⟨(blk_cell BK210.out 0).trans rfl, (blk_cell BK210.out 1).trans rfl, (blk_cell BK210.out 2).trans rfl, (blk_cell BK211.out 0).trans rfl, (blk_cell BK211.out 1).trans rfl, (blk_cell BK211.out 2).trans rfl, HS6_, HS7_⟩ (fun hHeld => ?_)
    clear hK K
    refine Xno ?_
    refine one_ (i := 14) (N := some 36) (XW.bs 17 32767) rfl rfl (one_of HT_.out (by kernel_rfl)) (by decide) (fun K hK => ?_)
    refine goes_ Tryz.func145 (by kernel_rfl) rfl #[.agg #[.int .i64 a2_0, .int .i64 a2_1, .int .i64 a2_2], .int .i64 (rd t212 x10_1)] (by rfl) rfl rfl (by (try simp only [List.map_toArray, List.map_cons, List.map_nil]); first | done | rfl | (simp only [List.length_drop, List.length_take]; rfl)) ?_
    with_reducible refine (spec_l07Need.calls a2_0 a2_1 a2_2 (rd t212 x10_1) t218 _ A15.out).mono ?_
    rintro e w23 ⟨rfl, hb⟩
    have HS6_ := (hb.cell (World.block_lt_of_cell? _ _ (hHeld.2.2.2.2.2.2.1))).trans (hHeld.2.2.2.2.2.2.1)
    have HS7_ := (hb.cell (World.block_lt_of_cell? _ _ (hHeld.2.2.2.2.2.2.2))).trans (hHeld.2.2.2.2.2.2.2)
    refine ⟨_, rfl, ?_⟩
    replace HO_9 := Aside0.mk (Kd.R_below (Xq HO_9) hb)
    replace BK210 := Xbb BK210 hb
    replace BK211 := Xbb BK211 hb
    replace HB := Aside0.mk (below_step Xi hb)
    (try clear hb)
    (try clear hb2)
    (try clear hk)
    (try clear hi)
    refine hK.out _ _ ⟨(blk_cell BK210.out 0).trans rfl, (blk_cell BK210.out 1).trans rfl, (blk_cell BK210.out 2).trans rfl, (blk_cell BK211.out 0).trans rfl, (blk_cell BK211.out 1).trans rfl, (blk_cell BK211.out 2).trans rfl, HS6_, HS7_⟩ (fun hHeld => ?_)
    clear hK K
    refine Xno ?_
    refine one_ (i := 15) (N := some 37) (XW.bs 17 65535) rfl rfl (one_of HT_.out (by kernel_rfl)) (by decide) (fun K hK => ?_)
    refine goes_ Tryz.func133 (by kernel_rfl) rfl #[.int .i64 t216, .int .i64 t218] (by rfl) rfl rfl (by (try simp only [List.map_toArray, List.map_cons, List.map_nil]); first | done | rfl | (simp only [List.length_drop, List.length_take]; rfl)) ?_
    with_reducible refine (spec_l07Join.calls k1 t216 t218 t219 _ A16.out).mono ?_
    rintro e w24 ⟨rfl, hb⟩
    have HS6_ := (hb.cell (World.block_lt_of_cell? _ _ (hHeld.2.2.2.2.2.2.1))).trans (hHeld.2.2.2.2.2.2.1)
    have HS7_ := (hb.cell (World.block_lt_of_cell? _ _ (hHeld.2.2.2.2.2.2.2))).trans (hHeld.2.2.2.2.2.2.2)
    refine ⟨_, rfl, ?_⟩
    replace HO_9 := Aside0.mk (Kd.R_below (Xq HO_9) hb)
    replace BK210 := Xbb BK210 hb
    replace BK211 := Xbb BK211 hb
    replace HB := Aside0.mk (below_step Xi hb)
    (try clear hb)
    (try clear hb2)
    (try clear hk)
    (try clear hi)
    refine hK.out _ _ ⟨(blk_cell BK210.out 0).trans rfl, (blk_cell BK210.out 1).trans rfl, (blk_cell BK210.out 2).trans rfl, (blk_cell BK211.out 0).trans rfl, (blk_cell BK211.out 1).trans rfl, (blk_cell BK211.out 2).trans rfl, HS6_, HS7_⟩ (fun hHeld => ?_)
    clear hK K
    refine Xno ?_
    refine Xpu 16 11 (XW.bs 17 131071) HT_.out ?_
    refine done_ (done_of HT_.out (by kernel_rfl)) ?_
    try go_wp2_with (fail)
    replace HO_9 := Aside0.mk (Kd.R_drew HO_9.out)
    replace BK210 := Aside0.mk (blk_drew BK210.out)
    replace BK211 := Aside0.mk (blk_drew BK211.out)
    replace HB := Aside0.mk (below_drew1 HB.out)
    have p220 : 0 ≤ (x10_1 : Int) := of_decide_eq_true Xa
    have q220 : x10_1 < (t212.length : Int) := of_decide_eq_true Xa
    obtain ⟨ad220, e220, hx220_0⟩ := Kd.at_int (Kd.R_reads' HO_9.out).2.2 x10_1 p220 q220
    obtain rfl : ad215 = ad220 := (by injection e220)
    replace p220 := eq_true p220
    replace q220 := eq_true q220
    refine start_ (n := 11) (S := fun w' => w'.cell? ⟨gb210, 0, none⟩ = some (.int .i64 a0_0) ∧ w'.cell? ⟨gb210, 1, none⟩ = some (.int .i64 a0_1) ∧ w'.cell? ⟨gb210, 2, none⟩ = some (.slice A0_2 l0_2.length c0_2) ∧ w'.cell? (ad215.add (x10_1).toNat) = some (.int .i64 (rd t212 x10_1))) (ds := []) #[false, false, false, false, false, false, false, false, false, false, false] (by kernel_rfl) rfl rfl ⟨(blk_cell BK210.out 0).trans rfl, (blk_cell BK210.out 1).trans rfl, (blk_cell BK210.out 2).trans rfl, hx220_0⟩ (fun hHeld => ?_); refine with_tabW spec_l07Clash.tab6 spec_l07Clash.bits6 (fun HT_ HW_ => ?_)
    generalize w24.drew = w25 at HO_9 BK210 BK211 HB hx220_0 hHeld ⊢
    refine Xpu 0 38 (XW.bs 11 1) HT_.out ?_
    refine Xpu 2 40 (XW.bs 11 5) HT_.out ?_
    refine Xpu 3 41 (XW.bs 11 13) HT_.out ?_
    refine Xpu 4 42 (XW.bs 11 29) HT_.out ?_
    refine Xpu 5 43 (XW.bs 11 61) HT_.out ?_
    refine Xpu 6 44 (XW.bs 11 125) HT_.out ?_
    refine Xta 1 39 (XW.bs 11 127) HT_.out HW_.out hHeld ?_
    refine Xta 7 45 (XW.bs 11 255) HT_.out HW_.out hHeld ?_
    refine one_ (i := 8) (N := some 46) (XW.bs 11 511) rfl rfl (one_of HT_.out (by kernel_rfl)) (by decide) (fun K hK => ?_)
    refine goes_ Tryz.func77 (by kernel_rfl) rfl #[.agg #[.int .i64 a0_0, .int .i64 a0_1, .slice A0_2 l0_2.length c0_2], .slice A1 l1.length c1, .int .i64 a3, .int .i64 (rd t212 x10_1)] (by rfl) rfl rfl (by (try simp only [List.map_toArray, List.map_cons, List.map_nil]); first | done | rfl | (simp only [List.length_drop, List.length_take]; rfl)) ?_
    with_reducible refine (spec_l07At.calls k1 a0_0 a0_1 _ _ l0_2 _ _ l1 a3 (rd t212 x10_1) t221 _ ?side1 ?side2 ?side3 ?side4 A17.out).mono ?_
    (case side1 => exact Xc HR0_2)
    (case side2 => exact HC0_2.out)
    (case side3 => exact Xc HR1)
    (case side4 => exact HC1.out)
    rintro e w26 ⟨rfl, hb⟩
    have HS3_ := (hb.cell (World.block_lt_of_cell? _ _ (hHeld.2.2.2))).trans (hHeld.2.2.2)
    refine ⟨_, rfl, ?_⟩
    replace HO_9 := Aside0.mk (Kd.R_below (Xq HO_9) hb)
    replace BK210 := Xbb BK210 hb
    replace BK211 := Xbb BK211 hb
    replace HB := Aside0.mk (below_step Xi hb)
    (try clear hb)
    (try clear hb2)
    (try clear hk)
    (try clear hi)
    refine hK.out _ _ ⟨(blk_cell BK210.out 0).trans rfl, (blk_cell BK210.out 1).trans rfl, (blk_cell BK210.out 2).trans rfl, HS3_⟩ (fun hHeld => ?_)
    clear hK K
    refine Xno ?_
    refine one_ (i := 9) (N := some 47) (XW.bs 11 1023) rfl rfl (one_of HT_.out (by kernel_rfl)) (by decide) (fun K hK => ?_)
    refine goes_ Tryz.func146 (by kernel_rfl) rfl #[.int .i64 t219, .int .i64 t221] (by rfl) rfl rfl (by (try simp only [List.map_toArray, List.map_cons, List.map_nil]); first | done | rfl | (simp only [List.length_drop, List.length_take]; rfl)) ?_
    with_reducible refine (spec_l07Fits.calls k1 t219 t221 t222 _ A18.out).mono ?_
    rintro e w27 ⟨rfl, hb⟩
    have HS3_ := (hb.cell (World.block_lt_of_cell? _ _ (hHeld.2.2.2))).trans (hHeld.2.2.2)
    refine ⟨_, rfl, ?_⟩
    replace HO_9 := Aside0.mk (Kd.R_below (Xq HO_9) hb)
    replace BK210 := Xbb BK210 hb
    replace BK211 := Xbb BK211 hb
    replace HB := Aside0.mk (below_step Xi hb)
    (try clear hb)
    (try clear hb2)
    (try clear hk)
    (try clear hi)
    refine hK.out _ _ ⟨(blk_cell BK210.out 0).trans rfl, (blk_cell BK210.out 1).trans rfl, (blk_cell BK210.out 2).trans rfl, HS3_⟩ (fun hHeld => ?_)
    clear hK K
    refine Xno ?_
    refine Xpu 10 48 (XW.bs 11 2047) HT_.out ?_
    refine done_ (done_of HT_.out (by kernel_rfl)) ?_
    go_upto_if 48 with (fail)
    have H := HC19.out
    clear HC19
    by_cases c28 : t222 = true
    ·subst c28
     (first | rw [if_pos rfl] at H | skip)
     have H' := Aside0.mk H
     clear H
     go_wp2
     go_roundg k1
     case measure => have := HK1.out; omega
     case rel => exact ⟨(wrap64 (x10_1 + 1)), Xr, H', Xk1, (Xp' HO_9), BK210, BK211, ⟨Xi⟩⟩
    ·replace c28 := Bool.eq_false_iff.mpr c28
     subst c28
     (first | rw [if_neg (show ¬ (false = true) by decide)] at H | skip)
     obtain rfl := Option.some.inj H
     go_wp2
     go_ret
     exact ⟨Xe, Xi⟩
   ·obtain rfl := Option.some.inj H
    obtain ⟨Ao29, co29, eo29⟩ := Kd.R_slice HO_9.out
    subst eo29
    go_wp2
    go_ret
    exact ⟨Xe, Xi⟩

end Go.Proofs.YtahhgjkgfbppeaaGreat.XA
