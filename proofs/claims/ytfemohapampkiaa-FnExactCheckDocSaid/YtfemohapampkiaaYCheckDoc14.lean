/- Contracts of the program's functions: each Go function that is named below comes to what its Lean function says. Written by xprint.py (a program of this session's, over the kit's print). Conditions: each contract's own premises. -/
import Derived.Test.YtfemohapampkiaaYCheckDoc0
import Derived.Test.YtfemohapampkiaaYCheckDoc5
import Derived.Test.YtfemohapampkiaaYCheckDoc8
import Derived.Test.YtfemohapampkiaaYCheckDoc9
import Derived.Test.YtfemohapampkiaaYCheckDoc10
import Derived.Test.YtfemohapampkiaaYCheckDoc13
namespace Go.Proofs.Ytfemohapampkiaa.XA
open Go.RowKit Go.Proofs.YtfemohapampkiaaW.PrintWords Go.Proofs.YtfemohapampkiaaW.PrintLast Go.Proofs.YtfemohapampkiaaW.PrintMore XW
attribute [local go_sem] max2_int min2_int max_two min_two max_three min_three max_four min_four   -- for this text's walks alone
set_option linter.unusedVariables false
set_option linter.unusedSimpArgs false

/-! ### spec_l05Doc: function 112 -/
def spec_l05Doc.l0 : Nat → List (S120) → List Int → Int → Int → Int → List (S88) → Option (Int × Int)
 | 0, _, _, _, _, _, _ => none
 | k + 1, x0, x6, x7, x305000, x305001, x305002 => if x7 < (x6.length : Int) then (if 0 ≤ x7 then ((spec_l02At.f k x305000 x305001 x305002 (rd x6 x7)).bind fun t309 => (if 0 ≤ t309 then (if t309 < (x305002.length : Int) then ((spec_l05Node.f k x0 x305000 x305001 x305002 ((rd_T88 x305002 t309).f0) ((rd_T88 x305002 t309).f1) ((rd_T88 x305002 t309).f2) ((rd_T88 x305002 t309).f3) ((rd_T88 x305002 t309).f4)).bind fun t311 => (if t311 = 0 then (spec_l05Doc.l0 k x0 x6 (wrap64 (x7 + 1)) x305000 x305001 x305002) else (some (rd x6 x7, t311)))) else (none)) else (none))) else (none)) else (some (0, 0))
def spec_l05Doc.f (k : Nat) (l0 : List (S120)) (a1_0 : Int) (a1_1 : Int) (l1_2 : List (S88)) : Option (Int × Int) := (spec_l02Order.f k a1_0 a1_1 l1_2 a1_0).bind fun t305 => (spec_l05Doc.l0 k l0 t305 0 a1_0 a1_1 l1_2)
def spec_l05Doc.T5 : Bool × List (List Nat × List Nat) := (true, [([], []), ([], []), ([], []), ([2], [2]), ([], []), ([], []), ([], []), ([5, 6], [5, 6]), ([7], [7]), ([4, 8], [4, 8]), ([3, 9], [3, 9]), ([10], [10]), ([0, 1, 11, 9], [0, 1, 11]), ([12, 12, 0, 1, 2, 3, 4, 5, 6, 7, 8, 9, 10, 11, 12], [12])])
def spec_l05Doc.B5 : List Nat := [0, 0, 0, 4, 0, 0, 0, 96, 224, 496, 1020, 2044, 4095, 8191]
theorem spec_l05Doc.tab5 : rtab .any (opsOf Try.f112 5) = spec_l05Doc.T5 := by kernel_rfl
theorem spec_l05Doc.bits5 : waitsOk spec_l05Doc.T5.2 spec_l05Doc.B5 = true := by kernel_rfl
set_option maxHeartbeats 8000000 in
set_option maxRecDepth 100000 in
theorem spec_l05Doc.calls (k : Nat) (A0 : Option Addr) (c0 : Nat) (l0 : List (S120)) (a1_0 : Int) (a1_1 : Int) (A1_2 : Option Addr) (c1_2 : Nat) (l1_2 : List (S88)) (r1 : Int) (r2 : Int) (w : World) (hr0 : Kd.C k120 w A0 l0.length l0) (hc0 : l0.length ≤ c0) (hr1_2 : Kd.C k88 w A1_2 l1_2.length l1_2) (hc1_2 : l1_2.length ≤ c1_2) (h : spec_l05Doc.f k l0 a1_0 a1_1 l1_2 = some (r1, r2)) :
  Calls Try.prog 112 #[.slice A0 l0.length c0, .agg #[.int .i64 a1_0, .int .i64 a1_1, .slice A1_2 l1_2.length c1_2]] w fun e w' => e = .returned (.tuple #[.int .i64 r1, .int .i64 r2]) ∧ Below w.heap.size w w' := by
 have hu29 := Try.underlying29
 have hu88 := Try.underlying88
 have HR0 := Aside0.mk hr0
 have HC0 := Aside0.mk hc0
 clear hr0 hc0
 have HR1_2 := Aside0.mk hr1_2
 have HC1_2 := Aside0.mk hc1_2
 clear hr1_2 hc1_2
 have HB := Aside0.mk (Below.refl w.heap.size w)
 have H : ((spec_l02Order.f k a1_0 a1_1 l1_2 a1_0).bind fun t305 => (spec_l05Doc.l0 k l0 t305 0 a1_0 a1_1 l1_2)) = some (r1, r2) := h
 clear h
 obtain ⟨t305, A3, H⟩ := Xbi H
 (try dsimp only at H)
 have H' := Aside0.mk H
 clear H
 go_enter Try.func112, Try.ntmps112
 go_wp2_with (first | ((with_reducible refine gate_dst (N := 3) rfl ?_); refine Xbox 3 #[.int .i64 a1_0, .int .i64 a1_1, .slice A1_2 l1_2.length c1_2] 29 ?_; intro gb304 hg w4 hbox hb; have BK304 := Aside0.mk (hbox); have GE304 := Xge hg Xi; replace HB := Aside0.mk (below_step Xi hb); clear hb hbox hg; obtain ⟨hcz5_0, hcz5_1, hcz5_2⟩ := Xc3 BK304) | ((with_reducible refine gate_callee (f := 128) rfl ?_); refine Xgo 12 Try.func128 #[.agg #[.int .i64 a1_0, .int .i64 a1_1, .slice A1_2 l1_2.length c1_2], .int .i64 a1_0] ?_; (with_reducible refine (spec_l02Order.calls k a1_0 a1_1 _ _ l1_2 a1_0 t305 _ ?side1 ?side2 A3.out).mono ?_); (case side1 => exact Xc HR1_2); (case side2 => exact HC1_2.out); rintro e w6 ⟨v306, rfl, ho0, hb⟩; refine ⟨_, rfl, ?_⟩; have HO307 := Aside0.mk (Kd.R_lower ho0 (below_size Xi)); replace BK304 := Xbb BK304 hb; replace HB := Aside0.mk (below_step Xi hb); clear hb; (try clear ho0)))
 go_loopg [7] k (fun kq v7 w' => ∃ (x7_1 : Int), v7 = .int .i64 x7_1 ∧ Aside0 (spec_l05Doc.l0 kq l0 t305 x7_1 a1_0 a1_1 l1_2 = some (r1, r2)) ∧ Aside0 (kq ≤ k) ∧ Aside0 (Kd.R (Kd.int .i64) 3 w' w.heap.size (fun _ => True) v306 t305) ∧ Aside0 (w'.heap[gb304]? = some (.cells #[.int .i64 a1_0, .int .i64 a1_1, (.slice A1_2 l1_2.length c1_2)] 29 (0, 0))) ∧ Aside0 (Below w.heap.size w w'))
 case atStart => exact ⟨(0), Xr, H', Xkr, (Xp' HO307), BK304, ⟨Xi⟩⟩
 case round =>
  clear H'
  (try clear hcz5_0); (try clear hcz5_1); (try clear hcz5_2)
  obtain ⟨x7_1, rfl, HA, HK1, HO_6, BK304, HB⟩ := hrel
  cases gk with
  | zero => cases HA.out
  | succ k1 =>
   have H := HA.out
   clear HA
   simp only [spec_l05Doc.l0] at H
   obtain ⟨c7b0, H⟩ | ⟨c7b0, H⟩ := Xit H
   ·obtain ⟨c8b0, H⟩ := Xid H
    obtain ⟨t309, A9, H⟩ := Xbi H
    (try dsimp only at H)
    obtain ⟨c10b0, H⟩ := Xid H
    obtain ⟨c11b0, H⟩ := Xid H
    obtain ⟨t311, A12, H⟩ := Xbi H
    (try dsimp only at H)
    have HC13 := Aside0.mk H
    clear H
    obtain ⟨Ao14, co14, eo14⟩ := Kd.R_slice HO_6.out
    subst eo14
    try go_wp2_with (fail)
    replace HO_6 := Aside0.mk (Kd.R_drew HO_6.out)
    replace BK304 := Aside0.mk (blk_drew BK304.out)
    replace HB := Aside0.mk (below_drew1 HB.out)
    have p308 : 0 ≤ (x7_1 : Int) := of_decide_eq_true Xa
    have q308 : x7_1 < (t305.length : Int) := of_decide_eq_true Xa
    obtain ⟨ad308, e308, hx308_0⟩ := Kd.at_int (Kd.R_reads' HO_6.out).2.2 x7_1 p308 q308
    cases e308
    replace p308 := eq_true p308
    replace q308 := eq_true q308
    have p310 : 0 ≤ (t309 : Int) := of_decide_eq_true Xa
    have q310 : t309 < (l1_2.length : Int) := of_decide_eq_true Xa
    obtain ⟨ad310, A310_4, c310_4, e310, hx310_0, hx310_1, hx310_2, hx310_3, hx310_4, hl310_4, hi310_4⟩ := at_T88 HR1_2.out t309 p310 q310
    have hw310_4 := hx310_4
    have hw310_3 := hx310_3
    have hw310_2 := hx310_2
    have hw310_1 := hx310_1
    have hw310_0 := hx310_0
    cases e310
    replace hx310_0 := Xm HB hx310_0
    replace hx310_1 := Xm HB hx310_1
    replace hx310_2 := Xm HB hx310_2
    replace hx310_3 := Xm HB hx310_3
    replace hx310_4 := Xm HB hx310_4
    have HR310_4 := Aside0.mk hi310_4
    have HC310_4 := Aside0.mk hl310_4
    clear hi310_4 hl310_4
    replace p310 := eq_true p310
    replace q310 := eq_true q310
    refine start_ (n := 14) (S := fun w' => w'.cell? ⟨gb304, 0, none⟩ = some (.int .i64 a1_0) ∧ w'.cell? ⟨gb304, 1, none⟩ = some (.int .i64 a1_1) ∧ w'.cell? ⟨gb304, 2, none⟩ = some (.slice (some ad310) l1_2.length c1_2) ∧ w'.cell? (ad308.add (x7_1).toNat) = some (.int .i64 (rd t305 x7_1)) ∧ w'.cell? (ad310.add ((t309).toNat * 5)) = some (.int .i64 ((rd_T88 l1_2 t309).f0)) ∧ w'.cell? ⟨(ad310.add ((t309).toNat * 5)).block, (ad310.add ((t309).toNat * 5)).off + 1, none⟩ = some (.int .i64 ((rd_T88 l1_2 t309).f1)) ∧ w'.cell? ⟨(ad310.add ((t309).toNat * 5)).block, (ad310.add ((t309).toNat * 5)).off + 2, none⟩ = some (.int .i64 ((rd_T88 l1_2 t309).f2)) ∧ w'.cell? ⟨(ad310.add ((t309).toNat * 5)).block, (ad310.add ((t309).toNat * 5)).off + 3, none⟩ = some (.string ((rd_T88 l1_2 t309).f3)) ∧ w'.cell? ⟨(ad310.add ((t309).toNat * 5)).block, (ad310.add ((t309).toNat * 5)).off + 4, none⟩ = some (.slice A310_4 ((rd_T88 l1_2 t309).f4).length c310_4)) (ds := []) #[false, false, false, false, false, false, false, false, false, false, false, false, false, false] (by kernel_rfl) rfl rfl ⟨(blk_cell BK304.out 0).trans rfl, (blk_cell BK304.out 1).trans rfl, (blk_cell BK304.out 2).trans rfl, hx308_0, Xn hw310_0, Xn hw310_1, Xn hw310_2, Xn hw310_3, Xn hw310_4⟩ (fun hHeld => ?_); refine with_tabW spec_l05Doc.tab5 spec_l05Doc.bits5 (fun HT_ HW_ => ?_)
    generalize wr.drew = w15 at HO_6 BK304 HB HR310_4 hx308_0 hx310_0 hx310_1 hx310_2 hx310_3 hx310_4 hHeld ⊢
    refine Xpu 0 19 (XW.bs 14 1) HT_.out ?_
    refine Xpu 2 21 (XW.bs 14 5) HT_.out ?_
    refine Xpu 5 24 (XW.bs 14 37) HT_.out ?_
    refine Xpu 6 25 (XW.bs 14 101) HT_.out ?_
    refine Xpu 7 26 (XW.bs 14 229) HT_.out ?_
    refine Xta 1 20 (XW.bs 14 231) HT_.out HW_.out hHeld ?_
    refine Xta 3 22 (XW.bs 14 239) HT_.out HW_.out hHeld ?_
    refine Xta 4 23 (XW.bs 14 255) HT_.out HW_.out hHeld ?_
    refine Xta 8 27 (XW.bs 14 511) HT_.out HW_.out hHeld ?_
    refine one_ (i := 9) (N := some 28) (XW.bs 14 1023) rfl rfl (one_of HT_.out (by kernel_rfl)) (by decide) (fun K hK => ?_)
    refine goes_ Try.func69 (by kernel_rfl) rfl #[.agg #[.int .i64 a1_0, .int .i64 a1_1, .slice (some ad310) l1_2.length c1_2], .int .i64 (rd t305 x7_1)] (by rfl) rfl rfl (by (try simp only [List.map_toArray, List.map_cons, List.map_nil]); first | done | rfl | (simp only [List.length_drop, List.length_take]; rfl)) ?_
    with_reducible refine (spec_l02At.calls k1 a1_0 a1_1 _ _ l1_2 (rd t305 x7_1) t309 _ ?side1 ?side2 A9.out).mono ?_
    (case side1 => exact Xc HR1_2)
    (case side2 => exact HC1_2.out)
    rintro e w16 ⟨rfl, hb⟩
    have HS3_ := (hb.cell (World.block_lt_of_cell? _ _ (hHeld.2.2.2.1))).trans (hHeld.2.2.2.1)
    refine ⟨_, rfl, ?_⟩
    replace HO_6 := Aside0.mk (Kd.R_below (Xq HO_6) hb)
    replace BK304 := Xbb BK304 hb
    replace HB := Aside0.mk (below_step Xi hb)
    (try clear hb)
    (try clear hb2)
    (try clear hk)
    (try clear hi)
    refine hK.out _ _ ⟨(blk_cell BK304.out 0).trans rfl, (blk_cell BK304.out 1).trans rfl, (blk_cell BK304.out 2).trans rfl, HS3_, Xn hw310_0, Xn hw310_1, Xn hw310_2, Xn hw310_3, Xn hw310_4⟩ (fun hHeld => ?_)
    clear hK K
    refine Xno ?_
    refine Xpu 10 29 (XW.bs 14 2047) HT_.out ?_
    refine Xta 11 30 (XW.bs 14 4095) HT_.out HW_.out hHeld ?_
    refine one_ (i := 12) (N := some 31) (XW.bs 14 8191) rfl rfl (one_of HT_.out (by kernel_rfl)) (by decide) (fun K hK => ?_)
    refine goes_ Try.func162 (by kernel_rfl) rfl #[.slice A0 l0.length c0, .agg #[.int .i64 a1_0, .int .i64 a1_1, .slice (some ad310) l1_2.length c1_2], .agg #[.int .i64 ((rd_T88 l1_2 t309).f0), .int .i64 ((rd_T88 l1_2 t309).f1), .int .i64 ((rd_T88 l1_2 t309).f2), .string ((rd_T88 l1_2 t309).f3), .slice A310_4 ((rd_T88 l1_2 t309).f4).length c310_4]] (by rfl) rfl rfl (by (try simp only [List.map_toArray, List.map_cons, List.map_nil]); first | done | rfl | (simp only [List.length_drop, List.length_take]; rfl)) ?_
    with_reducible refine (spec_l05Node.calls k1 _ _ l0 a1_0 a1_1 _ _ l1_2 ((rd_T88 l1_2 t309).f0) ((rd_T88 l1_2 t309).f1) ((rd_T88 l1_2 t309).f2) ((rd_T88 l1_2 t309).f3) _ _ ((rd_T88 l1_2 t309).f4) t311 _ ?side1 ?side2 ?side3 ?side4 ?side5 ?side6 A12.out).mono ?_
    (case side1 => exact Xc HR0)
    (case side2 => exact HC0.out)
    (case side3 => exact Xc HR1_2)
    (case side4 => exact HC1_2.out)
    (case side5 => exact Xc HR310_4)
    (case side6 => exact HC310_4.out)
    rintro e w17 ⟨rfl, hb⟩
    have HS3_ := (hb.cell (World.block_lt_of_cell? _ _ (hHeld.2.2.2.1))).trans (hHeld.2.2.2.1)
    refine ⟨_, rfl, ?_⟩
    replace HO_6 := Aside0.mk (Kd.R_below (Xq HO_6) hb)
    replace BK304 := Xbb BK304 hb
    replace HB := Aside0.mk (below_step Xi hb)
    (try clear hb)
    (try clear hb2)
    (try clear hk)
    (try clear hi)
    refine hK.out _ _ ⟨(blk_cell BK304.out 0).trans rfl, (blk_cell BK304.out 1).trans rfl, (blk_cell BK304.out 2).trans rfl, HS3_, Xn hw310_0, Xn hw310_1, Xn hw310_2, Xn hw310_3, Xn hw310_4⟩ (fun hHeld => ?_)
    clear hK K
    refine Xno ?_
    refine Xpu 13 8 (XW.bs 14 16383) HT_.out ?_
    refine done_ (done_of HT_.out (by kernel_rfl)) ?_
    go_upto_if 33 with (fail)
    have H := HC13.out
    clear HC13
    obtain ⟨c18, H⟩ | ⟨c18, H⟩ := Xiu H
    ·have c18b0 : (t311 == 0) = true := beq_iff_eq.mpr c18
     have c18b1 : (t311 != 0) = false := bne_eq_false_iff_eq.mpr c18
     clear c18
     (first | rw [c18b0] | (simp only [i64_w, i32_w]; rw [c18b0]) | skip)
     have H' := Aside0.mk H
     clear H
     go_wp2
     go_roundg k1
     case measure => have := HK1.out; omega
     case rel => exact ⟨(wrap64 (x7_1 + 1)), Xr, H', Xk1, (Xp' HO_6), BK304, ⟨Xi⟩⟩
    ·have c18b0 : (t311 == 0) = false := beq_eq_false_iff_ne.mpr c18
     have c18b1 : (t311 != 0) = true := bne_iff_ne.mpr c18
     (first | rw [c18b0] | (simp only [i64_w, i32_w]; rw [c18b0]) | skip)
     simp only [Option.some.injEq, Prod.mk.injEq] at H
     obtain ⟨rfl, rfl⟩ := H
     have p312 : 0 ≤ (x7_1 : Int) := of_decide_eq_true Xa
     have q312 : x7_1 < (t305.length : Int) := of_decide_eq_true Xa
     obtain ⟨ad312, e312, hx312_0⟩ := Kd.at_int (Kd.R_reads' HO_6.out).2.2 x7_1 p312 q312
     obtain rfl : ad308 = ad312 := (by injection e312)
     replace p312 := eq_true p312
     replace q312 := eq_true q312
     go_wp2
     go_ret2
     exact ⟨Xe, Xi⟩
   ·simp only [Option.some.injEq, Prod.mk.injEq] at H
    obtain ⟨rfl, rfl⟩ := H
    obtain ⟨Ao19, co19, eo19⟩ := Kd.R_slice HO_6.out
    subst eo19
    go_wp2
    go_ret2
    exact ⟨Xe, Xi⟩

/-! ### spec_CheckDoc: function 55 -/
def spec_CheckDoc.f (k : Nat) (l0 : List (S120)) (a1_0 : Int) (a1_1 : Int) (l1_2 : List (S88)) : Option (Int × Int) := if (l0.length : Int) > 4096 then (some (0, 2)) else ((spec_l03OK.f k l0).bind fun t314 => (if t314 = true then ((spec_l02OK.f k a1_0 a1_1 l1_2).bind fun t315 => (if t315 = true then ((spec_l05Doc.f k l0 a1_0 a1_1 l1_2).bind fun bt316 => (some (bt316.1, bt316.2))) else (some (0, 1)))) else (some (0, 1))))
set_option maxHeartbeats 8000000 in
set_option maxRecDepth 100000 in
theorem spec_CheckDoc.calls (k : Nat) (A0 : Option Addr) (c0 : Nat) (l0 : List (S120)) (a1_0 : Int) (a1_1 : Int) (A1_2 : Option Addr) (c1_2 : Nat) (l1_2 : List (S88)) (r1 : Int) (r2 : Int) (w : World) (hr0 : Kd.C k120 w A0 l0.length l0) (hc0 : l0.length ≤ c0) (hr1_2 : Kd.C k88 w A1_2 l1_2.length l1_2) (hc1_2 : l1_2.length ≤ c1_2) (h : spec_CheckDoc.f k l0 a1_0 a1_1 l1_2 = some (r1, r2)) :
  Calls Try.prog 55 #[.slice A0 l0.length c0, .agg #[.int .i64 a1_0, .int .i64 a1_1, .slice A1_2 l1_2.length c1_2]] w fun e w' => e = .returned (.tuple #[.int .i64 r1, .int .i64 r2]) ∧ Below w.heap.size w w' := by
 have hu29 := Try.underlying29
 have HR0 := Aside0.mk hr0
 have HC0 := Aside0.mk hc0
 clear hr0 hc0
 have HR1_2 := Aside0.mk hr1_2
 have HC1_2 := Aside0.mk hc1_2
 clear hr1_2 hc1_2
 have HB := Aside0.mk (Below.refl w.heap.size w)
 have H : (if (l0.length : Int) > 4096 then (some (0, 2)) else ((spec_l03OK.f k l0).bind fun t314 => (if t314 = true then ((spec_l02OK.f k a1_0 a1_1 l1_2).bind fun t315 => (if t315 = true then ((spec_l05Doc.f k l0 a1_0 a1_1 l1_2).bind fun bt316 => (some (bt316.1, bt316.2))) else (some (0, 1)))) else (some (0, 1))))) = some (r1, r2) := h
 clear h
 have HC3 := Aside0.mk H
 clear H
 go_enter Try.func55, Try.ntmps55
 go_upto_if 8 with (first | ((with_reducible refine gate_dst (N := 3) rfl ?_); refine Xbox 3 #[.int .i64 a1_0, .int .i64 a1_1, .slice A1_2 l1_2.length c1_2] 29 ?_; intro gb313 hg w4 hbox hb; have BK313 := Aside0.mk (hbox); have GE313 := Xge hg Xi; replace HB := Aside0.mk (below_step Xi hb); clear hb hbox hg))
 have H := HC3.out
 clear HC3
 obtain ⟨c5, H⟩ | ⟨c5, H⟩ := Xiu H
 ·have c5b0 : decide (4096 < (l0.length : Int)) = true := decide_eq_true c5
  have c5b1 : decide (4096 < l0.length) = true := decide_eq_true (by omega)
  clear c5
  (first | rw [c5b0] | (simp only [i64_w, i32_w]; rw [c5b0]) | skip)
  simp only [Option.some.injEq, Prod.mk.injEq] at H
  obtain ⟨rfl, rfl⟩ := H
  go_wp2
  go_ret2
  exact ⟨Xe, Xi⟩
 ·have c5b0 : decide (4096 < (l0.length : Int)) = false := decide_eq_false c5
  have c5b1 : decide (4096 < l0.length) = false := decide_eq_false (by omega)
  clear c5
  (first | rw [c5b0] | (simp only [i64_w, i32_w]; rw [c5b0]) | skip)
  obtain ⟨t314, A6, H⟩ := Xbi H
  (try dsimp only at H)
  by_cases c7 : t314 = true
  ·subst c7
   (first | rw [if_pos rfl] at H | skip)
   obtain ⟨t315, A8, H⟩ := Xbi H
   (try dsimp only at H)
   have HC9 := Aside0.mk H
   clear H
   go_upto_if 16 with (first | ((with_reducible refine gate_callee (f := 91) rfl ?_); refine Xgo 10 Try.func91 #[.slice A0 l0.length c0] ?_; (with_reducible refine (spec_l03OK.calls k _ _ l0 true _ ?side1 ?side2 A6.out).mono ?_); (case side1 => exact Xc HR0); (case side2 => exact HC0.out); rintro e w10 ⟨rfl, hb⟩; refine ⟨_, rfl, ?_⟩; replace BK313 := Xbb BK313 hb; replace HB := Aside0.mk (below_step Xi hb); clear hb; obtain ⟨hcz11_0, hcz11_1, hcz11_2⟩ := Xc3 BK313) | (go_at_call 58; (with_reducible refine (spec_l02OK.calls k a1_0 a1_1 _ _ l1_2 t315 _ ?side1 ?side2 A8.out).mono ?_); (case side1 => exact Xc HR1_2); (case side2 => exact HC1_2.out); rintro e w12 ⟨rfl, hb⟩; replace BK313 := Xbb BK313 hb; replace HB := Aside0.mk (below_step Xi hb); clear hb))
   have H := HC9.out
   clear HC9
   by_cases c13 : t315 = true
   ·subst c13
    (first | rw [if_pos rfl] at H | skip)
    replace H := Option.bind_eq_some_iff.mp H
    obtain ⟨⟨t316, t317⟩, A140, H⟩ := H
    (try dsimp only at H)
    have A14 := Aside0.mk A140
    clear A140
    simp only [Option.some.injEq, Prod.mk.injEq] at H
    obtain ⟨rfl, rfl⟩ := H
    obtain ⟨hcz15_0, hcz15_1, hcz15_2⟩ := Xc3 BK313
    go_wp2_with (first | ((with_reducible refine gate_callee (f := 112) rfl ?_); refine Xgo 19 Try.func112 #[.slice A0 l0.length c0, .agg #[.int .i64 a1_0, .int .i64 a1_1, .slice A1_2 l1_2.length c1_2]] ?_; (with_reducible refine (spec_l05Doc.calls k _ _ l0 a1_0 a1_1 _ _ l1_2 t316 t317 _ ?side1 ?side2 ?side3 ?side4 A14.out).mono ?_); (case side1 => exact Xc HR0); (case side2 => exact HC0.out); (case side3 => exact Xc HR1_2); (case side4 => exact HC1_2.out); rintro e w16 ⟨rfl, hb⟩; refine ⟨_, rfl, ?_⟩; replace BK313 := Xbb BK313 hb; replace HB := Aside0.mk (below_step Xi hb); clear hb))
    go_ret2
    exact ⟨Xe, Xi⟩
   ·replace c13 := Bool.eq_false_iff.mpr c13
    subst c13
    (first | rw [if_neg (show ¬ (false = true) by decide)] at H | skip)
    simp only [Option.some.injEq, Prod.mk.injEq] at H
    obtain ⟨rfl, rfl⟩ := H
    go_wp2
    go_ret2
    exact ⟨Xe, Xi⟩
  ·replace c7 := Bool.eq_false_iff.mpr c7
   subst c7
   (first | rw [if_neg (show ¬ (false = true) by decide)] at H | skip)
   simp only [Option.some.injEq, Prod.mk.injEq] at H
   obtain ⟨rfl, rfl⟩ := H
   go_wp2_with (first | ((with_reducible refine gate_callee (f := 91) rfl ?_); refine Xgo 10 Try.func91 #[.slice A0 l0.length c0] ?_; (with_reducible refine (spec_l03OK.calls k _ _ l0 false _ ?side1 ?side2 A6.out).mono ?_); (case side1 => exact Xc HR0); (case side2 => exact HC0.out); rintro e w17 ⟨rfl, hb⟩; refine ⟨_, rfl, ?_⟩; replace BK313 := Xbb BK313 hb; replace HB := Aside0.mk (below_step Xi hb); clear hb))
   go_ret2
   exact ⟨Xe, Xi⟩

/-! ### impl_within: function 60 -/
def impl_within.f (a0 : Int) (a1 : Int) (a2 : Int) : Option (Bool) := if a0 ≥ a1 then (some (decide (a0 ≤ a2))) else (some false)
set_option maxHeartbeats 8000000 in
set_option maxRecDepth 100000 in
theorem impl_within.calls (a0 : Int) (a1 : Int) (a2 : Int) (r : Bool) (w : World) (h : impl_within.f a0 a1 a2 = some r) :
  Calls Try.prog 60 #[.int .i64 a0, .int .i64 a1, .int .i64 a2] w fun e w' => e = .returned (.bool r) ∧ Drawn0 w w' := by
 have H : (if a0 ≥ a1 then (some (decide (a0 ≤ a2))) else (some false)) = some r := h
 clear h
 obtain ⟨c4, H⟩ | ⟨c4, H⟩ := Xiu H
 ·have c4b0 : decide (a1 ≤ a0) = true := decide_eq_true c4
  clear c4
  obtain rfl := Option.some.inj H
  go_enter Try.func60, Try.ntmps60
  go_wp2
  go_ret
  exact ⟨Xr, Xdr⟩
 ·have c4b0 : decide (a1 ≤ a0) = false := decide_eq_false c4
  clear c4
  obtain rfl := Option.some.inj H
  go_enter Try.func60, Try.ntmps60
  go_wp2
  go_ret
  exact ⟨Xr, Xdr⟩

/-! ### impl_Doc_find_1: function 167 -/
def impl_Doc_find_1.f (a0_0 : Int) (a0_1 : Int) (a0_2 : Int) (a0_3 : ByteArray) (l0_4 : List Int) (a1 : Int) : Option (Int) := some (wrap64 (a0_0 - a1))
set_option maxHeartbeats 8000000 in
set_option maxRecDepth 100000 in
theorem impl_Doc_find_1.calls (a0_0 : Int) (a0_1 : Int) (a0_2 : Int) (a0_3 : ByteArray) (A0_4 : Option Addr) (c0_4 : Nat) (l0_4 : List Int) (a1 : Int) (r : Int) (w : World) (hr0_4 : Kd.C (Kd.int .i64) w A0_4 l0_4.length l0_4) (hc0_4 : l0_4.length ≤ c0_4) (h : impl_Doc_find_1.f a0_0 a0_1 a0_2 a0_3 l0_4 a1 = some r) :
  Calls Try.prog 167 #[.agg #[.int .i64 a0_0, .int .i64 a0_1, .int .i64 a0_2, .string a0_3, .slice A0_4 l0_4.length c0_4], .int .i64 a1] w fun e w' => e = .returned (.int .i64 r) ∧ Below w.heap.size w w' := by
 have hu88 := Try.underlying88
 have HR0_4 := Aside0.mk hr0_4
 have HC0_4 := Aside0.mk hc0_4
 clear hr0_4 hc0_4
 have HB := Aside0.mk (Below.refl w.heap.size w)
 have H : (some (wrap64 (a0_0 - a1))) = some r := h
 clear h
 obtain rfl := Option.some.inj H
 go_enter Try.func167, Try.ntmps167
 go_wp2_with (first | ((with_reducible refine gate_dst (N := 2) rfl ?_); refine Xbox 2 #[.int .i64 a0_0, .int .i64 a0_1, .int .i64 a0_2, .string a0_3, .slice A0_4 l0_4.length c0_4] 88 ?_; intro gb319 hg w3 hbox hb; have BK319 := Aside0.mk (hbox); have GE319 := Xge hg Xi; replace HB := Aside0.mk (below_step Xi hb); clear hb hbox hg; obtain ⟨hcz4_0, hcz4_1, hcz4_2, hcz4_3, hcz4_4⟩ := Xc5 BK319))
 go_ret
 exact ⟨Xe, Xi⟩

/-! ### slices_BinarySearchFunc_impl_Node_impl_Node_int_at_impl_Doc_find_1: function 166 -/
def slices_BinarySearchFunc_impl_Node_impl_Node_int_at_impl_Doc_find_1.l0 : Nat → List (S88) → Int → Int → Int → Int → Option (Int × Bool)
 | 0, _, _, _, _, _ => none
 | k + 1, x0, x1, x8, x9, x10 => if x9 < x10 then (if 0 ≤ (wrap64 ((IntKind.u64.wrap (wrap64 (x9 + x10))) / 2)) then (if (wrap64 ((IntKind.u64.wrap (wrap64 (x9 + x10))) / 2)) < (x0.length : Int) then ((impl_Doc_find_1.f ((rd_T88 x0 (wrap64 ((IntKind.u64.wrap (wrap64 (x9 + x10))) / 2))).f0) ((rd_T88 x0 (wrap64 ((IntKind.u64.wrap (wrap64 (x9 + x10))) / 2))).f1) ((rd_T88 x0 (wrap64 ((IntKind.u64.wrap (wrap64 (x9 + x10))) / 2))).f2) ((rd_T88 x0 (wrap64 ((IntKind.u64.wrap (wrap64 (x9 + x10))) / 2))).f3) ((rd_T88 x0 (wrap64 ((IntKind.u64.wrap (wrap64 (x9 + x10))) / 2))).f4) x1).bind fun t321 => (if t321 < 0 then (slices_BinarySearchFunc_impl_Node_impl_Node_int_at_impl_Doc_find_1.l0 k x0 x1 x8 (wrap64 ((wrap64 ((IntKind.u64.wrap (wrap64 (x9 + x10))) / 2)) + 1)) x10) else (slices_BinarySearchFunc_impl_Node_impl_Node_int_at_impl_Doc_find_1.l0 k x0 x1 x8 x9 (wrap64 ((IntKind.u64.wrap (wrap64 (x9 + x10))) / 2))))) else (none)) else (none)) else (if x9 < x8 then (if 0 ≤ x9 then (if x9 < (x0.length : Int) then ((impl_Doc_find_1.f ((rd_T88 x0 x9).f0) ((rd_T88 x0 x9).f1) ((rd_T88 x0 x9).f2) ((rd_T88 x0 x9).f3) ((rd_T88 x0 x9).f4) x1).bind fun t323 => (some (x9, (t323 == 0)))) else (none)) else (none)) else (some (x9, false)))
def slices_BinarySearchFunc_impl_Node_impl_Node_int_at_impl_Doc_find_1.f (k : Nat) (l0 : List (S88)) (a1 : Int)  : Option (Int × Bool) := slices_BinarySearchFunc_impl_Node_impl_Node_int_at_impl_Doc_find_1.l0 k l0 a1 (l0.length : Int) 0 (l0.length : Int)
set_option maxHeartbeats 8000000 in
set_option maxRecDepth 100000 in
theorem slices_BinarySearchFunc_impl_Node_impl_Node_int_at_impl_Doc_find_1.calls (k : Nat) (A0 : Option Addr) (c0 : Nat) (l0 : List (S88)) (a1 : Int)  (r1 : Int) (r2 : Bool) (w : World) (hr0 : Kd.C k88 w A0 l0.length l0) (hc0 : l0.length ≤ c0) (h : slices_BinarySearchFunc_impl_Node_impl_Node_int_at_impl_Doc_find_1.f k l0 a1 = some (r1, r2)) :
  Calls Try.prog 166 #[.slice A0 l0.length c0, .int .i64 a1, .func (.func 167) #[] #[]] w fun e w' => e = .returned (.tuple #[.int .i64 r1, .bool r2]) ∧ Below w.heap.size w w' := by
 have hu88 := Try.underlying88
 have HR0 := Aside0.mk hr0
 have HC0 := Aside0.mk hc0
 clear hr0 hc0
 have HB := Aside0.mk (Below.refl w.heap.size w)
 have H : (slices_BinarySearchFunc_impl_Node_impl_Node_int_at_impl_Doc_find_1.l0 k l0 a1 (l0.length : Int) 0 (l0.length : Int)) = some (r1, r2) := h
 clear h
 have H' := Aside0.mk H
 clear H
 go_enter Try.func166, Try.ntmps166
 go_wp2
 go_loopg [9, 10] k (fun kq v9 v10 w' => ∃ (x9_1 : Int) (x10_1 : Int), v9 = .int .i64 x9_1 ∧ v10 = .int .i64 x10_1 ∧ Aside0 (slices_BinarySearchFunc_impl_Node_impl_Node_int_at_impl_Doc_find_1.l0 kq l0 a1 (l0.length : Int) x9_1 x10_1 = some (r1, r2)) ∧ Aside0 (kq ≤ k) ∧ Aside0 (Below w.heap.size w w'))
 case atStart => exact ⟨(0), ((l0.length : Int)), Xr, Xr, H', Xkr, ⟨Xi⟩⟩
 case round =>
  clear H'
  obtain ⟨x9_1, x10_1, rfl, rfl, HA, HK1, HB⟩ := hrel
  cases gk with
  | zero => cases HA.out
  | succ k1 =>
   have H := HA.out
   clear HA
   simp only [slices_BinarySearchFunc_impl_Node_impl_Node_int_at_impl_Doc_find_1.l0] at H
   obtain ⟨c4b0, H⟩ | ⟨c4b0, H⟩ := Xit H
   ·obtain ⟨ji5, hji5⟩ : ∃ j_ : Int, (wrap64 ((IntKind.u64.wrap (wrap64 (x9_1 + x10_1))) / 2)) = j_ := ⟨_, rfl⟩
    replace H : (if 0 ≤ (ji5) then (if (ji5) < (l0.length : Int) then ((impl_Doc_find_1.f ((rd_T88 l0 (ji5)).f0) ((rd_T88 l0 (ji5)).f1) ((rd_T88 l0 (ji5)).f2) ((rd_T88 l0 (ji5)).f3) ((rd_T88 l0 (ji5)).f4) a1).bind fun t321 => (if t321 < 0 then (slices_BinarySearchFunc_impl_Node_impl_Node_int_at_impl_Doc_find_1.l0 k1 l0 a1 (l0.length : Int) (wrap64 ((ji5) + 1)) x10_1) else (slices_BinarySearchFunc_impl_Node_impl_Node_int_at_impl_Doc_find_1.l0 k1 l0 a1 (l0.length : Int) x9_1 ji5))) else (none)) else (none)) = some (r1, r2) := by first | (rw [hji5] at H; exact H) | (simp only [hji5] at H ⊢; exact H)
    have hji5w : (IntKind.i64.wrap ((IntKind.u64.wrap (wrap64 (x9_1 + x10_1))) / 2)) = ji5 := (i64_w _).trans hji5
    obtain ⟨c6b0, H⟩ := Xid H
    obtain ⟨c7b0, H⟩ := Xid H
    obtain ⟨t321, A8, H⟩ := Xbi H
    (try dsimp only at H)
    have HC9 := Aside0.mk H
    clear H
    obtain ⟨ad320, A320_4, c320_4, e320, p320, q320, hx320_0, hx320_1, hx320_2, hx320_3, hx320_4, HC320_4, HR320_4⟩ := at_B88 HR0 (ji5) Xa Xa HB
    cases e320
    go_upto_if 31 with (first | (go_at_call 167; (with_reducible refine (impl_Doc_find_1.calls ((rd_T88 l0 (ji5)).f0) ((rd_T88 l0 (ji5)).f1) ((rd_T88 l0 (ji5)).f2) ((rd_T88 l0 (ji5)).f3) _ _ ((rd_T88 l0 (ji5)).f4) a1 t321 _ ?side1 ?side2 A8.out).mono ?_); (case side1 => exact Xc HR320_4); (case side2 => exact HC320_4.out); rintro e w10 ⟨rfl, hb⟩; replace HB := Aside0.mk (below_step Xi hb); clear hb))
    have H := HC9.out
    clear HC9
    obtain ⟨c11b0, H⟩ | ⟨c11b0, H⟩ := Xit H
    ·(first | rw [c11b0] | (simp only [i64_w, i32_w]; rw [c11b0]) | skip)
     have H' := Aside0.mk H
     clear H
     go_wp2
     go_roundg k1
     case measure => have := HK1.out; omega
     case rel => exact ⟨(wrap64 ((ji5) + 1)), (x10_1), (by first | rfl | (simp; done) | (simp only [← hji5] <;> (first | rfl | simp)) | (simp [*]; done)), Xr, H', Xk1, ⟨Xi⟩⟩
    ·(first | rw [c11b0] | (simp only [i64_w, i32_w]; rw [c11b0]) | skip)
     have H' := Aside0.mk H
     clear H
     go_wp2
     go_roundg k1
     case measure => have := HK1.out; omega
     case rel => exact ⟨(x9_1), (ji5), Xr, (by first | rfl | (simp; done) | (simp only [← hji5] <;> (first | rfl | simp)) | (simp [*]; done)), H', Xk1, ⟨Xi⟩⟩
   ·obtain ⟨c12b0, H⟩ | ⟨c12b0, H⟩ := Xit H
    ·obtain ⟨c13b0, H⟩ := Xid H
     obtain ⟨c14b0, H⟩ := Xid H
     obtain ⟨t323, A15, H⟩ := Xbi H
     (try dsimp only at H)
     simp only [Option.some.injEq, Prod.mk.injEq] at H
     obtain ⟨rfl, rfl⟩ := H
     obtain ⟨ad322, A322_4, c322_4, e322, p322, q322, hx322_0, hx322_1, hx322_2, hx322_3, hx322_4, HC322_4, HR322_4⟩ := at_B88 HR0 x9_1 Xa Xa HB
     cases e322
     go_wp2_with (first | (go_at_call 167; (with_reducible refine (impl_Doc_find_1.calls ((rd_T88 l0 x9_1).f0) ((rd_T88 l0 x9_1).f1) ((rd_T88 l0 x9_1).f2) ((rd_T88 l0 x9_1).f3) _ _ ((rd_T88 l0 x9_1).f4) a1 t323 _ ?side1 ?side2 A15.out).mono ?_); (case side1 => exact Xc HR322_4); (case side2 => exact HC322_4.out); rintro e w16 ⟨rfl, hb⟩; replace HB := Aside0.mk (below_step Xi hb); clear hb))
     go_ret2
     exact ⟨Xe, Xi⟩
    ·simp only [Option.some.injEq, Prod.mk.injEq] at H
     obtain ⟨rfl, rfl⟩ := H
     go_wp2
     go_ret2
     exact ⟨Xe, Xi⟩

end Go.Proofs.Ytfemohapampkiaa.XA
