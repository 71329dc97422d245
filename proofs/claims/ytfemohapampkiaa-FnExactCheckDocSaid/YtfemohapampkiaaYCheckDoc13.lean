/- Contracts of the program's functions: each Go function that is named below comes to what its Lean function says. Written by xprint.py (a program of this session's, over the kit's print). Conditions: each contract's own premises. -/
import Derived.Test.YtfemohapampkiaaYCheckDoc0
import Derived.Test.YtfemohapampkiaaYCheckDoc10
import Derived.Test.YtfemohapampkiaaYCheckDoc12
namespace Go.Proofs.Ytfemohapampkiaa.XA
open Go.RowKit Go.Proofs.YtfemohapampkiaaW.PrintWords Go.Proofs.YtfemohapampkiaaW.PrintLast Go.Proofs.YtfemohapampkiaaW.PrintMore XW
attribute [local go_sem] max2_int min2_int max_two min_two max_three min_three max_four min_four   -- for this text's walks alone
set_option linter.unusedVariables false
set_option linter.unusedSimpArgs false

/-! ### spec_l05Node: function 162 -/
def spec_l05Node.f (k : Nat) (l0 : List (S120)) (a1_0 : Int) (a1_1 : Int) (l1_2 : List (S88)) (a2_0 : Int) (a2_1 : Int) (a2_2 : Int) (a2_3 : ByteArray) (l2_4 : List Int) : Option (Int) := if a2_1 > (l0.length : Int) then (some 10) else (if 0 ≤ (wrap64 (a2_1 - 1)) then (if (wrap64 (a2_1 - 1)) < (l0.length : Int) then (if (rd_T120 l0 (wrap64 (a2_1 - 1))).f1 = true then (if (l2_4.length : Int) > 0 then (some 12) else (some 0)) else (if a2_3.toList = ([] : List UInt8) then ((spec_l05Kids.f k a1_0 a1_1 l1_2 a2_0 a2_1 a2_2 a2_3 l2_4).bind fun t300 => ((spec_l03Match.f k ((rd_T120 l0 (wrap64 (a2_1 - 1))).f2) t300).bind fun t303 => (if t303 = true then (some 0) else (some 12)))) else (some 12))) else (none)) else (none))
def spec_l05Node.T8 : Bool × List (List Nat × List Nat) := (true, [([], []), ([0], [0]), ([1], [1]), ([2], [2]), ([3], [3]), ([4, 3], [3, 4]), ([3], [3]), ([3], [3]), ([6, 7, 3, 3], [3, 6, 7]), ([5, 8, 8, 3], [3, 5, 8]), ([9, 3], [3, 9]), ([3, 10], [3, 10])])
def spec_l05Node.B8 : List Nat := [0, 1, 3, 7, 15, 31, 15, 15, 207, 511, 1023, 2047]
theorem spec_l05Node.tab8 : rtab .any (opsOf Try.f162 8) = spec_l05Node.T8 := by kernel_rfl
theorem spec_l05Node.bits8 : waitsOk spec_l05Node.T8.2 spec_l05Node.B8 = true := by kernel_rfl
set_option maxHeartbeats 8000000 in
set_option maxRecDepth 100000 in
theorem spec_l05Node.calls (k : Nat) (A0 : Option Addr) (c0 : Nat) (l0 : List (S120)) (a1_0 : Int) (a1_1 : Int) (A1_2 : Option Addr) (c1_2 : Nat) (l1_2 : List (S88)) (a2_0 : Int) (a2_1 : Int) (a2_2 : Int) (a2_3 : ByteArray) (A2_4 : Option Addr) (c2_4 : Nat) (l2_4 : List Int) (r : Int) (w : World) (hr0 : Kd.C k120 w A0 l0.length l0) (hc0 : l0.length ≤ c0) (hr1_2 : Kd.C k88 w A1_2 l1_2.length l1_2) (hc1_2 : l1_2.length ≤ c1_2) (hr2_4 : Kd.C (Kd.int .i64) w A2_4 l2_4.length l2_4) (hc2_4 : l2_4.length ≤ c2_4) (h : spec_l05Node.f k l0 a1_0 a1_1 l1_2 a2_0 a2_1 a2_2 a2_3 l2_4 = some r) :
  Calls Try.prog 162 #[.slice A0 l0.length c0, .agg #[.int .i64 a1_0, .int .i64 a1_1, .slice A1_2 l1_2.length c1_2], .agg #[.int .i64 a2_0, .int .i64 a2_1, .int .i64 a2_2, .string a2_3, .slice A2_4 l2_4.length c2_4]] w fun e w' => e = .returned (.int .i64 r) ∧ Below w.heap.size w w' := by
 have hu29 := Try.underlying29
 have hu88 := Try.underlying88
 have hu120 := Try.underlying120
 have HR0 := Aside0.mk hr0
 have HC0 := Aside0.mk hc0
 clear hr0 hc0
 have HR1_2 := Aside0.mk hr1_2
 have HC1_2 := Aside0.mk hc1_2
 clear hr1_2 hc1_2
 have HR2_4 := Aside0.mk hr2_4
 have HC2_4 := Aside0.mk hc2_4
 clear hr2_4 hc2_4
 have HB := Aside0.mk (Below.refl w.heap.size w)
 have H : (if a2_1 > (l0.length : Int) then (some 10) else (if 0 ≤ (wrap64 (a2_1 - 1)) then (if (wrap64 (a2_1 - 1)) < (l0.length : Int) then (if (rd_T120 l0 (wrap64 (a2_1 - 1))).f1 = true then (if (l2_4.length : Int) > 0 then (some 12) else (some 0)) else (if a2_3.toList = ([] : List UInt8) then ((spec_l05Kids.f k a1_0 a1_1 l1_2 a2_0 a2_1 a2_2 a2_3 l2_4).bind fun t300 => ((spec_l03Match.f k ((rd_T120 l0 (wrap64 (a2_1 - 1))).f2) t300).bind fun t303 => (if t303 = true then (some 0) else (some 12)))) else (some 12))) else (none)) else (none))) = some r := h
 clear h
 have HC4 := Aside0.mk H
 clear H
 go_enter Try.func162, Try.ntmps162
 go_upto_if 12 with (first | ((with_reducible refine gate_dst (N := 4) rfl ?_); refine Xbox 4 #[.int .i64 a1_0, .int .i64 a1_1, .slice A1_2 l1_2.length c1_2] 29 ?_; intro gb296 hg w5 hbox hb; have BK296 := Aside0.mk (hbox); have GE296 := Xge hg Xi; replace HB := Aside0.mk (below_step Xi hb); clear hb hbox hg) | ((with_reducible refine gate_dst (N := 5) rfl ?_); refine Xbox 5 #[.int .i64 a2_0, .int .i64 a2_1, .int .i64 a2_2, .string a2_3, .slice A2_4 l2_4.length c2_4] 88 ?_; intro gb297 hg w6 hbox hb; have BK297 := Aside0.mk (hbox); have GE297 := Xge hg Xi; replace HB := Aside0.mk (below_step Xi hb); have NB296_297 := Xnb hg BK296; have NB297_296 := Xns NB296_297; replace BK296 := Xbb BK296 hb; clear hb hbox hg; have hnb7 := NB297_296.out; have hnc7 := NB296_297.out; obtain ⟨hcz8_0, hcz8_1, hcz8_2, hcz8_3, hcz8_4⟩ := Xc5 BK297; obtain ⟨hfz8_0, hfz8_1, hfz8_2, hfz8_3, hfz8_4⟩ := Xf5 BK297))
 have H := HC4.out
 clear HC4
 obtain ⟨c9, H⟩ | ⟨c9, H⟩ := Xiu H
 ·have c9b0 : decide ((l0.length : Int) < a2_1) = true := decide_eq_true c9
  clear c9
  (first | rw [c9b0] | (simp only [i64_w, i32_w]; rw [c9b0]) | skip)
  obtain rfl := Option.some.inj H
  go_wp2
  go_ret
  exact ⟨Xe, Xi⟩
 ·have c9b0 : decide ((l0.length : Int) < a2_1) = false := decide_eq_false c9
  clear c9
  (first | rw [c9b0] | (simp only [i64_w, i32_w]; rw [c9b0]) | skip)
  obtain ⟨ji10, hji10⟩ : ∃ j_ : Int, (wrap64 (a2_1 - 1)) = j_ := ⟨_, rfl⟩
  replace H : (if 0 ≤ (ji10) then (if (ji10) < (l0.length : Int) then (if (rd_T120 l0 (ji10)).f1 = true then (if (l2_4.length : Int) > 0 then (some 12) else (some 0)) else (if a2_3.toList = ([] : List UInt8) then ((spec_l05Kids.f k a1_0 a1_1 l1_2 a2_0 a2_1 a2_2 a2_3 l2_4).bind fun t300 => ((spec_l03Match.f k ((rd_T120 l0 (ji10)).f2) t300).bind fun t303 => (if t303 = true then (some 0) else (some 12)))) else (some 12))) else (none)) else (none)) = some r := by first | (rw [hji10] at H; exact H) | (simp only [hji10] at H ⊢; exact H)
  have hji10w : (IntKind.i64.wrap (a2_1 - 1)) = ji10 := (i64_w _).trans hji10
  obtain ⟨c11, H⟩ | ⟨c11, H⟩ := Xiu H
  ·have c11b0 : decide (0 ≤ (ji10)) = true := decide_eq_true c11
   clear c11
   obtain ⟨c12b0, H⟩ := Xid H
   have HC13 := Aside0.mk H
   clear H
   have hnb14 := NB297_296.out
   have hnc14 := NB296_297.out
   obtain ⟨hcz15_0, hcz15_1, hcz15_2, hcz15_3, hcz15_4⟩ := Xc5 BK297
   obtain ⟨hfz15_0, hfz15_1, hfz15_2, hfz15_3, hfz15_4⟩ := Xf5 BK297
   obtain ⟨ad298, A298_2, c298_2, e298, p298, q298, hx298_0, hx298_1, hx298_2, HC298_2, HR298_2⟩ := at_B120 HR0 (ji10) Xa Xa HB
   cases e298
   go_upto_if 20 with (first | ((with_reducible refine gate_dst (N := 7) rfl ?_); refine Xbox 7 #[.string (⟨#[]⟩ : ByteArray), .bool false, .slice none 0 0] 120 ?_; intro gb299 hg w16 hbox hb; have BK299 := Aside0.mk (hbox); have GE299 := Xge hg Xi; replace HB := Aside0.mk (below_step Xi hb); have NB296_299 := Xnb hg BK296; have NB299_296 := Xns NB296_299; replace BK296 := Xbb BK296 hb; have NB297_299 := Xnb hg BK297; have NB299_297 := Xns NB297_299; replace BK297 := Xbb BK297 hb; clear hb hbox hg; have hnb17 := NB299_296.out; have hnc17 := NB296_299.out; have hnb18 := NB299_297.out; have hnc18 := NB297_299.out; obtain ⟨hcz19_0, hcz19_1, hcz19_2⟩ := Xc3 BK299; obtain ⟨hfz19_0, hfz19_1, hfz19_2⟩ := Xf3 BK299) | ((with_reducible refine gate_store (t := 120) (p := 7) rfl ?_); refine store_event (t := 120) (p := 7) (v := ?vo_w20) (w1 := (((w16.setCell ⟨gb299, 0, none⟩ (.string ((rd_T120 l0 (ji10)).f0))).setCell ⟨gb299, 1, none⟩ (.bool ((rd_T120 l0 (ji10)).f1))).setCell ⟨gb299, 2, none⟩ (.slice A298_2 ((rd_T120 l0 (ji10)).f2).length c298_2))) ?hg ?ho ?hn ?hr ?_; (case ho => rfl); (case hg => rfl); (case hn => rfl); (case hr => first | (go_simp; done) | (go_simp; rfl)); intro w20 hw; have n0_ : Aside0 (w20.heap[gb296]? = some (.cells #[.int .i64 a1_0, .int .i64 a1_1, .slice A1_2 l1_2.length c1_2] 29 (0, 0))) := ⟨(by rw [hw]; exact (by (with_reducible repeat (first | refine blk_drewN ?_ _ | refine blk_drew ?_ | refine blk_alloc ?_ _)); refine blk_far ?_ NB296_299.out _; (with_reducible repeat (first | refine blk_drewN ?_ _ | refine blk_drew ?_ | refine blk_alloc ?_ _)); refine blk_far ?_ NB296_299.out _; (with_reducible repeat (first | refine blk_drewN ?_ _ | refine blk_drew ?_ | refine blk_alloc ?_ _)); refine blk_far ?_ NB296_299.out _; (with_reducible repeat (first | refine blk_drewN ?_ _ | refine blk_drew ?_ | refine blk_alloc ?_ _)); exact BK296.out))⟩; have n1_ : Aside0 (w20.heap[gb297]? = some (.cells #[.int .i64 a2_0, .int .i64 a2_1, .int .i64 a2_2, .string a2_3, .slice A2_4 l2_4.length c2_4] 88 (0, 0))) := ⟨(by rw [hw]; exact (by (with_reducible repeat (first | refine blk_drewN ?_ _ | refine blk_drew ?_ | refine blk_alloc ?_ _)); refine blk_far ?_ NB297_299.out _; (with_reducible repeat (first | refine blk_drewN ?_ _ | refine blk_drew ?_ | refine blk_alloc ?_ _)); refine blk_far ?_ NB297_299.out _; (with_reducible repeat (first | refine blk_drewN ?_ _ | refine blk_drew ?_ | refine blk_alloc ?_ _)); refine blk_far ?_ NB297_299.out _; (with_reducible repeat (first | refine blk_drewN ?_ _ | refine blk_drew ?_ | refine blk_alloc ?_ _)); exact BK297.out))⟩; have n2_ : Aside0 (w20.heap[gb299]? = some (.cells #[.string ((rd_T120 l0 (ji10)).f0), .bool ((rd_T120 l0 (ji10)).f1), .slice A298_2 ((rd_T120 l0 (ji10)).f2).length c298_2] 120 (0, 0))) := ⟨(by rw [hw]; exact (by (with_reducible repeat (first | refine blk_drewN ?_ _ | refine blk_drew ?_ | refine blk_alloc ?_ _)); refine blk_put (cs := #[.string ((rd_T120 l0 (ji10)).f0), .bool ((rd_T120 l0 (ji10)).f1), .slice none 0 0]) ?_ 2 _ rfl; (with_reducible repeat (first | refine blk_drewN ?_ _ | refine blk_drew ?_ | refine blk_alloc ?_ _)); refine blk_put (cs := #[.string ((rd_T120 l0 (ji10)).f0), .bool false, .slice none 0 0]) ?_ 1 _ rfl; (with_reducible repeat (first | refine blk_drewN ?_ _ | refine blk_drew ?_ | refine blk_alloc ?_ _)); refine blk_put (cs := #[.string (⟨#[]⟩ : ByteArray), .bool false, .slice none 0 0]) ?_ 0 _ rfl; (with_reducible repeat (first | refine blk_drewN ?_ _ | refine blk_drew ?_ | refine blk_alloc ?_ _)); exact BK299.out))⟩; have n3_ : Aside0 (Below w.heap.size w w20) := ⟨(by rw [hw]; exact Xi)⟩; clear hw; clear BK296; clear BK297; clear BK299; clear HB; have BK296 := n0_; have BK297 := n1_; have BK299 := n2_; have HB := n3_; clear n0_ n1_ n2_ n3_; obtain ⟨hcz21_0, hcz21_1, hcz21_2⟩ := Xc3 BK299; obtain ⟨hfz21_0, hfz21_1, hfz21_2⟩ := Xf3 BK299))
   have H := HC13.out
   clear HC13
   obtain ⟨bq22, hbq22⟩ : ∃ b_ : Bool, b_ = ((rd_T120 l0 (ji10)).f1) := ⟨_, rfl⟩
   replace H : (if bq22 = true then (if (l2_4.length : Int) > 0 then (some 12) else (some 0)) else (if a2_3.toList = ([] : List UInt8) then ((spec_l05Kids.f k a1_0 a1_1 l1_2 a2_0 a2_1 a2_2 a2_3 l2_4).bind fun t300 => ((spec_l03Match.f k ((rd_T120 l0 (ji10)).f2) t300).bind fun t303 => (if t303 = true then (some 0) else (some 12)))) else (some 12))) = some r := by rw [← hbq22] at H; exact H
   have Nbq22 := Aside0.mk hbq22
   clear hbq22
   (try rw [← Nbq22.out] at BK296)
   (try rw [← Nbq22.out] at BK297)
   (try rw [← Nbq22.out] at BK299)
   (try rw [← Nbq22.out])
   by_cases c23 : bq22 = true
   ·subst c23
    (first | rw [if_pos rfl] at H | skip)
    obtain ⟨c24, H⟩ | ⟨c24, H⟩ := Xiu H
    ·have c24b0 : decide (0 < (l2_4.length : Int)) = true := decide_eq_true c24
     have c24b1 : decide (0 < l2_4.length) = true := decide_eq_true (by omega)
     clear c24
     obtain rfl := Option.some.inj H
     have hnb25 := NB297_296.out
     have hnc25 := NB296_297.out
     have hnb26 := NB297_299.out
     have hnc26 := NB299_297.out
     obtain ⟨hcz27_0, hcz27_1, hcz27_2, hcz27_3, hcz27_4⟩ := Xc5 BK297
     obtain ⟨hfz27_0, hfz27_1, hfz27_2, hfz27_3, hfz27_4⟩ := Xf5 BK297
     go_wp2
     go_ret
     exact ⟨by first | rfl | (simp [errW_none, errW_some] <;> rfl) | (simp only [← hji10]; first | rfl | (simp [errW_none, errW_some] <;> rfl)) | (simp [*, errW_none, errW_some] <;> rfl), Xi⟩
    ·have c24b0 : decide (0 < (l2_4.length : Int)) = false := decide_eq_false c24
     have c24b1 : decide (0 < l2_4.length) = false := decide_eq_false (by omega)
     clear c24
     obtain rfl := Option.some.inj H
     have hnb28 := NB297_296.out
     have hnc28 := NB296_297.out
     have hnb29 := NB297_299.out
     have hnc29 := NB299_297.out
     obtain ⟨hcz30_0, hcz30_1, hcz30_2, hcz30_3, hcz30_4⟩ := Xc5 BK297
     obtain ⟨hfz30_0, hfz30_1, hfz30_2, hfz30_3, hfz30_4⟩ := Xf5 BK297
     go_wp2
     go_ret
     exact ⟨by first | rfl | (simp [errW_none, errW_some] <;> rfl) | (simp only [← hji10]; first | rfl | (simp [errW_none, errW_some] <;> rfl)) | (simp [*, errW_none, errW_some] <;> rfl), Xi⟩
   ·replace c23 := Bool.eq_false_iff.mpr c23
    subst c23
    (first | rw [if_neg (show ¬ (false = true) by decide)] at H | skip)
    obtain ⟨c31, H⟩ | ⟨c31, H⟩ := Xiu H
    ·have c31b0 : (a2_3.toList == ([] : List UInt8)) = true := beq_iff_eq.mpr c31
     have c31b1 : (a2_3.toList != ([] : List UInt8)) = false := bne_eq_false_iff_eq.mpr c31
     clear c31
     obtain ⟨t300, A32, H⟩ := Xbi H
     (try dsimp only at H)
     obtain ⟨t303, A33, H⟩ := Xbi H
     (try dsimp only at H)
     have HC34 := Aside0.mk H
     clear H
     try go_wp2_with (fail)
     replace BK296 := Aside0.mk (blk_drew BK296.out)
     replace BK297 := Aside0.mk (blk_drew BK297.out)
     replace BK299 := Aside0.mk (blk_drew BK299.out)
     replace HB := Aside0.mk (below_drew1 HB.out)
     refine start_ (n := 12) (S := fun w' => w'.cell? ⟨gb297, 0, none⟩ = some (.int .i64 a2_0) ∧ w'.cell? ⟨gb297, 1, none⟩ = some (.int .i64 a2_1) ∧ w'.cell? ⟨gb297, 2, none⟩ = some (.int .i64 a2_2) ∧ w'.cell? ⟨gb297, 3, none⟩ = some (.string a2_3) ∧ w'.cell? ⟨gb297, 4, none⟩ = some (.slice A2_4 l2_4.length c2_4) ∧ w'.cell? ⟨gb299, 0, none⟩ = some (.string ((rd_T120 l0 (ji10)).f0)) ∧ w'.cell? ⟨gb299, 1, none⟩ = some (.bool false) ∧ w'.cell? ⟨gb299, 2, none⟩ = some (.slice A298_2 ((rd_T120 l0 (ji10)).f2).length c298_2) ∧ w'.cell? ⟨gb296, 0, none⟩ = some (.int .i64 a1_0) ∧ w'.cell? ⟨gb296, 1, none⟩ = some (.int .i64 a1_1) ∧ w'.cell? ⟨gb296, 2, none⟩ = some (.slice A1_2 l1_2.length c1_2)) (ds := []) #[false, false, false, false, false, false, false, false, false, false, false, false] (by kernel_rfl) rfl rfl ⟨(blk_cell BK297.out 0).trans rfl, (blk_cell BK297.out 1).trans rfl, (blk_cell BK297.out 2).trans rfl, (blk_cell BK297.out 3).trans rfl, (blk_cell BK297.out 4).trans rfl, (blk_cell BK299.out 0).trans rfl, (blk_cell BK299.out 1).trans rfl, (blk_cell BK299.out 2).trans rfl, (blk_cell BK296.out 0).trans rfl, (blk_cell BK296.out 1).trans rfl, (blk_cell BK296.out 2).trans rfl⟩ (fun hHeld => ?_); refine with_tabW spec_l05Node.tab8 spec_l05Node.bits8 (fun HT_ HW_ => ?_)
     generalize w20.drew = w35 at BK296 BK297 BK299 HB hHeld ⊢
     refine Xpu 0 25 (XW.bs 12 1) HT_.out ?_
     refine Xta 1 26 (XW.bs 12 3) HT_.out HW_.out hHeld ?_
     refine Xpu 2 27 (XW.bs 12 7) HT_.out ?_
     refine Xpu 3 28 (XW.bs 12 15) HT_.out ?_
     refine Xpu 4 29 (XW.bs 12 31) HT_.out ?_
     refine Xta 5 30 (XW.bs 12 63) HT_.out HW_.out hHeld ?_
     refine Xta 6 31 (XW.bs 12 127) HT_.out HW_.out hHeld ?_
     refine Xta 7 32 (XW.bs 12 255) HT_.out HW_.out hHeld ?_
     refine one_ (i := 8) (N := some 33) (XW.bs 12 511) rfl rfl (one_of HT_.out (by kernel_rfl)) (by decide) (fun K hK => ?_)
     refine goes_ Try.func68 (by kernel_rfl) rfl #[.agg #[.int .i64 a1_0, .int .i64 a1_1, .slice A1_2 l1_2.length c1_2], .agg #[.int .i64 a2_0, .int .i64 a2_1, .int .i64 a2_2, .string a2_3, .slice A2_4 l2_4.length c2_4]] (by rfl) rfl rfl (by (try simp only [List.map_toArray, List.map_cons, List.map_nil]); first | done | rfl | (simp only [List.length_drop, List.length_take]; rfl)) ?_
     with_reducible refine (spec_l05Kids.calls k a1_0 a1_1 _ _ l1_2 a2_0 a2_1 a2_2 a2_3 _ _ l2_4 t300 _ ?side1 ?side2 ?side3 ?side4 A32.out).mono ?_
     (case side1 => exact Xc HR1_2)
     (case side2 => exact HC1_2.out)
     (case side3 => exact Xc HR2_4)
     (case side4 => exact HC2_4.out)
     rintro e w36 ⟨v301, rfl, ho0, hb⟩
     refine ⟨_, rfl, ?_⟩
     have HO302 := Aside0.mk (Kd.R_lower ho0 (below_size Xi))
     replace BK296 := Xbb BK296 hb
     replace BK297 := Xbb BK297 hb
     replace BK299 := Xbb BK299 hb
     replace HB := Aside0.mk (below_step Xi hb)
     (try clear hb)
     (try clear hb2)
     (try clear hk)
     (try clear hi)
     (try clear ho0)
     obtain ⟨Ao37, co37, eo37⟩ := Kd.R_slice HO302.out
     (first | subst eo37 | (injection eo37 with f1_ f2_ f3_; have f4_ := f1_.symm; have f5_ := f3_.symm; clear f1_ f2_ f3_; subst f4_; subst f5_))
     refine hK.out _ _ ⟨(blk_cell BK297.out 0).trans rfl, (blk_cell BK297.out 1).trans rfl, (blk_cell BK297.out 2).trans rfl, (blk_cell BK297.out 3).trans rfl, (blk_cell BK297.out 4).trans rfl, (blk_cell BK299.out 0).trans rfl, (blk_cell BK299.out 1).trans rfl, (blk_cell BK299.out 2).trans rfl, (blk_cell BK296.out 0).trans rfl, (blk_cell BK296.out 1).trans rfl, (blk_cell BK296.out 2).trans rfl⟩ (fun hHeld => ?_)
     clear hK K
     refine Xno ?_
     refine one_ (i := 9) (N := some 34) (XW.bs 12 1023) rfl rfl (one_of HT_.out (by kernel_rfl)) (by decide) (fun K hK => ?_)
     refine goes_ Try.func83 (by kernel_rfl) rfl #[.slice A298_2 ((rd_T120 l0 (ji10)).f2).length c298_2, .slice Ao37 t300.length co37] (by rfl) rfl rfl (by (try simp only [List.map_toArray, List.map_cons, List.map_nil]); first | done | (simp only [hji10]; rfl) | rfl | (simp only [List.length_drop, List.length_take]; rfl)) ?_
     with_reducible refine (spec_l03Match.calls k _ _ ((rd_T120 l0 (ji10)).f2) _ _ t300 t303 _ ?side1 ?side2 ?side3 ?side4 A33.out).mono ?_
     (case side1 => exact Xc HR298_2)
     (case side2 => exact HC298_2.out)
     (case side3 => repeat (first | exact (Kd.R_reads' HO302.out).2.2 | (with_reducible first | refine Kd.C_alloc ?_ _ | refine Kd.C_drewN ?_ _ | refine Kd.C_drew ?_)))
     (case side4 => exact (Kd.R_reads' HO302.out).2.1)
     rintro e w38 ⟨rfl, hb⟩
     refine ⟨_, rfl, ?_⟩
     replace HO302 := Aside0.mk (Kd.R_below (Xq HO302) hb)
     replace BK296 := Xbb BK296 hb
     replace BK297 := Xbb BK297 hb
     replace BK299 := Xbb BK299 hb
     replace HB := Aside0.mk (below_step Xi hb)
     (try clear hb)
     (try clear hb2)
     (try clear hk)
     (try clear hi)
     refine hK.out _ _ ⟨(blk_cell BK297.out 0).trans rfl, (blk_cell BK297.out 1).trans rfl, (blk_cell BK297.out 2).trans rfl, (blk_cell BK297.out 3).trans rfl, (blk_cell BK297.out 4).trans rfl, (blk_cell BK299.out 0).trans rfl, (blk_cell BK299.out 1).trans rfl, (blk_cell BK299.out 2).trans rfl, (blk_cell BK296.out 0).trans rfl, (blk_cell BK296.out 1).trans rfl, (blk_cell BK296.out 2).trans rfl⟩ (fun hHeld => ?_)
     clear hK K
     refine Xno ?_
     refine Xpu 10 35 (XW.bs 12 2047) HT_.out ?_
     refine Xpu 11 36 (XW.bs 12 4095) HT_.out ?_
     refine done_ (done_of HT_.out (by kernel_rfl)) ?_
     go_upto_if 36 with (fail)
     have H := HC34.out
     clear HC34
     by_cases c39 : t303 = true
     ·subst c39
      (first | rw [if_pos rfl] at H | skip)
      obtain rfl := Option.some.inj H
      go_wp2
      go_ret
      exact ⟨by first | rfl | (simp [errW_none, errW_some] <;> rfl) | (simp only [← hji10]; first | rfl | (simp [errW_none, errW_some] <;> rfl)) | (simp [*, errW_none, errW_some] <;> rfl), Xi⟩
     ·replace c39 := Bool.eq_false_iff.mpr c39
      subst c39
      (first | rw [if_neg (show ¬ (false = true) by decide)] at H | skip)
      obtain rfl := Option.some.inj H
      go_wp2
      go_ret
      exact ⟨by first | rfl | (simp [errW_none, errW_some] <;> rfl) | (simp only [← hji10]; first | rfl | (simp [errW_none, errW_some] <;> rfl)) | (simp [*, errW_none, errW_some] <;> rfl), Xi⟩
    ·have c31b0 : (a2_3.toList == ([] : List UInt8)) = false := beq_eq_false_iff_ne.mpr c31
     have c31b1 : (a2_3.toList != ([] : List UInt8)) = true := bne_iff_ne.mpr c31
     obtain rfl := Option.some.inj H
     try go_wp2_with (fail)
     replace BK296 := Aside0.mk (blk_drew BK296.out)
     replace BK297 := Aside0.mk (blk_drew BK297.out)
     replace BK299 := Aside0.mk (blk_drew BK299.out)
     replace HB := Aside0.mk (below_drew1 HB.out)
     refine start_ (n := 12) (S := fun w' => w'.cell? ⟨gb297, 0, none⟩ = some (.int .i64 a2_0) ∧ w'.cell? ⟨gb297, 1, none⟩ = some (.int .i64 a2_1) ∧ w'.cell? ⟨gb297, 2, none⟩ = some (.int .i64 a2_2) ∧ w'.cell? ⟨gb297, 3, none⟩ = some (.string a2_3) ∧ w'.cell? ⟨gb297, 4, none⟩ = some (.slice A2_4 l2_4.length c2_4)) (ds := []) #[false, false, false, false, false, false, false, false, false, false, false, false] (by kernel_rfl) rfl rfl ⟨(blk_cell BK297.out 0).trans rfl, (blk_cell BK297.out 1).trans rfl, (blk_cell BK297.out 2).trans rfl, (blk_cell BK297.out 3).trans rfl, (blk_cell BK297.out 4).trans rfl⟩ (fun hHeld => ?_); refine with_tabW spec_l05Node.tab8 spec_l05Node.bits8 (fun HT_ HW_ => ?_)
     generalize w20.drew = w40 at BK296 BK297 BK299 HB hHeld ⊢
     refine Xpu 0 25 (XW.bs 12 1) HT_.out ?_
     refine Xta 1 26 (XW.bs 12 3) HT_.out HW_.out hHeld ?_
     refine Xpu 2 27 (XW.bs 12 7) HT_.out ?_
     refine Xpu 3 28 (XW.bs 12 15) HT_.out ?_
     refine Xpn 4 29 (XW.bs 12 31) HT_.out ?_
     refine Xpn 5 30 (XW.bs 12 63) HT_.out ?_
     refine Xpn 6 31 (XW.bs 12 127) HT_.out ?_
     refine Xpn 7 32 (XW.bs 12 255) HT_.out ?_
     refine Xpn 8 33 (XW.bs 12 511) HT_.out ?_
     refine Xpn 9 34 (XW.bs 12 1023) HT_.out ?_
     refine Xpn 10 35 (XW.bs 12 2047) HT_.out ?_
     refine Xpu 11 36 (XW.bs 12 4095) HT_.out ?_
     refine done_ (done_of HT_.out (by kernel_rfl)) ?_
     try go_wp2_with (fail)
     go_ret
     exact ⟨by first | rfl | (simp [errW_none, errW_some] <;> rfl) | (simp only [← hji10]; first | rfl | (simp [errW_none, errW_some] <;> rfl)) | (simp [*, errW_none, errW_some] <;> rfl), Xi⟩
  ·exact absurd H (by simp)

end Go.Proofs.Ytfemohapampkiaa.XA
